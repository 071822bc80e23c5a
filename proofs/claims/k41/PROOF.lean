import PyProof.Rows.All
import Wide.All
import OpenK.AllK
import Wide.FinOn
import HandS.ForMost
import HandS.Strs
import HandS.SetFor
import HandS.Defaults
import HandS.Walk
import KE.GoesMore
import KE.GoesEnum
import KE.KExcInit
import HandS.ForExc
import HandS.ExcInit
import HandS.Small
import KE.KStateDown
import HandS.Property
import HandS.ExcIs
import HandS.ExcField
import HandS.Head0
import HandS.Head1
import HandS.Head2
import HandS.HeadEnd
import HandS.HeadHook1
import HandS.HeadHook2
import HandS.HeadHook3
import HandS.HeadHook4
import HandS.OwnEq
import HandS.SlotsOwn
import KE.KRevSl
import HandS.More
import KE.KExcIs
import KE.KTryMore
import HandS.ExcValue
import HandS.HotCalls
import HandS.Lambda
import KE.SortKeyHeap
import KE.SortData
import KE.KSortKey
import HandS.DictEq
import HandS.DictComp
import HandS.DeepEq
import HandS.Words
import HandS.SortKw
import KE.DataEq
import HandS.IsInst
import HandS.WordsExc
import HandS.Text
import HandS.AnyAll
import HandS.TupAny
import HandS.Star
import HandS.Style
import HandS.Conv
import PyProof.StrLawsRepr
import HandS.RaiseMore
import HandS.MakeKwOnly
import HandS.EndBits
import HandS.EndTab
import PySem.Challenge.RW_treepebbles_k41_whole_boards_through_cha
set_option Elab.async false
set_option linter.all false
set_option maxRecDepth 100000
set_option maxHeartbeats 4000000
namespace Tz
open PySem PySem.Spec PyProof.Rows L2
def top (i : Nat) : Stmt := PySem.Challenge.pw_treepebbles_k41_whole_boards_through_cha.main.body.getD i (.Pass ⟨0, 0, 0, 0⟩)
def xNames : List Str := ["InvalidText", "InvalidNumber", "InvalidName", "InvalidIndex", "InvalidClaim", "UnknownName", "NotATree", "NotABoard", "NotALane", "InvalidStanding", "InvalidCrowd", "InvalidParked", "InvalidLog", "Unmatched", "NotAnEnd", "NotNear", "NotEmpty", "TooMany", "Broken", "InUse", "NothingToUndo", "WrongValue", "NoAnswer"]
def xBit (i j : Nat) : Bool := if j < 21 then decide (j = i) else if j = 21 then decide (i < 13) else decide (13 ≤ i)
end Tz
section -- LayA
set_option maxHeartbeats 4000000
/-! More rules over the layer: tuple.index and list.count of flat things, repr of data, attribute targets. -/
namespace Tz
open PySem PySem.Spec PyProof.Rows L2
section
variable {X : Cx}

/-- t.index(y), t a tuple of flat things -/
def rIdxT (K : PySem.W.Frag) : V → List V → Hp → VK → Prop := fun x xs H Q =>
  ∃ (a : Addr) (ys : List V) (y : V) (j : Nat) (z : V), x = V.ref a ∧ xs = [y] ∧ SqT K H a ys ∧ flatV y = true ∧ ys.all flatV = true ∧ ys[j]? = some z ∧ eqV z y = true ∧
    (∀ (m : Nat) (z' : V), m < j → ys[m]? = some z' → eqV z' y = false) ∧ Q (.int (j : Nat)) H
theorem mt_idxT : MtR X "tuple.index" (rIdxT X.K) := by
  intro pins s σ H x xs v us Q I rx rxs h
  obtain ⟨a, ys, y, j, z, rfl, rfl, hs, fy, fys, hz, hzj, hno, q⟩ := h
  cases rx
  obtain ⟨uy, rfl, ry⟩ := vals1 rxs
  obtain ⟨its, rv, ⟨⟨cls, dd, data, sl⟩, ho, hc, n, hd⟩, hlen⟩ := I.tuple hs
  simp only at hc hd
  subst hc hd
  obtain ⟨u, hu, ru⟩ := rv.get hz
  obtain ⟨hjl, hje⟩ := List.getElem?_eq_some_iff.mp hu
  have hvl := rv.length
  have hj : j < its.toArray.size := by rw [List.size_toArray]; exact hjl
  refine call_meets PySem.F.slot_tuple_index ⟨_, ho, rfl⟩ PySem.F.entry_tuple_index (PySem.F.args_tuple_index_2 _ _)
    (TI.tuple_indexAt a its.toArray n dd sl uy (eqU y) j hj ?_ ?_) ⟨ho, fun w hw => mem_eqAt ry fy rv fys w (by simpa using hw), ?_⟩
  · rw [show its.toArray[j] = u by simpa using hje, eqU_of ru (flat_at fys hz)]
    exact hzj
  · intro m hm hmj
    have hmy : m < ys.length := by rw [hvl]; exact (by simpa using hm)
    have hy' : ys[m]? = some ys[m] := List.getElem?_eq_getElem hmy
    obtain ⟨u2, hu2, ru2⟩ := rv.get hy'
    obtain ⟨_, hme⟩ := List.getElem?_eq_some_iff.mp hu2
    rw [show its.toArray[m] = u2 by simpa using hme, eqU_of ru2 (flat_at fys hy')]
    exact hno m _ hmj hy'
  · exact ⟨.int (j : Nat), H, I.tok _, ⟨_, rfl⟩, q⟩

theorem count_eqU {x : V} : ∀ {xs : List V} {us : List Value}, Vals xs us → xs.all flatV = true → us.countP (eqU x) = xs.countP fun y => eqV y x
  | _, _, .nil, _ => rfl
  | y :: xs, u :: us, .cons r t, f => by
    rw [List.all_cons, Bool.and_eq_true] at f
    rw [List.countP_cons, List.countP_cons, eqU_of r f.1, count_eqU t f.2]
/-- xs.count(y), a list of flat things -/
def rCntF (K : PySem.W.Frag) : V → List V → Hp → VK → Prop := fun x xs H Q =>
  ∃ (a : Addr) (ys : List V) (y : V), x = .ref a ∧ xs = [y] ∧ SqL K H a ys ∧ flatV y = true ∧ ys.all flatV = true ∧ Q (.int (ys.countP fun z => eqV z y : Nat)) H
theorem mt_cntF : MtR X "list.count" (rCntF X.K) := by
  intro pins s σ H x xs v us Q I rx rxs h
  obtain ⟨a, ys, y, rfl, rfl, hs, fy, fys, q⟩ := h
  cases rx
  obtain ⟨uy, rfl, ry⟩ := vals1 rxs
  obtain ⟨its, rv, ⟨⟨cls, dd, data, sl⟩, n, ho, hc, hdn, hd⟩, hlen⟩ := I.list hs
  simp only at hc hd
  subst hc hd
  refine call_meets PySem.F.slot_list_count ⟨_, ho, rfl⟩ PySem.F.entry_list_count (PySem.F.args_list_count_2 _ _)
    (SeqAt.list_countAt a its.toArray n dd sl uy (eqU y)) ⟨ho, fun w hw => mem_eqAt ry fy rv fys w (by simpa using hw), ?_⟩
  refine ⟨.int (ys.countP fun z => eqV z y : Nat), H, I.tok _, ⟨s.toks, ?_⟩, q⟩
  show Value.int ((its.toArray.toList.countP (eqU y) : Nat) : Int) s.toks = _
  rw [show its.toArray.toList = its from rfl, count_eqU rv fys]

/-- repr(x), x data of lists, tuples, texts, ints, bools, None -/
def rRepr (K : PySem.W.Frag) : List V → Hp → VK → Prop := fun xs H Q =>
  ∃ (a : Addr) (d : PyData), xs = [.ref a] ∧ Dp K H (.ref a) d ∧ d.showable = true ∧ d.hasDict = false ∧ d.depth ≤ 40 ∧ d.shown.length ≤ sizeLine ∧ Q (.str d.shown) H
theorem cr_repr (hg : X.A.guards = some []) (hu : X.A.units + 64 < cLine) : CallR X (.builtin "repr") (rRepr X.K) := by
  intro pins s σ H xs us Q I r h
  obtain ⟨a, d, rfl, hd, hs, hn, hl, hz, q⟩ := h
  obtain ⟨u, rfl, ru⟩ := vals1 r
  obtain rfl : u = Value.ref a := ru
  obtain ⟨as, rd⟩ := Dp.reads I d _ _ hd rfl
  exact repr_of_reads' rd hs (PyData.noDict_hsm hn) hg (by omega) (fun _ _ e => e) (fun h' u tk hk => ⟨.str d.shown, H, I.kept (t' := tk) hk, ⟨u, rfl⟩, q⟩) hz
def rReprS : List V → Hp → VK → Prop := fun xs H Q => ∃ x : Str, xs = [.str x] ∧ (reprText x).length ≤ sizeLine ∧ Q (.str (reprText x)) H
theorem cr_reprS : CallR X (.builtin "repr") rReprS := by
  intro pins s σ H xs us Q I r h
  obtain ⟨x, rfl, hz, q⟩ := h
  obtain ⟨u, rfl, t, rfl⟩ := vals1 r
  exact PySem.P.repr_of_str ⟨.str _, H, I.tok _, ⟨_, rfl⟩, q⟩ hz

/-- o.f as a target -/
def gFld (K : PySem.W.Frag) (ta : TE) (f : Str) : TG := fun y σ H Q => ta σ H fun x H2 =>
  ∃ a C dx fs, x = .ref a ∧ H2 a = some (.ins C dx fs) ∧ Cls K C ∧ NoAttr K C f ∧ fs.length < 1000 ∧ Q σ (upd H2 a (.ins C dx (putF f y fs)))
theorem pg_fld {o : Expr} {ta : TE} {f : Str} {pos : Pos} (ho : PE X o ta)
    (hx : ∀ v, assign (.Attribute o f pos) X.env v = (do
      let ov ← holding [v] (eval o X.env)
      standAt pos.atName
      holding [v, ov] (setAttr ov f v)
      release [v, ov] []) := by intro _; rfl) : PG X (.Attribute o f pos) (gFld X.K ta f) := by
  refine ⟨fun pins s σ H v u Q I r h => ?_⟩
  rw [hx]
  refine wpAny_bind (wpAny_holding (thn (ho.run pins s σ H _ I h) fun ov s1 ⟨x, H1, I1, r1, a, C, dx, fs, ex, ea, c, n, l, q⟩ => ?_))
  subst ex
  obtain rfl : ov = Value.ref a := r1
  refine wpAny_bind (wpAny_standAt (wpAny_bind (wpAny_holding (setattr_ok I1 ea c n l r fun s3 I3 => ?_))))
  exact wpAny_release ⟨σ, _, I3, q⟩

/-- o.m(k = v, ..), keywords alone -/
def tMethKw (C : Addr) (m : Str) (nk : Nat) (sp : Sp) (gV : List V → List V → List V) (E : XK) (ta : TE) (tk : TA) : TE := fun σ H Q => ta σ H fun x H1 =>
  ∃ a dx fs, x = .ref a ∧ H1 a = some (.ins C dx fs) ∧ fs.lookup m = none ∧ tk σ H1 fun zs H2 => zs.length = nk ∧ sp (gV [.ref a] zs) H2 Q E
theorem pe_methKw {o : Expr} {ta : TE} {tk : TA} {CX : CXT} {k : Nat} {f C : Addr} {fd : FuncData} {ps ks : List Str} {sp : Sp} {E : XK} {m : Str} {apos pos : Pos} {kws : List Keyword} {g : List Value → List Value → List Value} {gV : List V → List V → List V} {pl : Sem Bool}
    (he : PE X o ta) (c : Cls X.K C) (hm : Meth X.K C m f) (F : FnOk X.prog X.w X.K X.mg X.base CX k f fd ps sp) (hr : Room k X.A) (hb : KBn X.K fd ps 1 ks g gV) (hx : Passes CX X E) (hkw : PK X kws tk)
    (hall : (backToKw pos (keywordEach kws X.env)).all (·.1.isSome) = true := by rfl) (hks : (backToKw pos (keywordEach kws X.env)).filterMap (·.1) = ks := by rfl)
    (hpl : ((backTo pos (starEach [] X.env)).any (·.1) || (backToKw pos (keywordEach kws X.env)).any (·.1.isNone)) = false := by rfl)
    (ht : eval (.Call (.Attribute o m apos) [] kws pos) X.env = (do
      let ov ← eval o X.env
      standAt apos.atName
      let (f, first) ← holding [ov] (getMethod ov m pl)
      callWith pos f first (backTo pos (starEach [] X.env)) (backToKw pos (keywordEach kws X.env))) := by rfl) :
    PE X (.Call (.Attribute o m apos) [] kws pos) (tMethKw C m ks.length sp gV E ta tk) := by
  refine ⟨fun pins s σ H Q I h => ?_⟩
  refine PySem.W.methodCall_KW (pl := pl) (thn (he.run pins s σ H _ I h) fun u s1 ⟨x, H1, I1, rx, a, dx, fs, ex, ea, l, q⟩ => ?_) ht
  subst ex
  obtain rfl : u = Value.ref a := rx
  refine getmeth_ok I1 ea c hm l ?_
  refine PySem.W.callWith_KW0 (first := [.ref a]) (h₀ := X.base) I.ok.mod.kin hm.kp hall ?_ hpl
  refine thn (hkw.run pos pins s1 σ H1 _ I1 q) fun ws s2 ⟨zs, H2, I2, rz, l2, q2⟩ => ⟨I2.kIn, ?_⟩
  rw [hks]
  exact run_fnN (us := [.ref a]) (vs := [.ref a]) F hr hb hx I2 (.cons rfl .nil) rz rfl l2 q2

/-! ### enumerate of a tuple -/
theorem meets_enum1 {v : Value} {o : Obj} {Hh : Heap → Prop} (B : Begins v o Hh) :
    Meets (Builtin.«enumerate.__new__» ⟨[.type "enumerate", v], []⟩) (fun _ R s => Hh s.heap ∧
      R (.ok (.ret (.ref (s.heap.push o).objs.size))) { s with heap := (s.heap.push o).push { cls := .type "enumerate", data := .fields #[.none, .bool false, .ref s.heap.objs.size, rawInt 0, .none, .none] } }) :=
  .of_wp fun prog w A R s h => by
    obtain ⟨hp, g, d, tk, os⟩ := s
    obtain ⟨h1, h⟩ := h
    have hsub := sub_enumerate
    have q1 : ∀ {A' : Around} {E : Value → Shared → Prop} {Q : Value → Shared → Prop}, Q (.ref hp.objs.size) ⟨hp.push o, g, d, tk, os⟩ → wpAny (model prog w) A' (pyIter v) Q E ⟨hp, g, d, tk, os⟩ :=
      fun q => B.iter prog w _ _ ⟨hp, g, d, tk, os⟩ _ h1 q
    wp_walk using q1
    refine wpAny_stack_any fun st => wpAny_pure ?_
    split
    · rename_i c _ _ _ _ _
      cases (c == Value.type "enumerate") <;> (wp_walk using q1; exact ⟨_, rfl, h⟩)
    · wp_walk using q1
      exact ⟨_, rfl, h⟩
theorem enum1_begins {prog : Program} {w : World} {A : Around} {E : Value → Shared → Prop} {s : Shared} {v : Value} {o : Obj} {Hh : Heap → Prop} {Q : Value → Shared → Prop} (B : Begins v o Hh) (h1 : Hh s.heap)
    (h : ∀ h', IsEnum h' (s.heap.objs.size + 1) s.heap.objs.size 0 .none → h'.get? s.heap.objs.size = some o → h'.objs.size = s.heap.objs.size + 2 →
      (∀ b o, s.heap.get? b = some o → h'.get? b = some o) → Q (.ref (s.heap.objs.size + 1)) { s with heap := h' }) :
    wpAny (model prog w) A (call (.type "enumerate") [v]) Q E s := by
  refine callType_new F.called_enumerate (by decide) (F.typeCall_enumerate_1 _) (F.newCall_enumerate_1 _) (fun obj => F.args_object_init_2 obj _) F.entry_enumerate_new (meets_enum1 B) ⟨h1, ?_⟩
  have hz : (s.heap.push o).objs.size = s.heap.objs.size + 1 := Heap.size_push ..
  show _ ∧ _
  rw [hz]
  have he := Heap.get?_push_size (s.heap.push o) (o := { cls := .type "enumerate", data := .fields #[.none, .bool false, .ref s.heap.objs.size, rawInt 0, .none, .none] }) rfl
  rw [hz] at he
  exact ⟨⟨_, he, rfl⟩, h _ he (Heap.get?_push_of_some _ (Heap.get?_push_size _ B.free)) (by rw [Heap.size_push, hz]) fun b o x => Heap.get?_push_of_some _ (Heap.get?_push_of_some _ x)⟩

/-- the tuple at a, each item in a new pair with its number -/
def IteT (K : PySem.W.Frag) (a : Addr) : It :=
  ⟨fun i H => ∃ (xs : List V) (x : V), SqT K H a xs ∧ xs[i]? = some x, fun i H v H' => ∃ T x, v = .ref T ∧ H T = none ∧ H' = upd H T (.tup [.int (i : Nat), x]) ∧ ∀ xs, SqT K H a xs → xs[i]? = some x,
    fun i H => ∃ xs : List V, SqT K H a xs ∧ xs.length = i⟩
theorem turn_enumT {P : Program} {w : World} {K : PySem.W.Frag} {elts : List Expr} {kk : Nat} {tpos : Pos} (a e it : Addr) :
    Turn P w K (.Tuple elts kk tpos) (IteT K a) [e, it] e (fun i h => (∃ old, IsEnum h e it ((i : Nat) : Int) old) ∧ h.IsTupleIter it a i ∧ e ≠ it ∧ a ≠ it ∧ a ≠ e) where
  mem := by simp
  obj := fun i h st b hb => by
    obtain ⟨⟨old, he⟩, ⟨o, ho, hc, hd⟩, _⟩ := st
    have e' : b = e ∨ b = it := by simpa using hb
    rcases e' with z | z
    · rw [z]; exact ⟨_, he, fun v q => nomatch q⟩
    · rw [z]; exact ⟨o, ho, fun v q => by rw [hd] at q; cases q⟩
  keep := fun i h h' st k => by
    obtain ⟨⟨old, he⟩, hi, hne⟩ := st
    exact ⟨⟨old, k e (by simp) _ he⟩, hi.at fun o q => k it (by simp) o q, hne⟩
  item := by
    intro X hP hw hK hc i pins s σ H E I hf st hg
    subst hP hw hK
    obtain ⟨⟨old, he⟩, hit, hne, hat, hae⟩ := st
    obtain ⟨xs, x, hq, hx⟩ := hg
    obtain ⟨its, rv, p, hz⟩ := I.tuple hq
    obtain ⟨u, hu, ru⟩ := rv.get hx
    have hel : e < s.heap.objs.size := Heap.lt_size he
    have hil : it < s.heap.objs.size := by obtain ⟨_, q, _⟩ := hit; exact Heap.lt_size q
    have hsz : i < its.toArray.size := by rw [List.size_toArray]; exact (List.getElem?_eq_some_iff.mp hu).1
    refine wpAny_pyNext_enum_itemD (Draws.tuple (A := X.A.in1) (I.ok.hd hc) it a hat its.toArray) he ⟨hit, p⟩ hsz hne (by simp [hne, Ne.symm hae]) fun y h' tk hy ho hst hT hsz2 hk => ?_
    have ey : y = u := by
      have e2 : its[i]? = some y := by simpa using hy
      rw [hu] at e2
      exact (Option.some.inj e2).symm
    subst ey
    refine ⟨_, rfl, wpAny_letOwnedTupleGo_enum (s := { s with heap := h', toks := tk + 1 }) ho fun h'' he' sb => ?_⟩
    have hT2 : h''.get? s.heap.objs.size = some { cls := .type "tuple", data := .seq #[.int i tk, y] } := (sb.2 _ (Nat.ne_of_gt hel)).trans hT
    have new : ObjOk X.prog X.w (upd H s.heap.objs.size (.tup [.int (i : Nat), x])) h'' s.heap.objs.size (.tup [.int (i : Nat), x]) :=
      ⟨by show 2 ≤ sizeLine; decide, [.int i tk, y], .cons ⟨_, rfl⟩ (.cons ru .nil), ⟨_, hT2, rfl, _, rfl⟩⟩
    have I1 : Inv X pins σ (upd H s.heap.objs.size (.tup [.int (i : Nat), x])) { s with heap := h'', toks := tk + 1 } :=
      I.turnedNew (ch := [e, it]) (fun b ob hb q => (sb.2 b (fun z => hb (by simp [z]))).trans (hk b ob (fun z => hb (by simp [z])) (fun z => hb (by simp [z])) q)) hf (Nat.le_refl _) new
    refine ⟨.ref s.heap.objs.size, _, I1, rfl, ⟨_, x, rfl, I.hok.fresh (Nat.le_refl _), rfl, fun ys hy => by rw [I.tuple_inj hy hq]; exact hx⟩, ⟨⟨y, ?_⟩, hst.1.at fun o q => (sb.2 it (Ne.symm hne)).trans q, hne, hat, hae⟩, fun b hb => ?_⟩
    · have e1 : ((i + 1 : Nat) : Int) = (i : Int) + 1 := by omega
      rw [e1]; exact he'
    · have hb' : b < s.heap.objs.size := by
        have e' : b = e ∨ b = it := by simpa using hb
        rcases e' with z | z
        · rw [z]; exact hel
        · rw [z]; exact hil
      rw [upd_ne (Nat.ne_of_lt hb')]
      exact (hf b hb).1
  done := by
    intro X hP hw hK hc i pins s σ H E I hf st hg
    subst hP hw hK
    obtain ⟨⟨old, he⟩, hit, hne, hat, hae⟩ := st
    obtain ⟨xs, hq, hx⟩ := hg
    obtain ⟨its, rv, p, hz⟩ := I.tuple hq
    obtain ⟨f0, f1, f2, f3, f4, f5⟩ := hf it (by simp)
    have hl : its.toArray.size = i := by rw [List.size_toArray, ← rv.length]; exact hx
    refine wpAny_pyNext_enum_endD (Draws.tuple (A := X.A.in1) (I.ok.hd hc) it a hat its.toArray) he ⟨by rw [hl]; exact hit, p⟩ fun h' eb => ⟨rfl, I.turned (t' := s.toks) (fun b o hb q => eb b o hb q) f0 f1 f3 f4 f5⟩
  self := fun A i s Q E st h => let ⟨⟨_, he⟩, _⟩ := st; wpAny_pyIter_enum he h
def iEnumT (K : PySem.W.Frag) (ta : TA) : TI := fun σ H R => ta σ H fun vs H1 => ∃ a xs, vs = [.ref a] ∧ SqT K H1 a xs ∧ R (IteT K a) H1
theorem pi_enumT {e : Expr} {ta : TA} {p pos tpos : Pos} {elts : List Expr} {kk : Nat} (hg : Gl X "enumerate") (hm : X.mg "enumerate" = none) (ha : PA X [e] ta) (hs : starEach [e] X.env = [(false, eval e X.env)] := by rfl) :
    PI X (.Tuple elts kk tpos) (.Call (.Name "enumerate" p) [e] [] pos) (iEnumT X.K ta) := by
  refine ⟨fun pins s σ H R I h => ?_⟩
  refine Call_ (ld_blt I hg hm boot_enumerate (PyProof.Rows.callWith_type1 (thn (ha.run pos pins s σ H _ I h) fun us s1 ⟨vs, H1, I1, r1, a, xs, ex, hq, q⟩ => ?_) hs rfl))
  subst ex
  obtain ⟨u, rfl, ru⟩ := vals1 r1
  obtain rfl : u = Value.ref a := ru
  obtain ⟨its, rv, p', hz⟩ := I1.tuple hq
  refine enum1_begins (begins_tuple a its.toArray) p' fun h' he hit hsz hk => wpAny_pyIter_enum he ?_
  have I2 : Inv X pins σ H1 { s1 with heap := h' } := I1.kept (t' := s1.toks) hk
  have al : a < s1.heap.objs.size := p'.lt
  refine ⟨s1.heap.objs.size + 1, [s1.heap.objs.size + 1, s1.heap.objs.size], _, _, H1, rfl, I2, turn_enumT a (s1.heap.objs.size + 1) s1.heap.objs.size, ⟨⟨.none, he⟩, ⟨_, hit, rfl, rfl⟩, Nat.succ_ne_self _, Nat.ne_of_lt al, Nat.ne_of_lt (Nat.lt_succ_of_lt al)⟩, fun b hb => ?_, q⟩
  have hle : s1.heap.objs.size ≤ b := by
    have e' : b = s1.heap.objs.size + 1 ∨ b = s1.heap.objs.size := by simpa using hb
    rcases e' with z | z <;> rw [z]
    · exact Nat.le_add_right _ _
    · exact Nat.le_refl _
  exact I1.fpOk hle (I1.hok.fresh hle)
end
theorem walk_enumT {K : PySem.W.Frag} {a : Addr} {xs : List V} : Walk (IteT K a) xs.length (fun H => SqT K H a xs) (YPair (fun i => some (.int (i : Nat))) (fun i => xs[i]?)) := by
  refine ⟨fun i _ hi q => ⟨xs, xs[i], q, by simp [hi]⟩, fun _ q => ⟨xs, q, rfl⟩, fun i H v H' _ q y => ?_⟩
  obtain ⟨T, x, h1, h2, h3, h4⟩ := y
  exact ⟨T, .int (i : Nat), x, h1, h2, h3, rfl, h4 xs q⟩
end Tz
end -- LayA
section -- LayD
set_option maxHeartbeats 4000000
/-! Own exception classes over any built-in base: the first field stored, the class called with an __init__ of its own. -/
namespace Tz
open PySem PySem.Spec PyProof.Rows L2
open Builtin Builtin.ObjectAttr

/-- own classes, then the base's chain -/
def refsG (t : List Value) : List Value → Bool
  | .ref _ :: r => refsG t r
  | l => l == t
theorem refsG_ind {t : List Value} {P : List Value → Prop} (h0 : P t) (h1 : ∀ c r, P r → P (.ref c :: r)) : ∀ l : List Value, refsG t l = true → P l := by
  intro l
  induction l with
  | nil => intro e; rw [beq_iff_eq.mp (show (([] : List Value) == t) = true from e)]; exact h0
  | cons a r ih =>
    intro e
    cases a with
    | ref c => exact h1 c r (ih e)
    | _ => rw [beq_iff_eq.mp e]; exact h0
theorem refsG_contains {t : List Value} (X : String) : ∀ l : List Value, refsG t l = true → l.contains (.type X) = t.contains (.type X) :=
  refsG_ind rfl fun c r ih => by
    rw [List.contains_cons, ih]
    rfl
theorem refsG_ne {t : List Value} (ht : t.isEmpty = false) : ∀ l : List Value, refsG t l = true → l.isEmpty = false := refsG_ind ht fun _ _ _ => rfl
theorem refsG_pass {t : List Value} {self : Value} (ht : refuseLoop self "__setattr__" t = pure ()) : ∀ l : List Value, refsG t l = true → refuseLoop self "__setattr__" l = pure () :=
  refsG_ind ht fun c r ih => by rw [refuseLoop_ref]; exact ih

/-- what is asked of the base -/
structure BaseOk (B newId initId : String) (bmB : List Value) : Prop where
  call : ExcBaseFacts B newId initId bmB
  pass : ∀ self, refuseLoop self "__setattr__" bmB = pure ()
  ne : bmB.isEmpty = false
  ob : bmB.contains (.type "object") = true
theorem base_VE : BaseOk "ValueError" "ValueError.__new__" "ValueError.__init__" [.type "ValueError", .type "Exception", .type "BaseException", .type "object"] := ⟨F.excBase_ValueError, F.store_ValueError.passes, rfl, by decide +kernel⟩
theorem base_AE : BaseOk "ArithmeticError" "ArithmeticError.__new__" "ArithmeticError.__init__" [.type "ArithmeticError", .type "Exception", .type "BaseException", .type "object"] := ⟨F.excBase_ArithmeticError, F.store_ArithmeticError.passes, rfl, by decide +kernel⟩

/-- what the written part says of an own exception class -/
structure OexG (K : PySem.W.Frag) (C : Addr) (newId : String) (bmB : List Value) : Prop where
  cls : ∃ nm q N bs bm sn sub ab col dd k0 k1 k2 k3 k5, K.lookup C = some (excClassObj nm q C N bs bm true sn sub ab col dd k0 k1 k2 k3 k5 newId) ∧ refsG bmB bm = true
  sa : PySem.W.findIn K (.ref C) "__setattr__" = some (some (.builtin "object.__setattr__"))
  exC : PySem.W.subIn K (.ref C) (.type "BaseException") = some true
  tyC : PySem.W.typeIn K (.ref C) = some (.type "type")
  kC : PySem.W.keepIn K (.ref C) = true

section
variable {prog : Program} {w : World} {A : Around} {E : Value → Shared → Prop} {R : Result → Shared → Prop} {hp : Heap} {g : Array GenState} {d : Drawn} {t : Nat} {os : OsState}
/-- object.__setattr__ on an exception without a dict -/
theorem osaG {K : PySem.W.Frag} {name : Str} {tk : Tok} {v : Value} {x C : Addr} {fv : Array Value} {cd : ClassData} (X : K.In hp) (hx : hp.get? x = some { cls := .ref C, data := .fields fv }) (hcd : PySem.W.clsIn K C = some cd)
    (hpass : ∀ self, refuseLoop self "__setattr__" cd.mro = pure ()) (hne : cd.mro.isEmpty = false) (hob : cd.mro.contains (.type "object") = true) (hh : cd.hasDict = true) (ha : PySem.W.findIn K (.ref C) name = some none)
    (hq : ∀ h' tk' dx, (∀ b o, b ≠ x → hp.get? b = some o → h'.get? b = some o) → hp.objs.size ≤ dx → dx ≠ x → h'.get? x = some { cls := .ref C, dict := some dx, data := .fields fv } →
      h'.Ns1 dx (fun y => if y = name then some v else none) → R (.ok (.ret .none)) ⟨h', g, d, tk', os⟩) :
    codeAny (model prog w) A (.call (.builtin "object.__setattr__") ⟨[.ref x, .str name tk, v], []⟩) R ⟨hp, g, d, t, os⟩ := by
  have I : PySem.W.InstAt hp x { cls := .ref C, data := .fields fv } C none := ⟨hx, rfl, rfl, trivial⟩
  have hxs : x ≠ hp.objs.size := Nat.ne_of_lt (Heap.lt_size hx)
  have sub : PySem.W.Looks (model prog w) hp (isInstance (.ref x) (.type "object")) true := I.type.andThen (PySem.W.looks_mroIn X (by unfold PySem.W.mroIn; rw [hcd, Option.bind_some, if_neg (by rw [hne]; decide), hob]))
  have SF := F.store_object
  refine codeAny_call_builtin SF.slot.plain SF.entry (@PySem.W.check_slot (model prog w) _ _ ⟨hp, g, d, t, os⟩ "object.__setattr__" "object" "__setattr__" (.ref x) [.str name tk, v] [] _ SF.kind SF.split sub (SF.args (.ref x) (.str name tk) v) ?_)
  have hmr : PySem.W.Looks (model prog w) hp (mroOf (.ref C)) cd.mro := (PySem.W.looks_clsIn X hcd).andThen .now
  have L3 : PySem.W.Looks (model prog w) hp (storeTaker? none) none := .now
  have hcls : PySem.W.Looks (model prog w) hp (classData C) cd := PySem.W.looks_clsIn X hcd
  rw [PySem.W.osa_eq, refuse_eq]
  refine wpAny_bind (wpAny_bind (I.type.at (wpAny_bind (hmr.at ?_))))
  rw [hpass]
  refine wpAny_pure (wpAny_bind (I.type.at (wpAny_bind ((PySem.W.looks_findIn X ha).at (wpAny_bind (L3.at ?_))))))
  show wpAny _ _ (storeInOwnDict (.ref x) (.ref C) (.str name tk) name v false) _ _ _
  obtain ⟨nm, bs, mro, ns, qn, hd, sn, sb, ab, col, del⟩ := cd
  dsimp only at hh
  subst hh
  unfold storeInOwnDict ownDictForStores
  repeat (first | with_reducible refine HandSPX.store_in_new ?_ ?_ | with_reducible refine wpAny_loadPart_at hx ?_ | with_reducible refine hcls.at ?_ | wp_step)
  · exact ⟨_, #[], _, (Heap.get?_update_ne _ _ _ _ hxs.symm).trans (Heap.get?_push_at rfl rfl), rfl, fun e he => absurd he (by simp), fun _ => rfl⟩
  · intro h' tk' hn' hs
    have hx₁ : (hp.push { cls := .type "dict", data := .dict #[] }).get? x = some { cls := .ref C, data := .fields fv } := Heap.get?_push_of_some _ hx
    refine hq h' tk' hp.objs.size (fun b o hb ho => ?_) (Nat.le_refl _) hxs.symm ?_ hn'
    · exact (hs.2 b (Nat.ne_of_lt (Heap.lt_size ho))).trans ((Heap.get?_update_ne _ _ _ _ hb).trans (Heap.get?_push_of_some _ ho))
    · exact (hs.2 x hxs).trans (Heap.get?_update_self _ hx₁ rfl)
end

section
variable {X : Cx} {pins : List (Addr × Obj)} {σ : L2.St} {H : Hp} {s : Shared} {a C : Addr} {f : Str} {y : V} {u : Value} {newId : String} {bmB : List Value}
/-- self.f = y in an __init__, the first field -/
theorem ostG {B initId : String} {A : Around} {Q : Unit → Shared → Prop} {E : Value → Shared → Prop} (BO : BaseOk B newId initId bmB) (T : OexG X.K C newId bmB) (I : Inv X pins σ H s) (e : H a = some (exo a C none)) (hno : PySem.W.findIn X.K (.ref C) f = some none) (ry : RelV y u)
    (h : ∀ dx s', H dx = none → dx ≠ a → Inv X pins σ (upd (upd H dx (exd dx [(f, y)])) a (exo a C (some dx))) s' → Q () s') : wpAny (model X.prog X.w) A (setAttr (.ref a) f u) Q E s := by
  obtain ⟨nm, q, N, bs, bm, sn, sub, ab, col, dd, k0, k1, k2, k3, k5, hC, hbm⟩ := T.cls
  have hcl : PySem.W.clsIn X.K C = some { name := nm, bases := bs, mro := .ref C :: bm, ns := N, qualname := q, hasDict := true, slotNames := sn, subclasses := sub, abstract := ab, collection := col, hasDel := false } := by unfold PySem.W.clsIn; rw [hC] <;> rfl
  have hbm2 : refsG bmB (.ref C :: bm) = true := hbm
  obtain ⟨t1, ho⟩ := exo_at I.hok e
  obtain ⟨hp, g, d, t, os⟩ := s
  refine PySem.W.set_plain I.kIn (ox := { cls := .ref C, dict := none, data := .fields #[.ref t1, .none, .none, .none, .bool false, .none] }) (od := none) ⟨ho, rfl, rfl, trivial⟩ T.sa ?_
  refine osaG I.kIn ho hcl (fun self => refsG_pass (BO.pass self) _ hbm2) (refsG_ne BO.ne _ hbm2) ((refsG_contains "object" _ hbm2).trans BO.ob) rfl hno (fun h' tk' dx k dn dne hx hn => ?_)
  have hnd : H dx = none := I.hok.fresh dn
  have nd : ∀ {b : Addr} {o : Obj}, hp.get? b = some o → b ≠ dx := fun {b o} q => Nat.ne_of_lt (Nat.lt_of_lt_of_le (Heap.lt_size q) dn)
  have na : ∀ {b : Addr}, H b = none → b ≠ a := fun {b} n z => by
    rw [z, e] at n
    cases n
  refine h dx _ hnd dne (I.un (t' := tk') ⟨fun b o q n _ _ => k b o (na n) q, fun b o q n _ _ => ⟨o.slots, k b o (na n) q⟩, fun b o q n _ => by rw [upd_ne (na n), upd_ne (nd q)]; exact n, fun b o q _ => ?_,
    fun b xs q => by rw [upd_ne (at_ne e q exo_tup), upd_ne (ne_of_none q hnd)]; exact q, fun b o v q => by rw [upd_ne (at_ne e q exo_frz), upd_ne (ne_of_none q hnd)]; exact q, fun b ps q => ⟨#[], by rw [upd_ne (at_ne e q exo_tbl), upd_ne (ne_of_none q hnd), q]; simp⟩⟩ fun b o q => ?_)
  · by_cases hb : b = a
    · exact ⟨_, by rw [hb]; exact hx⟩
    · exact ⟨o, k b o hb q⟩
  by_cases hb : b = a
  · subst hb
    rw [upd_same] at q
    cases q
    exact exo_ok hx
  · rw [upd_ne hb] at q
    by_cases hd : b = dx
    · subst hd
      rw [upd_same] at q
      cases q
      exact exd_ok hn (relO_put (fs := []) ry fun g => True.intro)
    · rw [upd_ne hd] at q
      refine (I.hok b o q).stay (fun c v hc z => k c v ?_ z) (fun c hc => by rw [upd_ne (at_ne e hc exo_own), upd_ne (ne_of_none hc hnd)]; exact hc) (fun c xs hc => by rw [upd_ne (at_ne e hc exo_tup), upd_ne (ne_of_none hc hnd)]; exact hc)
      rcases hc with hc | hc
      · rw [hc]
        exact hb
      · exact at_ne e hc exo_own
/-- self.f = e in such an __init__ -/
def tOstG (K : PySem.W.Frag) (newId : String) (bmB : List Value) (f : Str) (to te : TE) : TS := fun D σ H => te σ H fun y H1 => to σ H1 fun x H2 =>
  ∃ a C : Addr, x = .ref a ∧ OexG K C newId bmB ∧ PySem.W.findIn K (.ref C) f = some none ∧ H2 a = some (exo a C none) ∧ ∀ dx, H2 dx = none → dx ≠ a → D.nx σ (upd (upd H2 dx (exd dx [(f, y)])) a (exo a C (some dx)))
theorem ps_ostG {B initId : String} {o e : Expr} {to te : TE} {p' pos : Pos} (BO : BaseOk B newId initId bmB) (ho : PE X o to) (he : PE X e te) (hs : swapsWith e (some (.Attribute o f p')) pos.line X.env = pure false := by rfl) :
    PS X (.Assign [.Attribute o f p'] e pos) (tOstG X.K newId bmB f to te) := by
  refine ⟨fun pins s σ H D I h => ?_⟩
  refine plainObj_wpAny_Assign_Attribute (thn (he.run pins s σ H _ I h) fun v s1 ⟨y, H1, I1, r1, q1⟩ => thn (ho.run pins s1 σ H1 _ I1 q1) fun u s2 ⟨x, H2, I2, r2, a, C, ex, T, hno, ea, q⟩ => ?_) hs
  subst ex
  obtain rfl : u = Value.ref a := r2
  exact ostG BO T I2 ea hno r1 fun dx s' n ne J => ⟨σ, _, J, q dx n ne⟩
/-- C(e, ..) to be raised, C's own __init__ keeping sp -/
theorem pmk_G {B initId : String} {CX : CXT} {x : Str} {fI : Addr} {k : Nat} {fd : FuncData} {ps : List Str} {sp : Sp} {e : Expr} {es : List Expr} {ta : TA} {p pos : Pos} (BO : BaseOk B newId initId bmB) (T : OexG X.K C newId bmB)
    (iC : PySem.W.findIn X.K (.ref C) "__init__" = some (some (.ref fI))) (tI : PySem.W.typeIn X.K (.ref fI) = some (.type "function")) (F1 : FnOk X.prog X.w X.K X.mg X.base CX k fI fd ps sp) (hr : Room (k + 1) X.A) (hb : Binds X.K fd ps [])
    (hx : Passes CX X (fun _ _ _ => False)) (hg : Gl X x) (hm : X.mg x = some (.ref C)) (ha : PA X (e :: es) ta)
    (hdb : (x == ("__debug__" : Str)) = false := by decide) (he : starEach (e :: es) X.env = (false, eval e X.env) :: starEach es X.env := by rfl) (hpl : (backTo pos (starEach es X.env)).any (·.1) = false := by rfl) :
    PMk X (.Call (.Name x p) (e :: es) [] pos) (tMkO C sp [] ta) := by
  intro pins s σ H Q I h
  obtain ⟨nm, q, N, bs, bm, sn, sub, ab, col, dd, k0, k1, k2, k3, k5, hC, hbm⟩ := T.cls
  refine wpAny_Call_Name_kw (ld_glob I hg hm ?_ hdb)
  refine PySem.W.callWith_K (h₀ := X.base) I.ok.mod.kin T.kC (thn (ha.run pos pins s σ H _ I h) fun us s1 ⟨vs, H1, I1, r1, hz, q1⟩ => ⟨I1.kIn, ?_⟩) he hpl
  show wpAny _ _ (call (.ref C) us) _ _ _
  obtain ⟨hp, g, dr, tk, os⟩ := s1
  have hsz : hp.objs.size ≤ hp.objs.size + 1 := Nat.le_succ _
  have hq := q1 (hp.objs.size + 1) (I1.hok.fresh hsz)
  have kk : ∀ b o, hp.get? b = some o → ((hp.push (PySem.W.kdv_tup us)).push (HandSPX.excO C hp.objs.size)).get? b = some o := fun b o e => Heap.get?_push_of_some _ (Heap.get?_push_of_some _ e)
  have hget : ((hp.push (PySem.W.kdv_tup us)).push (HandSPX.excO C hp.objs.size)).get? (hp.objs.size + 1) = some (HandSPX.excO C hp.objs.size) := by heap_get
  have I2 : Inv X pins σ (upd H1 (hp.objs.size + 1) (exo (hp.objs.size + 1) C none)) ⟨(hp.push (PySem.W.kdv_tup us)).push (HandSPX.excO C hp.objs.size), g, dr, tk, os⟩ := I1.laid (t' := tk) kk hsz (exo_ok hget)
  have r2 : Vals (V.ref (hp.objs.size + 1) :: (vs ++ [])) ((Value.ref (hp.objs.size + 1) :: us) ++ []) := .cons rfl (r1.append .nil)
  have hl : ((Value.ref (hp.objs.size + 1) :: us) ++ ([] : List Value)).length = ps.length := by
    have e := r2.length
    rw [F1.len _ _ _ _ hq] at e
    exact e.symm
  have hus : us.length ≤ sizeLine := by
    rw [← Paired.length r1, sizeLine_eq]
    omega
  refine wpAny_call (HandSPX.call_own BO.call (fun Y => refsG_contains Y bm hbm) (I1.kIn _ _ hC) (PySem.W.looks_findIn I1.kIn iC) (fun self => PySem.W.bind_fn I1.kIn self tI) hus
    (codeAny_mono (F1.run _ X.stack _ _ ⟨Value.ref (hp.objs.size + 1) :: us, []⟩ ((Value.ref (hp.objs.size + 1) :: us) ++ []) _ _ (fun _ _ _ => False) (hr.make C us []) (I2.env0.make C us []) (hb _ (Value.ref (hp.objs.size + 1) :: us) I2.kIn hl) r2 hq) fun r s' hq' => ?_))
  cases r with
  | error er => exact hx pins σ _ _ er s' I2 hq'
  | ok fl =>
    cases fl with
    | ret u =>
      obtain ⟨v, H2, os2, bare2, un2, hok2, rv, ev, d, fs, ea, ed, hd1, q2⟩ := hq'
      subst ev
      obtain ⟨h2, g2, d2, t2, os'⟩ := s'
      exact ⟨rv, mk_end (raises_own T.exC T.tyC) I1 hsz kk un2 hok2 os2 bare2 ea ed hd1 q2⟩
    | next => exact False.elim hq'
    | brk => exact False.elim hq'
    | cont => exact False.elim hq'
/-- X() to be raised, X without an __init__ of its own -/
theorem pmk_own0 {B initId : String} {x : Str} {p pos : Pos} (F : ExcBaseFacts B newId initId bmB) (q : PySem.W.excIn X.K C bmB newId = true) (gC : X.mg x = some (.ref C)) (kC : PySem.W.keepIn X.K (.ref C) = true) (r : Raises X (.ref C)) (hg : Gl X x) (hdb : (x == ("__debug__" : Str)) = false := by decide) :
    PMk X (.Call (.Name x p) [] [] pos) (fun _ H Q => Q (.ref C) none H) := by
  intro pins s σ H Q I h
  refine wpAny_Call_Name_kw (ld_glob I hg gC ?_ hdb)
  refine PySem.W.callWith_K0 (first := []) I.kIn kC ?_
  show wpAny _ _ (call (.ref C) []) _ _ _
  obtain ⟨bm, N, nm, qn, bs, hdct, sn, sub, ab, col, dd, k0, k1, k2, k3, k5, mN, hC, hN, hni, T⟩ := exc_obj I.kIn q
  refine wpAny_call_exc_subT F T hC hN hni (fun h' e hm => ?_) (Nat.zero_le _)
  exact mk_of I hm r h (I.hok.gone hm.new)
end
end Tz
end -- LayD
section -- HookP
set_option maxHeartbeats 4000000
/-! A Hook that also finds defs by paths of one's own (a property's getter); further facts as Bools. -/
namespace Tz
open PySem PySem.Spec PyProof.Rows L2
/-- a def at an address found by a path; no defaults -/
structure DefA where
  adr : PySem.W.Frag → Addr
  name : Str
  qual : Str
  params : Arguments
  body : List Stmt
  scope : Scope
def fnA (K : PySem.W.Frag) (a : Addr) : He.FnW := match K.lookup a with
  | some ⟨_, _, .func fd, _⟩ => some (fd.name, fd.qualname, fd.params, fd.body, fd.scope, fd.globals, fd.closure, fd.builtins)
  | _ => none
def DefA.val (d : DefA) : He.FnW := some (d.name, d.qual, d.params, .stmts d.body, d.scope, mainGlobals, [], builtinsNs)
def DefA.ok (K : PySem.W.Frag) (d : DefA) : Bool := PySem.W.keepIn K (.ref (d.adr K)) && (match K.lookup (d.adr K) with
  | some ⟨_, _, .func fd, _⟩ => PySem.W.codeIn K fd.code d.qual && He.dflB K fd.defaults []
  | _ => false)
theorem DefA.funD {K : PySem.W.Frag} {d : DefA} (e : fnA K (d.adr K) = d.val) (c : d.ok K = true) : ∃ fd, FunD K d.name d.qual d.params d.body d.scope [] [] (d.adr K) fd := by
  obtain ⟨kp, c2⟩ := He.ba c
  unfold fnA at e
  cases q : K.lookup (d.adr K) with
  | none =>
    rw [q] at c2
    cases c2
  | some o =>
    obtain ⟨oc, od, dt, osl⟩ := o
    rw [q] at c2 e
    cases dt with
    | func fd =>
      obtain ⟨m1, m2, m3, m4, m5, m6, m7, m8, m9, m10, m11, m12, m13, m14, m15⟩ := fd
      have e2 : (some (m1, m2, m3, m4, m5, m6, m7, m15) : He.FnW) = some (d.name, d.qual, d.params, .stmts d.body, d.scope, mainGlobals, [], builtinsNs) := e
      simp only [Option.some.injEq, Prod.mk.injEq] at e2
      obtain ⟨h1, h2, h3, h4, h5, h6, h7, h8⟩ := e2
      subst h1 h2 h3 h4 h5 h6 h7 h8
      obtain ⟨k1, k2⟩ := He.ba (show (PySem.W.codeIn K m13 d.qual && He.dflB K m8 []) = true from c2)
      exact ⟨_, ⟨oc, od, m8, m9, m10, m11, m12, m13, m14, osl, rfl, q, k1, He.dflB_ok k2, .inl rfl⟩, kp⟩
    | _ => cases c2
/-! ### the Hook -/
abbrev AlP : Type := He.AlD × Bool × List He.FnW
/-- the written part: the objects at these addresses -/
def frA (g : Addr → Option Obj) (as : List Addr) : PySem.W.Frag := He.frT g as
def obsP (as : List Addr) (fa : List He.Fa) (fn : List He.DefD) (tf : List He.Defn) (ex : PySem.W.Frag → Bool) (ps : List DefA) (g : Addr → Option Obj) : AlP :=
  (He.obsD fa fn (frA g as), ex (frA g as) && He.tabsB g tf (frA g as), ps.map fun d => fnA (frA g as) (d.adr (frA g as)))
def valP (fn : List He.DefD) (ps : List DefA) : AlP := (He.valD fn, true, ps.map DefA.val)
structure SaysP (fa : List He.Fa) (fn : List He.DefD) (tf : List He.Defn) (ex : PySem.W.Frag → Bool) (ps : List DefA) (h : Heap) (K : PySem.W.Frag) : Prop where
  d : He.SaysD fa fn K
  more : ex K = true
  hd : ∀ p ∈ tf, PySem.W.codeHdIn K (He.cT K p).1 (He.cT K p).2 = true
  out : ∀ p ∈ tf, K.lookup (He.cT K p).2 = none
  empty : ∀ p ∈ tf, h.get? (He.cT K p).2 = some { cls := .none, data := .fields #[] }
  p : (ps.map fun d => fnA K (d.adr K)) = ps.map DefA.val
theorem saysP_of {as : List Addr} {fa : List He.Fa} {fn : List He.DefD} {tf : List He.Defn} {ex : PySem.W.Frag → Bool} {ps : List DefA} {h : Heap} (e : obsP as fa fn tf ex ps h.get? = valP fn ps) : SaysP fa fn tf ex ps h (frA h.get? as) := by
  have e1 : He.obsD fa fn (frA h.get? as) = He.valD fn := congrArg (fun z : AlP => z.1) e
  have e2 : (ex (frA h.get? as) && He.tabsB h.get? tf (frA h.get? as)) = true := congrArg (fun z : AlP => z.2.1) e
  have e3 : (ps.map fun d => fnA (frA h.get? as) (d.adr (frA h.get? as))) = ps.map DefA.val := congrArg (fun z : AlP => z.2.2) e
  obtain ⟨m1, m2⟩ := He.ba e2
  have at_ : ∀ p ∈ tf, PySem.W.codeHdIn (frA h.get? as) (He.cT (frA h.get? as) p).1 (He.cT (frA h.get? as) p).2 = true ∧ ∃ o, h.get? (He.cT (frA h.get? as) p).2 = some o ∧ He.emptyTab o = true := fun p hp => by
    obtain ⟨m3, m4⟩ := He.ba (List.all_eq_true.mp m2 p hp)
    refine ⟨m3, ?_⟩
    generalize h.get? (He.cT (frA h.get? as) p).2 = z at m4
    cases z with
    | none => cases m4
    | some o => exact ⟨o, rfl, m4⟩
  refine ⟨e1, m1, fun p hp => (at_ p hp).1, fun p hp => ?_, fun p hp => ?_, e3⟩
  · obtain ⟨_, o, q, z⟩ := at_ p hp
    exact He.frT_none q z
  · obtain ⟨_, o, q, z⟩ := at_ p hp
    rw [q, He.emptyTab_eq z]
def hookP (as : List Addr) (fa : List He.Fa) (fn : List He.DefD) (tf : List He.Defn) (ex : PySem.W.Frag → Bool) (ps : List DefA) : PySem.W.Hook where
  α := AlP
  obs := fun s => obsP as fa fn tf ex ps s.heap.get?
  val := fun _ => valP fn ps
  says := fun _ h => ∃ K : PySem.W.Frag, K.In h ∧ SaysP fa fn tf ex ps h K
  of := fun w s e => ⟨frA s.heap.get? as, He.frT_in, saysP_of e⟩
  keeps := fun _ _ _ ⟨K, hK, c⟩ k => ⟨K, PySem.W.Frag.In.keeps hK k, ⟨c.d, c.more, c.hd, c.out, fun p hp => k _ _ (c.empty p hp), c.p⟩⟩
theorem obsP_eq {as : List Addr} {fa : List He.Fa} {fn : List He.DefD} {tf : List He.Defn} {ex : PySem.W.Frag → Bool} {ps : List DefA} {g : Addr → Option Obj} {s : Shared} (h : ∀ a, g a = s.heap.get? a) : obsP as fa fn tf ex ps g = (hookP as fa fn tf ex ps).obs s := by
  have e : g = s.heap.get? := funext h
  rw [e] <;> rfl
theorem SaysP.def_ {fa : List He.Fa} {fn : List He.DefD} {tf : List He.Defn} {ex : PySem.W.Frag → Bool} {ps : List DefA} {h : Heap} {K : PySem.W.Frag} (c : SaysP fa fn tf ex ps h K) (i : Nat) {d : DefA} (hi : ps[i]? = some d) (ok : d.ok K = true) :
    ∃ fd, FunD K d.name d.qual d.params d.body d.scope [] [] (d.adr K) fd := by
  have e2 : (ps.map fun d => fnA K (d.adr K))[i]? = (ps.map DefA.val)[i]? := by rw [c.p]
  rw [List.getElem?_map, List.getElem?_map, hi] at e2
  exact DefA.funD (Option.some.inj e2) ok
/-! ### further facts -/
abbrev gA (K : PySem.W.Frag) (x : Str) : Addr := He.ga K x
/-- a property and its getter -/
def prA (K : PySem.W.Frag) (x f : Str) : Addr := He.ma K (He.ga K x) f
def geA (x f : Str) (K : PySem.W.Frag) : Addr := match PySem.W.recIn K (prA K x f) "property" with
  | some (.ref g :: _) => g
  | _ => 0
def propB (K : PySem.W.Frag) (x f : Str) : Bool := He.eqO (PySem.W.findIn K (.ref (He.ga K x)) f) (some (some (.ref (prA K x f)))) && (He.eqO (PySem.W.specialIn K (.ref (prA K x f)) "__get__") (some (some (.builtin "property.__get__"))) && (decide (PySem.W.takesIn K (.ref (prA K x f)) = some true) &&
  match PySem.W.recIn K (prA K x f) "property" with
  | some (.ref _ :: _) => true
  | _ => false))
theorem propB_ok {K : PySem.W.Frag} {x f : Str} (h : propB K x f = true) : PropOf K (He.ga K x) f (prA K x f) (geA x f K) := by
  obtain ⟨h1, h⟩ := He.ba h
  obtain ⟨h2, h⟩ := He.ba h
  obtain ⟨h3, h4⟩ := He.ba h
  refine ⟨He.eqO_ok h1, He.eqO_ok h2, of_decide_eq_true h3, ?_⟩
  unfold geA
  cases q : PySem.W.recIn K (prA K x f) "property" with
  | none =>
    rw [q] at h4
    cases h4
  | some l =>
    rw [q] at h4
    match l, h4 with
    | .ref g :: r, _ => exact ⟨r, rfl⟩
/-- an own exception class over bmB -/
def oexB (K : PySem.W.Frag) (C : Addr) (newId : String) (bmB : List Value) : Bool := (match K.lookup C with
  | some ⟨.type t, _, .cls cd, sl⟩ => t == "type" && (cd.hasDict && (!cd.hasDel && (match cd.mro with
    | .ref C' :: bm => C' == C && refsG bmB bm
    | _ => false) && match sl.toList with
    | [_, _, _, _, some (.builtin n), _] => n == newId
    | _ => false))
  | _ => false) && (He.eqO (PySem.W.findIn K (.ref C) "__setattr__") (some (some (.builtin "object.__setattr__"))) && (decide (PySem.W.subIn K (.ref C) (.type "BaseException") = some true) && (decide (PySem.W.typeIn K (.ref C) = some (.type "type")) && PySem.W.keepIn K (.ref C))))
theorem oexB_ok {K : PySem.W.Frag} {C : Addr} {newId : String} {bmB : List Value} (h : oexB K C newId bmB = true) : OexG K C newId bmB := by
  obtain ⟨h1, h⟩ := He.ba h
  obtain ⟨h2, h⟩ := He.ba h
  obtain ⟨h3, h⟩ := He.ba h
  obtain ⟨h4, h5⟩ := He.ba h
  refine ⟨?_, He.eqO_ok h2, of_decide_eq_true h3, of_decide_eq_true h4, h5⟩
  cases q : K.lookup C with
  | none =>
    rw [q] at h1
    cases h1
  | some o =>
    obtain ⟨oc, od, dt, osl⟩ := o
    rw [q] at h1
    cases oc with
    | type t =>
      cases dt with
      | cls cd =>
        obtain ⟨a1, h1⟩ := He.ba h1
        obtain ⟨a2, h1⟩ := He.ba h1
        obtain ⟨h1, a5⟩ := He.ba h1
        obtain ⟨a3, a4⟩ := He.ba h1
        obtain ⟨nm, bs, mro, ns, qn, hd, sn, sb, ab, col, del⟩ := cd
        dsimp only at a2 a3 a4
        have e1 : t = "type" := beq_iff_eq.mp a1
        have e3 : del = false := by
          cases del with
          | false => rfl
          | true => cases a3
        subst e1 a2 e3
        match mro, a4 with
        | .ref C' :: bm, a4 =>
          obtain ⟨b1, b2⟩ := He.ba a4
          have e4 : C' = C := beq_iff_eq.mp b1
          subst e4
          obtain ⟨sa⟩ := osl
          match sa, a5 with
          | [k0, k1, k2, k3, some (.builtin n), k5], a5 =>
            have e5 : n = newId := beq_iff_eq.mp a5
            subst e5
            exact ⟨nm, qn, ns, bs, bm, sn, sb, ab, col, od, k0, k1, k2, k3, k5, rfl, b2⟩
      | _ => cases h1
    | _ => cases dt <;> cases h1
def excCB (K : PySem.W.Frag) (D : Addr) : Bool := He.eqO (PySem.W.findIn K (.ref D) "__getattribute__") (some (some (.builtin "BaseException.__getattribute__"))) && (He.eqO (PySem.W.findIn K (.ref D) "__getattr__") (some none) && (decide (PySem.W.subIn K (.ref D) (.type "BaseException") = some true) && (PySem.W.hasDictIn K D &&
  (He.eqO (PySem.W.findIn K (.ref D) "__class__") (some (some (.builtin "object.__class__"))) && (He.eqO (PySem.W.specialIn K (.builtin "object.__class__") "__get__") (some (some (.builtin "getset_descriptor.__get__"))) && (decide (PySem.W.takesIn K (.builtin "object.__class__") = some true) && decide (PySem.W.mroIn K D (.type "object") = some true)))))))
theorem excCB_ok {K : PySem.W.Frag} {D : Addr} (h : excCB K D = true) : ExcC K D := by
  obtain ⟨h1, h⟩ := He.ba h
  obtain ⟨h2, h⟩ := He.ba h
  obtain ⟨h3, h⟩ := He.ba h
  obtain ⟨h4, h⟩ := He.ba h
  obtain ⟨h5, h⟩ := He.ba h
  obtain ⟨h6, h⟩ := He.ba h
  obtain ⟨h7, h8⟩ := He.ba h
  exact ⟨He.eqO_ok h1, He.eqO_ok h2, of_decide_eq_true h3, h4, He.eqO_ok h5, He.eqO_ok h6, of_decide_eq_true h7, of_decide_eq_true h8⟩
end Tz
end -- HookP
section -- HeadB
set_option maxHeartbeats 0
namespace Tz
open PySem PySem.Spec PyProof.Rows L2
abbrev R : PySem.W.OpenRow := PySem.W.OpenLaw.row PySem.Challenge.rw_treepebbles_k41_whole_boards_through_cha
def gl (x : Str) (i : Nat) : He.DefD := ⟨(x, none), x, x, defArgs (top i), defBody (top i), defScope (top i), [], []⟩
def me (C : Str) (i j : Nat) (m q : Str) : He.DefD := ⟨(C, some m), m, q, defArgs (inClass (top i) j), defBody (inClass (top i) j), defScope (inClass (top i) j), [], []⟩
def pr (C : Str) (i j : Nat) (m q : Str) : DefA := ⟨geA C m, m, q, defArgs (inClass (top i) j), defBody (inClass (top i) j), defScope (inClass (top i) j)⟩
abbrev aeBase : List Value := [.type "ArithmeticError", .type "Exception", .type "BaseException", .type "object"]
def isB (K : PySem.W.Frag) (x : Str) : Bool := He.eqO (PySem.W.findIn K (.ref (gA K x)) "__class__") (some (some (.builtin "object.__class__"))) && (He.eqO (PySem.W.specialIn K (.builtin "object.__class__") "__get__") (some (some (.builtin "getset_descriptor.__get__"))) && (decide (PySem.W.takesIn K (.builtin "object.__class__") = some true) && (decide (PySem.W.mroIn K (gA K x) (.type "object") = some true) && decide (PySem.W.kitOne K (.ref (gA K x)) (.ref (gA K x)) = some true))))
def eqDefB (K : PySem.W.Frag) (x : Str) : Bool := decide (PySem.W.mroIn K (gA K x) (.type "object") = some true) && (He.eqO (PySem.W.findIn K (.ref (gA K x)) "__eq__") (some (some (.builtin "object.__eq__"))) && He.eqO (PySem.W.findIn K (.ref (gA K x)) "__ne__") (some (some (.builtin "object.__ne__"))))
def undoB (K : PySem.W.Frag) : Bool := PySem.W.excIn K (gA K "NothingToUndo") aeBase "ArithmeticError.__new__" && (PySem.W.keepIn K (.ref (gA K "NothingToUndo")) && (decide (PySem.W.subIn K (.ref (gA K "NothingToUndo")) (.type "BaseException") = some true) && decide (PySem.W.typeIn K (.ref (gA K "NothingToUndo")) = some (.type "type"))))
/-- the own errors' classes -/
def cA (K : PySem.W.Frag) (j : Nat) : Addr := gA K (xNames.getD j "")
def kitB (K : PySem.W.Frag) (x : Str) (i : Nat) : Bool := (List.range 23).all fun j => decide (PySem.W.kitOne K (.ref (gA K x)) (.ref (cA K j)) = some (xBit i j))
def exmB (K : PySem.W.Frag) (x : Str) : Bool := decide (PySem.W.exmAny K (.ref (gA K x)) [.ref (gA K "WrongValue"), .ref (gA K "NoAnswer")] = some true)
def fnL0 : List He.DefD := [gl "is_name" 28, gl "joints_of" 29, gl "check_tree" 33, gl "index_of" 34, gl "pebbles_of" 36, gl "check_matched" 37, gl "check_both" 38, gl "check_pebble" 39, gl "lane_from" 41, gl "all_lanes" 42, gl "lanes_with" 43, gl "side_of" 45, gl "before_of" 46, gl "signs_for" 47, gl "filled_in" 48, gl "all_signs" 49, gl "signs_by_pebble" 50, gl "comes" 52, gl "moved" 54, gl "after" 55]
def fnL1 : List He.DefD := [gl "_law_purse" 59, gl "_law_draw" 60, gl "_law_pick" 61, gl "_law_names" 62, gl "_law_joints" 63, gl "_law_line" 64, gl "_law_links" 65, gl "_law_standing" 66, gl "_law_moved" 67, gl "_law_sort" 68, gl "_law_attribute" 69, gl "_law_told" 70, gl "_law_is" 71, gl "_law_after" 72, gl "_law_deed" 73, gl "_law_row" 74, gl "_law_right" 75, gl "law" 76, ⟨("check_standing", none), "check_standing", "check_standing", defArgs (top 35), defBody (top 35), defScope (top 35), [.bl false], []⟩, me "Tree" 31 0 "__init__" "Tree.__init__"]
def fnL2 : List He.DefD := [me "Tree" 31 10 "__eq__" "Tree.__eq__", me "Board" 57 0 "__init__" "Board.__init__", me "Board" 57 5 "__bool__" "Board.__bool__", me "Board" 57 6 "become" "Board.become", me "Board" 57 7 "move" "Board.move", me "Board" 57 8 "lead" "Board.lead", me "Board" 57 9 "can_become" "Board.can_become", me "Board" 57 10 "undo" "Board.undo", me "NotNear" 19 0 "__init__" "NotNear.__init__", me "NotEmpty" 20 0 "__init__" "NotEmpty.__init__", me "InvalidIndex" 7 0 "__init__" "InvalidIndex.__init__"]
def fnL : List He.DefD := fnL0 ++ fnL1 ++ fnL2
def faL0 : List He.Fa := [.free "len", .free "isinstance", .free "str", .free "all", .free "enumerate", .free "range", .free "tuple", .free "sorted", .free "int", .free "abs", .free "divmod", .free "max", .free "min", .free "list", .free "bool", .free "repr", .glo "is_name", .glo "joints_of", .glo "check_tree", .glo "index_of"]
def faL1 : List He.Fa := [.glo "pebbles_of", .glo "check_matched", .glo "check_both", .glo "check_pebble", .glo "lane_from", .glo "all_lanes", .glo "lanes_with", .glo "side_of", .glo "before_of", .glo "signs_for", .glo "filled_in", .glo "all_signs", .glo "signs_by_pebble", .glo "comes", .glo "moved", .glo "after", .glo "_law_purse", .glo "_law_draw", .glo "_law_pick", .glo "_law_names"]
def faL2 : List He.Fa := [.glo "_law_joints", .glo "_law_line", .glo "_law_links", .glo "_law_standing", .glo "_law_moved", .glo "_law_sort", .glo "_law_attribute", .glo "_law_told", .glo "_law_is", .glo "_law_after", .glo "_law_deed", .glo "_law_row", .glo "_law_right", .glo "law", .glo "check_standing", .glo "Tree", .glo "Board", .glo "InvalidText", .glo "InvalidNumber", .glo "InvalidName"]
def faL3 : List He.Fa := [.glo "InvalidIndex", .glo "InvalidClaim", .glo "UnknownName", .glo "NotATree", .glo "NotABoard", .glo "NotALane", .glo "InvalidStanding", .glo "InvalidCrowd", .glo "InvalidParked", .glo "InvalidLog", .glo "Unmatched", .glo "NotAnEnd", .glo "NotNear", .glo "NotEmpty", .glo "TooMany", .glo "Broken", .glo "InUse", .glo "NothingToUndo", .glo "WrongValue", .glo "NoAnswer"]
def faL4 : List He.Fa := [.int "MOST_PLACES" 40, .str "LETTERS" "abcdefghijklmnopqrstuvwxyz", .cls "Tree", .cls "Board", .noat "Tree" "written", .noat "Tree" "joints", .noat "Tree" "links", .noat "Board" "base", .noat "Board" "now", .noat "Board" "past", .mkr "Tree", .mkr "Board", .meth "Tree" "__eq__", .meth "Board" "__bool__", .meth "Board" "become", .meth "Board" "move", .meth "Board" "lead", .meth "Board" "can_become", .meth "Board" "undo", .noat "InvalidIndex" "given"]
def faL5 : List He.Fa := [.noat "NotNear" "place", .noat "NotEmpty" "place"]
def faL : List He.Fa := faL0 ++ faL1 ++ faL2 ++ faL3 ++ faL4 ++ faL5
def psL0 : List DefA := [pr "Board" 57 1 "tree" "Board.tree", pr "Board" 57 2 "standing" "Board.standing", pr "Board" 57 3 "moves" "Board.moves", pr "Board" 57 4 "changes" "Board.changes", pr "Tree" 31 1 "text" "Tree.text", pr "Tree" 31 2 "places" "Tree.places"]
def psL : List DefA := psL0
def exL (K : PySem.W.Frag) : List Bool := [propB K "Board" "tree", propB K "Board" "standing", propB K "Board" "moves", propB K "Board" "changes", propB K "Tree" "text", propB K "Tree" "places", (pr "Board" 57 1 "tree" "Board.tree").ok K, (pr "Board" 57 2 "standing" "Board.standing").ok K, (pr "Board" 57 3 "moves" "Board.moves").ok K, (pr "Board" 57 4 "changes" "Board.changes").ok K, (pr "Tree" 31 1 "text" "Tree.text").ok K, (pr "Tree" 31 2 "places" "Tree.places").ok K, isB K "Tree", eqDefB K "Board", oexB K (gA K "NotNear") "ArithmeticError.__new__" aeBase, oexB K (gA K "NotEmpty") "ArithmeticError.__new__" aeBase, oexB K (gA K "InvalidIndex") "ValueError.__new__" He.veBase, undoB K, excCB K (gA K "InvalidIndex"), excCB K (gA K "NotNear"), excCB K (gA K "NotEmpty"), excCB K (gA K "NothingToUndo"), kitB K "InvalidIndex" 3, kitB K "NotNear" 15, kitB K "NotEmpty" 16, kitB K "NothingToUndo" 20, L2.xfB K (gA K "InvalidIndex"), L2.xfB K (gA K "NotNear"), L2.xfB K (gA K "NotEmpty"), exmB K "InvalidIndex", exmB K "NotNear", exmB K "NotEmpty", exmB K "NothingToUndo", PySem.W.typeIn K (.ref (He.ma K (gA K "InvalidIndex") "__init__")) == some (.type "function"), PySem.W.typeIn K (.ref (He.ma K (gA K "NotNear") "__init__")) == some (.type "function"), PySem.W.typeIn K (.ref (He.ma K (gA K "NotEmpty") "__init__")) == some (.type "function"), He.eqO (PySem.W.findIn K (.ref (gA K "InvalidIndex")) "__init__") (some (some (.ref (He.ma K (gA K "InvalidIndex") "__init__")))), He.eqO (PySem.W.findIn K (.ref (gA K "NotNear")) "__init__") (some (some (.ref (He.ma K (gA K "NotNear") "__init__")))), He.eqO (PySem.W.findIn K (.ref (gA K "NotEmpty")) "__init__") (some (some (.ref (He.ma K (gA K "NotEmpty") "__init__")))), decide ((He.cT K ("_law_right", none)).2 ≠ (He.cT K ("all_lanes", none)).2)]
def asL0 : List Addr := [3, 6, 4, 21, 31, 44, 64, 83, 102, 121, 140, 159, 178, 197, 216, 235, 254, 273, 292, 304, 323, 342, 361, 380, 399, 418, 430, 437, 444, 527, 538, 545, 552, 560, 565, 572, 579, 586, 591, 596]
def asL1 : List Addr := [601, 606, 611, 616, 621, 626, 631, 638, 645, 650, 755, 766, 773, 780, 785, 792, 797, 802, 809, 816, 823, 830, 837, 844, 849, 854, 861, 868, 873, 0, 20, 30, 43, 63, 82, 101, 120, 139, 158, 177]
def asL2 : List Addr := [196, 215, 234, 253, 272, 291, 303, 322, 341, 360, 379, 398, 417, 429, 436, 443, 526, 537, 544, 551, 559, 553, 564, 571, 578, 585, 590, 595, 600, 605, 610, 615, 620, 625, 630, 637, 644, 649, 754, 765]
def asL3 : List Addr := [772, 779, 784, 791, 796, 801, 808, 815, 822, 829, 836, 843, 848, 853, 860, 867, 872, 15, 16, 17, 18, 19, 29, 32, 42, 45, 61, 62, 80, 81, 99, 100, 118, 119, 137, 138, 156, 157, 175, 176]
def asL4 : List Addr := [194, 195, 213, 214, 232, 233, 251, 252, 270, 271, 289, 290, 302, 320, 321, 339, 340, 358, 359, 377, 378, 396, 397, 415, 416, 428, 433, 434, 435, 438, 439, 440, 441, 442, 456, 464, 470, 477, 484, 491]
def asL5 : List Addr := [498, 503, 510, 517, 524, 525, 528, 529, 532, 533, 534, 535, 536, 539, 540, 541, 542, 543, 546, 547, 548, 549, 550, 554, 555, 556, 557, 558, 561, 562, 563, 566, 567, 568, 569, 570, 573, 574, 575, 576]
def asL6 : List Addr := [577, 580, 581, 582, 583, 584, 587, 588, 589, 592, 593, 594, 597, 598, 599, 602, 603, 604, 607, 608, 609, 612, 613, 614, 617, 618, 619, 622, 623, 624, 627, 628, 629, 632, 633, 634, 635, 636, 639, 640]
def asL7 : List Addr := [641, 642, 643, 646, 647, 648, 664, 672, 680, 688, 696, 703, 710, 717, 724, 731, 738, 745, 752, 753, 756, 757, 760, 761, 762, 763, 764, 767, 768, 769, 770, 771, 774, 775, 776, 777, 778, 781, 782, 783]
def asL8 : List Addr := [786, 787, 788, 789, 790, 793, 794, 795, 798, 799, 800, 803, 804, 805, 806, 807, 810, 811, 812, 813, 814, 817, 818, 819, 820, 821, 824, 825, 826, 827, 828, 831, 832, 833, 834, 835, 838, 839, 840, 841]
def asL9 : List Addr := [842, 845, 846, 847, 850, 851, 852, 855, 856, 857, 858, 859, 862, 863, 864, 865, 866, 869, 870, 871, 60, 79, 98, 117, 136, 155, 174, 193, 212, 231, 250, 269, 288, 319, 338, 357, 376, 395, 414, 455]
def asL10 : List Addr := [463, 469, 476, 483, 490, 497, 502, 509, 516, 523, 663, 671, 679, 687, 695, 702, 709, 716, 723, 730, 737, 744, 751, 55, 56, 57, 58, 59, 74, 75, 76, 77, 78, 93, 94, 95, 96, 97, 112, 113]
def asL11 : List Addr := [114, 115, 116, 131, 132, 133, 134, 135, 150, 151, 152, 153, 154, 169, 170, 171, 172, 173, 188, 189, 190, 191, 192, 207, 208, 209, 210, 211, 226, 227, 228, 229, 230, 245, 246, 247, 248, 249, 264, 265]
def asL12 : List Addr := [266, 267, 268, 283, 284, 285, 286, 287, 314, 315, 316, 317, 318, 333, 334, 335, 336, 337, 352, 353, 354, 355, 356, 371, 372, 373, 374, 375, 390, 391, 392, 393, 394, 409, 410, 411, 412, 413, 452, 453]
def asL13 : List Addr := [454, 462, 468, 471, 472, 473, 474, 475, 478, 479, 480, 481, 482, 485, 486, 487, 488, 489, 492, 493, 494, 495, 496, 499, 500, 501, 504, 505, 506, 507, 508, 511, 512, 513, 514, 515, 518, 519, 520, 521]
def asL14 : List Addr := [522, 658, 659, 660, 661, 662, 670, 678, 686, 694, 697, 698, 699, 700, 701, 704, 705, 706, 707, 708, 711, 712, 713, 714, 715, 718, 719, 720, 721, 722, 725, 726, 727, 728, 729, 732, 733, 734, 735, 736]
def asL15 : List Addr := [739, 740, 741, 742, 743, 746, 747, 748, 749, 750]
def asL : List Addr := asL0 ++ asL1 ++ asL2 ++ asL3 ++ asL4 ++ asL5 ++ asL6 ++ asL7 ++ asL8 ++ asL9 ++ asL10 ++ asL11 ++ asL12 ++ asL13 ++ asL14 ++ asL15
def exB (K : PySem.W.Frag) : Bool := (exL K).all id
abbrev tfL : List He.Defn := [("_law_right", none), ("all_lanes", none)]
abbrev hkP : PySem.W.Hook := hookP asL faL fnL tfL exB psL
def obP (s : PySem.W.SharedT) : AlP := obsP asL faL fnL tfL exB psL (HandSHeadRun.getT s)
theorem obP_eq (s : PySem.W.SharedT) : obP s = hkP.obs s.abs := obsP_eq (HandSHeadRun.getT_eq s)
def hdN0 : List PySem.Str := ["_wall", "WrongValue", "NoAnswer", "InvalidText", "InvalidNumber", "InvalidName", "InvalidIndex", "InvalidClaim", "UnknownName", "NotATree", "NotABoard", "NotALane", "InvalidStanding", "InvalidCrowd", "InvalidParked", "InvalidLog", "Unmatched", "NotAnEnd", "NotNear", "NotEmpty", "TooMany", "Broken", "InUse", "NothingToUndo", "MOST_PLACES", "LETTERS"]
def hdN1 : List PySem.Str := ["is_name", "joints_of", "check_tree", "index_of", "pebbles_of", "check_matched", "check_both", "check_pebble", "lane_from", "all_lanes", "lanes_with", "side_of", "before_of", "signs_for", "filled_in", "all_signs", "signs_by_pebble", "comes", "moved", "after", "Tree", "Board", "check_standing", "text_with"]
def hdN2 : List PySem.Str := ["_law_purse", "_law_draw", "_law_pick", "_law_names", "_law_joints", "_law_line", "_law_links", "_law_standing", "_law_moved", "_law_sort", "_law_attribute", "_law_told", "_law_is", "_law_after", "_law_deed", "_law_row", "_law_right"]
def hdN : List PySem.Str := hdN0 ++ hdN1 ++ hdN2
theorem runP (w : World) : HandSHeadRun.RunEq R (PySem.W.view R.prog [76]) hkP obP 9000 hdN w := by
  intro os
  kernel_rfl
end Tz
end -- HeadB
section -- TreeMath
set_option autoImplicit false
/-! Plain mathematics of a tree given by parents. No program here. -/
namespace Tb

/-- a tree on 0 .. n-1: place k > 0 hangs on pr k -/
structure Tr where
  n : Nat
  pr : Nat → Nat
  lt : ∀ k, 0 < k → k < n → pr k < k

variable (T : Tr)

/-- neighbours -/
def Tr.Adj (x y : Nat) : Prop := x < T.n ∧ y < T.n ∧ ((0 < x ∧ T.pr x = y) ∨ (0 < y ∧ T.pr y = x))

inductive Tr.Desc (k : Nat) : Nat → Prop
  | self : Tr.Desc k k
  | step {j : Nat} : 0 < j → j < T.n → Tr.Desc k (T.pr j) → Tr.Desc k j

/-- the places on x's side of the edge x y -/
def Tr.Sd (x y j : Nat) : Prop := (0 < x ∧ T.pr x = y ∧ T.Desc x j) ∨ (0 < y ∧ T.pr y = x ∧ ¬ T.Desc y j)

variable {T}

theorem Tr.Adj.symm {x y : Nat} (h : T.Adj x y) : T.Adj y x := ⟨h.2.1, h.1, h.2.2.symm⟩

theorem Tr.Desc.le {k j : Nat} (h : T.Desc k j) : k ≤ j := by
  induction h with
  | self => exact Nat.le_refl _
  | @step j h1 h2 h3 ih => exact Nat.le_trans ih (Nat.le_of_lt (T.lt _ h1 h2))

theorem Tr.Desc.inv {k j : Nat} (h : T.Desc k j) (hn : j ≠ k) : 0 < j ∧ j < T.n ∧ T.Desc k (T.pr j) := by
  cases h with
  | self => exact absurd rfl hn
  | step h1 h2 h3 => exact ⟨h1, h2, h3⟩

/-- not both orientations -/
theorem Tr.orient {x y : Nat} (hx : x < T.n) (hy : y < T.n) (h0x : 0 < x) (h1 : T.pr x = y) (h0y : 0 < y) (h2 : T.pr y = x) : False := by
  have := T.lt x h0x hx
  have := T.lt y h0y hy
  omega

theorem Tr.Adj.ne {x y : Nat} (h : T.Adj x y) : x ≠ y := by
  rcases h with ⟨hx, hy, ⟨h0, h1⟩ | ⟨h0, h1⟩⟩
  · have := T.lt x h0 hx; omega
  · have := T.lt y h0 hy; omega

theorem Tr.sd_or {x y j : Nat} (h : T.Adj x y) : T.Sd x y j ∨ T.Sd y x j := by
  rcases h with ⟨hx, hy, ⟨h0, h1⟩ | ⟨h0, h1⟩⟩
  · by_cases d : T.Desc x j
    · exact .inl (.inl ⟨h0, h1, d⟩)
    · exact .inr (.inr ⟨h0, h1, d⟩)
  · by_cases d : T.Desc y j
    · exact .inr (.inl ⟨h0, h1, d⟩)
    · exact .inl (.inr ⟨h0, h1, d⟩)

theorem Tr.sd_not {x y j : Nat} (h : T.Adj x y) (a : T.Sd x y j) (b : T.Sd y x j) : False := by
  obtain ⟨hx, hy, _⟩ := h
  rcases a with ⟨a0, a1, a2⟩ | ⟨a0, a1, a2⟩ <;> rcases b with ⟨b0, b1, b2⟩ | ⟨b0, b1, b2⟩
  · exact Tr.orient hx hy a0 a1 b0 b1
  · exact b2 a2
  · exact a2 b2
  · exact Tr.orient hx hy b0 b1 a0 a1

theorem Tr.sd_self {x y : Nat} (h : T.Adj x y) : T.Sd x y x := by
  rcases h with ⟨hx, hy, ⟨h0, h1⟩ | ⟨h0, h1⟩⟩
  · exact .inl ⟨h0, h1, .self⟩
  · refine .inr ⟨h0, h1, fun d => ?_⟩
    have := d.le
    have := T.lt y h0 hy
    omega

theorem Tr.sd_other {x y : Nat} (h : T.Adj x y) : ¬ T.Sd x y y := fun a => Tr.sd_not h a (Tr.sd_self h.symm)

/-- an edge that crosses the border of a subtree is the subtree's own -/
theorem Tr.desc_cross {k a b : Nat} (h : T.Adj a b) (ha : T.Desc k a) (hb : ¬ T.Desc k b) : a = k ∧ 0 < k ∧ T.pr k = b := by
  rcases h with ⟨hx, hy, ⟨h0, h1⟩ | ⟨h0, h1⟩⟩
  · by_cases e : a = k
    · subst e; exact ⟨rfl, h0, h1⟩
    · have := (ha.inv e).2.2
      rw [h1] at this
      exact absurd this hb
  · exact absurd (.step h0 hy (by rw [h1]; exact ha)) hb

theorem Tr.cross {x y a b : Nat} (h : T.Adj a b) (ha : T.Sd x y a) (hb : ¬ T.Sd x y b) : a = x ∧ b = y := by
  rcases ha with ⟨a0, a1, a2⟩ | ⟨a0, a1, a2⟩
  · have nb : ¬ T.Desc x b := fun d => hb (.inl ⟨a0, a1, d⟩)
    obtain ⟨e1, _, e2⟩ := Tr.desc_cross h a2 nb
    exact ⟨e1, by rw [← e2, a1]⟩
  · have nb : T.Desc y b := Classical.byContradiction fun d => hb (.inr ⟨a0, a1, d⟩)
    obtain ⟨e1, _, e2⟩ := Tr.desc_cross h.symm nb a2
    exact ⟨by rw [← e2, a1], e1⟩

/-- what is the same along all edges within a side is the same all over the side -/
theorem Tr.conn {x y : Nat} (h : T.Adj x y) {P : Nat → Prop} (hP : ∀ a b, T.Adj a b → T.Sd x y a → T.Sd x y b → (P a ↔ P b)) {j : Nat} (hj : j < T.n) (hs : T.Sd x y j) : P j ↔ P x := by
  obtain ⟨hx, hy, _⟩ := id h
  rcases id hs with ⟨a0, a1, a2⟩ | ⟨a0, a1, a2⟩
  · clear hs
    induction a2 with
    | self => exact Iff.rfl
    | @step j h1 h2 h3 ih =>
      have hp : T.pr j < T.n := Nat.lt_trans (T.lt _ h1 h2) h2
      exact (hP j (T.pr j) ⟨hj, hp, .inl ⟨h1, rfl⟩⟩ (.inl ⟨a0, a1, .step h1 h2 h3⟩) (.inl ⟨a0, a1, h3⟩)).trans (ih hp)
  · have key : ∀ m, ∀ j, j ≤ m → j < T.n → ¬ T.Desc y j → (P j ↔ P 0) := by
      intro m
      induction m with
      | zero => intro j hj _ _; rw [Nat.le_zero.mp hj]
      | succ m ih =>
        intro j hjm hj hd
        by_cases e : j = 0
        · rw [e]
        · have h1 : 0 < j := Nat.pos_of_ne_zero e
          have hl := T.lt j h1 hj
          have hd' : ¬ T.Desc y (T.pr j) := fun d => hd (.step h1 hj d)
          have hp : T.pr j < T.n := Nat.lt_trans hl hj
          exact (hP j (T.pr j) ⟨hj, hp, .inl ⟨h1, rfl⟩⟩ (.inr ⟨a0, a1, hd⟩) (.inr ⟨a0, a1, hd'⟩)).trans (ih _ (by omega) hp hd')
    have hxd : ¬ T.Desc y x := fun d => by
      have := d.le
      have := T.lt y a0 hy
      omega
    exact (key _ j (Nat.le_refl _) hj a2).trans (key _ x (Nat.le_refl _) hx hxd).symm

/-- a set whose border is the one edge y z is y's side -/
theorem Tr.sd_unique {y z : Nat} (h : T.Adj y z) {F : Nat → Prop} (hy : F y) (hz : ¬ F z) (hF : ∀ a b, T.Adj a b → F a → ¬ F b → a = y ∧ b = z) {j : Nat} (hj : j < T.n) : F j ↔ T.Sd y z j := by
  constructor
  · intro f
    refine Classical.byContradiction fun ns => ?_
    have s : T.Sd z y j := (Tr.sd_or h).resolve_left ns
    refine hz ((Tr.conn h.symm (P := F) (fun a b hab sa sb => ⟨fun fa => ?_, fun fb => ?_⟩) hj s).mp f)
    · refine Classical.byContradiction fun fb => ?_
      obtain ⟨e, _⟩ := hF a b hab fa fb
      rw [e] at sa
      exact Tr.sd_other h.symm sa
    · refine Classical.byContradiction fun fa => ?_
      obtain ⟨e, _⟩ := hF b a hab.symm fb fa
      rw [e] at sb
      exact Tr.sd_other h.symm sb
  · intro s
    refine (Tr.conn h (P := F) (fun a b hab sa sb => ⟨fun fa => ?_, fun fb => ?_⟩) hj s).mpr hy
    · refine Classical.byContradiction fun fb => ?_
      obtain ⟨_, e⟩ := hF a b hab fa fb
      rw [e] at sb
      exact Tr.sd_other h sb
    · refine Classical.byContradiction fun fa => ?_
      obtain ⟨_, e⟩ := hF b a hab.symm fb fa
      rw [e] at sa
      exact Tr.sd_other h sa

/-- passing a place with just two neighbours -/
theorem Tr.sd_pass {x y z : Nat} (hxy : T.Adj x y) (hyz : T.Adj y z) (hne : x ≠ z) (h2 : ∀ b, T.Adj y b → b = x ∨ b = z) {j : Nat} (hj : j < T.n) : T.Sd y z j ↔ j = y ∨ T.Sd x y j := by
  refine (Tr.sd_unique hyz (F := fun j => j = y ∨ T.Sd x y j) (.inl rfl) ?_ ?_ hj).symm
  · rintro (e | s)
    · exact hyz.ne e.symm
    · exact hne (Tr.cross hyz.symm s (Tr.sd_other hxy)).1.symm
  · rintro a b hab (rfl | sa) nb
    · rcases h2 b hab with rfl | rfl
      · exact absurd (.inr (Tr.sd_self hxy)) nb
      · exact ⟨rfl, rfl⟩
    · obtain ⟨_, e⟩ := Tr.cross hab sa fun s => nb (.inr s)
      exact absurd (.inl e) nb

/-! ### sets of places that hang together -/
/-- no cut parts F without going through F's own edge -/
def Tr.Hang (T : Tr) (F : Nat → Prop) : Prop := ∀ u v a b, T.Adj u v → F a → T.Sd u v a → F b → T.Sd v u b → F u ∧ F v

theorem Tr.hang_one {x : Nat} : T.Hang (fun j => j = x) := by
  rintro u v a b huv rfl sa rfl sb
  exact (Tr.sd_not huv sa sb).elim

theorem Tr.Hang.add {F : Nat → Prop} (h : T.Hang F) {f m : Nat} (hf : F f) (hfm : T.Adj f m) : T.Hang (fun j => F j ∨ j = m) := by
  have one : ∀ u v b, T.Adj u v → T.Sd u v m → F b → T.Sd v u b → (F u ∨ u = m) ∧ (F v ∨ v = m) := fun u v b huv sm fb sb => by
    rcases Tr.sd_or huv (j := f) with s | s
    · obtain ⟨h1, h2⟩ := h u v f b huv hf s fb sb
      exact ⟨.inl h1, .inl h2⟩
    · obtain ⟨e1, e2⟩ := Tr.cross hfm s (fun z => Tr.sd_not huv sm z)
      subst e1
      subst e2
      exact ⟨.inr rfl, .inl hf⟩
  rintro u v a b huv (fa | rfl) sa (fb | rfl) sb
  · obtain ⟨h1, h2⟩ := h u v a b huv fa sa fb sb
    exact ⟨.inl h1, .inl h2⟩
  · obtain ⟨h1, h2⟩ := one v u a huv.symm sb fa sa
    exact ⟨h2, h1⟩
  · exact one u v b huv sa fb sb
  · exact (Tr.sd_not huv sa sb).elim

theorem Tr.Hang.once {F : Nat → Prop} (h : T.Hang F) {m k k' : Nat} (hm : ¬ F m) (hk : F k) (hk' : F k') (a : T.Adj k m) (a' : T.Adj k' m) : k = k' := by
  by_cases s : T.Sd k m k'
  · exact (Tr.cross a' s (Tr.sd_other a)).1.symm
  · have s' : T.Sd m k k' := (Tr.sd_or a).resolve_left s
    exact absurd (h k m k k' a hk (Tr.sd_self a) hk' s').2 hm

end Tb
end -- TreeMath
section -- SideMath
set_option autoImplicit false
namespace Tb
variable {T : Tr}

/-- the list of the neighbours of x, as the program lays it -/
def Tr.nbTo (T : Tr) (i x : Nat) : List Nat := (if 0 < x ∧ x < i then [T.pr x] else []) ++ (List.range i).filter fun k => decide (0 < k ∧ T.pr k = x)
abbrev Tr.nb (T : Tr) (x : Nat) : List Nat := T.nbTo T.n x

theorem Tr.mem_nb {x y : Nat} (hx : x < T.n) : y ∈ T.nb x ↔ T.Adj x y := by
  unfold Tr.nb Tr.nbTo Tr.Adj
  constructor
  · intro h
    rcases List.mem_append.mp h with h | h
    · split at h
      · rename_i c
        rw [List.mem_singleton.mp h]
        exact ⟨hx, Nat.lt_trans (T.lt x c.1 hx) hx, .inl ⟨c.1, rfl⟩⟩
      · cases h
    · obtain ⟨h1, h2⟩ := List.mem_filter.mp h
      exact ⟨hx, List.mem_range.mp h1, .inr (of_decide_eq_true h2)⟩
  · rintro ⟨_, hy, ⟨h0, h1⟩ | h⟩
    · refine List.mem_append_left _ ?_
      rw [if_pos ⟨h0, hx⟩, h1]
      exact List.mem_singleton.mpr rfl
    · exact List.mem_append_right _ (List.mem_filter.mpr ⟨List.mem_range.mpr hy, decide_eq_true h⟩)

theorem nodup_filter {α : Type} {l : List α} (p : α → Bool) (h : l.Nodup) : (l.filter p).Nodup := List.Pairwise.filter p h

theorem Tr.nodup_nb (x : Nat) (_ : x < T.n) : (T.nb x).Nodup := by
  refine List.nodup_append.mpr ⟨?_, nodup_filter _ List.nodup_range, ?_⟩
  · split
    · exact List.nodup_cons.mpr ⟨List.not_mem_nil, List.nodup_nil⟩
    · exact List.nodup_nil
  · intro a ha b hb e
    split at ha
    · rename_i c
      rw [List.mem_singleton.mp ha] at e
      subst e
      obtain ⟨h1, h2⟩ := List.mem_filter.mp hb
      have h3 := of_decide_eq_true h2
      have q1 := T.lt x c.1 c.2
      have q2 := T.lt (T.pr x) h3.1 (List.mem_range.mp h1)
      omega
    · cases ha

/-- the new places of one turn -/
def Tr.fresh (T : Tr) (found : List Nat) (ban : Nat) (order : List Nat) : List Nat := order.flatMap fun k => (T.nb k).filter fun m => decide (¬ m = ban ∧ m ∉ found)

theorem Tr.mem_fresh {found order : List Nat} {ban m : Nat} : m ∈ T.fresh found ban order ↔ ∃ k, k ∈ order ∧ m ∈ T.nb k ∧ ¬ m = ban ∧ m ∉ found := by
  unfold Tr.fresh
  rw [List.mem_flatMap]
  refine ⟨fun ⟨k, h1, h2⟩ => ?_, fun ⟨k, h1, h2, h3⟩ => ⟨k, h1, List.mem_filter.mpr ⟨h2, decide_eq_true h3⟩⟩⟩
  obtain ⟨h3, h4⟩ := List.mem_filter.mp h2
  exact ⟨k, h1, h3, of_decide_eq_true h4⟩

/-- what holds between two turns of the search from x, y barred -/
structure Tr.Sweep (T : Tr) (x y : Nat) (found new : List Nat) : Prop where
  adj : T.Adj x y
  nod : found.Nodup
  head : ∃ r, found = x :: r
  side : ∀ k ∈ found, k < T.n ∧ T.Sd x y k
  hang : T.Hang (fun j => j ∈ found)
  newIn : ∀ k ∈ new, k ∈ found
  newNod : new.Nodup
  closed : ∀ k ∈ found, k ∉ new → ∀ m ∈ T.nb k, m = y ∨ m ∈ found

theorem Tr.Sweep.start {x y : Nat} (h : T.Adj x y) : T.Sweep x y [x] [x] where
  adj := h
  nod := List.nodup_cons.mpr ⟨List.not_mem_nil, List.nodup_nil⟩
  head := ⟨[], rfl⟩
  side := fun k hk => by
    rw [List.mem_singleton.mp hk]
    exact ⟨h.1, Tr.sd_self h⟩
  hang := by
    have e : (fun j => j ∈ [x]) = fun j => j = x := by
      funext j
      exact propext List.mem_singleton
    rw [e]
    exact Tr.hang_one
  newIn := fun k hk => hk
  newNod := List.nodup_cons.mpr ⟨List.not_mem_nil, List.nodup_nil⟩
  closed := fun k hk hn => absurd hk hn

theorem nodup_flatMap' {α β : Type} {f : α → List β} : ∀ {l : List α}, l.Nodup → (∀ a ∈ l, (f a).Nodup) → (∀ a ∈ l, ∀ b ∈ l, ∀ c, c ∈ f a → c ∈ f b → a = b) → (l.flatMap f).Nodup
  | [], _, _, _ => List.nodup_nil
  | a :: l, hn, h1, h2 => by
    rw [List.flatMap_cons]
    obtain ⟨ha, hl⟩ := List.nodup_cons.mp hn
    refine List.nodup_append.mpr ⟨h1 a List.mem_cons_self, nodup_flatMap' hl (fun b hb => h1 b (List.mem_cons_of_mem _ hb)) fun b hb c hc d => h2 b (List.mem_cons_of_mem _ hb) c (List.mem_cons_of_mem _ hc) d, ?_⟩
    intro c hc d hd e
    subst e
    obtain ⟨b, hb, hcb⟩ := List.mem_flatMap.mp hd
    have := h2 a List.mem_cons_self b (List.mem_cons_of_mem _ hb) c hc hcb
    subst this
    exact ha hb

theorem Tr.hang_list {f : Nat → Prop} (h : T.Hang f) : ∀ (l : List Nat) (F : Nat → Prop), (∀ j, f j → F j) → T.Hang F → (∀ m ∈ l, ∃ k, f k ∧ T.Adj k m) → T.Hang (fun j => F j ∨ j ∈ l)
  | [], F, _, hF, _ => by
    have e : (fun j => F j ∨ j ∈ ([] : List Nat)) = F := by
      funext j
      exact propext ⟨fun z => z.elim id fun z => absurd z List.not_mem_nil, .inl⟩
    rw [e]
    exact hF
  | m :: l, F, hs, hF, hl => by
    obtain ⟨k, hk, hkm⟩ := hl m List.mem_cons_self
    have step := Tr.hang_list h l (fun j => F j ∨ j = m) (fun j z => .inl (hs j z)) (hF.add (hs k hk) hkm) fun m' hm' => hl m' (List.mem_cons_of_mem _ hm')
    have e : (fun j => (F j ∨ j = m) ∨ j ∈ l) = fun j => F j ∨ j ∈ m :: l := by
      funext j
      refine propext ⟨?_, ?_⟩
      · rintro ((z | z) | z)
        · exact .inl z
        · exact .inr (z ▸ List.mem_cons_self)
        · exact .inr (List.mem_cons_of_mem _ z)
      · rintro (z | z)
        · exact .inl (.inl z)
        · rcases List.mem_cons.mp z with z | z
          · exact .inl (.inr z)
          · exact .inr z
    rw [← e]
    exact step

theorem Tr.Sweep.step {x y : Nat} {found new : List Nat} (s : T.Sweep x y found new) : T.Sweep x y (found ++ T.fresh found y new) (T.fresh found y new) := by
  have inn : ∀ k ∈ new, k < T.n := fun k hk => (s.side k (s.newIn k hk)).1
  have adj : ∀ m ∈ T.fresh found y new, ∃ k, k ∈ found ∧ T.Adj k m ∧ ¬ m = y ∧ m ∉ found := fun m hm => by
    obtain ⟨k, h1, h2, h3, h4⟩ := Tr.mem_fresh.mp hm
    exact ⟨k, s.newIn k h1, (Tr.mem_nb (inn k h1)).mp h2, h3, h4⟩
  have nodF : (T.fresh found y new).Nodup := by
    refine nodup_flatMap' s.newNod (fun k hk => nodup_filter _ (Tr.nodup_nb k (inn k hk))) fun a ha b hb c hca hcb => ?_
    obtain ⟨a1, a2⟩ := List.mem_filter.mp hca
    obtain ⟨b1, _⟩ := List.mem_filter.mp hcb
    exact s.hang.once (of_decide_eq_true a2).2 (s.newIn a ha) (s.newIn b hb) ((Tr.mem_nb (inn a ha)).mp a1) ((Tr.mem_nb (inn b hb)).mp b1)
  refine ⟨s.adj, List.nodup_append.mpr ⟨s.nod, nodF, fun a ha b hb e => ?_⟩, ?_, fun k hk => ?_, ?_, fun k hk => List.mem_append_right _ hk, nodF, fun k hk hn m hm => ?_⟩
  · obtain ⟨_, _, _, _, h⟩ := adj b hb
    exact h (e ▸ ha)
  · obtain ⟨r, e⟩ := s.head
    exact ⟨r ++ T.fresh found y new, by rw [e] <;> rfl⟩
  · rcases List.mem_append.mp hk with h | h
    · exact s.side k h
    · obtain ⟨f, h1, h2, h3, _⟩ := adj k h
      refine ⟨h2.2.1, Classical.byContradiction fun ns => ?_⟩
      exact h3 (Tr.cross h2 (s.side f h1).2 ns).2
  · have z := Tr.hang_list s.hang (T.fresh found y new) (fun j => j ∈ found) (fun _ z => z) s.hang fun m hm => by
      obtain ⟨k, h1, h2, _⟩ := adj m hm
      exact ⟨k, h1, h2⟩
    have e : (fun j => j ∈ found ∨ j ∈ T.fresh found y new) = fun j => j ∈ found ++ T.fresh found y new := by
      funext j
      exact propext List.mem_append.symm
    rw [← e]
    exact z
  · rcases List.mem_append.mp hk with h | h
    · by_cases hkn : k ∈ new
      · by_cases c : m = y
        · exact .inl c
        · by_cases d : m ∈ found
          · exact .inr (List.mem_append_left _ d)
          · exact .inr (List.mem_append_right _ (Tr.mem_fresh.mpr ⟨k, hkn, hm, c, d⟩))
      · exact (s.closed k h hkn m hm).imp_right (List.mem_append_left _)
    · exact absurd h hn

/-- the end: x's side -/
def Tr.IsSide (T : Tr) (x y : Nat) (l : List Nat) : Prop := l.Nodup ∧ (∃ r, l = x :: r) ∧ ∀ j, j ∈ l ↔ j < T.n ∧ T.Sd x y j

theorem Tr.Sweep.end_ {x y : Nat} {found : List Nat} (s : T.Sweep x y found []) : T.IsSide x y found := by
  refine ⟨s.nod, s.head, fun j => ⟨s.side j, fun ⟨hj, hs⟩ => ?_⟩⟩
  have hx : x ∈ found := by
    obtain ⟨r, e⟩ := s.head
    rw [e]
    exact List.mem_cons_self
  refine (Tr.conn s.adj (P := fun j => j ∈ found) (fun a b hab sa sb => ⟨fun fa => ?_, fun fb => ?_⟩) hj hs).mpr hx
  · refine (s.closed a fa List.not_mem_nil b ((Tr.mem_nb hab.1).mpr hab)).resolve_left fun e => ?_
    rw [e] at sb
    exact Tr.sd_other s.adj sb
  · refine (s.closed b fb List.not_mem_nil a ((Tr.mem_nb hab.2.1).mpr hab.symm)).resolve_left fun e => ?_
    rw [e] at sa
    exact Tr.sd_other s.adj sa

/-- a list of different places is no longer than the tree -/
theorem len_le {n : Nat} {l : List Nat} (h : l.Nodup) (hb : ∀ k ∈ l, k < n) : l.length ≤ n := by
  have := h.length_le_of_subset (l₂ := List.range n) fun k hk => List.mem_range.mpr (hb k hk)
  rwa [List.length_range] at this
end Tb
end -- SideMath
section -- LaneMath
set_option autoImplicit false
namespace Tb
variable {T : Tr}

/-- a lane: neighbours one after the other, each place between has just the two next to it -/
def Tr.Lane (T : Tr) : List Nat → Prop
  | [] => False
  | [_] => False
  | [x, y] => T.Adj x y
  | x :: y :: z :: r => T.Adj x y ∧ x ≠ z ∧ (∀ b, T.Adj y b → b = x ∨ b = z) ∧ T.Lane (y :: z :: r)

/-- the last place and the one ahead of it -/
def lastTwo : Nat → Nat → List Nat → Nat × Nat
  | x, y, [] => (y, x)
  | _, y, z :: r => lastTwo y z r

theorem lastTwo_rev : ∀ (r : List Nat) (x y : Nat), ∃ t, (x :: y :: r).reverse = (lastTwo x y r).1 :: (lastTwo x y r).2 :: t
  | [], _, _ => ⟨[], rfl⟩
  | z :: r, x, y => by
    obtain ⟨t, e⟩ := lastTwo_rev r y z
    refine ⟨t ++ [x], ?_⟩
    rw [List.reverse_cons, e]
    rfl

theorem Tr.Lane.adj : ∀ {r : List Nat} {x y : Nat}, T.Lane (x :: y :: r) → T.Adj x y
  | [], _, _, h => h
  | _ :: _, _, _, h => h.1

theorem Tr.Lane.lastAdj : ∀ {r : List Nat} {x y : Nat}, T.Lane (x :: y :: r) → T.Adj (lastTwo x y r).1 (lastTwo x y r).2
  | [], _, _, h => Tr.Adj.symm h
  | z :: r, x, y, h => Tr.Lane.lastAdj (r := r) (x := y) (y := z) h.2.2.2

/-- the rest of a lane lies beyond its first step -/
theorem Tr.Lane.beyond : ∀ {r : List Nat} {x y : Nat}, T.Lane (x :: y :: r) → ∀ k ∈ y :: r, k < T.n ∧ T.Sd y x k
  | [], x, y, h, k, hk => by
    rw [List.mem_singleton.mp hk]
    exact ⟨h.2.1, Tr.sd_self h.symm⟩
  | z :: r, x, y, h, k, hk => by
    obtain ⟨h1, h2, h3, h4⟩ := h
    rcases List.mem_cons.mp hk with rfl | hk
    · exact ⟨h1.2.1, Tr.sd_self h1.symm⟩
    · obtain ⟨q1, q2⟩ := Tr.Lane.beyond h4 k hk
      refine ⟨q1, (Tr.sd_or h1).resolve_left fun s => ?_⟩
      exact Tr.sd_not h4.adj ((Tr.sd_pass h1 h4.adj h2 h3 q1).mpr (.inr s)) q2

theorem Tr.Lane.nodup : ∀ {r : List Nat} {x y : Nat}, T.Lane (x :: y :: r) → (x :: y :: r).Nodup
  | [], x, y, h => by
    refine List.nodup_cons.mpr ⟨fun z => h.ne (List.mem_singleton.mp z), List.nodup_cons.mpr ⟨List.not_mem_nil, List.nodup_nil⟩⟩
  | z :: r, x, y, h => List.nodup_cons.mpr ⟨fun q => Tr.sd_other (Tr.Adj.symm h.1) (h.beyond x q).2, Tr.Lane.nodup h.2.2.2⟩

theorem Tr.Lane.lt {r : List Nat} {x y : Nat} (h : T.Lane (x :: y :: r)) : ∀ k ∈ x :: y :: r, k < T.n := fun k hk => by
  rcases List.mem_cons.mp hk with rfl | hk
  · exact h.adj.1
  · exact (h.beyond k hk).1

/-- two neighbours on a lane stand one after the other -/
theorem Tr.Lane.next : ∀ {r : List Nat} {x y : Nat}, T.Lane (x :: y :: r) → ∀ a b, a ∈ x :: y :: r → b ∈ x :: y :: r → T.Adj a b → ∃ p q, x :: y :: r = p ++ a :: b :: q ∨ x :: y :: r = p ++ b :: a :: q
  | [], x, y, h, a, b, ha, hb, hab => by
    simp only [List.mem_cons, List.not_mem_nil, or_false] at ha hb
    rcases ha with rfl | rfl <;> rcases hb with rfl | rfl
    · exact absurd rfl hab.ne
    · exact ⟨[], [], .inl rfl⟩
    · exact ⟨[], [], .inr rfl⟩
    · exact absurd rfl hab.ne
  | z :: r, x, y, h, a, b, ha, hb, hab => by
    have one : ∀ c ∈ y :: z :: r, T.Adj x c → c = y := fun c hc hxc =>
      (Tr.cross hxc (Tr.sd_self h.1) fun s => Tr.sd_not h.1 s (h.beyond c hc).2).2
    rcases List.mem_cons.mp ha with ea | ha2
    · rcases List.mem_cons.mp hb with eb | hb2
      · exact absurd (ea.trans eb.symm) hab.ne
      · rw [ea] at hab
        rw [one b hb2 hab, ea]
        exact ⟨[], z :: r, .inl rfl⟩
    · rcases List.mem_cons.mp hb with eb | hb2
      · rw [eb] at hab
        rw [one a ha2 hab.symm, eb]
        exact ⟨[], z :: r, .inr rfl⟩
      · obtain ⟨p, q, e | e⟩ := Tr.Lane.next h.2.2.2 a b ha2 hb2 hab
        · exact ⟨x :: p, q, .inl (by rw [e] <;> rfl)⟩
        · exact ⟨x :: p, q, .inr (by rw [e] <;> rfl)⟩

/-- each place is at the first side, on the lane or at the last side -/
theorem Tr.Lane.cover : ∀ {r : List Nat} {x y : Nat}, T.Lane (x :: y :: r) → ∀ j, j < T.n → T.Sd y x j → j ∈ y :: r ∨ T.Sd (lastTwo x y r).1 (lastTwo x y r).2 j
  | [], _, _, _, _, _, s => .inr s
  | z :: r, x, y, h, j, hj, s => by
    by_cases e : j = y
    · exact .inl (e ▸ List.mem_cons_self)
    · have ns : ¬ T.Sd y z j := fun q => ((Tr.sd_pass h.1 h.2.2.2.adj h.2.1 h.2.2.1 hj).mp q).elim e fun w => Tr.sd_not h.1 w s
      rcases Tr.Lane.cover h.2.2.2 j hj ((Tr.sd_or h.2.2.2.adj).resolve_left ns) with q | q
      · exact .inl (List.mem_cons_of_mem _ q)
      · exact .inr q

/-- the last side lies beyond the first step, and meets the lane in its last place alone -/
theorem Tr.Lane.far : ∀ {r : List Nat} {x y : Nat}, T.Lane (x :: y :: r) → ∀ j, j < T.n → T.Sd (lastTwo x y r).1 (lastTwo x y r).2 j → T.Sd y x j ∧ (j ∈ x :: y :: r → j = (lastTwo x y r).1)
  | [], x, y, h, j, _, s => ⟨s, fun hj => by
    simp only [List.mem_cons, List.not_mem_nil, or_false] at hj
    rcases hj with rfl | rfl
    · exact absurd s (Tr.sd_other (Tr.Adj.symm h))
    · rfl⟩
  | z :: r, x, y, h, j, hj, s => by
    obtain ⟨q1, q2⟩ := Tr.Lane.far h.2.2.2 j hj s
    have ns : ¬ T.Sd x y j := fun w => Tr.sd_not h.2.2.2.adj ((Tr.sd_pass h.1 h.2.2.2.adj h.2.1 h.2.2.1 hj).mpr (.inr w)) q1
    have sy : T.Sd y x j := (Tr.sd_or h.1).resolve_left ns
    refine ⟨sy, fun hm => ?_⟩
    rcases List.mem_cons.mp hm with rfl | hm
    · exact absurd sy (Tr.sd_other h.1.symm)
    · exact q2 hm

theorem lastTwo_mem : ∀ (r : List Nat) (x y : Nat), (lastTwo x y r).1 ∈ y :: r
  | [], _, _ => List.mem_cons_self
  | z :: r, _, y => List.mem_cons_of_mem _ (lastTwo_mem r y z)

/-- one more place -/
theorem Tr.Lane.snoc : ∀ {r : List Nat} {x y z : Nat}, T.Lane (x :: y :: r) → T.Adj (lastTwo x y r).1 z → (lastTwo x y r).2 ≠ z → (∀ b, T.Adj (lastTwo x y r).1 b → b = (lastTwo x y r).2 ∨ b = z) → T.Lane (x :: y :: (r ++ [z]))
  | [], _, _, _, h, h1, h2, h3 => ⟨h, h2, h3, h1⟩
  | _ :: _, _, _, _, h, h1, h2, h3 => ⟨h.1, h.2.1, h.2.2.1, Tr.Lane.snoc h.2.2.2 h1 h2 h3⟩

theorem lastTwo_snoc : ∀ (r : List Nat) (x y z : Nat), lastTwo x y (r ++ [z]) = (z, (lastTwo x y r).1)
  | [], _, _, _ => rfl
  | w :: r, _, y, z => lastTwo_snoc r y w z

end Tb
end -- LaneMath
section -- SignMath
set_option autoImplicit false
namespace Tb
variable {T : Tr}
open Classical

/-- how many places with P have no pebble -/
noncomputable def holes (n : Nat) (F : Nat → Bool) (P : Nat → Prop) : Nat := (List.range n).countP fun k => decide (P k) && !F k

def b2n (b : Bool) : Nat := if b = true then 1 else 0

theorem countP_two {l : List Nat} (nd : l.Nodup) {p q : Nat} (hp : p ∈ l) (hq : q ∈ l) (hne : p ≠ q) (g g' : Nat → Bool) (h : ∀ k, k ≠ p → k ≠ q → g k = g' k) :
    l.countP g + (b2n (g' p) + b2n (g' q)) = l.countP g' + (b2n (g p) + b2n (g q)) := by
  have q1 : l.Perm (p :: l.erase p) := List.perm_cons_erase hp
  have hq' : q ∈ l.erase p := (List.mem_erase_of_ne hne.symm).mpr hq
  have q2 : (l.erase p).Perm (q :: (l.erase p).erase q) := List.perm_cons_erase hq'
  have nd1 := nd.erase p
  have e : ∀ f : Nat → Bool, l.countP f = ((l.erase p).erase q).countP f + b2n (f q) + b2n (f p) := fun f => by
    rw [q1.countP_eq, List.countP_cons, q2.countP_eq, List.countP_cons]
    unfold b2n
    rfl
  have same : ((l.erase p).erase q).countP g = ((l.erase p).erase q).countP g' := by
    refine List.countP_congr fun k hk => ?_
    have k1 : k ≠ q := fun z => by
      rw [z] at hk
      exact (List.Nodup.mem_erase_iff nd1).mp hk |>.1 rfl
    have hk2 := List.mem_of_mem_erase hk
    have k2 : k ≠ p := fun z => by
      rw [z] at hk2
      exact (List.Nodup.mem_erase_iff nd).mp hk2 |>.1 rfl
    rw [h k k2 k1]
  rw [e g, e g', same]
  omega

/-- a pebble goes from p to q -/
structure Shift (n : Nat) (F F' : Nat → Bool) (p q : Nat) : Prop where
  hp : p < n
  hq : q < n
  ne : p ≠ q
  fp : F p = true
  fq : F q = false
  gp : F' p = false
  gq : F' q = true
  same : ∀ k, k ≠ p → k ≠ q → F k = F' k

theorem Shift.symm {n : Nat} {F F' : Nat → Bool} {p q : Nat} (s : Shift n F F' p q) : Shift n F' F q p :=
  ⟨s.hq, s.hp, s.ne.symm, s.gq, s.gp, s.fq, s.fp, fun k h1 h2 => (s.same k h2 h1).symm⟩

theorem Shift.holes {n : Nat} {F F' : Nat → Bool} {p q : Nat} (s : Shift n F F' p q) (P : Nat → Prop) :
    holes n F P + b2n (decide (P p)) = holes n F' P + b2n (decide (P q)) := by
  have z := countP_two (l := List.range n) List.nodup_range (List.mem_range.mpr s.hp) (List.mem_range.mpr s.hq) s.ne (fun k => decide (P k) && !F k) (fun k => decide (P k) && !F' k) fun k h1 h2 => by
    rw [s.same k h1 h2]
  simp only [s.fp, s.fq, s.gp, s.gq, Bool.not_true, Bool.not_false, Bool.and_true, Bool.and_false] at z
  unfold Tb.holes
  have e0 : b2n false = 0 := rfl
  rw [e0] at z
  omega

/-- the signs of a lane -/
inductive Sg where
  | bef
  | beh
  | num (i : Nat)
  deriving DecidableEq

def preOf (l : List Nat) (k : Nat) : List Nat := l.takeWhile fun j => j != k
def postOf (l : List Nat) (k : Nat) : List Nat := (l.dropWhile fun j => j != k).drop 1

theorem pre_app : ∀ {p q : List Nat} {k : Nat}, k ∉ p → preOf (p ++ k :: q) k = p
  | [], q, k, _ => by simp [preOf]
  | a :: p, q, k, h => by
    have h1 : a ≠ k := fun e => h (e ▸ List.mem_cons_self)
    have h2 : k ∉ p := fun z => h (List.mem_cons_of_mem _ z)
    have ih := pre_app (q := q) h2
    unfold preOf at ih ⊢
    rw [List.cons_append, List.takeWhile_cons, if_pos (by simpa using h1), ih]
theorem post_app : ∀ {p q : List Nat} {k : Nat}, k ∉ p → postOf (p ++ k :: q) k = q
  | [], q, k, _ => by simp [postOf]
  | a :: p, q, k, h => by
    have h1 : a ≠ k := fun e => h (e ▸ List.mem_cons_self)
    have h2 : k ∉ p := fun z => h (List.mem_cons_of_mem _ z)
    have ih := post_app (q := q) h2
    unfold postOf at ih ⊢
    rw [List.cons_append, List.dropWhile_cons, if_pos (by simpa using h1), ih]
theorem split_at {l : List Nat} {k : Nat} (h : k ∈ l) (nd : l.Nodup) : ∃ p q, l = p ++ k :: q ∧ k ∉ p ∧ k ∉ q := by
  obtain ⟨p, q, e⟩ := List.append_of_mem h
  rw [e] at nd
  obtain ⟨_, h2, h3⟩ := List.nodup_append.mp nd
  exact ⟨p, q, e, fun z => h3 k z k List.mem_cons_self rfl, (List.nodup_cons.mp h2).1⟩

/-- the places at the first side but the first one of the lane; at the last side likewise -/
def Tr.Ap (T : Tr) (x y : Nat) (j : Nat) : Prop := T.Sd x y j ∧ j ≠ x

structure Parts where
  A : Nat → Prop
  B : Nat → Prop
  lane : List Nat

/-- the sign that a place's pebble has -/
noncomputable def sgn (n : Nat) (D : Parts) (F : Nat → Bool) (k : Nat) : Sg :=
  if D.A k then .bef else if D.B k then .beh else
    if (preOf D.lane k).countP F < holes n F D.A then .bef else
      if (postOf D.lane k).countP F < holes n F D.B then .beh else .num ((preOf D.lane k).countP F - holes n F D.A + 1)

/-- what is used of a lane -/
structure Parts.Ok (T : Tr) (D : Parts) (x v : Nat) : Prop where
  nd : D.lane.Nodup
  lt : ∀ k ∈ D.lane, k < T.n
  first : ∃ r, D.lane = x :: r
  last : ∃ r, D.lane = r ++ [v]
  notA : ∀ k, D.A k → k ∉ D.lane
  notB : ∀ k, D.B k → k ∉ D.lane
  notAB : ∀ k, k < T.n → D.A k → D.B k → False
  cover : ∀ k, k < T.n → D.A k ∨ k ∈ D.lane ∨ D.B k
  outA : ∀ a b, T.Adj a b → D.A a → D.A b ∨ b = x
  outB : ∀ a b, T.Adj a b → D.B a → D.B b ∨ b = v
  next : ∀ a b, a ∈ D.lane → b ∈ D.lane → T.Adj a b → ∃ p q, D.lane = p ++ a :: b :: q ∨ D.lane = p ++ b :: a :: q

theorem snoc_of : ∀ (r : List Nat) (x y : Nat), ∃ t, x :: y :: r = t ++ [(lastTwo x y r).1]
  | [], x, _ => ⟨[x], rfl⟩
  | z :: r, x, y => by
    obtain ⟨t, e⟩ := snoc_of r y z
    exact ⟨x :: t, by
      show x :: y :: z :: r = x :: (t ++ [(lastTwo y z r).1])
      rw [e]⟩

def Tr.parts (T : Tr) : List Nat → Parts
  | x :: y :: r => ⟨T.Ap x y, T.Ap (lastTwo x y r).1 (lastTwo x y r).2, x :: y :: r⟩
  | l => ⟨fun _ => False, fun _ => False, l⟩

theorem Tr.Lane.parts {r : List Nat} {x y : Nat} (h : T.Lane (x :: y :: r)) : (T.parts (x :: y :: r)).Ok T x (lastTwo x y r).1 where
  nd := h.nodup
  lt := h.lt
  first := ⟨_, rfl⟩
  last := snoc_of r x y
  notA := fun k ⟨a1, a2⟩ hk => (List.mem_cons.mp hk).elim a2 fun hk => Tr.sd_not h.adj a1 (h.beyond k hk).2
  notB := fun k ⟨a1, a2⟩ hk => a2 ((h.far k (h.lt k hk) a1).2 hk)
  notAB := fun k hk ⟨a1, _⟩ ⟨b1, _⟩ => Tr.sd_not h.adj a1 (h.far k hk b1).1
  cover := fun k hk => by
    rcases Tr.sd_or h.adj (j := k) with s | s
    · by_cases e : k = x
      · exact .inr (.inl (e ▸ List.mem_cons_self))
      · exact .inl ⟨s, e⟩
    · rcases h.cover k hk s with q | q
      · exact .inr (.inl (List.mem_cons_of_mem _ q))
      · by_cases e : k = (lastTwo x y r).1
        · exact .inr (.inl (List.mem_cons_of_mem _ (e ▸ lastTwo_mem r x y)))
        · exact .inr (.inr ⟨q, e⟩)
  outA := fun a b hab ⟨a1, a2⟩ => by
    by_cases s : T.Sd x y b
    · by_cases e : b = x
      · exact .inr e
      · exact .inl ⟨s, e⟩
    · exact absurd (Tr.cross hab a1 s).1 a2
  outB := fun a b hab ⟨a1, a2⟩ => by
    by_cases s : T.Sd (lastTwo x y r).1 (lastTwo x y r).2 b
    · by_cases e : b = (lastTwo x y r).1
      · exact .inr e
      · exact .inl ⟨s, e⟩
    · exact absurd (Tr.cross hab a1 s).1 a2
  next := h.next

section
variable {D : Parts} {x v : Nat} {F F' : Nat → Bool} {p q : Nat}

theorem holes_split (O : D.Ok T x v) (F : Nat → Bool) : holes T.n F (fun _ => True) = holes T.n F D.A + holes T.n F D.B + D.lane.countP (fun k => !F k) := by
  have perm : (List.range T.n).Perm ((List.range T.n).filter (fun k => decide (D.A k)) ++ (List.range T.n).filter (fun k => decide (D.B k)) ++ D.lane) := by
    refine (List.perm_ext_iff_of_nodup List.nodup_range ?_).mpr fun k => ?_
    · refine List.nodup_append.mpr ⟨List.nodup_append.mpr ⟨nodup_filter _ List.nodup_range, nodup_filter _ List.nodup_range, fun a ha b hb e => ?_⟩, O.nd, fun a ha b hb e => ?_⟩
      · subst e
        obtain ⟨h1, h2⟩ := List.mem_filter.mp ha
        obtain ⟨_, h4⟩ := List.mem_filter.mp hb
        exact O.notAB a (List.mem_range.mp h1) (of_decide_eq_true h2) (of_decide_eq_true h4)
      · subst e
        rcases List.mem_append.mp ha with ha | ha
        · exact O.notA a (of_decide_eq_true (List.mem_filter.mp ha).2) hb
        · exact O.notB a (of_decide_eq_true (List.mem_filter.mp ha).2) hb
    · rw [List.mem_append, List.mem_append, List.mem_filter, List.mem_filter, List.mem_range, decide_eq_true_eq, decide_eq_true_eq]
      constructor
      · intro hk
        rcases O.cover k hk with c | c | c
        · exact .inl (.inl ⟨hk, c⟩)
        · exact .inr c
        · exact .inl (.inr ⟨hk, c⟩)
      · rintro ((h | h) | h)
        · exact h.1
        · exact h.1
        · exact O.lt k h
  have e1 : holes T.n F (fun _ => True) = (List.range T.n).countP fun k => !F k := by
    unfold holes
    simp
  rw [e1, perm.countP_eq, List.countP_append, List.countP_append, List.countP_filter, List.countP_filter]
  unfold holes
  have c1 : (fun a => (!F a) && decide (D.A a)) = fun a => decide (D.A a) && !F a := by
    funext a
    exact Bool.and_comm _ _
  have c2 : (fun a => (!F a) && decide (D.B a)) = fun a => decide (D.B a) && !F a := by
    funext a
    exact Bool.and_comm _ _
  rw [c1, c2]

theorem countP_not (F : Nat → Bool) : ∀ l : List Nat, l.countP F + l.countP (fun k => !F k) = l.length
  | [] => rfl
  | a :: l => by
    have ih := countP_not F l
    rw [List.countP_cons, List.countP_cons, List.length_cons]
    cases F a <;> simp <;> omega

/-- on a long lane there are pebbles enough -/
theorem enough (O : D.Ok T x v) (F : Nat → Bool) (hl : holes T.n F (fun _ => True) ≤ D.lane.length) : holes T.n F D.A + holes T.n F D.B ≤ D.lane.countP F := by
  have h1 := holes_split O F
  have h2 := countP_not F D.lane
  omega

theorem count_same {l : List Nat} (s : Shift T.n F F' p q) (hp : p ∉ l) (hq : q ∉ l) : l.countP F = l.countP F' :=
  List.countP_congr fun k hk => by rw [s.same k (fun e => hp (e ▸ hk)) fun e => hq (e ▸ hk)]

theorem sub_pre {l : List Nat} {k j : Nat} (h : j ∈ preOf l k) : j ∈ l := (List.takeWhile_sublist _).mem h
theorem sub_post {l : List Nat} {k j : Nat} (h : j ∈ postOf l k) : j ∈ l := ((List.drop_sublist _ _).trans (List.dropWhile_sublist _)).mem h

/-- what a move does to the signs: nothing -/
def Keeps (n : Nat) (D : Parts) (F F' : Nat → Bool) (p q : Nat) : Prop := (∀ k, k < n → k ≠ p → k ≠ q → F k = true → sgn n D F k = sgn n D F' k) ∧ sgn n D F p = sgn n D F' q

theorem Keeps.symm {n : Nat} (s : Shift n F F' p q) (h : Keeps n D F F' p q) : Keeps n D F' F q p :=
  ⟨fun k hk h1 h2 h3 => (h.1 k hk h2 h1 (by rw [s.same k h2 h1, h3])).symm, h.2.symm⟩

/-- a move off the lane -/
theorem keeps_off (s : Shift T.n F F' p q) (hp : p ∉ D.lane) (hq : q ∉ D.lane) (hA : D.A p ↔ D.A q) (hB : D.B p ↔ D.B q) (hs : D.A p ∨ D.B p) : Keeps T.n D F F' p q := by
  have a := s.holes D.A
  have b := s.holes D.B
  rw [show decide (D.A p) = decide (D.A q) from decide_eq_decide.mpr hA] at a
  rw [show decide (D.B p) = decide (D.B q) from decide_eq_decide.mpr hB] at b
  have a' : holes T.n F D.A = holes T.n F' D.A := by omega
  have b' : holes T.n F D.B = holes T.n F' D.B := by omega
  refine ⟨fun k _ _ _ _ => ?_, ?_⟩
  · have c1 := count_same (l := preOf D.lane k) s (fun z => hp (sub_pre z)) fun z => hq (sub_pre z)
    have c2 := count_same (l := postOf D.lane k) s (fun z => hp (sub_post z)) fun z => hq (sub_post z)
    unfold sgn
    rw [a', b', c1, c2]
  · unfold sgn
    by_cases c : D.A p
    · rw [if_pos c, if_pos (hA.mp c)]
    · have d : D.B p := hs.resolve_left c
      rw [if_neg c, if_pos d, if_neg (fun z => c (hA.mpr z)), if_pos (hB.mp d)]

/-- a move along the lane -/
theorem keeps_on (O : D.Ok T x v) (s : Shift T.n F F' p q) {l r : List Nat} (e : D.lane = l ++ p :: q :: r) : Keeps T.n D F F' p q := by
  have nd := O.nd
  rw [e] at nd
  obtain ⟨_, nd2, nd3⟩ := List.nodup_append.mp nd
  obtain ⟨n1, n2⟩ := List.nodup_cons.mp nd2
  obtain ⟨n3, n4⟩ := List.nodup_cons.mp n2
  have pl : p ∉ l := fun z => nd3 p z p List.mem_cons_self rfl
  have ql : q ∉ l := fun z => nd3 q z q (List.mem_cons_of_mem _ List.mem_cons_self) rfl
  have pr : p ∉ r := fun z => n1 (List.mem_cons_of_mem _ z)
  have pL : p ∈ D.lane := by rw [e]; exact List.mem_append_right _ List.mem_cons_self
  have qL : q ∈ D.lane := by rw [e]; exact List.mem_append_right _ (List.mem_cons_of_mem _ List.mem_cons_self)
  have nA : ∀ k, k ∈ D.lane → ¬ D.A k := fun k hk a => O.notA k a hk
  have nB : ∀ k, k ∈ D.lane → ¬ D.B k := fun k hk a => O.notB k a hk
  have a := s.holes D.A
  have b := s.holes D.B
  rw [decide_eq_false (nA p pL), decide_eq_false (nA q qL)] at a
  rw [decide_eq_false (nB p pL), decide_eq_false (nB q qL)] at b
  have a' : holes T.n F D.A = holes T.n F' D.A := by omega
  have b' : holes T.n F D.B = holes T.n F' D.B := by omega
  have two : ∀ t u : List Nat, p ∉ t → q ∉ t → p ∉ u → q ∉ u → (t ++ p :: q :: u).countP F = (t ++ p :: q :: u).countP F' := fun t u h1 h2 h3 h4 => by
    rw [List.countP_append, List.countP_append, List.countP_cons, List.countP_cons, List.countP_cons, List.countP_cons, count_same s h1 h2, count_same s h3 h4, s.fp, s.fq, s.gp, s.gq]
    simp
  refine ⟨fun k hk h1 h2 _ => ?_, ?_⟩
  · unfold sgn
    by_cases c1 : D.A k
    · rw [if_pos c1, if_pos c1]
    · by_cases c2 : D.B k
      · rw [if_neg c1, if_pos c2, if_neg c1, if_pos c2]
      · have hkl : k ∈ D.lane := ((O.cover k hk).resolve_left c1).resolve_right c2
        have hkl2 := hkl
        rw [e] at hkl2
        have cnt : (preOf D.lane k).countP F = (preOf D.lane k).countP F' ∧ (postOf D.lane k).countP F = (postOf D.lane k).countP F' := by
          rw [e]
          rcases List.mem_append.mp hkl2 with hm | hm
          · obtain ⟨l1, l2, e2, k1, k2⟩ := split_at hm (List.nodup_append.mp nd).1
            have f : l ++ p :: q :: r = l1 ++ k :: (l2 ++ p :: q :: r) := by rw [e2]; simp
            have s1 : p ∉ l1 := fun z => pl (by rw [e2]; exact List.mem_append_left _ z)
            have s2 : q ∉ l1 := fun z => ql (by rw [e2]; exact List.mem_append_left _ z)
            have s3 : p ∉ l2 := fun z => pl (by rw [e2]; exact List.mem_append_right _ (List.mem_cons_of_mem _ z))
            have s4 : q ∉ l2 := fun z => ql (by rw [e2]; exact List.mem_append_right _ (List.mem_cons_of_mem _ z))
            rw [f, pre_app k1, post_app k1]
            exact ⟨count_same s s1 s2, two l2 r s3 s4 pr n3⟩
          · have hm2 : k ∈ r := by
              rcases List.mem_cons.mp hm with z | z
              · exact absurd z h1
              · rcases List.mem_cons.mp z with z | z
                · exact absurd z h2
                · exact z
            obtain ⟨r1, r2, e2, k1, k2⟩ := split_at hm2 n4
            have f : l ++ p :: q :: r = (l ++ p :: q :: r1) ++ k :: r2 := by rw [e2]; simp
            have k3 : k ∉ l ++ p :: q :: r1 := fun z => by
              rcases List.mem_append.mp z with z | z
              · exact nd3 k z k hm rfl
              · rcases List.mem_cons.mp z with z | z
                · exact h1 z
                · rcases List.mem_cons.mp z with z | z
                  · exact h2 z
                  · exact k1 z
            have s1 : p ∉ r1 := fun z => pr (by rw [e2]; exact List.mem_append_left _ z)
            have s2 : q ∉ r1 := fun z => n3 (by rw [e2]; exact List.mem_append_left _ z)
            have s3 : p ∉ r2 := fun z => pr (by rw [e2]; exact List.mem_append_right _ (List.mem_cons_of_mem _ z))
            have s4 : q ∉ r2 := fun z => n3 (by rw [e2]; exact List.mem_append_right _ (List.mem_cons_of_mem _ z))
            rw [f, pre_app k3, post_app k3]
            exact ⟨two l r1 pl ql s1 s2, count_same s s3 s4⟩
        rw [if_neg c1, if_neg c1, if_neg c2, if_neg c2, a', b', cnt.1, cnt.2]
  · have f : l ++ p :: q :: r = (l ++ [p]) ++ q :: r := by simp
    have q3 : q ∉ l ++ [p] := fun z => by
      rcases List.mem_append.mp z with z | z
      · exact ql z
      · exact s.ne (List.mem_singleton.mp z).symm
    have w1 : preOf D.lane p = l := by rw [e, pre_app pl]
    have w2 : postOf D.lane p = q :: r := by rw [e, post_app pl]
    have w3 : preOf D.lane q = l ++ [p] := by rw [e, f, pre_app q3]
    have w4 : postOf D.lane q = r := by rw [e, f, post_app q3]
    have v1 : l.countP F = l.countP F' := count_same s pl ql
    have v2 : r.countP F = r.countP F' := count_same s pr n3
    unfold sgn
    rw [if_neg (nA p pL), if_neg (nB p pL), if_neg (nA q qL), if_neg (nB q qL), w1, w2, w3, w4, a', b', List.countP_append, List.countP_cons, List.countP_singleton, s.fq, s.gp, v1, v2]
    simp

/-- a move from the first place into the first side -/
theorem keeps_in (O : D.Ok T x v) (s : Shift T.n F F' x q) (hq : D.A q) : Keeps T.n D F F' x q := by
  obtain ⟨r, e⟩ := O.first
  have nd := O.nd
  rw [e] at nd
  obtain ⟨n1, n2⟩ := List.nodup_cons.mp nd
  have xL : x ∈ D.lane := by rw [e]; exact List.mem_cons_self
  have nA : ∀ k, k ∈ D.lane → ¬ D.A k := fun k hk a => O.notA k a hk
  have nB : ∀ k, k ∈ D.lane → ¬ D.B k := fun k hk a => O.notB k a hk
  have qL : q ∉ D.lane := O.notA q hq
  have qB : ¬ D.B q := fun z => O.notAB q s.hq hq z
  have a := s.holes D.A
  have b := s.holes D.B
  rw [decide_eq_false (nA x xL), decide_eq_true hq] at a
  rw [decide_eq_false (nB x xL), decide_eq_false qB] at b
  have e0 : b2n false = 0 := rfl
  have e1 : b2n true = 1 := rfl
  rw [e0, e1] at a
  have b' : holes T.n F D.B = holes T.n F' D.B := by omega
  refine ⟨fun k hk h1 h2 _ => ?_, ?_⟩
  · unfold sgn
    by_cases c1 : D.A k
    · rw [if_pos c1, if_pos c1]
    · by_cases c2 : D.B k
      · rw [if_neg c1, if_pos c2, if_neg c1, if_pos c2]
      · have hkl : k ∈ D.lane := ((O.cover k hk).resolve_left c1).resolve_right c2
        rw [e] at hkl
        have hkr : k ∈ r := (List.mem_cons.mp hkl).resolve_left h1
        obtain ⟨r1, r2, e2, k1, k2⟩ := split_at hkr n2
        have f : D.lane = (x :: r1) ++ k :: r2 := by rw [e, e2]; rfl
        have k3 : k ∉ x :: r1 := fun z => (List.mem_cons.mp z).elim h1 k1
        have x1 : x ∉ r1 := fun z => n1 (by rw [e2]; exact List.mem_append_left _ z)
        have x2 : x ∉ r2 := fun z => n1 (by rw [e2]; exact List.mem_append_right _ (List.mem_cons_of_mem _ z))
        have q1 : q ∉ r1 := fun z => qL (by rw [e, e2]; exact List.mem_cons_of_mem _ (List.mem_append_left _ z))
        have q2 : q ∉ r2 := fun z => qL (by rw [e, e2]; exact List.mem_cons_of_mem _ (List.mem_append_right _ (List.mem_cons_of_mem _ z)))
        have v1 : r1.countP F = r1.countP F' := count_same s x1 q1
        have v2 : r2.countP F = r2.countP F' := count_same s x2 q2
        rw [if_neg c1, if_neg c1, if_neg c2, if_neg c2, f, pre_app k3, post_app k3, List.countP_cons, List.countP_cons, s.fp, s.gp, v1, v2, b']
        simp only [if_true, Bool.false_eq_true, if_false]
        by_cases d1 : r1.countP F' < holes T.n F' D.A
        · rw [if_pos (show r1.countP F' + 1 < holes T.n F D.A by omega), if_pos (show r1.countP F' + 0 < holes T.n F' D.A by omega)]
        · rw [if_neg (show ¬ r1.countP F' + 1 < holes T.n F D.A by omega), if_neg (show ¬ r1.countP F' + 0 < holes T.n F' D.A by omega)]
          by_cases d2 : r2.countP F' < holes T.n F' D.B
          · rw [if_pos d2, if_pos d2]
          · rw [if_neg d2, if_neg d2, show r1.countP F' + 1 - holes T.n F D.A + 1 = r1.countP F' + 0 - holes T.n F' D.A + 1 by omega]
  · have w1 : preOf D.lane x = [] := by
      rw [e]
      exact pre_app (p := []) List.not_mem_nil
    unfold sgn
    rw [if_neg (nA x xL), if_neg (nB x xL), if_pos hq, w1, if_pos (show ([] : List Nat).countP F < holes T.n F D.A by rw [List.countP_nil]; omega)]

/-- a move from the last place into the last side -/
theorem keeps_out (O : D.Ok T x v) (s : Shift T.n F F' v q) (hq : D.B q) (hl : holes T.n F (fun _ => True) ≤ D.lane.length) : Keeps T.n D F F' v q := by
  obtain ⟨r, e⟩ := O.last
  have nd := O.nd
  rw [e] at nd
  obtain ⟨n2, _, n3⟩ := List.nodup_append.mp nd
  have n1 : v ∉ r := fun z => n3 v z v (List.mem_singleton.mpr rfl) rfl
  have vL : v ∈ D.lane := by rw [e]; exact List.mem_append_right _ (List.mem_singleton.mpr rfl)
  have nA : ∀ k, k ∈ D.lane → ¬ D.A k := fun k hk a => O.notA k a hk
  have nB : ∀ k, k ∈ D.lane → ¬ D.B k := fun k hk a => O.notB k a hk
  have qL : q ∉ D.lane := O.notB q hq
  have qA : ¬ D.A q := fun z => O.notAB q s.hq z hq
  have a := s.holes D.A
  have b := s.holes D.B
  have en := enough O F hl
  rw [decide_eq_false (nA v vL), decide_eq_false qA] at a
  rw [decide_eq_false (nB v vL), decide_eq_true hq] at b
  have e0 : b2n false = 0 := rfl
  have e1 : b2n true = 1 := rfl
  rw [e0, e1] at b
  have a' : holes T.n F D.A = holes T.n F' D.A := by omega
  have cv : D.lane.countP F = r.countP F + 1 := by
    rw [e, List.countP_append, List.countP_singleton, s.fp] <;> rfl
  refine ⟨fun k hk h1 h2 _ => ?_, ?_⟩
  · unfold sgn
    by_cases c1 : D.A k
    · rw [if_pos c1, if_pos c1]
    · by_cases c2 : D.B k
      · rw [if_neg c1, if_pos c2, if_neg c1, if_pos c2]
      · have hkl : k ∈ D.lane := ((O.cover k hk).resolve_left c1).resolve_right c2
        rw [e] at hkl
        have hkr : k ∈ r := (List.mem_append.mp hkl).resolve_right fun z => h1 (List.mem_singleton.mp z)
        obtain ⟨r1, r2, e2, k1, k2⟩ := split_at hkr n2
        have f : D.lane = r1 ++ k :: (r2 ++ [v]) := by rw [e, e2]; simp
        have x1 : v ∉ r1 := fun z => n1 (by rw [e2]; exact List.mem_append_left _ z)
        have x2 : v ∉ r2 := fun z => n1 (by rw [e2]; exact List.mem_append_right _ (List.mem_cons_of_mem _ z))
        have q1 : q ∉ r1 := fun z => qL (by rw [e, e2]; exact List.mem_append_left _ (List.mem_append_left _ z))
        have q2 : q ∉ r2 := fun z => qL (by rw [e, e2]; exact List.mem_append_left _ (List.mem_append_right _ (List.mem_cons_of_mem _ z)))
        have v1 : r1.countP F = r1.countP F' := count_same s x1 q1
        have v2 : r2.countP F = r2.countP F' := count_same s x2 q2
        rw [if_neg c1, if_neg c1, if_neg c2, if_neg c2, f, pre_app k1, post_app k1, List.countP_append, List.countP_append, List.countP_singleton, List.countP_singleton, s.fp, s.gp, v1, v2, a']
        simp only [if_true, Bool.false_eq_true, if_false]
        by_cases d1 : r1.countP F' < holes T.n F' D.A
        · rw [if_pos d1, if_pos d1]
        · rw [if_neg d1, if_neg d1]
          by_cases d2 : r2.countP F' < holes T.n F' D.B
          · rw [if_pos (show r2.countP F' + 1 < holes T.n F D.B by omega), if_pos (show r2.countP F' + 0 < holes T.n F' D.B by omega)]
          · rw [if_neg (show ¬ r2.countP F' + 1 < holes T.n F D.B by omega), if_neg (show ¬ r2.countP F' + 0 < holes T.n F' D.B by omega)]
  · have w1 : preOf D.lane v = r := by rw [e, pre_app n1]
    have w2 : postOf D.lane v = [] := by rw [e, post_app n1]
    unfold sgn
    rw [if_neg (nA v vL), if_neg (nB v vL), if_neg qA, if_pos hq, w1, w2, if_neg (show ¬ r.countP F < holes T.n F D.A by omega), if_pos (show ([] : List Nat).countP F < holes T.n F D.B by rw [List.countP_nil]; omega)]

theorem holes_all (s : Shift T.n F F' p q) : holes T.n F (fun _ => True) = holes T.n F' (fun _ => True) := by
  have z := s.holes (fun _ => True)
  omega

/-- THE LAW: no move changes any sign for a long lane -/
theorem keeps_move (O : D.Ok T x v) (s : Shift T.n F F' p q) (hab : T.Adj p q) (hl : holes T.n F (fun _ => True) ≤ D.lane.length) : Keeps T.n D F F' p q := by
  have hl' : holes T.n F' (fun _ => True) ≤ D.lane.length := by rw [← holes_all s]; exact hl
  by_cases hA : D.A p
  · rcases O.outA p q hab hA with h | h
    · exact keeps_off s (O.notA p hA) (O.notA q h) ⟨fun _ => h, fun _ => hA⟩ ⟨fun z => (O.notAB p s.hp hA z).elim, fun z => (O.notAB q s.hq h z).elim⟩ (.inl hA)
    · subst h
      exact (keeps_in O s.symm hA).symm s.symm
  · by_cases hB : D.B p
    · rcases O.outB p q hab hB with h | h
      · exact keeps_off s (O.notB p hB) (O.notB q h) ⟨fun z => (O.notAB p s.hp z hB).elim, fun z => (O.notAB q s.hq z h).elim⟩ ⟨fun _ => h, fun _ => hB⟩ (.inr hB)
      · subst h
        exact (keeps_out O s.symm hB hl').symm s.symm
    · have pL : p ∈ D.lane := ((O.cover p s.hp).resolve_left hA).resolve_right hB
      rcases O.cover q s.hq with h | h | h
      · have e : p = x := (O.outA q p hab.symm h).resolve_left hA
        subst e
        exact keeps_in O s h
      · obtain ⟨l, r, e | e⟩ := O.next p q pL h hab
        · exact keeps_on O s e
        · exact (keeps_on O s.symm e).symm s.symm
      · have e : p = v := (O.outB q p hab.symm h).resolve_left hB
        subst e
        exact keeps_out O s h hl
end
end Tb
end -- SignMath
section -- RowMath
set_option autoImplicit false
namespace Tb
variable (T : Tr)
theorem Tr.nbTo_zero (x : Nat) : T.nbTo 0 x = [] := by
  unfold Tr.nbTo
  rw [if_neg (by omega)]
  rfl
theorem Tr.nbTo_one (x : Nat) : T.nbTo 1 x = [] := by
  unfold Tr.nbTo
  rw [if_neg (by omega)]
  simp
/-- one more place laid -/
theorem Tr.nbTo_step {i : Nat} (h0 : 0 < i) (hi : i < T.n) (x : Nat) : T.nbTo (i + 1) x = if x = i then T.nbTo i x ++ [T.pr i] else if x = T.pr i then T.nbTo i x ++ [i] else T.nbTo i x := by
  have hp := T.lt i h0 hi
  unfold Tr.nbTo
  rw [List.range_succ, List.filter_append]
  by_cases hx : x = i
  · subst hx
    have e : (List.range x).filter (fun k => decide (0 < k ∧ T.pr k = x)) = [] := by
      rw [List.filter_eq_nil_iff]
      intro k hk
      have hk' := List.mem_range.mp hk
      simp only [decide_eq_true_eq, not_and]
      intro h1 h2
      have := T.lt k h1 (by omega)
      omega
    rw [if_pos rfl, if_pos ⟨h0, by omega⟩, if_neg (by omega), e]
    have e2 : ([x] : List Nat).filter (fun k => decide (0 < k ∧ T.pr k = x)) = [] := by
      simp
      intro _ h
      omega
    rw [e2]
    rfl
  · rw [if_neg hx]
    have e1 : (0 < x ∧ x < i + 1) ↔ (0 < x ∧ x < i) := by omega
    by_cases hxp : x = T.pr i
    · rw [if_pos hxp]
      have e2 : ([i] : List Nat).filter (fun k => decide (0 < k ∧ T.pr k = x)) = [i] := by
        simp [h0, hxp]
      rw [e2, ← List.append_assoc]
      congr 1
      congr 1
      by_cases h : 0 < x ∧ x < i
      · rw [if_pos h, if_pos (e1.mpr h)]
      · rw [if_neg h, if_neg fun z => h (e1.mp z)]
    · rw [if_neg hxp]
      have e2 : ([i] : List Nat).filter (fun k => decide (0 < k ∧ T.pr k = x)) = [] := by
        simp
        intro _ h
        exact hxp h.symm
      rw [e2, List.append_nil]
      congr 1
      by_cases h : 0 < x ∧ x < i
      · rw [if_pos h, if_pos (e1.mpr h)]
      · rw [if_neg h, if_neg fun z => h (e1.mp z)]
/-- the rows rise -/
theorem Tr.nbTo_rise {i : Nat} (hi : i ≤ T.n) (x : Nat) : (T.nbTo i x).Pairwise (· < ·) := by
  unfold Tr.nbTo
  rw [List.pairwise_append]
  refine ⟨?_, List.Pairwise.filter _ List.pairwise_lt_range, fun a ha b hb => ?_⟩
  · split
    · exact List.pairwise_singleton ..
    · exact List.Pairwise.nil
  · split at ha
    · rename_i h
      rw [List.mem_singleton.mp ha]
      obtain ⟨h1, h2⟩ := List.mem_filter.mp hb
      have h3 := List.mem_range.mp h1
      obtain ⟨h4, h5⟩ := of_decide_eq_true h2
      have := T.lt x h.1 (by omega)
      have := T.lt b h4 (by omega)
      omega
    · cases ha
end Tb
end -- RowMath
section -- LaneMath2
set_option autoImplicit false
namespace Tb
variable {T : Tr}
theorem two_nb {l : List Nat} {p : Nat} (nd : l.Nodup) (h2 : l.length = 2) (hp : p ∈ l) : ∃ z, p ≠ z ∧ z ∈ l ∧ (∀ b ∈ l, b = p ∨ b = z) ∧ (l.filter fun k => decide (k ≠ p)) = [z] := by
  match l, h2 with
  | [a, b], _ =>
    have hab : a ≠ b := by
      have := (List.nodup_cons.mp nd).1
      simpa using this
    rcases List.mem_cons.mp hp with rfl | hp
    · refine ⟨b, hab, by simp, fun c hc => ?_, ?_⟩
      · simpa using hc
      · simp [hab.symm]
    · have e : p = b := by simpa using hp
      subst e
      refine ⟨a, hab.symm, by simp, fun c hc => ?_, ?_⟩
      · rcases List.mem_cons.mp hc with h | h
        · exact .inr h
        · exact .inl (by simpa using h)
      · simp [hab]
/-- the lane that starts by x, y, led on as far as it goes -/
def Tr.IsLane (T : Tr) (x y : Nat) (l : List Nat) : Prop := ∃ r, l = x :: y :: r ∧ T.Lane l ∧ (T.nb (lastTwo x y r).1).length ≠ 2
theorem nb_two {x y z : Nat} (hx : T.Adj y x) (hz : T.Adj y z) (hne : x ≠ z) (h : ∀ b, T.Adj y b → b = x ∨ b = z) : (T.nb y).length = 2 := by
  have hy := hx.1
  have nd := Tr.nodup_nb (T := T) y hy
  have p1 : (T.nb y).Perm [x, z] := by
    refine (List.perm_ext_iff_of_nodup nd ?_).mpr fun b => ?_
    · simp [hne]
    · rw [Tr.mem_nb hy]
      constructor
      · intro hb
        rcases h b hb with rfl | rfl <;> simp
      · intro hb
        rcases List.mem_cons.mp hb with rfl | hb
        · exact hx
        · rw [List.mem_singleton.mp hb]
          exact hz
  exact p1.length_eq
theorem Tr.Lane.step {x y z : Nat} {r : List Nat} (h : T.Lane (x :: y :: z :: r)) : T.Adj y x ∧ T.Adj y z ∧ x ≠ z ∧ (∀ b, T.Adj y b → b = x ∨ b = z) := ⟨h.1.symm, h.2.2.2.adj, h.2.1, h.2.2.1⟩
theorem Tr.lane_one : ∀ {r r' : List Nat} {x y : Nat}, T.Lane (x :: y :: r) → T.Lane (x :: y :: r') → (T.nb (lastTwo x y r).1).length ≠ 2 → (T.nb (lastTwo x y r').1).length ≠ 2 → r = r'
  | [], [], _, _, _, _, _, _ => rfl
  | [], z :: r', x, y, _, h', n, _ => by
    obtain ⟨a, b, c, d⟩ := h'.step
    exact absurd (nb_two a b c d) n
  | z :: r, [], x, y, h, _, _, n => by
    obtain ⟨a, b, c, d⟩ := h.step
    exact absurd (nb_two a b c d) n
  | z :: r, z' :: r', x, y, h, h', n, n' => by
    obtain ⟨a, b, c, d⟩ := h.step
    obtain ⟨a', b', c', d'⟩ := h'.step
    have e : z = z' := (d' z b).elim (fun e => absurd e.symm c) id
    subst e
    rw [Tr.lane_one (r := r) (r' := r') (x := y) (y := z) h.2.2.2 h'.2.2.2 n n']
theorem Tr.IsLane.one {x y : Nat} {l l' : List Nat} (h : T.IsLane x y l) (h' : T.IsLane x y l') : l = l' := by
  obtain ⟨r, rfl, h1, h2⟩ := h
  obtain ⟨r', rfl, h1', h2'⟩ := h'
  rw [Tr.lane_one h1 h1' h2 h2']
/-- a list's last item -/
def lastOf (l : List Nat) : Nat := l.getLastD 0
theorem lastOf_two (r : List Nat) (x y : Nat) : lastOf (x :: y :: r) = (lastTwo x y r).1 := by
  obtain ⟨t, e⟩ := snoc_of r x y
  rw [e]
  simp [lastOf]
inductive Lanes2 (T : Tr) (k : Nat) : List Nat → List (List Nat) → Prop
  | nil : Lanes2 T k [] []
  | cons {m : Nat} {ms : List Nat} {l : List Nat} {ls : List (List Nat)} : T.IsLane k m l → Lanes2 T k ms ls → Lanes2 T k (m :: ms) (l :: ls)
theorem Lanes2.one {k : Nat} : ∀ {ms : List Nat} {ls ls' : List (List Nat)}, Lanes2 T k ms ls → Lanes2 T k ms ls' → ls = ls'
  | [], _, _, .nil, .nil => rfl
  | _ :: _, _, _, .cons a b, .cons a' b' => by rw [a.one a', b.one b']
theorem Lanes2.snoc {k m : Nat} {l : List Nat} : ∀ {ms : List Nat} {ls : List (List Nat)}, Lanes2 T k ms ls → T.IsLane k m l → Lanes2 T k (ms ++ [m]) (ls ++ [l])
  | [], _, .nil, h => .cons h .nil
  | _ :: _, _, .cons a b, h => .cons a (b.snoc h)
theorem Lanes2.mem {k : Nat} : ∀ {ms : List Nat} {ls : List (List Nat)}, Lanes2 T k ms ls → ∀ l ∈ ls, ∃ m, T.IsLane k m l
  | [], _, .nil, _, h => nomatch h
  | _ :: _, _, .cons a b, l, h => by
    rcases List.mem_cons.mp h with rfl | h
    · exact ⟨_, a⟩
    · exact b.mem l h
theorem Lanes2.len {k : Nat} : ∀ {ms : List Nat} {ls : List (List Nat)}, Lanes2 T k ms ls → ls.length = ms.length
  | [], _, .nil => rfl
  | _ :: _, _, .cons a b => by rw [List.length_cons, List.length_cons, b.len]
/-- the lanes from k on -/
def sortL (ls : List (List Nat)) : List (List Nat) := ls.mergeSort fun a b => decide ((lastOf a : Int) ≤ (lastOf b : Int))
def Tr.LanesAt (T : Tr) (k : Nat) (L : List (List Nat)) : Prop := ((T.nb k).length = 2 ∧ L = []) ∨ ((T.nb k).length ≠ 2 ∧ ∃ ls, Lanes2 T k (T.nb k) ls ∧ L = sortL (ls.filter fun l => decide (k < lastOf l)))
theorem Tr.LanesAt.one {k : Nat} {L L' : List (List Nat)} (h : T.LanesAt k L) (h' : T.LanesAt k L') : L = L' := by
  rcases h with ⟨h, rfl⟩ | ⟨h, ls, h1, rfl⟩
  · rcases h' with ⟨_, rfl⟩ | ⟨h', _⟩
    · rfl
    · exact absurd h h'
  · rcases h' with ⟨h', _⟩ | ⟨_, ls', h1', rfl⟩
    · exact absurd h' h
    · rw [h1.one h1']
def Tr.IsLanes (T : Tr) : Nat → List (List Nat) → Prop
  | 0, L => L = []
  | i + 1, L => ∃ L0 Lk, T.IsLanes i L0 ∧ T.LanesAt i Lk ∧ L = L0 ++ Lk
theorem Tr.IsLanes.one : ∀ {i : Nat} {L L' : List (List Nat)}, T.IsLanes i L → T.IsLanes i L' → L = L'
  | 0, _, _, h, h' => h.trans h'.symm
  | i + 1, _, _, h, h' => by
    obtain ⟨a, b, h1, h2, rfl⟩ := h
    obtain ⟨a', b', h1', h2', rfl⟩ := h'
    rw [Tr.IsLanes.one h1 h1', h2.one h2']
theorem Tr.IsLanes.lane : ∀ {i : Nat} {L : List (List Nat)}, T.IsLanes i L → ∀ l ∈ L, ∃ x y r, l = x :: y :: r ∧ T.Lane l
  | 0, _, h, l, hl => by
    have h' : _ = [] := h
    rw [h'] at hl
    cases hl
  | i + 1, _, h, l, hl => by
    obtain ⟨a, b, h1, h2, rfl⟩ := h
    rcases List.mem_append.mp hl with hl | hl
    · exact h1.lane l hl
    · rcases h2 with ⟨_, rfl⟩ | ⟨_, ls, h3, rfl⟩
      · cases hl
      · have hm := List.mem_mergeSort.mp hl
        obtain ⟨m, r, e, h4, _⟩ := h3.mem l (List.mem_filter.mp hm).1
        exact ⟨i, m, r, e, h4⟩
/-- the long ones -/
def Tr.IsLong (T : Tr) (holes : Nat) (L : List (List Nat)) : Prop := ∃ L0, T.IsLanes T.n L0 ∧ L = L0.filter fun l => decide (holes ≤ l.length)
theorem Tr.IsLong.one {h : Nat} {L L' : List (List Nat)} (a : T.IsLong h L) (b : T.IsLong h L') : L = L' := by
  obtain ⟨x, h1, rfl⟩ := a
  obtain ⟨y, h2, rfl⟩ := b
  rw [h1.one h2]
theorem Tr.IsLanes.count : ∀ {i : Nat} {L : List (List Nat)}, (∀ x, (T.nb x).length ≤ T.n) → T.IsLanes i L → L.length ≤ i * T.n
  | 0, _, _, h => by
    have h' : _ = [] := h
    rw [h']
    exact Nat.zero_le _
  | i + 1, _, hb, h => by
    obtain ⟨a, b, h1, h2, rfl⟩ := h
    have ih := h1.count hb
    rw [List.length_append, Nat.succ_mul]
    rcases h2 with ⟨_, rfl⟩ | ⟨_, ls, h3, rfl⟩
    · simp only [List.length_nil]
      omega
    · unfold sortL
      rw [List.length_mergeSort]
      have h4 := List.length_filter_le (fun l => decide (i < lastOf l)) ls
      have h5 := h3.len
      have h6 := hb i
      omega
end Tb
end -- LaneMath2
section -- SignMath2
set_option autoImplicit false
namespace Tb
open Classical
variable {T : Tr}
theorem pre_cons_self (k : Nat) (l : List Nat) : preOf (k :: l) k = [] := by simp [preOf]
theorem pre_cons_ne {a k : Nat} (h : a ≠ k) (l : List Nat) : preOf (a :: l) k = a :: preOf l k := by simp [preOf, h]
/-- the first pebbles of a list -/
theorem take_mem (F : Nat → Bool) : ∀ (l : List Nat), l.Nodup → ∀ (m k : Nat), k ∈ (l.filter F).take m ↔ F k = true ∧ k ∈ l ∧ (preOf l k).countP F < m
  | [], _, m, k => by simp
  | a :: l, nd, m, k => by
    obtain ⟨ha, hl⟩ := List.nodup_cons.mp nd
    by_cases hF : F a = true
    · rw [List.filter_cons_of_pos hF]
      cases m with
      | zero => simp
      | succ m =>
        rw [List.take_succ_cons, List.mem_cons, take_mem F l hl m k]
        by_cases e : a = k
        · subst e
          simp [pre_cons_self, hF]
        · rw [pre_cons_ne e, List.countP_cons_of_pos hF, List.mem_cons]
          constructor
          · rintro (h | ⟨h1, h2, h3⟩)
            · exact absurd h.symm e
            · exact ⟨h1, .inr h2, by omega⟩
          · rintro ⟨h1, h2, h3⟩
            refine .inr ⟨h1, h2.resolve_left fun z => e z.symm, by omega⟩
    · have hF' : F a = false := by simpa using hF
      rw [List.filter_cons_of_neg hF, take_mem F l hl m k]
      by_cases e : a = k
      · subst e
        simp [hF']
      · rw [pre_cons_ne e, List.countP_cons_of_neg hF, List.mem_cons]
        constructor
        · rintro ⟨h1, h2, h3⟩
          exact ⟨h1, .inr h2, h3⟩
        · rintro ⟨h1, h2, h3⟩
          exact ⟨h1, h2.resolve_left fun z => e z.symm, h3⟩
/-- the pebbles before, as the program finds them: l the side's places, the lane's first place first -/
def befL (F : Nat → Bool) (l lane : List Nat) : List Nat :=
  if l.length - (l.filter F).length = 0 then (l.filter F).drop 1 else l.filter F ++ ((lane.drop 1).filter F).take (l.length - (l.filter F).length - 1)
theorem len_filter (F : Nat → Bool) (l : List Nat) : l.length - (l.filter F).length = l.countP fun k => !F k := by
  rw [← List.countP_eq_length_filter]
  have := countP_not F l
  omega
theorem holes_list {n : Nat} {F : Nat → Bool} {A : Nat → Prop} {l : List Nat} (nd : l.Nodup) (h : ∀ k, k ∈ l ↔ k < n ∧ A k) : holes n F A = l.countP fun k => !F k := by
  unfold holes
  have e : ((List.range n).filter fun k => decide (A k)).Perm l := by
    refine (List.perm_ext_iff_of_nodup (List.Pairwise.filter _ List.nodup_range) nd).mpr fun k => ?_
    rw [List.mem_filter, List.mem_range, h]
    simp
  rw [← e.countP_eq, List.countP_filter]
  refine List.countP_congr fun k _ => ?_
  simp [and_comm]
theorem bef_mem {n x : Nat} {ys l : List Nat} {A : Nat → Prop} {F : Nat → Bool} (nd : (x :: ys).Nodup) (ndl : l.Nodup) (hl : ∃ r, l = x :: r) (hm : ∀ k, k ∈ l ↔ k < n ∧ (A k ∨ k = x)) (hA : ∀ k, A k → k ∉ x :: ys) (k : Nat) :
    k ∈ befL F l (x :: ys) ↔ F k = true ∧ ((k < n ∧ A k) ∨ (k ∈ x :: ys ∧ (preOf (x :: ys) k).countP F < holes n F A)) := by
  obtain ⟨r, rfl⟩ := hl
  obtain ⟨hx, ndr⟩ := List.nodup_cons.mp ndl
  obtain ⟨hxy, ndy⟩ := List.nodup_cons.mp nd
  have hr : ∀ k, k ∈ r ↔ k < n ∧ A k := fun k => by
    constructor
    · intro h
      obtain ⟨h1, h2⟩ := (hm k).mp (List.mem_cons_of_mem _ h)
      refine ⟨h1, h2.resolve_right fun e => ?_⟩
      subst e
      exact hx h
    · rintro ⟨h1, h2⟩
      rcases List.mem_cons.mp ((hm k).mpr ⟨h1, .inl h2⟩) with e | h
      · exact absurd (List.mem_cons.mpr (.inl e)) (hA k h2)
      · exact h
  have hh : holes n F A = r.countP fun k => !F k := holes_list ndr hr
  have hxn : ¬ A x := fun z => hA x z (List.mem_cons_self ..)
  unfold befL
  rw [len_filter, List.drop_succ_cons, List.drop_zero]
  by_cases hF : F x = true
  · have e1 : (x :: r).countP (fun k => !F k) = r.countP fun k => !F k := List.countP_cons_of_neg (by simp [hF])
    rw [e1, ← hh, List.filter_cons_of_pos hF]
    by_cases h0 : holes n F A = 0
    · rw [if_pos h0, h0, List.drop_succ_cons, List.drop_zero, List.mem_filter, hr]
      constructor
      · rintro ⟨h1, h2⟩
        exact ⟨h2, .inl h1⟩
      · rintro ⟨h1, h2 | ⟨_, h2⟩⟩
        · exact ⟨h2, h1⟩
        · exact absurd h2 (Nat.not_lt_zero _)
    · rw [if_neg h0, List.mem_append, List.mem_cons, List.mem_filter, hr, take_mem F ys ndy]
      by_cases e : x = k
      · subst e
        constructor
        · intro _
          refine ⟨hF, .inr ⟨List.mem_cons_self .., ?_⟩⟩
          rw [pre_cons_self]
          exact Nat.pos_of_ne_zero h0
        · intro _
          exact .inl (.inl rfl)
      · rw [pre_cons_ne e, List.countP_cons_of_pos hF, List.mem_cons]
        constructor
        · rintro ((h | ⟨h1, h2⟩) | ⟨h1, h2, h3⟩)
          · exact absurd h.symm e
          · exact ⟨h2, .inl h1⟩
          · exact ⟨h1, .inr ⟨.inr h2, by omega⟩⟩
        · rintro ⟨h1, h2 | ⟨h2, h3⟩⟩
          · exact .inl (.inr ⟨h2, h1⟩)
          · exact .inr ⟨h1, h2.resolve_left fun z => e z.symm, by omega⟩
  · have hF' : F x = false := by simpa using hF
    have e1 : (x :: r).countP (fun k => !F k) = (r.countP fun k => !F k) + 1 := List.countP_cons_of_pos (by simp [hF'])
    rw [e1, ← hh, List.filter_cons_of_neg hF, if_neg (by omega), Nat.add_sub_cancel, List.mem_append, List.mem_filter, hr, take_mem F ys ndy]
    by_cases e : x = k
    · subst e
      constructor
      · rintro (⟨_, h⟩ | ⟨h, _⟩) <;> rw [hF'] at h <;> cases h
      · rintro ⟨h, _⟩
        rw [hF'] at h
        cases h
    · rw [pre_cons_ne e, List.countP_cons_of_neg hF, List.mem_cons]
      constructor
      · rintro (⟨h1, h2⟩ | ⟨h1, h2, h3⟩)
        · exact ⟨h2, .inl h1⟩
        · exact ⟨h1, .inr ⟨.inr h2, h3⟩⟩
      · rintro ⟨h1, h2 | ⟨h2, h3⟩⟩
        · exact .inl ⟨h2, h1⟩
        · exact .inr ⟨h1, h2.resolve_left fun z => e z.symm, h3⟩
/-- what stands before in the list turned round stood behind -/
theorem pre_rev {l : List Nat} {k : Nat} (h : k ∈ l) (nd : l.Nodup) : preOf l.reverse k = (postOf l k).reverse := by
  obtain ⟨p, q, rfl, hp, hq⟩ := split_at h nd
  rw [post_app hp, List.reverse_append, List.reverse_cons, List.append_assoc]
  exact pre_app (p := q.reverse) (q := p.reverse) (by simpa using hq)
/-- the first a pebbles of a list -/
theorem cnt_pre (F : Nat → Bool) (a : Nat) : ∀ (l : List Nat), l.Nodup → (l.countP fun i => F i && decide ((preOf l i).countP F < a)) = min a (l.countP F) := by
  intro l nd
  have e : (l.countP fun i => F i && decide ((preOf l i).countP F < a)) = ((l.filter F).take a).length := by
    have h2 : (l.filter fun i => F i && decide ((preOf l i).countP F < a)).Perm ((l.filter F).take a) := by
      refine (List.perm_ext_iff_of_nodup (List.Pairwise.filter _ nd) ((List.Pairwise.filter _ nd).sublist (List.take_sublist _ _))).mpr fun k => ?_
      rw [take_mem F l nd, List.mem_filter]
      simp only [Bool.and_eq_true, decide_eq_true_eq]
      constructor
      · rintro ⟨h1, h2, h3⟩
        exact ⟨h2, h1, h3⟩
      · rintro ⟨h1, h2, h3⟩
        exact ⟨h2, h1, h3⟩
    rw [List.countP_eq_length_filter, h2.length_eq]
  rw [e, List.length_take, List.countP_eq_length_filter]
end Tb
end -- SignMath2
section -- SignMath3
set_option autoImplicit false
namespace Tb
open Classical
variable {T : Tr} {D : Parts} {x v : Nat} {F : Nat → Bool}
/-- what the program's marks tell: M1 before, M2 behind -/
noncomputable def markS (lane M1 M2 : List Nat) (F : Nat → Bool) (k : Nat) : Option Sg :=
  if k ∈ M2 then some .beh else if k ∈ M1 then some .bef else if k ∈ lane ∧ F k = true then some (.num (1 + (preOf lane k).countP fun i => F i && decide (i ∉ M1 ∧ i ∉ M2))) else none
theorem count_split (F : Nat → Bool) (p : Nat → Bool) : ∀ l : List Nat, l.countP F = (l.countP fun i => F i && p i) + l.countP fun i => F i && !p i
  | [] => rfl
  | a :: l => by
    have ih := count_split F p l
    simp only [List.countP_cons]
    cases F a <;> cases p a <;> simp <;> omega
theorem mark_sgn (O : D.Ok T x v) (hl : holes T.n F (fun _ => True) ≤ D.lane.length) {M1 M2 : List Nat}
    (h1 : ∀ k, k ∈ M1 ↔ F k = true ∧ ((k < T.n ∧ D.A k) ∨ (k ∈ D.lane ∧ (preOf D.lane k).countP F < holes T.n F D.A)))
    (h2 : ∀ k, k ∈ M2 ↔ F k = true ∧ ((k < T.n ∧ D.B k) ∨ (k ∈ D.lane ∧ (postOf D.lane k).countP F < holes T.n F D.B))) {k : Nat} (hk : k < T.n) (hF : F k = true) : markS D.lane M1 M2 F k = some (sgn T.n D F k) := by
  have hen := enough O F hl
  by_cases hA : D.A k
  · have n2 : k ∉ M2 := fun z => by
      rcases ((h2 k).mp z).2 with ⟨_, z⟩ | ⟨z, _⟩
      · exact O.notAB k hk hA z
      · exact O.notA k hA z
    have n1 : k ∈ M1 := (h1 k).mpr ⟨hF, .inl ⟨hk, hA⟩⟩
    unfold markS sgn
    rw [if_neg n2, if_pos n1, if_pos hA]
  by_cases hB : D.B k
  · have n2 : k ∈ M2 := (h2 k).mpr ⟨hF, .inl ⟨hk, hB⟩⟩
    unfold markS sgn
    rw [if_pos n2, if_neg hA, if_pos hB]
  have hL : k ∈ D.lane := (O.cover k hk).elim (fun z => absurd z hA) fun z => z.elim id fun z => absurd z hB
  obtain ⟨p, q, e, hp, hq⟩ := split_at hL O.nd
  have ep : preOf D.lane k = p := by rw [e]; exact pre_app hp
  have eq : postOf D.lane k = q := by rw [e]; exact post_app hp
  have em : D.lane.countP F = p.countP F + 1 + q.countP F := by
    rw [e, List.countP_append, List.countP_cons_of_pos hF]
    omega
  by_cases ha : p.countP F < holes T.n F D.A
  · have n2 : k ∉ M2 := fun z => by
      rcases ((h2 k).mp z).2 with ⟨_, z⟩ | ⟨_, z⟩
      · exact hB z
      · rw [eq] at z
        omega
    have n1 : k ∈ M1 := (h1 k).mpr ⟨hF, .inr ⟨hL, by rw [ep]; exact ha⟩⟩
    unfold markS sgn
    rw [if_neg n2, if_pos n1, if_neg hA, if_neg hB, ep, if_pos ha]
  by_cases hb : q.countP F < holes T.n F D.B
  · have n2 : k ∈ M2 := (h2 k).mpr ⟨hF, .inr ⟨hL, by rw [eq]; exact hb⟩⟩
    unfold markS sgn
    rw [if_pos n2, if_neg hA, if_neg hB, ep, if_neg ha, eq, if_pos hb]
  · have n2 : k ∉ M2 := fun z => by
      rcases ((h2 k).mp z).2 with ⟨_, z⟩ | ⟨_, z⟩
      · exact hB z
      · rw [eq] at z
        exact hb z
    have n1 : k ∉ M1 := fun z => by
      rcases ((h1 k).mp z).2 with ⟨_, z⟩ | ⟨_, z⟩
      · exact hA z
      · rw [ep] at z
        exact ha z
    have ndp : p.Nodup := (O.nd.sublist (by rw [e]; exact List.sublist_append_left _ _))
    have key : (p.countP fun i => F i && decide (i ∉ M1 ∧ i ∉ M2)) = p.countP fun i => F i && !decide ((preOf p i).countP F < holes T.n F D.A) := by
      refine List.countP_congr fun i hi => ?_
      obtain ⟨p1, p2, e1, hp1, hp2⟩ := split_at hi ndp
      have eli : D.lane = p1 ++ i :: (p2 ++ k :: q) := by rw [e, e1]; simp
      have f1 : preOf D.lane i = preOf p i := by
        rw [eli, e1]
        rw [pre_app hp1, pre_app hp1]
      have f2 : q.countP F ≤ (postOf D.lane i).countP F := by
        rw [eli, post_app hp1, List.countP_append, List.countP_cons_of_pos hF]
        omega
      have iL : i ∈ D.lane := by rw [e]; exact List.mem_append_left _ hi
      simp only [Bool.and_eq_true, decide_eq_true_eq, Bool.not_eq_true', decide_eq_false_iff_not]
      constructor
      · rintro ⟨hFi, m1, m2⟩
        exact ⟨hFi, fun z => m1 ((h1 i).mpr ⟨hFi, .inr ⟨iL, by rw [f1]; exact z⟩⟩)⟩
      · rintro ⟨hFi, m⟩
        refine ⟨hFi, fun z => ?_, fun z => ?_⟩
        · rcases ((h1 i).mp z).2 with ⟨_, z⟩ | ⟨_, z⟩
          · exact O.notA i z iL
          · rw [f1] at z
            exact m z
        · rcases ((h2 i).mp z).2 with ⟨_, z⟩ | ⟨_, z⟩
          · exact O.notB i z iL
          · omega
    have hc := count_split F (fun i => decide ((preOf p i).countP F < holes T.n F D.A)) p
    rw [cnt_pre F _ p ndp, Nat.min_eq_left (by omega)] at hc
    unfold markS sgn
    rw [if_neg n2, if_neg n1, if_pos ⟨hL, hF⟩, if_neg hA, if_neg hB, ep, if_neg ha, eq, if_neg hb, key]
    congr 2
    omega
/-- the marks of a lane -/
theorem bef_lane {x y : Nat} {r l : List Nat} (h : T.Lane (x :: y :: r)) (hs : T.IsSide x y l) (k : Nat) :
    k ∈ befL F l (x :: y :: r) ↔ F k = true ∧ ((k < T.n ∧ T.Ap x y k) ∨ (k ∈ x :: y :: r ∧ (preOf (x :: y :: r) k).countP F < holes T.n F (T.Ap x y))) := by
  refine bef_mem (A := T.Ap x y) h.nodup hs.1 hs.2.1 (fun k => ?_) (fun k hk => (h.parts).notA k hk) k
  rw [hs.2.2]
  unfold Tr.Ap
  constructor
  · rintro ⟨h1, h2⟩
    by_cases e : k = x
    · exact ⟨h1, .inr e⟩
    · exact ⟨h1, .inl ⟨h2, e⟩⟩
  · rintro ⟨h1, ⟨h2, _⟩ | e⟩
    · exact ⟨h1, h2⟩
    · subst e
      exact ⟨h1, Tr.sd_self h.adj⟩
theorem beh_lane {x y : Nat} {r l : List Nat} (h : T.Lane (x :: y :: r)) (hs : T.IsSide (lastTwo x y r).1 (lastTwo x y r).2 l) (k : Nat) :
    k ∈ befL F l (x :: y :: r).reverse ↔ F k = true ∧ ((k < T.n ∧ T.Ap (lastTwo x y r).1 (lastTwo x y r).2 k) ∨ (k ∈ x :: y :: r ∧ (postOf (x :: y :: r) k).countP F < holes T.n F (T.Ap (lastTwo x y r).1 (lastTwo x y r).2))) := by
  obtain ⟨t, e⟩ := lastTwo_rev r x y
  have nd : ((lastTwo x y r).1 :: (lastTwo x y r).2 :: t).Nodup := by
    rw [← e]
    exact (List.reverse_perm _).nodup_iff.mpr h.nodup
  have hmem : ∀ k, k ∈ (lastTwo x y r).1 :: (lastTwo x y r).2 :: t ↔ k ∈ x :: y :: r := fun k => by rw [← e, List.mem_reverse]
  rw [e]
  have key := bef_mem (n := T.n) (F := F) nd hs.1 hs.2.1 (A := T.Ap (lastTwo x y r).1 (lastTwo x y r).2) (fun k => by
    rw [hs.2.2]
    unfold Tr.Ap
    constructor
    · rintro ⟨h1, h2⟩
      by_cases e : k = (lastTwo x y r).1
      · exact ⟨h1, .inr e⟩
      · exact ⟨h1, .inl ⟨h2, e⟩⟩
    · rintro ⟨h1, ⟨h2, _⟩ | e⟩
      · exact ⟨h1, h2⟩
      · rw [e] at h1 ⊢
        exact ⟨h1, Tr.sd_self h.lastAdj⟩) (fun k hk z => (h.parts).notB k hk ((hmem k).mp z)) k
  rw [key]
  constructor
  · rintro ⟨h1, h2 | ⟨h2, h3⟩⟩
    · exact ⟨h1, .inl h2⟩
    · have h2' := (hmem k).mp h2
      refine ⟨h1, .inr ⟨h2', ?_⟩⟩
      rw [← e, pre_rev h2' h.nodup, List.countP_reverse] at h3
      exact h3
  · rintro ⟨h1, h2 | ⟨h2, h3⟩⟩
    · exact ⟨h1, .inl h2⟩
    · refine ⟨h1, .inr ⟨(hmem k).mpr h2, ?_⟩⟩
      rw [← e, pre_rev h2 h.nodup, List.countP_reverse]
      exact h3
/-- the sign of the place k for a lane -/
noncomputable def Tr.sg (T : Tr) (lane : List Nat) (F : Nat → Bool) (k : Nat) : Sg := sgn T.n (T.parts lane) F k
theorem marks_lane {x y : Nat} {r l1 l2 : List Nat} (h : T.Lane (x :: y :: r)) (hs1 : T.IsSide x y l1) (hs2 : T.IsSide (lastTwo x y r).1 (lastTwo x y r).2 l2) (hl : holes T.n F (fun _ => True) ≤ (x :: y :: r).length) {k : Nat} (hk : k < T.n) (hF : F k = true) :
    markS (x :: y :: r) (befL F l1 (x :: y :: r)) (befL F l2 (x :: y :: r).reverse) F k = some (T.sg (x :: y :: r) F k) :=
  mark_sgn h.parts hl (bef_lane h hs1) (beh_lane h hs2) hk hF
/-- no move changes any sign -/
theorem sg_move {lane : List Nat} {F' : Nat → Bool} {p q : Nat} (hL : ∃ x y r, lane = x :: y :: r ∧ T.Lane lane) (s : Shift T.n F F' p q) (hab : T.Adj p q) (hl : holes T.n F (fun _ => True) ≤ lane.length) :
    (∀ k, k < T.n → k ≠ p → k ≠ q → F k = true → T.sg lane F k = T.sg lane F' k) ∧ T.sg lane F p = T.sg lane F' q := by
  obtain ⟨x, y, r, rfl, h⟩ := hL
  exact keeps_move h.parts s hab hl
end Tb
end -- SignMath3
section -- SignMath4
set_option autoImplicit false
namespace Tb
open Classical
theorem pre_snoc_in {l : List Nat} {k j : Nat} (h : j ∈ l) : preOf (l ++ [k]) j = preOf l j := by
  induction l with
  | nil => cases h
  | cons a l ih =>
    by_cases e : a = j
    · subst e
      rw [List.cons_append, pre_cons_self, pre_cons_self]
    · rw [List.cons_append, pre_cons_ne e, pre_cons_ne e, ih]
      rcases List.mem_cons.mp h with z | z
      · exact absurd z.symm e
      · exact z
theorem pre_snoc_self {l : List Nat} {k : Nat} (h : k ∉ l) : preOf (l ++ [k]) k = l := pre_app h
/-- the marks led on by one place -/
theorem markS_ne {l M1 M2 : List Nat} {F : Nat → Bool} {k j : Nat} (h : j ≠ k) : markS (l ++ [k]) M1 M2 F j = markS l M1 M2 F j := by
  unfold markS
  have e : j ∈ l ++ [k] ↔ j ∈ l := by simp [h]
  by_cases h2 : j ∈ M2
  · rw [if_pos h2, if_pos h2]
  rw [if_neg h2, if_neg h2]
  by_cases h1 : j ∈ M1
  · rw [if_pos h1, if_pos h1]
  rw [if_neg h1, if_neg h1]
  by_cases hl : j ∈ l ∧ F j = true
  · rw [if_pos hl, if_pos ⟨e.mpr hl.1, hl.2⟩, pre_snoc_in hl.1]
  · rw [if_neg hl, if_neg fun z => hl ⟨e.mp z.1, z.2⟩]
theorem markS_old {l M1 M2 : List Nat} {F : Nat → Bool} {k : Nat} (h : k ∈ M1 ∨ k ∈ M2 ∨ ¬ F k = true) (hk : k ∉ l) : markS (l ++ [k]) M1 M2 F k = markS l M1 M2 F k := by
  unfold markS
  by_cases h2 : k ∈ M2
  · rw [if_pos h2, if_pos h2]
  rw [if_neg h2, if_neg h2]
  by_cases h1 : k ∈ M1
  · rw [if_pos h1, if_pos h1]
  rw [if_neg h1, if_neg h1]
  have hF : ¬ F k = true := by rcases h with h | h | h; exact absurd h h1; exact absurd h h2; exact h
  rw [if_neg fun z => hF z.2, if_neg fun z => hF z.2]
theorem markS_new {l M1 M2 : List Nat} {F : Nat → Bool} {k : Nat} (h1 : k ∉ M1) (h2 : k ∉ M2) (hF : F k = true) (hk : k ∉ l) : markS (l ++ [k]) M1 M2 F k = some (.num (1 + l.countP fun i => F i && decide (i ∉ M1 ∧ i ∉ M2))) := by
  unfold markS
  rw [if_neg h2, if_neg h1, if_pos ⟨by simp, hF⟩, pre_snoc_self hk]
theorem markS_none {l M1 M2 : List Nat} {F : Nat → Bool} {k : Nat} (hk : k ∉ l) : markS l M1 M2 F k = none ↔ k ∉ M1 ∧ k ∉ M2 := by
  unfold markS
  by_cases h2 : k ∈ M2
  · rw [if_pos h2]; simp [h2]
  rw [if_neg h2]
  by_cases h1 : k ∈ M1
  · rw [if_pos h1]; simp [h1]
  rw [if_neg h1, if_neg fun z => hk z.1]
  simp [h1, h2]
theorem markS_nil {M1 M2 : List Nat} {F : Nat → Bool} (k : Nat) : markS [] M1 M2 F k = if k ∈ M2 then some .beh else if k ∈ M1 then some .bef else none := by
  unfold markS
  by_cases h2 : k ∈ M2
  · rw [if_pos h2, if_pos h2]
  rw [if_neg h2, if_neg h2]
  by_cases h1 : k ∈ M1
  · rw [if_pos h1, if_pos h1]
  rw [if_neg h1, if_neg h1, if_neg fun z => nomatch z.1]
theorem befL_len (F : Nat → Bool) (l lane : List Nat) : (befL F l lane).length ≤ l.length + lane.length := by
  unfold befL
  have h1 := List.length_filter_le F l
  have h2 := List.length_filter_le F (lane.drop 1)
  have h3 : (lane.drop 1).length ≤ lane.length := by rw [List.length_drop]; omega
  split
  · rw [List.length_drop]; omega
  · rw [List.length_append, List.length_take]; omega
end Tb
end -- SignMath4
section -- LayB
set_option maxHeartbeats 4000000
/-! More rules over the layer: t[::-1], str * int, bool of an own instance, == and != of instances without an own ==. -/
namespace Tz
open PySem PySem.Spec PyProof.Rows L2

/-! ### t[::-1] -/
section
variable {prog : Program} {w : World} {A : Around} {E : Value → Shared → Prop} {s : Shared}
theorem back_adjust (n : Nat) : Builtin.Slice.sliceAdjust none none (-1) (n : Int) = ((n : Int) - 1, -1) := by
  unfold Builtin.Slice.sliceAdjust
  simp
theorem back_places (n : Nat) : Builtin.Slice.slicePlaces ((n : Int) - 1) (-1) (-1) = n := by
  unfold Builtin.Slice.slicePlaces
  rw [if_neg (by decide), show (- -1 : Int) = 1 from rfl, Int.ediv_one]
  split <;> omega
theorem back_pick (xs : Array Value) : ((List.range xs.size).filterMap fun (m : Nat) => xs[((xs.size : Int) - 1 + (m : Int) * (-1)).toNat]?).toArray = xs.toList.reverse.toArray := by
  have e : (List.range xs.size).map (fun k => xs.size - 1 - k) = (List.range xs.size).reverse := PySem.W.krv_range xs.size
  have z := PySem.W.krv_all xs
  rw [← z, ← List.filterMap_reverse, ← e, List.filterMap_map]
  have key : ∀ l : List Nat, (∀ m ∈ l, m < xs.size) → l.filterMap (fun (m : Nat) => xs[((xs.size : Int) - 1 + (m : Int) * (-1)).toNat]?) = l.filterMap ((fun x => xs[x]?) ∘ fun k => xs.size - 1 - k) := by
    intro l
    induction l with
    | nil => intro _; rfl
    | cons m l ih =>
      intro h
      have hm' := h m List.mem_cons_self
      have q : ((xs.size : Int) - 1 + (m : Int) * (-1)).toNat = xs.size - 1 - m := by omega
      rw [List.filterMap_cons, List.filterMap_cons, ih fun k hk => h k (List.mem_cons_of_mem _ hk), q]
      rfl
  exact congrArg List.toArray (key _ fun m hm => List.mem_range.mp hm)
theorem back_applied {sl : Addr} {vl vu vs : Value} {n : Nat} {Q : Int × Int × Nat → Shared → Prop} (hs : s.heap.IsSliceOf sl vl vu vs) (pl : IsPart vl none) (pu : IsPart vu none) (ps : IsPart vs (some (-1)))
    (h : Q ((n : Int) - 1, -1, n) s) : wpAny (model prog w) A (Builtin.Slice.sliceApplied (.ref sl) (pure (n : Int))) Q E s := by
  obtain ⟨os, hos, hcs, hds⟩ := id hs
  unfold Builtin.Slice.sliceApplied Builtin.Slice.sliceFields
  refine wpAny_bind (wpAny_bind (wpAny_field hos hds (x := vl) rfl (wpAny_bind (wpAny_field hos hds (x := vu) rfl (wpAny_bind (wpAny_field hos hds (x := vs) rfl (wpAny_pure ?_)))))))
  refine wpAny_bind (HT.slicePart_ ps ?_)
  show wpAny _ _ (if ((-1 : Int) == 0) = true then _ else _) _ _ s
  rw [if_neg (by decide)]
  refine wpAny_bind (HT.slicePart_ pl (wpAny_bind (HT.slicePart_ pu (wpAny_bind (wpAny_pure ?_)))))
  show wpAny _ _ (match Builtin.Slice.sliceAdjust none none (-1) (n : Int) with | (lo, hi) => pure (lo, (-1 : Int), Builtin.Slice.slicePlaces lo hi (-1))) _ _ s
  rw [back_adjust]
  show wpAny _ _ (pure ((n : Int) - 1, (-1 : Int), Builtin.Slice.slicePlaces ((n : Int) - 1) (-1) (-1))) _ _ s
  rw [back_places]
  exact wpAny_pure h
theorem back_item {t sl : Addr} {items : Array Value} {vl vu vs : Value} {Q : Value → Shared → Prop} (ht : IsTup s.heap t items) (hs : s.heap.IsSliceOf sl vl vu vs) (pl : IsPart vl none) (pu : IsPart vu none) (ps : IsPart vs (some (-1)))
    (h : Q (.ref s.heap.objs.size) { s with heap := s.heap.push { cls := .type "tuple", data := .seq items.toList.reverse.toArray } }) (hsz : items.size ≤ sizeLine) : wpAny (model prog w) A (getItem (.ref t) (.ref sl)) Q E s := by
  have hok : sizeOk (.seq items.toList.reverse.toArray) := by
    show items.toList.reverse.toArray.size ≤ sizeLine
    rw [List.size_toArray, List.length_reverse, Array.length_toList]
    exact hsz
  obtain ⟨os, hos, hcs, hds⟩ := id hs
  have hTs : s.TypeIs (.ref sl) "slice" := ⟨os, hos, hcs⟩
  unfold getItem
  try with_reducible refine wpAny_holding ?_
  first | refine wpAny_bind (wpAny_pure ?_) | skip
  refine wpAny_bind (wpAny_sequenceKey ht.typeIs (by decide) ?_)
  refine wpAny_bind (wpAny_callSpecial?_slot (name := Str.ofString "__getitem__") ht.typeIs PyProof.Rows.slot_tuple_getitem
    (wpAny_call_entry PyProof.Rows.slot_tuple_getitem ht.typeIs entry_tuple_getitem ?_ (args_tuple_getitem _ _)))
  show wpAny _ _ (Builtin.Tuple.tupleItemsOf (.ref t) >>= _) _ _ s
  refine wpAny_bind (PyProof.Rows.tupleItemsOf_ ht ?_)
  refine wpAny_bind (wpAny_typeOf hTs ?_)
  rw [if_pos (by decide)]
  refine wpAny_bind (back_applied hs pl pu ps ?_)
  have hno : ¬ ((((items.size : Int) - 1) == 0 && (-1 : Int) == 1 && items.size == items.size) = true) := by
    rw [show ((-1 : Int) == 1) = false from rfl, Bool.and_false, Bool.false_and]
    exact Bool.false_ne_true
  show wpAny _ _ (if (((items.size : Int) - 1) == 0 && (-1 : Int) == 1 && items.size == items.size) = true then _ else _) _ _ s
  rw [if_neg hno, back_pick]
  first
    | exact wpAny_bind (m := Builtin.Tuple.tupleExact _) (wpAny_newObj_type (wpAny_pure ⟨_, rfl, wpAny_pure h⟩) hok)
    | exact wpAny_bind (m := Builtin.Tuple.tupleExact _) (wpAny_newObj_type (wpAny_bind (wpAny_pure (wpAny_pure ⟨_, rfl, wpAny_pure h⟩))) hok)
    | exact wpAny_bind (wpAny_bind (m := Builtin.Tuple.tupleExact _) (wpAny_newObj_type (wpAny_pure (wpAny_pure ⟨_, rfl, wpAny_pure h⟩)) hok))
    | exact wpAny_bind (wpAny_bind (m := Builtin.Tuple.tupleExact _) (wpAny_newObj_type (wpAny_pure ⟨_, rfl, wpAny_pure h⟩) hok))
end
section
variable {X : Cx}
def tRevT (K : PySem.W.Frag) (te : TE) : TE := fun σ H Q => te σ H fun x H1 => ∃ a xs, x = .ref a ∧ SqT K H1 a xs ∧ ∀ p, H1 p = none → Q (.ref p) (upd H1 p (.tup xs.reverse))
theorem pe_revT {e : Expr} {te : TE} {k : Nat} {p1 p2 p3 pos : Pos} (he : PE X e te) : PE X (.Subscript e (.Slice none none (some (.UnaryOp .USub (.Constant (.int 1) k p1) p2)) p3) pos) (tRevT X.K te) := by
  refine ⟨fun pins s σ H Q I h => ?_⟩
  refine Subscript_ (thn (he.run pins s σ H _ I h) fun v s1 ⟨x, H1, I1, r1, a, xs, ex, hx, q⟩ => ?_)
  subst ex
  obtain rfl : v = Value.ref a := r1
  have hst : PO X (some (.UnaryOp .USub (.Constant (.int 1) k p1) p2)) (tPart (tUn (rU fun i => .int (-i)) (tC (.int 1)))) := po_some (pe_un un_neg pe_int)
  refine wpAny_Slice (thn (po_none.run pins s1 σ H1 (fun o H2 => o = none ∧ H2 = H1) I1 ⟨rfl, rfl⟩) fun vl s2 ⟨l, H2, I2, pl, el, e2⟩ => ?_)
  subst el e2
  refine thn (po_none.run pins s2 σ H2 (fun o H3 => o = none ∧ H3 = H2) I2 ⟨rfl, rfl⟩) fun vu s3 ⟨u, H3, I3, pu, eu, e3⟩ => ?_
  subst eu e3
  refine thn (hst.run pins s3 σ H3 (fun o H4 => o = some (-1) ∧ H4 = H3) I3 ⟨1, rfl, -1, rfl, rfl, rfl⟩) fun vs s4 ⟨o, H4, I4, ps, eo, e4⟩ => ?_
  subst eo e4
  have I5 : Inv X pins σ H4 { s4 with heap := s4.heap.push { cls := .type "slice", data := .fields #[vl, vu, vs] } } := I4.kept (t' := s4.toks) fun b ob q => Heap.get?_push_of_some _ q
  obtain ⟨its, r, ht, hz⟩ := I5.tuple hx
  have hlen := r.length
  show wpAny (model X.prog X.w) X.A (subscriptTail e (.Slice none none (some (.UnaryOp .USub (.Constant (.int 1) k p1) p2)) p3) (.ref a) (.ref s4.heap.objs.size)) (EP X pins σ Q) X.xe { s4 with heap := s4.heap.push { cls := .type "slice", data := .fields #[vl, vu, vs] } }
  refine tail_any (ops := [.ref a, .ref s4.heap.objs.size]) ht.typeIs PyProof.Rows.slot_tuple_getitem.lookup ?_ (by with_unfolding_all rfl)
  refine back_item ht (Heap.IsSliceOf.new _ vl vu vs) pl pu ps ?_ (by rw [List.size_toArray]; omega)
  refine ⟨.ref _, _, I5.laid (t' := s4.toks) (o := .tup xs.reverse) (fun b ob q => Heap.get?_push_of_some _ q) (Nat.le_refl _) ?_, rfl, q _ (I5.hok.fresh (Nat.le_refl _))⟩
  exact ⟨by rw [List.length_reverse]; exact hz, its.reverse, r.reverse, IsTup.new _ _⟩

/-! ### text * 2 -/
theorem op_mulS : OpR X (binaryOp .Mult) (fun x y H Q => ∃ z : Str, x = .str z ∧ y = .int 2 ∧ 0 < z.length ∧ z.length ≤ 1000 ∧ Q (.str (z ++ z)) H) := by
  intro pins s σ H x y v u Q I rx ry h
  obtain ⟨z, rfl, rfl, hz, hl, q⟩ := h
  obtain ⟨t, rfl⟩ := rx
  obtain ⟨t', rfl⟩ := ry
  have h0 : ((2 : Int) == 1 || z.length == 0) = false := by
    have : (z.length == 0) = false := by simpa using Nat.pos_iff_ne_zero.mp hz
    rw [this] <;> rfl
  have sl := sizeLine_eq
  refine PySem.P.mul_str (by decide) (fun _ _ => ?_) (fun _ _ => ?_) ?_
  · have : ((2 : Int) ^ 63 - 1) / 2 = 4611686018427387903 := by decide
    rw [this]
    omega
  · show decide (z.length * 2 > sizeLine) = false
    exact decide_eq_false (by omega)
  · rw [if_neg (by decide), if_neg (by rw [h0]; exact Bool.false_ne_true)]
    have e : (⟨(List.replicate (2 : Int).toNat z.cps).foldl (· ++ ·) #[]⟩ : Str) = z ++ z := by
      show (⟨#[] ++ z.cps ++ z.cps⟩ : Str) = ⟨z.cps ++ z.cps⟩
      rw [Array.empty_append]
    rw [e]
    refine ⟨?_, ⟨.str (z ++ z), H, I.tok _, ⟨_, rfl⟩, q⟩⟩
    have := strLen_append z z
    first
      | omega
      | (show (z ++ z).length ≤ sizeLine; omega)
end
end Tz
end -- LayB
section -- LayC
set_option maxHeartbeats 4000000
/-! bool of an own instance; == and != of instances of a class without an own ==. -/
namespace Tz
open PySem PySem.Spec PyProof.Rows L2
section
variable {M : Model} {prog : Program} {w : World} {A : Around} {E : Value → Shared → Prop} {s : Shared} {K : PySem.W.Frag} {x y C f : Addr} {ox oy : Obj} {od odd : Option Obj}
/-- bool(x), x's class has its own __bool__ -/
theorem bool_own {Q : Value → Shared → Prop} (X : K.In s.heap) (I : PySem.W.InstAt s.heap x ox C odd) (hs : PySem.W.findIn K (.ref C) "__bool__" = some (some (.ref f))) (hf : PySem.W.isFn K (.ref f) = true)
    (h : codeAny (model prog w) A.in1.in1 (.call (.ref f) ⟨[.ref x], []⟩) (fun r s₁ => match r with | .ok (.ret v) => ∃ b, v = Value.bool b ∧ Q v s₁ | .ok _ => False | .error e => E e s₁) s) : wpAny (model prog w) A (call (.type "bool") [.ref x]) Q E s := by
  refine callType_codes (T := "bool") (Bi := Builtin.«object.__init__») (Q₁ := fun r s₁ => ∃ b, r = Value.bool b ∧ Q r s₁) PySem.F.called_bool (PySem.F.typeCall_bool_1 _) PySem.F.entry_object_init ?_ ?_
  · refine codeAny_of_tree ?_
    show wpAny _ A.in1.in1 (do checkBuiltinCall "bool.__new__" ⟨[.type "bool", .ref x], []⟩; again (.builtin "bool.__new__" ⟨[.type "bool", .ref x], []⟩)) _ _ s
    refine wpAny_bind (wpAny_of_eq (PySem.F.newCall_bool_1 _) (wpAny_pure ⟨plainId_quiet (by decide +kernel) _, codeAny_builtin PySem.F.entry_bool_new ?_⟩))
    rw [Around.under_plainId (by decide +kernel) _]
    have f1 := PySem.F.conv_sub_bool
    have tr : ∀ {Q' : Bool → Shared → Prop} {E' : Value → Shared → Prop}, wpAny (model prog w) A.in1.in1 (call (.ref f) [.ref x]) (fun r s₁ => ∃ b, r = Value.bool b ∧ Q' b s₁) E' s → wpAny (model prog w) A.in1.in1 (truthy (.ref x)) Q' E' s := fun {Q' E'} hc => by
      unfold truthy
      refine wpAny_bind (m := callSpecial? (.ref x) (Str.ofString "__bool__")) (PySem.W.special_fn X I hs (beq_iff_eq.mp hf) (wpAny_mono hc (fun r s' hr => ?_) fun _ _ z => z))
      obtain ⟨b, rfl, q⟩ := hr
      exact wpAny_pure q
    unfold Builtin.«bool.__new__»
    repeat (any_goals (first | assumption | (with_reducible refine tr ?_) | wp_step))
    refine codeAny_mono h fun r s₁ hr => ?_
    cases r with
    | error e => exact hr
    | ok fl =>
      cases fl with
      | ret v =>
        obtain ⟨b, rfl, hq⟩ := hr
        exact ⟨b, rfl, wpAny_pure ⟨b, rfl, hq⟩⟩
      | next => exact hr.elim
      | brk => exact hr.elim
      | cont => exact hr.elim
  · rintro obj s₁ ⟨b, rfl, hq⟩
    exact ⟨rfl, PySem.F.args_object_init_2 _ _, object_init_meets PySem.F.called_bool.init.lookup PySem.F.called_bool.made (by decide) prog w A.in1 _ s₁ ⟨rfl, rfl, hq⟩⟩

/-- a special method that is a built-in one, looked up -/
theorem ifBound_b {name : Str} {id : String} {args : List Value} {Q : Option Value → Shared → Prop} (X : K.In s.heap) (I : PySem.W.InstAt s.heap x ox C od) (hs : PySem.W.findIn K (.ref C) name = some (some (.builtin id)))
    (hb : ∀ self : Value, bindSpecial (.builtin id) self = pure (.builtin id, [self])) (h : wpAny M A (call (.builtin id) (.ref x :: args)) (fun v => Q (some v)) E s) : wpAny M A (callSpecialIfBound? (.ref x) name args) Q E s := by
  simp only [callSpecialIfBound?, bindSpecialIfBound?]
  refine wpAny_holding (wpAny_bind (wpAny_bind (wpAny_bind (I.type.here ((PySem.W.looks_findIn X hs).here ?_)))))
  have fin : wpAny M A (call (.builtin id) ([.ref x] ++ args) >>= fun v => pure (some v)) Q E s := wpAny_bind (wpAny_mono h (fun v s' h' => wpAny_pure h') fun _ _ h' => h')
  refine wpAny_bind (wpAny_askSetting (wpAny_ite ?_))
  split
  · exact wpAny_bind (wpAny_of_eq (hb _) (wpAny_pure (by exact fin)))
  · exact wpAny_tryCatch (wpAny_bind (wpAny_of_eq (hb _) (wpAny_pure (by exact fin))))
theorem objEq_same {Q : Value → Shared → Prop} (X : K.In s.heap) (I : PySem.W.InstAt s.heap x ox C od) (hm : PySem.W.mroIn K C (.type "object") = some true) (hq : Q (.bool true) s) : wpAny (model prog w) A (call (.builtin "object.__eq__") [.ref x, .ref x]) Q E s := by
  refine wpAny_call (codeAny_call_builtin F.cmp_object.eq.plain F.cmpEntry_eq (PySem.W.check_slot F.cmpKind_eq F.cmpSplit_eq (I.type.andThen (PySem.W.looks_mroIn X hm)) (F.cmpArgs_eq _ _) ?_))
  unfold Builtin.«object.__eq__»
  repeat (first | with_reducible refine wpAny_isSame_ref_self ?_ | wp_step)
  exact hq
theorem objEq_other {Q : Value → Shared → Prop} (X : K.In s.heap) (I : PySem.W.InstAt s.heap x ox C od) (hm : PySem.W.mroIn K C (.type "object") = some true) (hxy : x ≠ y) (hy : s.heap.get? y = some oy) (hc : ox.cls ≠ .type "tuple") (hq : Q .notImplemented s) :
    wpAny (model prog w) A (call (.builtin "object.__eq__") [.ref x, .ref y]) Q E s := by
  refine wpAny_call (codeAny_call_builtin F.cmp_object.eq.plain F.cmpEntry_eq (PySem.W.check_slot F.cmpKind_eq F.cmpSplit_eq (I.type.andThen (PySem.W.looks_mroIn X hm)) (F.cmpArgs_eq _ _) ?_))
  unfold Builtin.«object.__eq__»
  repeat (first | with_reducible refine wpAny_isSame_ref_other hxy I.1 hy hc ?_ | wp_step)
  exact hq
theorem objNe_other {Q : Value → Shared → Prop} (hu : A.units + 1 < cLine) (X : K.In s.heap) (I : PySem.W.InstAt s.heap x ox C od) (hm : PySem.W.mroIn K C (.type "object") = some true) (hs : PySem.W.findIn K (.ref C) "__eq__" = some (some (.builtin "object.__eq__"))) (hxy : x ≠ y) (hy : s.heap.get? y = some oy) (hc : ox.cls ≠ .type "tuple") (hq : Q .notImplemented s) :
    wpAny (model prog w) A (call (.builtin "object.__ne__") [.ref x, .ref y]) Q E s := by
  refine wpAny_call (codeAny_call_builtin F.cmp_object.ne.plain F.cmpEntry_ne (PySem.W.check_slot F.cmpKind_ne F.cmpSplit_ne (I.type.andThen (PySem.W.looks_mroIn X hm)) (F.cmpArgs_ne _ _) ?_))
  unfold Builtin.«object.__ne__»
  have inner : ∀ {A' : Around} {E' : Value → Shared → Prop} {Q' : Option Value → Shared → Prop}, Q' (some .notImplemented) s → wpAny (model prog w) A' (callSpecialIfBound? (.ref x) (Str.ofString "__eq__") [.ref y]) Q' E' s := fun {A' E' Q'} q =>
    ifBound_b X I hs F.cmp_object.eq.bind (objEq_other X I hm hxy hy hc q)
  have hu1 : A.in1.units < cLine := by show A.units + 1 < cLine; exact hu
  repeat (first | with_reducible refine wpAny_cRoomFor hu1 ?_ | with_reducible refine inner ?_ | wp_step)
  exact hq
section
variable {X : Cx}
/-- bool(x) -/
def rBoolOwn (C : Addr) (sp : Sp) (E : XK) : List V → Hp → VK → Prop := fun xs H Q => ∃ a dx fs, xs = [V.ref a] ∧ H a = some (.ins C dx fs) ∧ sp [.ref a] H (fun z H' => ∃ b, z = .bl b ∧ Q z H') E
theorem call_boolOwn {CX : CXT} {C g : Addr} {n : Nat} {fd : FuncData} {ps : List Str} {sp : Sp} {E : XK} (hs : PySem.W.findIn X.K (.ref C) "__bool__" = some (some (.ref g))) (hf : PySem.W.isFn X.K (.ref g) = true) (F : FnOk X.prog X.w X.K X.mg X.base CX n g fd ps sp) (hb : Binds X.K fd ps [])
    (hr : Room (n + 2) X.A) (hx : Passes CX X E) : CallR X (.type "bool") (rBoolOwn C sp E) := by
  intro pins s σ H xs us Q I r h
  obtain ⟨a, dx, fs, rfl, ha, q⟩ := h
  obtain ⟨u, rfl, ru⟩ := vals1 r
  obtain rfl : u = Value.ref a := ru
  obtain ⟨mA, J, _⟩ := ins_get I.hok ha
  obtain ⟨od, J, _⟩ := J.look
  have hr2 : Room n X.A.in1.in1 := (show Room (n + 1) X.A.in1 from Room.in1 hr).in1
  have hl := F.len _ _ _ _ q
  have b := hb s [.ref a] I.kIn (by rw [List.append_nil]; exact hl)
  rw [List.append_nil] at b
  refine bool_own I.kIn J hs hf (codeAny_mono (F.run X.A.in1.in1 X.stack s H ⟨[.ref a], []⟩ [.ref a] [.ref a] _ E hr2 I.env0.in1.in1 b (.cons rfl .nil) q) fun r s' hq => ?_)
  cases r with
  | error e => exact hx pins σ H s e s' I hq
  | ok fl =>
    cases fl with
    | ret u =>
      obtain ⟨z', H', I', rz, k, ei, qz⟩ := I.after hq
      subst ei
      cases rz
      exact ⟨k, rfl, .bl k, H', I', rfl, qz⟩
    | next => exact False.elim hq
    | brk => exact False.elim hq
    | cont => exact False.elim hq
/-- what == of a class without an own == asks -/
structure EqDef (K : PySem.W.Frag) (C : Addr) : Prop where
  ob : PySem.W.mroIn K C (.type "object") = some true
  eq : PySem.W.findIn K (.ref C) "__eq__" = some (some (.builtin "object.__eq__"))
  ne : PySem.W.findIn K (.ref C) "__ne__" = some (some (.builtin "object.__ne__"))
def rEqO (C : Addr) : R2 := fun x y H Q => ∃ a b dx dy fs gs, x = .ref a ∧ y = .ref b ∧ H a = some (.ins C dx fs) ∧ H b = some (.ins C dy gs) ∧ Q (.bl (decide (a = b))) H
theorem op_eqO {C : Addr} (T : EqDef X.K C) (hu : X.A.units + 2 < cLine) : OpR X (compareOp .Eq) (rEqO C) := by
  intro pins s σ H x y v u Q I rx ry h
  obtain ⟨a, b, dx, dy, fs, gs, rfl, rfl, ha, hb, q⟩ := h
  obtain rfl : v = Value.ref a := rx
  obtain rfl : u = Value.ref b := ry
  obtain ⟨mA, J, _⟩ := ins_get I.hok ha
  obtain ⟨mB, J', _⟩ := ins_get I.hok hb
  obtain ⟨od, J, _⟩ := J.look
  obtain ⟨od', J', _⟩ := J'.look
  have KX := I.kIn
  have nt : ∀ {D : Addr}, Value.ref D ≠ Value.type "tuple" := fun {D} z => by cases z
  show wpAny (model X.prog X.w) X.A (richCompare .Eq (.ref a) (.ref b)) _ _ s
  simp only [richCompare, cmpInfo_Eq, oneThing_ref]
  refine wpAny_holding (wpAny_bind (wpAny_cRoomFor (by omega) ?_))
  refine wpAny_bind (J.type.here (wpAny_bind (J'.type.here ?_)))
  rw [if_neg (by simp)]
  refine wpAny_bind (wpAny_pure ?_)
  rw [if_neg Bool.false_ne_true]
  refine wpAny_bind (m := tryCompare (.ref a) _ (.ref b)) ?_
  have go : ∀ {Q' : Option Value → Shared → Prop} {p r : Addr} {op : Obj} {ood oor : Option Obj} {orr : Obj}, PySem.W.InstAt s.heap p op C ood → PySem.W.InstAt s.heap r orr C oor → (∀ z : p = r, Q' (some (.bool true)) s) → (∀ z : ¬ p = r, Q' none s) → wpAny (model X.prog X.w) X.A (tryCompare (.ref p) "__eq__" (.ref r)) Q' X.xe s := fun {Q' p r op ood oor orr} J1 J2 h1 h2 => by
    unfold tryCompare
    by_cases e : p = r
    · subst e
      exact wpAny_bind (ifBound_b KX J1 T.eq F.cmp_object.eq.bind (objEq_same KX J1 T.ob (wpAny_pure (h1 rfl))))
    · exact wpAny_bind (ifBound_b KX J1 T.eq F.cmp_object.eq.bind (objEq_other KX J1 T.ob e J2.1 (by rw [J1.cls]; exact nt) (wpAny_pure (h2 e))))
  refine go J J' (fun e => ?_) fun e => ?_
  · exact wpAny_pure ⟨.bl (decide (a = b)), H, I, by rw [decide_eq_true e]; rfl, q⟩
  · refine wpAny_bind (m := tryCompare (.ref b) _ (.ref a)) (go J' J (fun z => absurd z.symm e) fun _ => ?_)
    refine wpAny_bind (wpAny_rule (wpAny_bind (wpAny_isSame_ref_other e J.1 J'.1 (by rw [J.cls]; exact nt) (wpAny_pure ?_))))
    exact ⟨.bl (decide (a = b)), H, I, by rw [decide_eq_false e]; rfl, q⟩
def rNeO (C : Addr) : R2 := fun x y H Q => ∃ a b dx dy fs gs, x = .ref a ∧ y = .ref b ∧ a ≠ b ∧ H a = some (.ins C dx fs) ∧ H b = some (.ins C dy gs) ∧ Q (.bl true) H
theorem op_neO {C : Addr} (T : EqDef X.K C) (hu : X.A.units + 2 < cLine) : OpR X (compareOp .NotEq) (rNeO C) := by
  intro pins s σ H x y v u Q I rx ry h
  obtain ⟨a, b, dx, dy, fs, gs, rfl, rfl, e, ha, hb, q⟩ := h
  obtain rfl : v = Value.ref a := rx
  obtain rfl : u = Value.ref b := ry
  obtain ⟨mA, J, _⟩ := ins_get I.hok ha
  obtain ⟨mB, J', _⟩ := ins_get I.hok hb
  obtain ⟨od, J, _⟩ := J.look
  obtain ⟨od', J', _⟩ := J'.look
  have KX := I.kIn
  have nt : ∀ {D : Addr}, Value.ref D ≠ Value.type "tuple" := fun {D} z => by cases z
  show wpAny (model X.prog X.w) X.A (richCompare .NotEq (.ref a) (.ref b)) _ _ s
  simp only [richCompare, cmpInfo, oneThing_ref]
  refine wpAny_holding (wpAny_bind (wpAny_cRoomFor (by omega) ?_))
  refine wpAny_bind (J.type.here (wpAny_bind (J'.type.here ?_)))
  rw [if_neg (by simp)]
  refine wpAny_bind (wpAny_pure ?_)
  rw [if_neg Bool.false_ne_true]
  have go : ∀ {Q' : Option Value → Shared → Prop} {p r : Addr} {op : Obj} {ood oor : Option Obj} {orr : Obj}, PySem.W.InstAt s.heap p op C ood → PySem.W.InstAt s.heap r orr C oor → p ≠ r → Q' none s → wpAny (model X.prog X.w) X.A (tryCompare (.ref p) "__ne__" (.ref r)) Q' X.xe s := fun {Q' p r op ood oor orr} J1 J2 h1 h2 => by
    unfold tryCompare
    exact wpAny_bind (ifBound_b KX J1 T.ne F.cmp_object.ne.bind (objNe_other (by omega) KX J1 T.ob T.eq h1 J2.1 (by rw [J1.cls]; exact nt) (wpAny_pure h2)))
  refine wpAny_bind (m := tryCompare (.ref a) _ (.ref b)) (go J J' e ?_)
  refine wpAny_bind (m := tryCompare (.ref b) _ (.ref a)) (go J' J (Ne.symm e) ?_)
  refine wpAny_bind (wpAny_rule (wpAny_bind (wpAny_isSame_ref_other e J.1 J'.1 (by rw [J.cls]; exact nt) (wpAny_pure ?_))))
  exact ⟨.bl true, H, I, rfl, q⟩
end
end
end Tz
end -- LayC
section -- LayE
set_option maxHeartbeats 4000000
/-! A caught exception that is handed on: tracked by its class and dict; defs called in an except suite; except (A, B) as n. -/
namespace Tz
open PySem PySem.Spec PyProof.Rows L2

/-- a caught exception's object: its class, its dict -/
def ExT (cls : Value) (d : Option Addr) (a : Addr) : HO := .ext fun h => ∃ (oe : Obj) (vs : Array Value), h.get? a = some oe ∧ Zc cls d oe ∧ oe.data = .fields vs
theorem exT_ok {P : Program} {w : World} {H : Hp} {h : Heap} {a : Addr} {cls : Value} {d : Option Addr} {oe : Obj} {vs : Array Value} (e : h.get? a = some oe) (z : Zc cls d oe) (f : oe.data = .fields vs) : ObjOk P w H h a (ExT cls d a) :=
  ⟨⟨oe, vs, e, z, f⟩, ⟨oe, e⟩, fun h1 h2 ⟨oe, vs, e1, e2, e3⟩ k => ⟨oe, vs, k _ e1, e2, e3⟩⟩
theorem exT_at {P : Program} {w : World} {H : Hp} {h : Heap} {a : Addr} {cls : Value} {d : Option Addr} (hok : HOk P w H h) (e : H a = some (ExT cls d a)) : ∃ (oe : Obj) (vs : Array Value), h.get? a = some oe ∧ Zc cls d oe ∧ oe.data = .fields vs := by
  have x : ObjOk P w H h a (.ext fun h => ∃ (oe : Obj) (vs : Array Value), h.get? a = some oe ∧ Zc cls d oe ∧ oe.data = .fields vs) := hok a _ e
  exact x.1
/-- the dict is none, or tracked as an exception's -/
def DicAt (H : Hp) (d : Option Addr) : Prop := d = none ∨ ∃ dd fs, d = some dd ∧ H dd = some (.xd fs)

section
variable {X : Cx} {pins : List (Addr × Obj)} {σ : L2.St} {H : Hp} {s : Shared}
theorem exT_inst {a D : Addr} {d : Option Addr} (I : Inv X pins σ H s) (e : H a = some (ExT (.ref D) d a)) (hd : DicAt H d) : ∃ (oe : Obj) (od : Option Obj), PySem.W.InstAt s.heap a oe D od := by
  obtain ⟨oe, vs, e1, e2, e3⟩ := exT_at I.hok e
  rcases hd with rfl | ⟨dd, fs, rfl, h⟩
  · refine ⟨oe, none, ?_⟩
    obtain ⟨oc, od, oda, osl⟩ := oe
    obtain ⟨h1, h2⟩ := e2
    dsimp only at h1 h2 e3
    subst h1 h2 e3
    exact ⟨e1, rfl, rfl, trivial⟩
  · obtain ⟨mA, hns, _⟩ : ∃ mA, s.heap.Ns1 dd mA ∧ ∀ f, RelO (fs.lookup f) (mA f) := I.hok dd _ h
    obtain ⟨od, ho, _⟩ := lookIn_ns hns
    exact ⟨oe, some od, e1, e2.1, by unfold PySem.W.notCls; rw [e3] <;> rfl, by rw [e2.2]; exact ho⟩
/-- isinstance(e, C) of such an exception -/
def rIsT (K : PySem.W.Frag) : List V → Hp → VK → Prop := fun xs H Q => ∃ (a D : Addr) (d : Option Addr) (c : Addr) (b : Bool), xs = [.ref a, .ref c] ∧ H a = some (ExT (.ref D) d a) ∧ DicAt H d ∧ ExcC K D ∧ PySem.W.kitOne K (.ref D) (.ref c) = some b ∧ Q (.bl b) H
theorem cr_isT : CallR X (.builtin "isinstance") (rIsT X.K) := by
  intro pins s σ H xs us Q I r h
  obtain ⟨a, D, d, c, b, rfl, ha, hd, T, e, q⟩ := h
  cases r with
  | cons rx rr =>
    cases rr with
    | cons rt rr =>
      cases rr
      cases rx
      cases rt
      obtain ⟨oe, od, J⟩ := exT_inst I ha hd
      obtain ⟨cd, hcd, _⟩ := PySem.W.any_some T.hd
      exact PySem.W.kia_one (PySem.W.kitx_exc (by rw [hcd]; rfl) T.hg T.hk T.hs T.ha T.hn T.ht T.hm) I.kIn J e (fun z => nomatch z) fun tk => ⟨.bl b, H, I.kept (t' := tk) fun _ _ z => z, rfl, q⟩
/-- e.n of such an exception -/
def tXt (K : PySem.W.Frag) (n : Str) (te : TE) : TE := fun σ H Q => te σ H fun x H1 => ∃ (a C dd : Addr) (fs : List (Str × V)) (v : V), x = .ref a ∧ H1 a = some (ExT (.ref C) (some dd) a) ∧ XfC K C ∧ PySem.W.findIn K (.ref C) n = some none ∧ H1 dd = some (.xd fs) ∧ fs.lookup n = some v ∧ Q v H1
theorem pe_xt {e : Expr} {te : TE} {pos : Pos} {n : Str} (he : PE X e te) (hb : attributeBase e n X.env (eval e X.env) = eval e X.env := by rfl) : PE X (.Attribute e n pos) (tXt X.K n te) := by
  refine ⟨fun pins s σ H Q I h => ?_⟩
  refine attr_of hb (thn (he.run pins s σ H _ I h) fun u s1 ⟨x, H1, I1, rx, a, C, dd, fs, v, ex, ha, T, hno, hdd, l, q⟩ => ?_)
  subst ex
  obtain rfl : u = Value.ref a := rx
  obtain ⟨oe, vs, e1, e2, e3⟩ := exT_at I1.hok ha
  obtain ⟨mA, hns, hr⟩ : ∃ mA, s1.heap.Ns1 dd mA ∧ ∀ f, RelO (fs.lookup f) (mA f) := I1.hok dd _ hdd
  obtain ⟨od, ho, hl⟩ := lookIn_ns hns
  obtain ⟨u, hu, ru⟩ := RelO.some_of (v := v) (o := mA n) (by rw [← l]; exact hr n)
  have J : PySem.W.InstAt s1.heap a oe C (some od) := ⟨e1, e2.1, by unfold PySem.W.notCls; rw [e3] <;> rfl, by rw [e2.2]; exact ho⟩
  exact HandSPX.exc_get I1.kIn J T.ga T.gg T.exC (PySem.W.findObj_own T.hdC hno rfl (by rw [hl, hu])) (handed_of ru) ⟨v, H1, I1.tok _, ru, q⟩
end

/-! ### defs that may be called wherever an exception is handled -/
structure FnC (P : Program) (w : World) (K : PySem.W.Frag) (mg : Str → Option Value) (base : Heap) (k : Nat) (f : Addr) (fd : FuncData) (ps : List Str) (sp : Sp) : Prop where
  len : ∀ vs H Q E, sp vs H Q E → vs.length = ps.length
  run : ∀ (A : Around) (outer : List Env) (s : Shared) (H : Hp) (args : Args) (us : List Value) (vs : List V) (Q : VK) (E : XK), L2H.RoomH k A → Env0 P w K mg base A outer s H → BindsTo s fd args (ps.zip us) → Vals vs us → sp vs H Q E →
    codeAny (model P w) A (.call (.ref f) args) (CR CX0 outer P w H s Q E) s
abbrev cxC (P : Program) (w : World) (K : PySem.W.Frag) (mg : Str → Option Value) (base : Heap) (N : List Str) (qual : Str) (scope : Scope) (f : Addr) (cd : Value) (A : Around) (outer : List Env) (s : Shared) (H : Hp) (E : XK) : Cx :=
  { cxOf CX0 P w K mg base N qual scope f cd A outer s H E with calm := false }
theorem fn_ofC {P : Program} {w : World} {K : PySem.W.Frag} {mg : Str → Option Value} {base : Heap} {k : Nat} {f : Addr} {name qual : Str} {params : Arguments} {body : List Stmt} {scope : Scope} {dV kV doc pm cdv ct oc : Value} {an od : Option Addr}
    {osl : Array (Option Value)} {N ps : List Str} {sp : Sp} (lk : K.lookup f = some ⟨oc, od, .func (PySem.W.fnOf name qual params body scope dV kV doc pm an cdv ct), osl⟩) (hcd : PySem.W.codeIn K cdv qual = true) (S : FnScope N ps scope) (len : ∀ vs H Q E, sp vs H Q E → vs.length = ps.length)
    (hbody : ∀ (A : Around) (outer : List Env) (s : Shared) (H : Hp) (vs : List V) (Q : VK) (E : XK), L2H.RoomH k (A.deeper (envOfC qual scope s.heap.objs.size f cdv)) → sp vs H Q E →
      ∃ t, PSs (cxC P w K mg base N qual scope f cdv A outer s H E) body t ∧ t { nx := fun _ H' => Q .non H', rt := Q } (L2.start N vs) H) :
    FnC P w K mg base (k + 1) f (PySem.W.fnOf name qual params body scope dV kV doc pm an cdv ct) ps sp := by
  refine ⟨len, fun A outer s H args us vs Q E hr e0 hb r hsp => ?_⟩
  have KX : K.In s.heap := e0.mod.kin.keeps fun b o e => (e0.bs b o e).1
  have lim : s.heap.NoLimit := e0.mod.nolimit.keeps fun b o e => (e0.bs b o e).1
  have hkind : ∀ y ∈ ps.zip us, scope.names.lookup y.1 = some .local ∨ (scope.names.lookup y.1 = some .cell ∧ ((cellsFrom (s.heap.objs.size + 1) scope.names []).lookup y.1).isSome = true) := fun ⟨n, v⟩ hy => by
    rcases S.par n (List.of_mem_zip hy).1 with q | q
    · exact .inl q
    · exact .inr ⟨q, PySem.W.cellsFrom_some _ _ _ (.inl q)⟩
  refine codeAny_call_function hr.depth (KX _ _ lk) rfl S.co S.gen rfl (PySem.W.codeRec_of KX hcd) (hb _ _ _ _ ?_)
  refine wpAny_newFunctionEnv_cells S.kind hkind fun env he s1 x => ?_
  subst he
  refine ⟨lim.keeps x.toInCall.keep, codeAny_func ?_⟩
  obtain ⟨t, ht, hq⟩ := hbody A outer s H vs Q E (hr.deeper _) hsp
  have e1 : Env0 P w K mg base { A with handled := none } outer s H := ⟨e0.frames, e0.mod, e0.bs, e0.bsz, e0.funs, e0.frf, e0.hok, e0.bare⟩
  have I0 : Inv (cxOf CX0 P w K mg base N qual scope f cdv { A with handled := none } outer s H E) [] (L2.start N vs) H s1 := inv_start S rfl e1 (len _ _ _ _ hsp) r x
  have I : Inv (cxC P w K mg base N qual scope f cdv A outer s H E) [] (L2.start N vs) H s1 :=
    ⟨⟨I0.ok.mod, I0.ok.kind, I0.ok.glob, I0.ok.blt, I0.ok.above, I0.ok.inj, I0.ok.has, I0.ok.cab, fun z => absurd (show false = true from z) Bool.false_ne_true, Around.frames_deeper e0.frames, I0.ok.stk, I0.ok.exf, I0.ok.bs, I0.ok.bsz, I0.ok.noex, I0.ok.exfs, I0.ok.funs, I0.ok.frf⟩,
      I0.os, I0.bare, I0.base, I0.loc, I0.cell, I0.free, I0.freeC, I0.pin, I0.hok, I0.len⟩
  refine wpAny_mono (ht.run [] s1 (L2.start N vs) H _ I hq) (fun fl s' hs => ?_) fun e s' hs => hs
  have fin : ∀ {σ' : L2.St} {H' : Hp} {v : V} {u : Value}, Inv (cxC P w K mg base N qual scope f cdv A outer s H E) [] σ' H' s' → RelV v u → Q v H' → CE outer P w H s Q u s' :=
    fun {σ' H' v u} J rv q => ⟨v, H', J.os, J.bare, J.base, J.hok, rv, q⟩
  cases fl with
  | ret u =>
    obtain ⟨v, σ', H', J, rv, q⟩ := hs
    exact fin J rv q
  | next =>
    obtain ⟨σ', H', J, q⟩ := hs
    exact fin (v := V.non) (u := Value.none) J rfl q
  | brk =>
    obtain ⟨_, _, _, q⟩ := hs
    exact False.elim q
  | cont =>
    obtain ⟨_, _, _, q⟩ := hs
    exact False.elim q
section
variable {X : Cx}
theorem pe_callC {k : Nat} {f : Addr} {fd : FuncData} {ps : List Str} {sp : Sp} {x : Str} {p pos : Pos} {e : Expr} {es : List Expr} {t : TA} (F : FnC X.prog X.w X.K X.mg X.base k f fd ps sp) (hr : L2H.RoomH k X.A) (hg : Gl X x) (hm : X.mg x = some (.ref f)) (hk : PySem.W.keepIn X.K (.ref f) = true)
    (hb : Binds X.K fd ps []) (ha : PA X (e :: es) t) (hdb : (x == ("__debug__" : Str)) = false := by decide) (he : starEach (e :: es) X.env = (false, eval e X.env) :: starEach es X.env := by rfl) (hpl : (backTo pos (starEach es X.env)).any (·.1) = false := by rfl) :
    PE X (.Call (.Name x p) (e :: es) [] pos) (tCallS sp (fun _ _ _ _ => False) t) := by
  refine ⟨fun pins s σ H Q I h => ?_⟩
  refine wpAny_Call_Name_kw (ld_glob I hg hm ?_ hdb)
  refine PySem.W.callWith_K (h₀ := X.base) I.ok.mod.kin hk (thn (ha.run pos pins s σ H _ I h) fun us s1 ⟨vs, H1, I1, r, q⟩ => ⟨I1.kIn, ?_⟩) he hpl
  have hl : us.length = ps.length := by rw [← r.length]; exact F.len _ _ _ _ q
  have b := hb s1 us I1.kIn (by rw [List.append_nil]; exact hl)
  rw [List.append_nil] at b
  refine wpAny_call (codeAny_mono (F.run X.A X.stack s1 H1 ⟨us, []⟩ us vs Q (fun _ _ _ => False) hr I1.env0 b r q) fun r s' hq => ?_)
  cases r with
  | error e => exact hq.elim
  | ok fl =>
    cases fl with
    | ret u => exact I1.after hq
    | next => exact False.elim hq
    | brk => exact False.elim hq
    | cont => exact False.elim hq
end

/-! ### try: body, except (x1, x2) as n: suite; every exception of the body is one of these -/
theorem FlyingZ_push {base h h' : Heap} {l : List Env} {e : Addr} {Z : Obj → Prop} (f : HandSPX.FlyingZ base l e Z h) (k : ∀ b o, h.get? b = some o → h'.get? b = some o) : HandSPX.FlyingZ base l e Z h' := by
  obtain ⟨f1, f2, f3, oe, vs, T, oT, ts, h1, h2, h3, h4, h5, h6, h7, h8, h9⟩ := f
  exact ⟨fun b o q => k _ _ (f1 b o q), f2, Heap.FunFrames.of_keeps (fun b o q _ => ⟨o, k _ _ q, rfl⟩) f3, oe, vs, T, oT, ts, k _ _ h1, h2, h3, h4, h5, h6, k _ _ h7, h8, h9⟩
def wTup (K : PySem.W.Frag) (c1 c2 : Value) (nn i : Nat) (ts : Addr → Value → Option Addr → TS) (D : Ends) : WX := fun cls d σ H =>
  PySem.W.exmAny K cls [c1, c2] = some true ∧ ∀ a, H a = none → σ.length = nn → ts a cls d { nx := fun σ' H' => D.nx (σ'.set i none) H', rt := D.rt, bk := fun σ' H' => D.bk (σ'.set i none) H', ct := fun σ' H' => D.ct (σ'.set i none) H' } (σ.set i (some (.ref a))) (upd H a (ExT cls d a))
section
variable {X : Cx}
theorem Inv.suiteT {pins : List (Addr × Obj)} {σ : L2.St} {H : Hp} {s : Shared} (I : Inv X pins σ H s) (a : Addr) : Inv (X.suite a (X.pn ++ pins)) [] σ H s :=
  ⟨I.ok.suite _ _, I.os, I.bare, I.base, I.loc, I.cell, I.free, I.freeC, fun p hp => I.pin p (by rw [List.append_nil] at hp; exact hp), I.hok, I.len⟩
theorem Inv.unsuiteT {pins pn' : List (Addr × Obj)} {σ : L2.St} {H : Hp} {s : Shared} {a : Addr} (I : Inv (X.suite a (X.pn ++ pins)) pn' σ H s) (ok : X.Ok) : Inv X pins σ H s :=
  ⟨ok, I.os, I.bare, I.base, I.loc, I.cell, I.free, I.freeC, fun p hp => I.pin p (List.mem_append_left _ hp), I.hok, I.len⟩
/-- the class that an except clause names: one of ours -/
structure NamesO (X : Cx) (x : Str) (c : Value) : Prop where
  gl : Gl X x
  db : (x == ("__debug__" : Str)) = false
  mg : X.mg x = some c
variable {x1 x2 n : Str} {c1 c2 : Value} {i kk : Nat} {body suite : List Stmt} {b₀ : Stmt} {np1 np2 tp pos pos' : Pos} {tb : WX → TS} {ts : Addr → Value → Option Addr → TS}
theorem ps_try_tup (hs : X.stack = X.env :: X.outer) (hf : X.env.frame = some X.env.locals) (hN : X.N.Nodup) (hi : X.N[i]? = some n) (hln : X.env.kindOf n = some .local) (hc1 : NamesO X x1 c1) (hc2 : NamesO X x2 c2)
    (hb : ∀ (W : WX) (pn : List (Addr × Obj)) (xe : Value → Shared → Prop), Takes (X.tr pn xe) W → PassesOwn (model X.prog X.w) X.A X.env xe → PSs (X.tr pn xe) body (tb W))
    (hsu : ∀ (a : Addr) (cls : Value) (d : Option Addr) (pn : List (Addr × Obj)), PSs (X.suite a pn) (b₀ :: suite) (ts a cls d)) :
    PS X (.Try body [.ExceptHandler (some (.Tuple [.Name x1 np1, .Name x2 np2] kk tp)) (some n) (b₀ :: suite) pos'] [] [] pos) (fun D σ H => tb (wTup X.K c1 c2 X.N.length i ts D) D σ H) := by
  refine ⟨fun pins s σ H D I h => ?_⟩
  have ok := I.ok
  have hfr : X.A.frames = some (X.env :: X.outer) := by rw [ok.frames, hs]
  have hloc : Loc X.env.scope n := .inl hln
  refine wpAny_Try_except ?_
  refine wpAny_mono ((hb (wTup X.K c1 c2 X.N.length i ts D) (X.pn ++ pins) (fun e s₁ => wpAny (model X.prog X.w) X.A (noteFrame e X.env) (fun _ s₂ => wpAny (model X.prog X.w) X.A (setFlight e none) (fun _ s₃ =>
    wpAny (model X.prog X.w) X.A (handleBy e X.env [.ExceptHandler (some (.Tuple [.Name x1 np1, .Name x2 np2] kk tp)) (some n) (b₀ :: suite) pos']) (SP X pins D) X.xe s₃) X.xe s₂) X.xe s₁) (fun u s' xx => ?_) PassesOwn.looking).run [] s σ H D (I.toTry _) h) (fun f s1 hsp => ?_) (fun e s1 he => he)
  · -- the catch
    obtain ⟨a, B, sI, pins', σ', H', cls, d, rfl, J', nb, up, sky, na, os, ag, hb1, hyes⟩ := xx
    have J : Inv X pins σ' H' sI := J'.ofTry ok
    have sky' : Sky B (X.env :: X.outer) a (Zc cls d) X.env.locals s'.heap := by rw [← hs]; exact sky
    show wpAny (model X.prog X.w) X.A (noteFrame (.ref a) X.env) _ _ _
    refine Sky.land Zc.steady hfr hf sky' fun h3 fl3 up3 => ?_
    have J3 : Inv X pins σ' H' { s' with heap := h3 } := J.landed nb fl3.1 (up.trans up3) os ag
    obtain ⟨oe3, vs3, he3, hz3, hd3⟩ := fl3.there
    have notFr : ∀ {h : Heap} {o : Obj} {vs : Array Value}, h.FunFrames B (X.env :: X.outer) → h.get? a = some o → o.data = .fields vs → a ∉ frs (X.env :: X.outer) := fun {h o vs} ff e dd hm => by
      obtain ⟨_, o', e', hnf⟩ := ff.mem hm
      rw [e] at e'; cases e'
      exact hnf _ dd
    have nfr := notFr fl3.2.2.1 he3 hd3
    have naI : sI.heap.get? a = none := by
      cases e : sI.heap.get? a with
      | none => rfl
      | some o =>
        have z := nb a o e (by rw [hs]; exact nfr)
        rw [fl3.2.1] at z
        cases z
    have S3 := Inv.suiteT J3 a
    refine wpAny_handleBy_cons (codeAny_handlers_test ?_) (by intro q; cases q)
    have LT : PySem.W.Looks (model X.prog X.w) h3 (typeOf (.ref a)) cls := fun A Q E s k q => wpAny_typeOf_ref (k _ _ he3) (by rw [hz3.1]; exact q)
    refine wpAny_Tuple ?_
    refine wpAny_items_cons (ld_glob (X := X.suite a (X.pn ++ pins)) S3 hc1.gl hc1.mg ?_ hc1.db)
    refine wpAny_items_cons (ld_glob (X := X.suite a (X.pn ++ pins)) S3 hc2.gl hc2.mg ?_ hc2.db)
    refine wpAny_items_nil ⟨by size_fits, ?_⟩
    have kp : ∀ q o, h3.get? q = some o → (h3.push { cls := .type "tuple", data := .seq [c1, c2].toArray }).get? q = some o := fun _ _ z => Heap.get?_push_of_some _ z
    have LM := PySem.W.exm_tup2 (M := model X.prog X.w) ((J3.kIn).keeps kp) (LT.keeps kp) (Heap.get?_push_size h3 rfl) hb1
    refine LM.here ?_
    have fl3' : HandSPX.FlyingZ B (X.env :: X.outer) a (Zc cls d) (h3.push { cls := .type "tuple", data := .seq [c1, c2].toArray }) := FlyingZ_push fl3 kp
    refine codeAny_handlers_suite_as ?_
    refine HandSPX.lands_againZ fl3' fun h4 fl4 up4 => ?_
    obtain ⟨oe4, vs4, he4, hz4, hd4⟩ := fl4.there
    have up34 : sI.heap.UpToSlots h4 := ((up.trans up3).trans (Heap.UpToSlots.of_keeps kp)).trans up4
    obtain ⟨G, g1, g2⟩ := restrict h4 fun b => decide (b ≠ a)
    have gk : ∀ b o, b ≠ a → h4.get? b = some o → G.get? b = some o := fun b o hb e => by
      rw [g1 b (decide_eq_true hb)]
      exact e
    have ga : G.get? a = none := g2 a (decide_eq_false fun z => z rfl)
    have gs : ∀ b o, G.get? b = some o → h4.get? b = some o := fun b o e => by
      by_cases hb : b = a
      · rw [hb, ga] at e
        cases e
      · rw [← g1 b (decide_eq_true hb)]
        exact e
    have upG : sI.heap.UpToSlots G := fun b o e nf => by
      obtain ⟨sl, q⟩ := up34 b o e nf
      exact ⟨sl, gk _ _ (fun z => by rw [z, naI] at e; cases e) q⟩
    have stG : B.StaysIn G := fun b o e => gk _ _ (fun z => by rw [z, fl4.2.1] at e; cases e) (fl4.1 b o e)
    have J4 : Inv X pins σ' H' { s' with heap := G } := J.landed nb stG upG os ag
    have J5 : Inv X pins σ' (upd H' a (ExT cls d a)) { { s' with heap := G } with heap := h4, toks := s'.toks } := J4.laidN (t' := s'.toks) gs ga na (exT_ok he4 hz4 hd4)
    have S5 : Inv (X.suite a (X.pn ++ pins)) [] σ' (upd H' a (ExT cls d a)) { s' with heap := h4 } := Inv.suiteT J5 a
    refine store_ok (X := X.suite a (X.pn ++ pins)) (v := .ref a) S5 hN hi hloc rfl (fun s5 S5 => ?_) (.inr hln)
    refine wpAny_mono ((hsu a cls d (X.pn ++ pins)).run [] s5 _ _ _ S5 (hyes a na J.len)) (fun f s6 hsp => ?_) (fun _ _ z => False.elim z)
    have end_ : ∀ {σ6 : L2.St} {H6 : Hp} {Q : Shared → Prop}, Inv (X.suite a (X.pn ++ pins)) [] σ6 H6 s6 → (∀ s7, Inv X pins (σ6.set i none) H6 s7 → Q s7) →
        wpAny (model X.prog X.w) X.A (do bindName X.env n .none; unbindBehindTheSuite X.env n pos') (fun _ s7 => Q s7) X.xe s6 := fun {σ6 H6 Q} S6 hq => gone_ok (Inv.unsuiteT S6 ok) hN hi hln hq
    cases f with
    | next =>
      obtain ⟨σ6, H6, S6, q6⟩ := hsp
      exact end_ S6 fun s7 J7 => ⟨_, _, J7, q6⟩
    | brk =>
      obtain ⟨σ6, H6, S6, q6⟩ := hsp
      exact end_ S6 fun s7 J7 => ⟨_, _, J7, q6⟩
    | cont =>
      obtain ⟨σ6, H6, S6, q6⟩ := hsp
      exact end_ S6 fun s7 J7 => ⟨_, _, J7, q6⟩
    | ret u =>
      obtain ⟨v6, σ6, H6, S6, r6, q6⟩ := hsp
      exact end_ S6 fun s7 J7 => ⟨_, _, _, J7, r6, q6⟩
  · cases f with
    | next =>
      obtain ⟨σ', H', J', q⟩ := hsp
      exact wpAny_execs_nil ⟨σ', H', J'.ofTry ok, q⟩
    | brk =>
      obtain ⟨σ', H', J', q⟩ := hsp
      exact ⟨σ', H', J'.ofTry ok, q⟩
    | cont =>
      obtain ⟨σ', H', J', q⟩ := hsp
      exact ⟨σ', H', J'.ofTry ok, q⟩
    | ret u =>
      obtain ⟨v, σ', H', J', r, q⟩ := hsp
      exact ⟨v, σ', H', J'.ofTry ok, r, q⟩
end
end Tz
end -- LayE
section -- LayF
set_option maxHeartbeats 4000000
/-! sorted(xs, key=lambda x: x[-1]); == of dicts with data for values, both answers. -/
namespace Tz
open PySem PySem.Spec PyProof.Rows L2

theorem extN_seq {K : PySem.W.Frag} {H H' : Hp} {a : Addr} {xs : List V} (e : LamX.ExtN H H') (h : SqL K H a xs) : SqL K H' a xs := by
  rcases h with (h | ⟨o, h⟩) | h
  · exact .inl (.inl (e _ _ h fun ps z => nomatch z))
  · exact .inl (.inr ⟨o, e _ _ h fun ps z => nomatch z⟩)
  · exact .inr h

/-! ### lambda x: x[-1] called on a list -/
section
variable {prog : Program} {w : World} {A : Around} {s : Shared}
theorem last_run {n : Str} {q : Str} {params : Arguments} {scope : Scope} {pm ctv : Value} {f c' b : Addr} {p1 p2 p3 p4 : Pos} {kk : Nat} {its : List Value} {k : Int} {tk : Tok}
    (hroom : A.depth < recursionLimit) (hf : s.heap.get? f = some (PySem.W.kla_obj "<lambda>" q params (.Subscript (.Name n p1) (.UnaryOp .USub (.Constant (.int 1) kk p2) p3) p4) scope [] pm c' ctv)) (hcd : s.heap.CodeRec (.ref c') q)
    (hk : scope.kind = .function) (hco : scope.isCoroutine = false) (hgen : scope.isGenerator = false) (hloc : scope.names.lookup n = some .local) (hcell : ∀ x ∈ scope.names, x.2 ≠ .cell) (hn : (n == ("__debug__" : Str)) = false)
    (hbind : ∀ v, bindArgs (PySem.W.kla_fn "<lambda>" q params (.Subscript (.Name n p1) (.UnaryOp .USub (.Constant (.int 1) kk p2) p3) p4) scope [] pm (.ref c') ctv) ⟨[v], []⟩ = pure [(n, v)])
    (lim : s.heap.NoLimit) (hl : s.heap.IsList b its.toArray) (hne : 0 < its.length) (hlast : its[its.length - 1]? = some (.int k tk)) (hs63 : its.length < 2 ^ 62) :
    wpAny (model prog w) A (call (.ref f) [.ref b]) (PySem.W.KeyPure (.int k) s) (fun _ _ => False) s := by
  refine wpAny_call ?_
  refine PySem.W.kla_callFunE hroom hf rfl hco hgen rfl hcd ?_
  rw [hbind]
  refine wpAny_pure (wpAny_newFunctionEnv hcell (fun y hy => ?_) (fun h₁ hns hsb => ⟨lim.fresh _ hsb, ?_⟩) hk)
  · rw [List.mem_singleton.mp hy]
    exact hloc
  show codeAny _ _ (.expr _ (PySem.W.envX q scope s.heap.objs.size f (.ref c') [])) _ _
  have kp : ∀ b o, s.heap.get? b = some o → h₁.get? b = some o := fun b o e => hsb.extBut b o (Nat.ne_of_lt (Heap.lt_size e)) (Heap.get?_push_of_some _ e)
  have hl1 : h₁.IsList b its.toArray := by
    obtain ⟨o, ho, r⟩ := hl
    exact ⟨o, kp _ _ ho, r⟩
  refine PySem.W.kla_codeExpr ?_
  refine Subscript_ ?_
  have hm : (fun x => ([(n, Value.ref b)] : List (Str × Value)).reverse.lookup x) n = some (.ref b) := by
    simp [List.lookup]
  refine wpAny_Name (wpAny_loadName_local (show (PySem.W.envX q scope s.heap.objs.size f (.ref c') []).scope.kind = .function from hk) hloc hns hm ?_) hn
  refine UnaryOp_ (wpAny_Constant_int (neg_int ?_))
  refine subscriptTail_builtinR (x := .int k tk) hl1.typeIs slot_list_getitem.lookup
    (wpAny_getItem_list_neg (x := .int k tk) hl1 (by omega) (by rw [List.size_toArray] <;> omega) (by omega) ?_ ?_) (by with_unfolding_all rfl)
  · have e : (-1 + ((its.toArray.size : Nat) : Int)).toNat = its.length - 1 := by
      rw [List.size_toArray]
      omega
    rw [e]
    simpa using hlast
  · exact ⟨rfl, h₁, _, rfl, kp, .int k tk⟩
end
section
variable {X : Cx}
def tSortLam (T : List (Addr × Str)) (K : PySem.W.Frag) (ta : TA) : TE := fun σ H Q => ta σ H fun vs H1 => LamX.Tabs T H1 ∧ ∃ (a : Addr) (bs : List (V × Int)), vs = [.ref a] ∧ SqL K H1 a (bs.map (·.1)) ∧ bs.length ≤ 1000 ∧
  (∀ x ∈ bs, ∃ b ys, x.1 = .ref b ∧ SqL K H1 b ys ∧ atI ys (-1) = some (.int x.2)) ∧
  ∀ H2, LamX.ExtN H1 H2 → LamX.Tabs T H2 → ∀ p, H2 p = none → Q (.ref p) (upd H2 p (.lst ((bs.mergeSort fun x y => decide (x.2 ≤ y.2)).map (·.1))))
theorem vals_each {vs : List V} {us : List Value} (r : Vals vs us) : ∀ (bs : List (V × Int)), bs.map (·.1) = vs → PySem.W.EachIs (fun u (x : V × Int) => RelV x.1 u) us bs := by
  induction r with
  | nil =>
    intro bs e
    cases bs with
    | nil => exact .nil
    | cons x bs => cases e
  | cons r1 rr ih =>
    intro bs e
    cases bs with
    | nil => cases e
    | cons x bs =>
      obtain ⟨e1, e2⟩ := List.cons.inj e
      exact .cons (by rw [show x.1 = _ from e1]; exact r1) (ih bs e2)
theorem each_vals : ∀ {us : List Value} {bs : List (V × Int)}, PySem.W.EachIs (fun u (x : V × Int) => RelV x.1 u) us bs → Vals (bs.map (·.1)) us
  | [], [], _ => .nil
  | _ :: _, [], h => by cases h
  | [], _ :: _, h => by cases h
  | u :: us, x :: bs, h => by
    cases h with
    | cons h1 h2 => exact .cons h1 (each_vals h2)
theorem pe_sortLam {T : List (Addr × Str)} {c P : Addr} {k : Nat} {e : Expr} {ta : TA} {n : Str} {params : Arguments} {scope : Scope} {lpos p p1 p2 p3 p4 kpos pos : Pos} {kk : Nat}
    (hm : X.mg "sorted" = none) (hr : Room (k + 3) X.A) (ha : PA X [e] ta) (TB : LamX.TabB X.base X.mg c P) (hcode : X.env.code = .ref c)
    (hmT : (P, X.env.qual ++ "<lambda>") ∈ T) (hu : ∀ p ∈ T, p.1 = P → p.2 = X.env.qual ++ "<lambda>") (hdef : defaultsOf params X.env = ([], []))
    (hbind : ∀ (q : Str) (pm cv ctv v : Value), bindArgs (PySem.W.kla_fn "<lambda>" q params (.Subscript (.Name n p1) (.UnaryOp .USub (.Constant (.int 1) kk p2) p3) p4) scope [] pm cv ctv) ⟨[v], []⟩ = pure [(n, v)])
    (hk : scope.kind = .function) (hco : scope.isCoroutine = false) (hgen : scope.isGenerator = false) (hloc : scope.names.lookup n = some .local) (hcell : ∀ x ∈ scope.names, x.2 ≠ .cell ∧ x.2 ≠ .free)
    (hg : Gl X "sorted") (hclo : cloFrom X.env.cells scope.names [] = [] := by rfl) (hn : (n == ("__debug__" : Str)) = false := by decide)
    (hst : backTo pos (starEach [e] X.env) = (false, eval e X.env) :: backTo pos (starEach [] X.env) := by rfl) (hpl : (backTo pos (starEach [e] X.env)).any (·.1) = false := by rfl)
    (hall : (backToKw pos (keywordEach [⟨some "key", .Lambda params (.Subscript (.Name n p1) (.UnaryOp .USub (.Constant (.int 1) kk p2) p3) p4) scope lpos, kpos⟩] X.env)).all (·.1.isSome) = true := by rfl)
    (hnone : (backToKw pos (keywordEach [⟨some "key", .Lambda params (.Subscript (.Name n p1) (.UnaryOp .USub (.Constant (.int 1) kk p2) p3) p4) scope lpos, kpos⟩] X.env)).any (·.1.isNone) = false := by rfl) :
    PE X (.Call (.Name "sorted" p) [e] [⟨some "key", .Lambda params (.Subscript (.Name n p1) (.UnaryOp .USub (.Constant (.int 1) kk p2) p3) p4) scope lpos, kpos⟩] pos) (tSortLam T X.K ta) := by
  refine ⟨fun pins s σ H Q I h => ?_⟩
  refine wpAny_Call_Name_kw (ld_blt (u := .builtin "sorted") I hg hm (by decide +kernel) ?_)
  refine PyProof.Rows.callWith_kw (thn (ha.run pos pins s σ H _ I h) fun us s1 ⟨vs, H1, I1, r1, q1⟩ => ?_) hst hpl hall hnone
  obtain ⟨hT, a, bs, rfl, hl, hz, hb, q⟩ := q1
  obtain ⟨u, rfl, ru⟩ := vals1 r1
  obtain rfl : u = Value.ref a := ru
  have hfree : ∀ y ∈ scope.names, y.2 = .free → ∃ c, X.env.cells.lookup y.1 = some c := fun y hy e => absurd e (hcell y hy).2
  show wpAny _ _ (evalAll [do let v ← eval (.Lambda params (.Subscript (.Name n p1) (.UnaryOp .USub (.Constant (.int 1) kk p2) p3) p4) scope lpos) X.env; standAt pos; pure v]) _ _ s1
  refine wpAny_evalAll_cons (wpAny_bind (LamX.lam_make2 I1 TB hcode hmT hu hT hdef hfree fun f c' pm ctv H2 s2 I2 eN T2 hf hfn hfr hco' => wpAny_bind (wpAny_standAt (wpAny_pure (wpAny_evalAll_nil ?_)))))
  rw [hclo] at hf
  obtain ⟨its, rv, pl, hsz⟩ := I2.list (extN_seq eN hl)
  have hlen := rv.length
  rw [List.length_map] at hlen
  obtain ⟨⟨oc, vsc, t, hoc, hdc, hvc⟩, _, _⟩ := I2.hok c' _ hco'
  have hul := (X.A).units
  refine PySem.W.sorted_key_data (β := V × Int) (bs := bs) (b := false) (R := fun u x => RelV x.1 u) (fun x => .int x.2) pl.isList (vals_each rv bs rfl) ?_ ?_ (by have := sizeLine_eq; omega) ?_ (ksk_s1 _ _) (fun x => ksk_l1 _ _) (fun x => ksk_t1 f x) ?_ ?_
  · exact PySem.W.AllAlike.of (enc := fun x : V × Int => .int x.2) fun b b' => rfl
  · exact PySem.W.Sortable.others (enc := fun x : V × Int => .int x.2) fun b => ⟨(fun z => nomatch z), fun xs z => nomatch z⟩
  · intro x hx
    have := hr.un
    show X.A.units + 2 + 0 < _
    omega
  · intro v x hR hx h tk kp
    obtain ⟨b, ys, e1, e2, e3⟩ := hb x hx
    rw [e1] at hR
    obtain rfl : v = Value.ref b := hR
    obtain ⟨it2, r2, pl2, hs2⟩ := I2.list (extN_seq eN e2)
    obtain ⟨j, h1, h2, h3, h4, h5⟩ := atI_get e3
    have hl2 := r2.length
    have ej : j = ys.length - 1 := by
      rw [seqIndex_neg (by omega) h4] at h1
      have := Option.some.inj h1
      omega
    obtain ⟨w, ew, rw'⟩ := r2.get h2
    obtain ⟨tk', rfl⟩ : ∃ t, w = .int x.2 t := rw'
    obtain ⟨o, ho, r⟩ := pl2.isList
    have hr2 : Room (k + 1) X.A.in1.in1 := (show Room (k + 2) X.A.in1 from Room.in1 hr).in1
    refine last_run (its := it2) (tk := tk') hr2.depth (kp _ _ hf) ⟨c', oc, vsc, t, rfl, kp _ _ hoc, hdc, hvc⟩ hk hco hgen hloc (fun y hy => (hcell y hy).1) hn (fun v => hbind _ _ _ _ _) (I2.nolimit.keeps kp) ⟨o, kp _ _ ho, r⟩ (by omega) (by rw [← hl2, ← ej]; exact ew) (by have := sizeLine_eq; omega)
  · intro out c2 h' tk kp hnew hnew2 hlo heo
    have I3 : Inv X pins σ (upd H2 (s2.heap.objs.size + 1) (.lst ((bs.mergeSort fun x y => decide (x.2 ≤ y.2)).map (·.1)))) { s2 with heap := h', toks := tk } := by
      refine I2.laid (t' := tk) kp (Nat.le_succ _) ?_
      rw [PySem.W.dataLe_int] at heo
      refine ⟨?_, out, c2, each_vals heo, hnew2⟩
      rw [List.length_map, List.length_mergeSort]
      have := sizeLine_eq
      omega
    exact ⟨.ref _, _, I3, rfl, q H2 eN T2 _ (I2.hok.fresh (Nat.le_succ _))⟩

/-! ### == of dicts, the values data -/
inductive Hits (K : PySem.W.Frag) (H : Hp) (ls : List (Key × V)) : List (Key × V) → Bool → Prop
  | nil : Hits K H ls [] true
  | miss {k : Key} {v : V} {r : List (Key × V)} : valV ls k = none → Hits K H ls ((k, v) :: r) false
  | hit {k : Key} {v y : V} {d e : PyData} {r : List (Key × V)} {b : Bool} : valV ls k = some y → Dp K H v d → Dp K H y e → d.plain = true → e.plain = true → d.depth ≤ 60 → Hits K H ls r b → Hits K H ls ((k, v) :: r) (PyData.eqv d e && b)
theorem hits_of {pins : List (Addr × Obj)} {σ : L2.St} {H : Hp} {s : Shared} (I : Inv X pins σ H s) {A : Around} (hu : A.units + 64 < cLine) {ls : List (Key × V)} {vb : List (Key × Value)} (rb : KV ls vb) :
    ∀ {ks : List (Key × V)} {r : Bool}, Hits X.K H ls ks r → ∀ {va : List (Key × Value)}, KV ks va → PySem.W.KeqHits A s vb va r := by
  intro ks r h
  induction h with
  | nil =>
    intro va ra
    cases ra
    exact .nil
  | @miss k v r e =>
    intro va ra
    cases ra with
    | @cons p q ps qs h t =>
      obtain ⟨key, u⟩ := q
      obtain ⟨h1, h2⟩ := h
      have h1' : k = key := h1
      subst h1'
      have rr : RelO (none : Option V) (valueAt vb k) := by rw [← e]; exact rb.val k
      refine .miss ?_
      cases q : valueAt vb k with
      | none => rfl
      | some y =>
        rw [q] at rr
        exact rr.elim
  | @hit k v y d e r b ey hd he sd se sz hr ih =>
    intro va ra
    cases ra with
    | @cons p q ps qs h t =>
      obtain ⟨key, u⟩ := q
      obtain ⟨h1, h2⟩ := h
      have h1' : k = key := h1
      subst h1'
      have rr : RelO (some y) (valueAt vb k) := by rw [← ey]; exact rb.val k
      obtain ⟨w, hw, ry⟩ := rr.some_of
      obtain ⟨as, r1⟩ := Dp.reads I d v u hd h2
      obtain ⟨bs, r2⟩ := Dp.reads I e y w he ry
      exact .hit hw (SeqAt.eqAt_plain d e A s u w as bs r1 r2 sd se (by have := Nat.min_le_left d.depth e.depth; omega)) (ih t)
def rEqDT (K : PySem.W.Frag) : R2 := fun x y H Q => ∃ a b ks ls r, x = .ref a ∧ y = .ref b ∧ H a = some (.dK ks) ∧ H b = some (.dK ls) ∧ Hits K H ls ks r ∧ Q (.bl (ks.length == ls.length && r)) H
theorem op_eqDT (hu : X.A.units + 65 < cLine) : OpR X (compareOp .Eq) (rEqDT X.K) := by
  intro pins s σ H x y v u Q I rx ry h
  obtain ⟨a, b, ks, ls, r, rfl, rfl, ea, eb, hh, q⟩ := h
  obtain rfl : v = Value.ref a := rx
  obtain rfl : u = Value.ref b := ry
  obtain ⟨_, ya, va, ra, da⟩ := (show ObjOk X.prog X.w H s.heap a (.dK ks) from I.hok a _ ea)
  obtain ⟨_, yb, vb, rb, db⟩ := (show ObjOk X.prog X.w H s.heap b (.dK ls) from I.hok b _ eb)
  exact PySem.W.keq_eq (knd := mixKind X.prog X.w) (r := r) ya yb da db (by omega) (fun _ => hits_of I (A := X.A.in1) (by show X.A.units + 1 + 64 < _; omega) rb hh ra) (fin_bl I q (by rw [ra.length, rb.length]))
/-! ### == and != of data without dicts -/
def rEqP (K : PySem.W.Frag) : R2 := fun x y H Q => ∃ d e, Dp K H x d ∧ Dp K H y e ∧ d.plain = true ∧ e.plain = true ∧ d.depth ≤ 60 ∧ Q (.bl (PyData.eqv d e)) H
def rNeP (K : PySem.W.Frag) : R2 := fun x y H Q => ∃ d e, Dp K H x d ∧ Dp K H y e ∧ d.plain = true ∧ e.plain = true ∧ d.depth ≤ 60 ∧ Q (.bl (!PyData.eqv d e)) H
theorem op_eqP (hu : X.A.units + 64 < cLine) : OpR X (compareOp .Eq) (rEqP X.K) := by
  intro pins s σ H x y v u Q I rx ry h
  obtain ⟨d, e, hd, he, sd, se, sz, q⟩ := h
  obtain ⟨as, r1⟩ := Dp.reads I d x v hd rx
  obtain ⟨bs, r2⟩ := Dp.reads I e y u he ry
  exact SeqAt.eq_plain r1 r2 sd se (by have := Nat.min_le_left d.depth e.depth; omega) ⟨.bl _, H, I, rfl, q⟩
theorem op_neP (hu : X.A.units + 64 < cLine) : OpR X (compareOp .NotEq) (rNeP X.K) := by
  intro pins s σ H x y v u Q I rx ry h
  obtain ⟨d, e, hd, he, sd, se, sz, q⟩ := h
  obtain ⟨as, r1⟩ := Dp.reads I d x v hd rx
  obtain ⟨bs, r2⟩ := Dp.reads I e y u he ry
  exact SeqAt.ne_plain r1 r2 sd se (by have := Nat.min_le_left d.depth e.depth; omega) ⟨.bl _, H, I, rfl, q⟩
end
theorem plain_map {α : Type} {g : α → PyData} (h : ∀ x, (g x).plain = true) : ∀ l : List α, PyData.plainAll (l.map g) = true
  | [] => rfl
  | x :: l => by
    show ((g x).plain && PyData.plainAll (l.map g)) = true
    rw [h x, plain_map h l]
    rfl
theorem depth_map {α : Type} {g : α → PyData} {n : Nat} (h : ∀ x, (g x).depth ≤ n) : ∀ l : List α, PyData.depthAll (l.map g) ≤ n
  | [] => Nat.zero_le _
  | x :: l => by
    have h1 := h x
    have h2 := depth_map h l
    simp only [List.map_cons, PyData.depthAll]
    omega
end Tz
end -- LayF
section -- LayG
set_option maxHeartbeats 4000000
/-! Heaps: what may be written (ch), what stands still (Reg), what a call leaves (Fr); data in what stands still. -/
namespace Tz
open PySem PySem.Spec PyProof.Rows L2

/-- no table of code objects -/
abbrev NT (o : HO) : Prop := ∀ ps, o ≠ .tbl ps
theorem nt_lst {xs : List V} : NT (.lst xs) := fun _ z => nomatch z
theorem nt_tup {xs : List V} : NT (.tup xs) := fun _ z => nomatch z
theorem nt_ins {C dx : Addr} {fs : List (Str × V)} : NT (.ins C dx fs) := fun _ z => nomatch z
theorem nt_dK {kvs : List (Key × V)} : NT (.dK kvs) := fun _ z => nomatch z
/-- what of H stands still: all but ch and the tables -/
def Reg (ch : List Addr) (H : Hp) : Hp := fun b => if b ∈ ch then none else match H b with | some (.tbl _) => none | o => o
theorem reg_in {ch : List Addr} {H : Hp} {b : Addr} {o : HO} (hb : b ∉ ch) (e : H b = some o) (n : NT o) : Reg ch H b = some o := by
  unfold Reg
  rw [if_neg hb, e]
  cases o with
  | tbl ps => exact absurd rfl (n ps)
  | _ => rfl
theorem reg_out {ch : List Addr} {H : Hp} {b : Addr} {o : HO} (e : Reg ch H b = some o) : b ∉ ch ∧ H b = some o ∧ NT o := by
  unfold Reg at e
  by_cases hb : b ∈ ch
  · rw [if_pos hb] at e
    cases e
  · rw [if_neg hb] at e
    refine ⟨hb, ?_⟩
    cases q : H b with
    | none =>
      rw [q] at e
      cases e
    | some u =>
      rw [q] at e
      cases u <;> first | (cases e; exact ⟨rfl, fun ps z => nomatch z⟩) | cases e
theorem reg_same {ch : List Addr} {H : Hp} : Same (Reg ch H) H := fun _ _ e => (reg_out e).2.1
theorem reg_less {ch ch' : List Addr} {H : Hp} (h : ∀ b ∈ ch', b ∈ ch) : Same (Reg ch H) (Reg ch' H) := fun b o e => by
  obtain ⟨h1, h2, h3⟩ := reg_out e
  exact reg_in (fun z => h1 (h b z)) h2 h3
/-- what a call leaves that writes at W -/
structure Fr (T : List (Addr × Str)) (W : List Addr) (H H' : Hp) : Prop where
  keep : ∀ b o, b ∉ W → H b = some o → NT o → H' b = some o
  live : ∀ b o, H b = some o → NT o → ∃ o', H' b = some o' ∧ NT o'
  tabs : LamX.Tabs T H → LamX.Tabs T H'
def Lv (ch : List Addr) (H : Hp) : Prop := ∀ c ∈ ch, ∃ o, H c = some o ∧ NT o
section
variable {T : List (Addr × Str)} {W W' ch : List Addr} {H H1 H' : Hp} {p q : Addr} {o : HO}
theorem Fr.refl : Fr T W H H := ⟨fun _ _ _ e _ => e, fun _ o e n => ⟨o, e, n⟩, id⟩
theorem Fr.trans (a : Fr T W H H1) (b : Fr T W H1 H') : Fr T W H H' :=
  ⟨fun c o hc e n => b.keep c o hc (a.keep c o hc e n) n, fun c o e n => by
    obtain ⟨o1, e1, n1⟩ := a.live c o e n
    exact b.live c o1 e1 n1, fun t => b.tabs (a.tabs t)⟩
theorem Fr.wide (a : Fr T W H H') (h : ∀ b ∈ W, b ∈ W') : Fr T W' H H' := ⟨fun c o hc e n => a.keep c o (fun z => hc (h c z)) e n, a.live, a.tabs⟩
theorem Fr.nil (a : Fr T [] H H') : Fr T W H H' := a.wide fun _ z => nomatch z
theorem Fr.of_same (s : Same H H') : Fr T W H H' := ⟨fun c o _ e _ => s c o e, fun c o e n => ⟨o, s c o e, n⟩, fun t => t.ext s⟩
theorem same_new (h : H q = none) : Same H (upd H q o) := fun b x e => by
  rw [upd_ne (ne_of_none e h)]
  exact e
theorem Fr.new (h : H q = none) : Fr T W H (upd H q o) := .of_same (same_new h)
theorem Fr.of_ext (e : LamX.ExtN H H') (t : LamX.Tabs T H') : Fr T W H H' := ⟨fun c o _ h n => e c o h n, fun c o h n => ⟨o, e c o h n, n⟩, fun _ => t⟩
/-- no table, nothing told by its object alone -/
def Wr (o : HO) : Prop := NT o ∧ ∀ φ, o ≠ .ext φ
theorem wr_lst {xs : List V} : Wr (.lst xs) := ⟨(fun _ z => nomatch z), (fun _ z => nomatch z)⟩
theorem wr_ins {C dx : Addr} {fs : List (Str × V)} : Wr (.ins C dx fs) := ⟨(fun _ z => nomatch z), (fun _ z => nomatch z)⟩
theorem wr_dK {kvs : List (Key × V)} : Wr (.dK kvs) := ⟨(fun _ z => nomatch z), (fun _ z => nomatch z)⟩
theorem Fr.write {o' : HO} (h : H q = some o) (w : Wr o) (n : NT o') (hq : q ∈ W) : Fr T W H (upd H q o') := by
  have ne : ∀ b u, H b = some u → (∀ ps, u ≠ .tbl ps) ∨ True → u ≠ o → b ≠ q := fun b u e _ hu z => by
    rw [z, h] at e
    exact hu (Option.some.inj e).symm
  refine ⟨fun b u hb e _ => ?_, fun b u e nb => ?_, fun t p hp => ?_⟩
  · rw [upd_ne (fun z => hb (by rw [z]; exact hq))]
    exact e
  · by_cases hb : b = q
    · exact ⟨o', by rw [hb, upd_same], n⟩
    · exact ⟨u, by rw [upd_ne hb]; exact e, nb⟩
  · obtain ⟨ps, e1, e2, e3⟩ := t p hp
    refine ⟨ps, ?_, e2, fun pos cv hc => ?_⟩
    · rw [upd_ne (ne _ _ e1 (.inr trivial) fun z => w.1 ps z.symm)]
      exact e1
    · obtain ⟨c, f1, f2⟩ := e3 pos cv hc
      refine ⟨c, f1, ?_⟩
      rw [upd_ne (ne _ _ f2 (.inr trivial) fun z => w.2 _ z.symm)]
      exact f2
theorem Fr.reg (a : Fr T W H H') (h : ∀ b ∈ W, b ∈ ch) : Same (Reg ch H) (Reg ch H') := fun b o e => by
  obtain ⟨h1, h2, h3⟩ := reg_out e
  exact reg_in h1 (a.keep b o (fun z => h1 (h b z)) h2 h3) h3
theorem Fr.reg0 (a : Fr T [] H H') : Same (Reg ch H) (Reg ch H') := a.reg fun _ z => nomatch z
theorem Fr.lv (a : Fr T W H H') (h : Lv ch H) : Lv ch H' := fun c hc => by
  obtain ⟨o, e, n⟩ := h c hc
  exact a.live c o e n
theorem Lv.fresh (h : Lv ch H) (hq : H q = none) : q ∉ ch := fun z => by
  obtain ⟨o, e, _⟩ := h q z
  rw [hq] at e
  cases e
theorem Lv.new (h : Lv ch H) (hq : H q = none) (n : NT o) : Lv (q :: ch) (upd H q o) := fun c hc => by
  rcases List.mem_cons.mp hc with rfl | hc
  · exact ⟨o, upd_same, n⟩
  · obtain ⟨u, e, nu⟩ := h c hc
    exact ⟨u, by rw [upd_ne (ne_of_none e hq)]; exact e, nu⟩
theorem Lv.one (e : H p = some o) (n : NT o) : Lv [p] H := fun c hc => ⟨o, by rw [List.mem_singleton.mp hc]; exact e, n⟩
theorem Lv.cons (h : Lv ch H) (e : H p = some o) (n : NT o) : Lv (p :: ch) H := fun c hc => by
  rcases List.mem_cons.mp hc with rfl | hc
  · exact ⟨o, e, n⟩
  · exact h c hc
theorem Lv.nil : Lv [] H := fun _ z => nomatch z
theorem Lv.sub {ch' : List Addr} (h : Lv ch H) (s : ∀ b ∈ ch', b ∈ ch) : Lv ch' H := fun c hc => h c (s c hc)
/-- nothing that counts stands at q -/
def Nw (H : Hp) (q : Addr) : Prop := ∀ o, H q = some o → ¬ NT o
theorem nw_none (h : H q = none) : Nw H q := fun o e => by
  rw [h] at e
  cases e
theorem Fr.nw (a : Fr T W H H') (h : Nw H' q) : Nw H q := fun o e n => by
  obtain ⟨o', e', n'⟩ := a.live q o e n
  exact h o' e' n'
theorem Fr.nw0 (a : Fr T W H H') (h : H' q = none) : Nw H q := a.nw (nw_none h)
theorem Lv.nw (h : Lv ch H) (hq : Nw H q) : q ∉ ch := fun z => by
  obtain ⟨o, e, n⟩ := h q z
  exact hq o e n
theorem ne_nw (e : H p = some o) (n : NT o) (h : Nw H q) : p ≠ q := fun z => by
  subst z
  exact h o e n
/-- a new object of one's own forgotten as one that is written: what was done at it was done at nothing old -/
theorem Fr.drop (a : Fr T (q :: W) H H') (h : Nw H q) : Fr T W H H' := ⟨fun b o hb e n => a.keep b o (fun z => by
    rcases List.mem_cons.mp z with z | z
    · rw [z] at e
      exact h o e n
    · exact hb z) e n, a.live, a.tabs⟩
theorem Fr.dropL {W1 : List Addr} (a : Fr T (W1 ++ W) H H') (h : ∀ q ∈ W1, Nw H q) : Fr T W H H' := ⟨fun b o hb e n => a.keep b o (fun z => by
    rcases List.mem_append.mp z with z | z
    · exact h b z o e n
    · exact hb z) e n, a.live, a.tabs⟩
end

/-! ### data -/
section
variable {K : PySem.W.Frag} {R R' H H' : Hp} {T : List (Addr × Str)} {W ch : List Addr} {q : Addr}
theorem Same.seqT (e : Same R R') {a : Addr} {xs : List V} (h : SqT K R a xs) : SqT K R' a xs := by
  rcases h with (h | ⟨o, h⟩) | h
  · exact .inl (.inl (e _ _ h))
  · exact .inl (.inr ⟨o, e _ _ h⟩)
  · exact .inr h
mutual
theorem dp_mono (e : Same R R') : ∀ (d : PyData) (v : V), Dp K R v d → Dp K R' v d
  | .none, _, h => by cases h; exact .non
  | .bool b, _, h => by cases h; exact .bl b
  | .int i, _, h => by cases h; exact .int i
  | .str x, _, h => by cases h; exact .str x
  | .list ds, _, h => by
    cases h with
    | lst hs ha => exact .lst (e.seq hs) (dps_mono e ds _ ha)
  | .tuple ds, _, h => by
    cases h with
    | tup hs ha => exact .tup (Same.seqT e hs) (dps_mono e ds _ ha)
  | .dict _, _, h => by cases h
theorem dps_mono (e : Same R R') : ∀ (ds : List PyData) (vs : List V), DpAll K R vs ds → DpAll K R' vs ds
  | [], _, h => by cases h; exact .nil
  | d :: ds, _, h => by
    cases h with
    | cons h1 h2 => exact .cons (dp_mono e d _ h1) (dps_mono e ds _ h2)
end
theorem Same.dp (e : Same R R') {v : V} {d : PyData} (h : Dp K R v d) : Dp K R' v d := dp_mono e d v h
theorem Same.dps (e : Same R R') {vs : List V} {ds : List PyData} (h : DpAll K R vs ds) : DpAll K R' vs ds := dps_mono e ds vs h
theorem dp_in {v : V} {d : PyData} (h : Dp K (Reg ch H) v d) : Dp K H v d := Same.dp reg_same h
theorem dps_in {vs : List V} {ds : List PyData} (h : DpAll K (Reg ch H) vs ds) : DpAll K H vs ds := Same.dps reg_same h
theorem dps_len : ∀ {vs : List V} {ds : List PyData}, DpAll K R vs ds → vs.length = ds.length
  | _, [], h => by cases h; rfl
  | _, d :: ds, h => by
    cases h with
    | cons h1 h2 => rw [List.length_cons, List.length_cons, dps_len h2]
theorem dps_get : ∀ {ds : List PyData} {vs : List V}, DpAll K R vs ds → ∀ {i : Nat} {d : PyData}, ds[i]? = some d → ∃ v, vs[i]? = some v ∧ Dp K R v d
  | [], _, _, _, _, e => by simp at e
  | d :: ds, _, h, i, d', e => by
    cases h with
    | cons h1 h2 =>
      cases i with
      | zero =>
        cases (show some d = some d' from e)
        exact ⟨_, rfl, h1⟩
      | succ i => exact dps_get h2 (i := i) e
theorem dps_get' {ds : List PyData} {vs : List V} (h : DpAll K R vs ds) {i : Nat} {v : V} (e : vs[i]? = some v) : ∃ d, ds[i]? = some d ∧ Dp K R v d := by
  have hl := dps_len h
  have hi : i < ds.length := by
    have := (List.getElem?_eq_some_iff.mp e).1
    omega
  obtain ⟨v', e', hd⟩ := dps_get h (List.getElem?_eq_getElem hi)
  rw [e] at e'
  cases e'
  exact ⟨_, List.getElem?_eq_getElem hi, hd⟩
theorem dps_app : ∀ {vs ws : List V} {ds es : List PyData}, DpAll K R vs ds → DpAll K R ws es → DpAll K R (vs ++ ws) (ds ++ es)
  | _, _, [], _, h, h' => by cases h; exact h'
  | _, _, d :: ds, _, h, h' => by
    cases h with
    | cons h1 h2 => exact .cons h1 (dps_app h2 h')
theorem dps_one {v : V} {d : PyData} (h : Dp K R v d) : DpAll K R [v] [d] := .cons h .nil
theorem dps_snoc {vs : List V} {ds : List PyData} {v : V} {d : PyData} (h : DpAll K R vs ds) (h' : Dp K R v d) : DpAll K R (vs ++ [v]) (ds ++ [d]) := dps_app h (dps_one h')
theorem dp_lst {v : V} {ds : List PyData} (h : Dp K R v (.list ds)) : ∃ a xs, v = .ref a ∧ SqL K R a xs ∧ DpAll K R xs ds := by
  cases h with
  | lst hs ha => exact ⟨_, _, rfl, hs, ha⟩
theorem dp_tup {v : V} {ds : List PyData} (h : Dp K R v (.tuple ds)) : ∃ a xs, v = .ref a ∧ SqT K R a xs ∧ DpAll K R xs ds := by
  cases h with
  | tup hs ha => exact ⟨_, _, rfl, hs, ha⟩
/-- a new list, a new tuple of data -/
theorem new_lst {xs : List V} {ds : List PyData} (l : Lv ch H) (hq : H q = none) (h : DpAll K (Reg ch H) xs ds) : Dp K (Reg ch (upd H q (.lst xs))) (.ref q) (.list ds) :=
  .lst (.inl (.inl (reg_in (l.fresh hq) upd_same fun _ z => nomatch z))) (Same.dps (Fr.reg0 (T := []) (.new hq)) h)
theorem new_tup {xs : List V} {ds : List PyData} (l : Lv ch H) (hq : H q = none) (h : DpAll K (Reg ch H) xs ds) : Dp K (Reg ch (upd H q (.tup xs))) (.ref q) (.tuple ds) :=
  .tup (.inl (.inl (reg_in (l.fresh hq) upd_same fun _ z => nomatch z))) (Same.dps (Fr.reg0 (T := []) (.new hq)) h)
/-- a list of one's own, written no more -/
theorem own_lst {xs : List V} {ds : List PyData} (hq : q ∉ ch) (e : H q = some (.lst xs)) (h : DpAll K (Reg (q :: ch) H) xs ds) : Dp K (Reg ch H) (.ref q) (.list ds) :=
  .lst (.inl (.inl (reg_in hq e fun _ z => nomatch z))) (Same.dps (reg_less fun _ z => List.mem_cons_of_mem _ z) h)
/-- flat data -/
theorem dps_map {α : Type} {f : α → V} {g : α → PyData} (h : ∀ x, Dp K R (f x) (g x)) : ∀ l : List α, DpAll K R (l.map f) (l.map g)
  | [] => .nil
  | x :: l => .cons (h x) (dps_map h l)
theorem dps_unmap {α : Type} {f : α → V} {g : α → PyData} (h : ∀ x v, Dp K R v (g x) → v = f x) : ∀ (l : List α) {vs : List V}, DpAll K R vs (l.map g) → vs = l.map f
  | [], _, hd => by cases hd; rfl
  | x :: l, _, hd => by
    cases hd with
    | cons h1 h2 => rw [h x _ h1, dps_unmap h l h2]; rfl
end
def vN : Option Str → V
  | none => .non
  | some z => .str z
def dN : Option Str → PyData
  | none => .none
  | some z => .str z
section
variable {K : PySem.W.Frag} {R : Hp}
theorem dp_vN (x : Option Str) : Dp K R (vN x) (dN x) := by
  cases x
  · exact .non
  · exact .str _
theorem dp_dN (x : Option Str) (v : V) (h : Dp K R v (dN x)) : v = vN x := by
  cases x <;> (cases h; rfl)
theorem dp_int' (i : Int) (v : V) (h : Dp K R v (.int i)) : v = .int i := by cases h; rfl
theorem dp_str' (i : Str) (v : V) (h : Dp K R v (.str i)) : v = .str i := by cases h; rfl
theorem vN_inj {x y : Option Str} (h : vN x = vN y) : x = y := by
  cases x <;> cases y <;> first | rfl | (cases h; rfl) | cases h
theorem vN_non {x : Option Str} : vN x = .non ↔ x = none := by
  cases x
  · exact ⟨fun _ => rfl, fun _ => rfl⟩
  · exact ⟨(fun z => nomatch z), (fun z => nomatch z)⟩
theorem flat_vN (x : Option Str) : flatV (vN x) = true := by cases x <;> rfl
theorem flat_all (l : List (Option Str)) : (l.map vN).all flatV = true := by
  rw [List.all_eq_true]
  intro v hv
  obtain ⟨x, _, rfl⟩ := List.mem_map.mp hv
  exact flat_vN x
/-- names as the program's places bear them -/
abbrev vNs (l : List (Option Str)) : List V := l.map vN
abbrev vSs (l : List Str) : List V := l.map V.str
abbrev vIs (l : List Nat) : List V := l.map fun (k : Nat) => V.int (k : Int)
abbrev dIs (l : List Nat) : List PyData := l.map fun (k : Nat) => PyData.int (k : Int)
theorem dps_Is {l : List Nat} {vs : List V} (h : DpAll K R vs (dIs l)) : vs = vIs l := dps_unmap (f := fun k : Nat => V.int (k : Int)) (fun k v h => dp_int' _ v h) l h
theorem is_dps (l : List Nat) : DpAll K R (vIs l) (dIs l) := dps_map (f := fun k : Nat => V.int (k : Int)) (fun k => .int _) l
theorem dps_Ns {l : List (Option Str)} {vs : List V} (h : DpAll K R vs (l.map dN)) : vs = vNs l := dps_unmap dp_dN l h
theorem ns_dps (l : List (Option Str)) : DpAll K R (vNs l) (l.map dN) := dps_map dp_vN l
theorem dps_Ss {l : List Str} {vs : List V} (h : DpAll K R vs (l.map PyData.str)) : vs = vSs l := dps_unmap dp_str' l h
theorem ss_dps (l : List Str) : DpAll K R (vSs l) (l.map PyData.str) := dps_map (fun x => .str x) l
end

/-! ### defs that want no repr to be under way -/
structure FnG (P : Program) (w : World) (K : PySem.W.Frag) (mg : Str → Option Value) (base : Heap) (k : Nat) (f : Addr) (fd : FuncData) (ps : List Str) (sp : Sp) : Prop where
  len : ∀ vs H Q E, sp vs H Q E → vs.length = ps.length
  run : ∀ (A : Around) (outer : List Env) (s : Shared) (H : Hp) (args : Args) (us : List Value) (vs : List V) (Q : VK) (E : XK), Room k A → A.guards = some [] → Env0 P w K mg base A outer s H → BindsTo s fd args (ps.zip us) → Vals vs us → sp vs H Q E →
    codeAny (model P w) A (.call (.ref f) args) (CR CX0 outer P w H s Q E) s
section
variable {P : Program} {w : World} {K : PySem.W.Frag} {mg : Str → Option Value} {base : Heap}
theorem okG {x qual : Str} {st : Stmt} {f : Addr} {fd : FuncData} {N ps : List Str} {k : Nat} {sp : Sp} (F : L2.Fun K x qual st f fd) (S : FnScope N ps (defScope st)) (len : ∀ vs H Q E, sp vs H Q E → vs.length = ps.length)
    (hbody : ∀ (cdv : Value) (A : Around) (outer : List Env) (s : Shared) (H : Hp) (vs : List V) (Q : VK) (E : XK), Room k (A.deeper (envOfC qual (defScope st) s.heap.objs.size f cdv)) → A.guards = some [] → sp vs H Q E →
      ∃ t, PSs (cxOf CX0 P w K mg base N qual (defScope st) f cdv A outer s H E).nox (defBody st) t ∧ t { nx := fun _ H' => Q .non H', rt := Q } (L2.start N vs) H) : FnG P w K mg base (k + 1) f fd ps sp := by
  obtain ⟨oc, od, kV, doc, pm, an, cdv, ct, osl, rfl, lk, hcd⟩ := F.ex
  refine ⟨len, fun A outer s H args us vs Q E hr hg e0 hb r hsp => ?_⟩
  refine LamX.run_ofS (N := N) lk hcd S hr e0 hb r (len _ _ _ _ hsp) fun hr' => ?_
  obtain ⟨t, h, q⟩ := hbody cdv A outer s H vs Q E hr' hg hsp
  exact ⟨t, h.nox, q⟩
end
section
variable {X : Cx}
theorem pe_callG {k : Nat} {f : Addr} {fd : FuncData} {ps : List Str} {sp : Sp} {x : Str} {p pos : Pos} {e : Expr} {es : List Expr} {t : TA} (F : FnG X.prog X.w X.K X.mg X.base k f fd ps sp) (hr : Room k X.A) (gu : X.A.guards = some []) (hg : Gl X x) (hm : X.mg x = some (.ref f)) (hk : PySem.W.keepIn X.K (.ref f) = true)
    (hb : Binds X.K fd ps []) (ha : PA X (e :: es) t) (hdb : (x == ("__debug__" : Str)) = false := by decide) (he : starEach (e :: es) X.env = (false, eval e X.env) :: starEach es X.env := by rfl) (hpl : (backTo pos (starEach es X.env)).any (·.1) = false := by rfl) :
    PE X (.Call (.Name x p) (e :: es) [] pos) (tCall sp [] (fun _ _ _ => False) t) := by
  refine ⟨fun pins s σ H Q I h => ?_⟩
  refine wpAny_Call_Name_kw (ld_glob I hg hm ?_ hdb)
  refine PySem.W.callWith_K (h₀ := X.base) I.ok.mod.kin hk (thn (ha.run pos pins s σ H _ I h) fun us s1 ⟨vs, H1, I1, r, q⟩ => ⟨I1.kIn, ?_⟩) he hpl
  have q' : sp vs H1 Q (fun _ _ _ => False) := by
    have z : sp (vs ++ []) H1 Q (fun _ _ _ => False) := q
    rw [List.append_nil] at z
    exact z
  have hl : us.length = ps.length := by rw [← r.length]; exact F.len _ _ _ _ q'
  have b := hb s1 us I1.kIn (by rw [List.append_nil]; exact hl)
  rw [List.append_nil] at b
  refine wpAny_call (codeAny_mono (F.run X.A X.stack s1 H1 ⟨us, []⟩ us vs Q _ hr gu I1.env0 b r q') fun r s' hq => ?_)
  cases r with
  | error e => exact hq.elim
  | ok fl =>
    cases fl with
    | ret u => exact I1.after hq
    | next => exact False.elim hq
    | brk => exact False.elim hq
    | cont => exact False.elim hq
end
end Tz
end -- LayG
section -- LayH
set_option maxHeartbeats 4000000
/-! Tuples whose object is known: made by tuple(list), asked by a method. -/
namespace Tz
open PySem PySem.Spec PyProof.Rows L2
/-- a tuple of xs stands at a, its object without a dict -/
def Fz (R : Hp) (a : Addr) (xs : List V) : Prop := ∃ o, R a = some (.frz o (.tup xs)) ∧ o.dict = none
theorem Fz.sq {K : PySem.W.Frag} {R : Hp} {a : Addr} {xs : List V} (h : Fz R a xs) : SqT K R a xs := by
  obtain ⟨o, e, _⟩ := h
  exact .inl (.inr ⟨o, e⟩)
theorem Same.fz {R R' : Hp} {a : Addr} {xs : List V} (s : Same R R') (h : Fz R a xs) : Fz R' a xs := by
  obtain ⟨o, e, d⟩ := h
  exact ⟨o, s _ _ e, d⟩
theorem nt_frz {o : Obj} {u : HO} : NT (.frz o u) := fun _ z => nomatch z
theorem Fr.sqT0 {K : PySem.W.Frag} {T : List (Addr × Str)} {H H' : Hp} {a : Addr} {xs : List V} (f : Fr T [] H H') (h : SqT K H a xs) : SqT K H' a xs := by
  rcases h with (h | ⟨o, h⟩) | h
  · exact .inl (.inl (f.keep _ _ (fun z => nomatch z) h nt_tup))
  · exact .inl (.inr ⟨o, f.keep _ _ (fun z => nomatch z) h nt_frz⟩)
  · exact .inr h
theorem sqT_ty {K : PySem.W.Frag} {H : Hp} {a : Addr} {xs : List V} (h : SqT K H a xs) : TyX K H (.ref a) (.type "tuple") := by
  rcases h with (h | ⟨o, h⟩) | ⟨o, its, n, h1, h2, _⟩
  · exact .base (.tup h)
  · exact .fTuple h
  · exact .kTuple h1 h2
theorem Fr.sqL0 {K : PySem.W.Frag} {T : List (Addr × Str)} {H H' : Hp} {a : Addr} {xs : List V} (f : Fr T [] H H') (h : SqL K H a xs) : SqL K H' a xs := by
  rcases h with (h | ⟨o, h⟩) | h
  · exact .inl (.inl (f.keep _ _ (fun z => nomatch z) h nt_lst))
  · exact .inl (.inr ⟨o, f.keep _ _ (fun z => nomatch z) h nt_frz⟩)
  · exact .inr h
theorem Fr.at0 {T : List (Addr × Str)} {H H' : Hp} {a : Addr} {o : HO} (f : Fr T [] H H') (h : H a = some o) (n : NT o) : H' a = some o := f.keep _ _ (fun z => nomatch z) h n
section
variable {X : Cx}
/-- tuple(xs), xs a list: the new tuple's object known -/
def rTupF (K : PySem.W.Frag) : List V → Hp → VK → Prop := fun xs H Q => ∃ p ys, xs = [.ref p] ∧ SqL K H p ys ∧ ∀ (l : Addr) (o : Obj), o.dict = none → H l = none → Q (.ref l) (upd H l (.frz o (.tup ys)))
theorem call_tupleF : CallR X (.type "tuple") (rTupF X.K) := by
  intro pins s σ H xs us Q I r h
  obtain ⟨p, ys, rfl, hq, q⟩ := h
  obtain ⟨u, rfl, rx⟩ := vals1 r
  cases rx
  obtain ⟨its, r', pl, hz⟩ := I.list hq
  have hlen := r'.length
  refine call_tuple_list pl.isList (fun h' kp => ?_) (by simp only [List.size_toArray] <;> omega)
  have I1 : Inv X pins σ H { s with heap := h' } := I.kept (t' := s.toks) kp
  have I2 : Inv X pins σ (upd H h'.objs.size (.frz { cls := .type "tuple", data := .seq its.toArray } (.tup ys))) { s with heap := h'.push { cls := .type "tuple", data := .seq its.toArray } } :=
    I1.laid (t' := s.toks) (fun b o e => Heap.get?_push_of_some _ e) (Nat.le_refl _) (show ObjOk X.prog X.w _ _ _ (.frz _ (.tup ys)) from ⟨Heap.get?_push_size _ rfl, hz, its, r', IsTup.new _ _⟩)
  exact ⟨.ref h'.objs.size, _, I2, rfl, q _ _ rfl (I1.hok.fresh (Nat.le_refl _))⟩
/-- t.m(..), t such a tuple -/
def tBMT (r : V → List V → Hp → VK → Prop) (to : TE) (t : TA) : TE := fun σ H Q => to σ H fun x H1 => (∃ a xs, x = .ref a ∧ Fz H1 a xs) ∧ t σ H1 fun vs H2 => r x vs H2 Q
theorem pe_bmT {id : String} {name : Str} {o e : Expr} {es : List Expr} {apos cpos : Pos} {to : TE} {t : TA} {r : V → List V → Hp → VK → Prop} (slot : Slot "tuple" name id) (hty : typeOf (.builtin id) = pure (.type "method_descriptor")) (hm : MtR X id r) (ho : PE X o to) (ha : PA X (e :: es) t)
    (hbase : attributeBase o name X.env (eval o X.env) = eval o X.env := by rfl)
    (hfew : ((backTo cpos (starEach (e :: es) X.env)).all (fun x => !x.1) && (backToKw cpos (keywordEach [] X.env)).all (fun x => x.1.isSome)
      && decide ((e :: es).length + ([] : List Keyword).length + (if ([] : List Keyword).isEmpty then 0 else 1) < 30)) = true := by rfl)
    (hline : (apos.endLine == cpos.line) = true := by rfl) (hs : starEach (e :: es) X.env = (false, eval e X.env) :: starEach es X.env := by rfl) (hplain : (backTo cpos (starEach es X.env)).any (·.1) = false := by rfl) :
    PE X (.Call (.Attribute o name apos) (e :: es) [] cpos) (tBMT r to t) := by
  refine ⟨fun pins s σ H Q I h => ?_⟩
  refine wpAny_Call_method_late hbase hfew hline rfl (thn (ho.run pins s σ H _ I h) fun v s1 ⟨x, H1, I1, r1, ⟨a, xs, ex, oz, ez, dz⟩, q1⟩ => ?_)
  subst ex
  obtain rfl : v = Value.ref a := r1
  obtain ⟨e1, _, its, _, o2, e2, hc, _⟩ := (show ObjOk X.prog X.w H1 s1.heap a (.frz oz (.tup xs)) from I1.hok a _ ez)
  rw [e1] at e2
  cases e2
  refine ⟨"tuple", id, PySem.F.plainAttrs_tuple, slot, hty, ⟨oz, e1, hc⟩, fun b eb => ?_, ?_⟩
  · cases eb
    exact ⟨oz, e1, dz⟩
  have hA := ha.run cpos pins s1 σ H1 _ I1 q1
  rw [hs] at hA ⊢
  refine Calls.callWith_builtin (by show (false || (backTo cpos (starEach es X.env)).any (·.1)) = false; rw [hplain] <;> rfl) (Calls.evalArgs_plain ?_)
  exact thn hA fun us s2 ⟨vs, H2, I2, r2, q2⟩ => hm pins s2 σ H2 (.ref a) vs (.ref a) us Q I2 rfl r2 q2
theorem ty_tuple_index : typeOf (.builtin "tuple.index") = pure (.type "method_descriptor") := by show builtinType _ = _; rw [builtinType_eq_fast]; kernel_rfl
end
end Tz
end -- LayH
section -- Tops
set_option maxHeartbeats 4000000
/-! The program's defs by their places; a def that keeps a promise, by its name. -/
namespace Tz
open PySem PySem.Spec PyProof.Rows L2
/-- the built-in names are not the module's -/
structure Blt (mg : Str → Option Value) : Prop where
  len : mg "len" = none
  isi : mg "isinstance" = none
  str : mg "str" = none
  all : mg "all" = none
  enum : mg "enumerate" = none
  range : mg "range" = none
  tuple : mg "tuple" = none
  sorted : mg "sorted" = none
  int : mg "int" = none
  abs : mg "abs" = none
  divmod : mg "divmod" = none
  max : mg "max" = none
  min : mg "min" = none
  list : mg "list" = none
  bool : mg "bool" = none
  repr : mg "repr" = none
section
variable {P : Program} {w : World} {K : PySem.W.Frag} {mg : Str → Option Value} {base : Heap}
theorem fun_ofD {x qual : Str} {st : Stmt} {f : Addr} {fd : FuncData} (F : L2.FunD K x qual (defArgs st) (defBody st) (defScope st) [] [] f fd) : L2.Fun K x qual st f fd := by
  obtain ⟨oc, od, dV, kV, doc, pm, an, cdv, ct, osl, rfl, lk, hcd, hd, _⟩ := F.ex
  have e : dV = .none := by
    rcases hd with ⟨_, e⟩ | ⟨h, _⟩
    · exact e
    · exact absurd rfl h
  subst e
  exact ⟨⟨oc, od, kV, doc, pm, an, cdv, ct, osl, rfl, lk, hcd⟩, F.kp⟩
/-- the def of the name x keeps the promise sp -/
structure Def (P : Program) (w : World) (K : PySem.W.Frag) (mg : Str → Option Value) (base : Heap) (k : Nat) (x : Str) (ps : List Str) (sp : Sp) : Prop where
  ex : ∃ f fd, FnOk P w K mg base CX0 k f fd ps sp ∧ mg x = some (.ref f) ∧ PySem.W.keepIn K (.ref f) = true ∧ Binds K fd ps []
structure DefG (P : Program) (w : World) (K : PySem.W.Frag) (mg : Str → Option Value) (base : Heap) (k : Nat) (x : Str) (ps : List Str) (sp : Sp) : Prop where
  ex : ∃ f fd, FnG P w K mg base k f fd ps sp ∧ mg x = some (.ref f) ∧ PySem.W.keepIn K (.ref f) = true ∧ Binds K fd ps []
end
section
variable {X : Cx} {k : Nat} {x : Str} {ps : List Str} {sp : Sp} {p pos : Pos} {e : Expr} {es : List Expr} {t : TA}
theorem pe_callD (D : Def X.prog X.w X.K X.mg X.base k x ps sp) (hr : Room k X.A) (hg : Gl X x) (ha : PA X (e :: es) t) (hdb : (x == ("__debug__" : Str)) = false := by decide)
    (he : starEach (e :: es) X.env = (false, eval e X.env) :: starEach es X.env := by rfl) (hpl : (backTo pos (starEach es X.env)).any (·.1) = false := by rfl) : PE X (.Call (.Name x p) (e :: es) [] pos) (tCall sp [] (fun _ _ _ => False) t) := by
  obtain ⟨f, fd, F, hm, hk, hb⟩ := D.ex
  exact pe_call F hr hg hm hk hb .nil pass0 ha hdb he hpl
theorem pe_callDG (D : DefG X.prog X.w X.K X.mg X.base k x ps sp) (hr : Room k X.A) (gu : X.A.guards = some []) (hg : Gl X x) (ha : PA X (e :: es) t) (hdb : (x == ("__debug__" : Str)) = false := by decide)
    (he : starEach (e :: es) X.env = (false, eval e X.env) :: starEach es X.env := by rfl) (hpl : (backTo pos (starEach es X.env)).any (·.1) = false := by rfl) : PE X (.Call (.Name x p) (e :: es) [] pos) (tCall sp [] (fun _ _ _ => False) t) := by
  obtain ⟨f, fd, F, hm, hk, hb⟩ := D.ex
  exact pe_callG F hr gu hg hm hk hb ha hdb he hpl
end
end Tz
end -- Tops
section -- Hlp
set_option maxHeartbeats 4000000
namespace Tz
open PySem PySem.Spec PyProof.Rows L2
section
variable {α : Type} [DecidableEq α] {f : α → V}
theorem inV_map (hf : ∀ a b, eqV (f a) (f b) = decide (a = b)) (x : α) : ∀ l : List α, inV (f x) (l.map f) = decide (x ∈ l)
  | [] => rfl
  | a :: l => by
    have ih := inV_map hf x l
    unfold inV at ih ⊢
    rw [List.map_cons, List.any_cons, ih, hf]
    by_cases h : a = x
    · subst h
      simp
    · have h' : ¬ x = a := fun z => h z.symm
      simp [h, h']
def ixOf (x : α) (l : List α) : Nat := l.findIdx fun y => decide (y = x)
theorem ixOf_at {x : α} {l : List α} (h : x ∈ l) : l[ixOf x l]? = some x := by
  have hlt : ixOf x l < l.length := List.findIdx_lt_length_of_exists ⟨x, h, by simp⟩
  have := List.findIdx_getElem (p := fun y => decide (y = x)) (xs := l) (w := hlt)
  rw [List.getElem?_eq_getElem hlt]
  have e := of_decide_eq_true this
  exact congrArg some e
theorem ixOf_lt {x : α} {l : List α} (h : x ∈ l) : ixOf x l < l.length := (List.getElem?_eq_some_iff.mp (ixOf_at h)).1
theorem ixOf_eq {x : α} {l : List α} (nd : l.Nodup) {i : Nat} (h : l[i]? = some x) : ixOf x l = i := by
  obtain ⟨hi, e⟩ := List.getElem?_eq_some_iff.mp h
  have hm : x ∈ l := List.mem_of_getElem? h
  obtain ⟨hj, e'⟩ := List.getElem?_eq_some_iff.mp (ixOf_at hm)
  exact (List.getElem_inj nd).mp (e'.trans e.symm)
theorem ixOf_first {x : α} {l : List α} {m : Nat} {y : α} (hm : m < ixOf x l) (h : l[m]? = some y) : y ≠ x := fun z => by
  subst z
  have := List.not_of_lt_findIdx hm
  rw [(List.getElem?_eq_some_iff.mp h).2] at this
  simp at this
theorem idx_at (hf : ∀ a b, eqV (f a) (f b) = decide (a = b)) {x : α} {l : List α} (h : x ∈ l) : (l.map f)[ixOf x l]? = some (f x) ∧ eqV (f x) (f x) = true ∧ ∀ (m : Nat) (z' : V), m < ixOf x l → (l.map f)[m]? = some z' → eqV z' (f x) = false := by
  refine ⟨?_, by rw [hf]; simp, fun m z' hm hz => ?_⟩
  · rw [List.getElem?_map, ixOf_at h]
    rfl
  · rw [List.getElem?_map] at hz
    cases e : l[m]? with
    | none =>
      rw [e] at hz
      cases hz
    | some y =>
      rw [e] at hz
      cases hz
      rw [hf]
      exact decide_eq_false (ixOf_first hm e)
end
theorem eqV_str (a b : Str) : eqV (.str a) (.str b) = decide (a = b) := by
  show (a == b) = _
  by_cases h : a = b
  · subst h
    simp
  · simp [h]
theorem eqV_vN (a b : Option Str) : eqV (vN a) (vN b) = decide (a = b) := by
  cases a <;> cases b
  · rfl
  · rfl
  · rfl
  · rename_i x y
    show eqV (.str x) (.str y) = _
    rw [eqV_str]
    simp
theorem eqV_nat (a b : Nat) : eqV (.int (a : Int)) (.int (b : Int)) = decide (a = b) := by
  show ((a : Int) == (b : Int)) = _
  by_cases h : a = b
  · subst h
    simp
  · have : ¬ ((a : Int) = b) := by omega
    simp [h, this]
theorem inS (x : Str) (l : List Str) : inV (.str x) (vSs l) = decide (x ∈ l) := inV_map eqV_str x l
theorem inN (x : Option Str) (l : List (Option Str)) : inV (vN x) (vNs l) = decide (x ∈ l) := (inV_map eqV_vN x l).trans (decide_eq_decide.mpr Iff.rfl)
theorem inI (k : Nat) (l : List Nat) : inV (.int (k : Int)) (vIs l) = decide (k ∈ l) := inV_map (f := fun k : Nat => V.int (k : Int)) eqV_nat k l
theorem flat_S (l : List Str) : (vSs l).all flatV = true := by
  rw [List.all_eq_true]
  intro v hv
  obtain ⟨x, _, rfl⟩ := List.mem_map.mp hv
  rfl
theorem flat_I (l : List Nat) : (vIs l).all flatV = true := by
  rw [List.all_eq_true]
  intro v hv
  obtain ⟨x, _, rfl⟩ := List.mem_map.mp hv
  rfl
theorem bl_t {b : Bool} (h : b = true) : V.bl b = .bl true := congrArg V.bl h
theorem bl_f {b : Bool} (h : b = false) : V.bl b = .bl false := congrArg V.bl h
/-- what is new: data from new objects alone -/
def NewD (K : PySem.W.Frag) (H H' : Hp) (r : V) (d : PyData) : Prop := ∀ ch, Lv ch H → Dp K (Reg ch H') r d
theorem map_at {α : Type} {f : α → V} {l : List α} {i : Nat} {v : V} (h : (l.map f)[i]? = some v) : ∃ x, l[i]? = some x ∧ v = f x := by
  rw [List.getElem?_map] at h
  cases e : l[i]? with
  | none =>
    rw [e] at h
    cases h
  | some x =>
    rw [e] at h
    exact ⟨x, rfl, (Option.some.inj h).symm⟩
theorem at_map {α : Type} {f : α → V} {l : List α} {i : Nat} {x : α} (h : l[i]? = some x) : (l.map f)[i]? = some (f x) := by rw [List.getElem?_map, h]; rfl
theorem take_snoc {α : Type} {l : List α} {i : Nat} {x : α} (h : l[i]? = some x) : l.take (i + 1) = l.take i ++ [x] := by rw [List.take_add_one, h]; rfl
theorem cutd (xs : List V) : cutV xs (some 1) none = xs.drop 1 := by
  unfold cutV
  rw [show HT.sIx xs.length 0 (some 1) = min 1 xs.length from HT.sIx_nat xs.length 0 1, HT.sIx_none]
  cases xs with
  | nil => rfl
  | cons x r =>
    have e : min 1 (x :: r).length = 1 := by rw [List.length_cons]; omega
    rw [e]
    show List.take ((x :: r).length - 1) r = r
    exact List.take_of_length_le (by rw [List.length_cons]; omega)
theorem iteF' {b : Bool} {A B : Prop} (e : b = false) (h : B) : if b = true then A else B := by
  rw [e]
  exact h
theorem iteT' {b : Bool} {A B : Prop} (e : b = true) (h : A) : if b = true then A else B := by
  rw [e]
  exact h
theorem dec_f {α : Type} {a b : α} [DecidableEq α] (h : a ≠ b) : decide (a = b) = false := decide_eq_false h
theorem small (n : Nat) (h : n ≤ 1000) : n < sizeLine := small1000 h
end Tz
end -- Hlp
section -- W1
set_option maxHeartbeats 4000000
namespace Tz
open PySem PySem.Spec PyProof.Rows L2 TL
/-- a name: one to eight small letters -/
structure NmOk (z : Str) : Prop where
  pos : 1 ≤ z.length
  top : z.length ≤ 8
  low : ∀ c ∈ z.cps.toList, c ∈ ("abcdefghijklmnopqrstuvwxyz" : Str).cps.toList
section
variable {P : Program} {w : World} {K : PySem.W.Frag} {mg : Str → Option Value} {base : Heap} {T : List (Addr × Str)}
abbrev sIsName : Stmt := top 28
theorem scIsName : FnScope ["value", "letter"] ["value"] (defScope sIsName) := ⟨rfl, rfl, rfl, by decide +kernel, rfl, by decide +kernel, by decide +kernel⟩
def spIsName (T : List (Addr × Str)) : Sp := fun vs H Q _ => ∃ z : Str, vs = [.str z] ∧ NmOk z ∧ ∀ H', Fr T [] H H' → Q (.bl true) H'
theorem ok_isname {f : Addr} {fd : FuncData} (F : L2.Fun K "is_name" "is_name" sIsName f fd) (B : Blt mg) (hL : ∃ t, mg "LETTERS" = some (.str "abcdefghijklmnopqrstuvwxyz" t)) : FnOk P w K mg base CX0 1 f fd ["value"] (spIsName T) := by
  refine F.ok scIsName (fun vs H Q E h => ?_) (fun cdv A outer s H vs Q E hr h => ?_)
  · obtain ⟨z, rfl, _⟩ := h
    rfl
  · obtain ⟨z, rfl, nz, q⟩ := h
    obtain ⟨tL, hL⟩ := hL
    refine ⟨_, pss_one (ps_ret (pe_and (pe_callB call_isi (by rfl) B.isi (by decide +kernel) (pa_cons (pv 0) (pa_cons (pe_bltn (v := .ty "str") (by rfl) B.str (by decide +kernel) rfl) pa_nil)))
      (pe_and (pe_chain op_le op_le pe_int (pe_callB call_len_str (by rfl) B.len PySem.boot_len (pa_cons (pv 0) pa_nil)) pe_int)
        (pe_one (pe_callB (cr_all rfl) (by rfl) B.all (by decide +kernel) (pa_cons
          (pe_lc (own := [("letter", 1)]) (g := gName 1) (tt := tYes) rfl scIsName.nd (pi_str (pv 0)) (blkOk_by (N := ["value", "letter"]) (sc := defScope sIsName) (by decide +kernel)) (fun _ _ _ _ _ => pg_name (i := 1) scIsName.nd rfl (Or.inl rfl)) (fun _ _ _ _ _ => pts_nil)
            (fun _ _ _ _ _ => pe_cmpR op_in_sign (pv 1) (pe_glob (v := .str "abcdefghijklmnopqrstuvwxyz") rfl hL ⟨_, rfl⟩) rfl)) pa_nil)))))), ?_⟩
    -- isinstance(value, str)
    refine ⟨_, rfl, .str z, .ty "str", .type "str", .type "str", true, rfl, .ty _, .base (.str z), kit_ty (by decide +kernel), true, rfl, ?_⟩
    refine iteT ?_
    -- 1 <= len(value) <= 8
    have sl := sizeLine_eq
    refine ⟨_, rfl, z, rfl, by have := nz.top; omega, 1, z.length, rfl, rfl, true, ?_, ?_⟩
    · exact congrArg V.bl (decide_eq_true (by have := nz.pos; omega))
    refine iteT ⟨z.length, 8, rfl, rfl, true, ?_, iteT ?_⟩
    · exact congrArg V.bl (decide_eq_true (by have := nz.top; omega))
    -- the letters
    refine ⟨_, rfl, z, rfl, fun D nD => lc_it walk_str (fun i H2 => Fr T [D] H H2 ∧ H2 D = some (.lst ((List.replicate i true).map V.bl)))
      ⟨.new nD, by rw [upd_same]; rfl⟩ (fun _ _ _ _ => trivial) ?_ ?_⟩
    · rintro i x H2 H3 hi ⟨fr, eD⟩ ⟨rfl, c, hc, rfl⟩
      refine ⟨rfl, _, rfl, c, _, rfl, rfl, ?_⟩
      have hin : c ∈ ("abcdefghijklmnopqrstuvwxyz" : Str).cps.toList := nz.low c (Array.mem_toList_iff.mpr (Array.mem_of_getElem? hc))
      rw [decide_eq_true hin]
      have hl : i < z.length := hi
      refine ⟨_, eD, by rw [List.length_map, List.length_replicate]; have := nz.top; omega, fr.trans (Fr.write eD wr_lst (fun _ z => nomatch z) (List.mem_singleton.mpr rfl)), ?_⟩
      rw [upd_same, List.replicate_succ', List.map_append]
      rfl
    · rintro H2 ⟨fr, eD⟩
      refine ⟨D, _, rfl, .inl (.inl eD), ?_⟩
      have e : (List.replicate z.cps.size true).all id = true := by simp
      rw [e]
      exact q H2 (fr.drop (nw_none nD))
end
/-! ### joints -/
abbrev Js : Type := List (Str × Option Nat)
abbrev nmsOf (js : Js) : List Str := js.map (·.1)
def dO : Option Nat → PyData
  | none => .none
  | some a => .int (a : Int)
abbrev dJl (js : Js) : List PyData := js.map fun p => .tuple [.str p.1, dO p.2]
structure WellJ (js : Js) : Prop where
  one : 1 ≤ js.length
  top : js.length ≤ 9
  names : ∀ p ∈ js, NmOk p.1
  nd : (nmsOf js).Nodup
  root : ∀ p, js[0]? = some p → p.2 = none
  up : ∀ k p, js[k]? = some p → 0 < k → ∃ a, p.2 = some a ∧ a < k
def wordsOf (js : Js) (p : Str × Option Nat) : List Str := match p.2 with
  | none => [p.1]
  | some a => [p.1, (nmsOf js).getD a Str.empty]
def partsOf (js : Js) : List Str := js.map fun p => Txt.join " " (wordsOf js p)
def lineOf (js : Js) : Str := Txt.join "; " (partsOf js)
theorem nm_cps {z : Str} (n : NmOk z) : 32 ∉ tl z ∧ 59 ∉ tl z := by
  have h : ∀ c ∈ ("abcdefghijklmnopqrstuvwxyz" : Str).cps.toList, c ≠ 32 ∧ c ≠ 59 := by decide +kernel
  exact ⟨fun z => (h _ (n.low _ z)).1 rfl, fun z => (h _ (n.low _ z)).2 rfl⟩
theorem tl_sp : tl (" " : Str) = [32] := by decide +kernel
theorem tl_sc : tl ("; " : Str) = [59, 32] := by decide +kernel
theorem tl_join1 (y x : Str) : tl (Txt.join y [x]) = tl x := by rw [join_eq]; rfl
theorem tl_join2 (y x z : Str) : tl (Txt.join y [x, z]) = tl x ++ (tl y ++ tl z) := by
  rw [join_eq, tl_join]
  rfl
theorem name_ok {js : Js} (W : WellJ js) {a : Nat} (h : a < js.length) : NmOk ((nmsOf js).getD a Str.empty) := by
  have h1 : (nmsOf js)[a]? = some (js[a].1) := by
    rw [List.getElem?_map, List.getElem?_eq_getElem h]
    rfl
  rw [List.getD_eq_getElem?_getD, h1]
  exact W.names _ (List.getElem_mem h)
theorem words_ok {js : Js} (W : WellJ js) {k : Nat} {p : Str × Option Nat} (h : js[k]? = some p) : ∀ x ∈ wordsOf js p, NmOk x := by
  have hk := (List.getElem?_eq_some_iff.mp h).1
  intro x hx
  unfold wordsOf at hx
  cases e : p.2 with
  | none =>
    rw [e] at hx
    rw [List.mem_singleton.mp hx]
    exact W.names p (List.mem_of_getElem? h)
  | some a =>
    rw [e] at hx
    have ha : a < js.length := by
      by_cases h0 : 0 < k
      · obtain ⟨b, e2, hb⟩ := W.up k p h h0
        rw [e] at e2
        cases e2
        omega
      · have : k = 0 := by omega
        subst this
        rw [W.root p h] at e
        cases e
    rcases List.mem_cons.mp hx with hx | hx
    · rw [hx]
      exact W.names p (List.mem_of_getElem? h)
    · rw [List.mem_singleton.mp hx]
      exact name_ok W ha
theorem words_ne (js : Js) (p : Str × Option Nat) : wordsOf js p ≠ [] := by
  unfold wordsOf
  cases p.2 <;> exact fun z => nomatch z
theorem part_no {js : Js} (W : WellJ js) : ∀ x ∈ partsOf js, 59 ∉ tl x := by
  intro x hx
  obtain ⟨p, hp, rfl⟩ := List.mem_map.mp hx
  obtain ⟨k, hk⟩ := List.getElem?_of_mem hp
  have ok := words_ok W hk
  unfold wordsOf at ok ⊢
  cases e : p.2 with
  | none =>
    rw [e] at ok
    rw [tl_join1]
    exact (nm_cps (ok _ (List.mem_cons_self ..))).2
  | some a =>
    rw [e] at ok
    rw [tl_join2, tl_sp]
    have h1 := (nm_cps (ok _ (List.mem_cons_self ..))).2
    have h2 := (nm_cps (ok _ (List.mem_cons_of_mem _ (List.mem_cons_self ..)))).2
    simp only [List.mem_append, List.mem_singleton, not_or]
    exact ⟨h1, by decide, h2⟩
theorem split_line {js : Js} (W : WellJ js) : Txt.split (lineOf js) "; " = partsOf js :=
  split_join tl_sc (by decide +kernel) (fun z => by
    have := W.one
    have e := congrArg List.length z
    unfold partsOf at e
    rw [List.length_map] at e
    simp at e
    rw [e] at this
    simp at this) (part_no W)
theorem split_part {js : Js} (W : WellJ js) {k : Nat} {p : Str × Option Nat} (h : js[k]? = some p) : Txt.split (Txt.join " " (wordsOf js p)) " " = wordsOf js p :=
  split_join tl_sp (by decide +kernel) (words_ne js p) fun x hx => (nm_cps (words_ok W h x hx)).1
theorem part_len {js : Js} (W : WellJ js) {k : Nat} {p : Str × Option Nat} (h : js[k]? = some p) : (Txt.join " " (wordsOf js p)).length ≤ 17 := by
  have ok := words_ok W h
  rw [len_tl]
  unfold wordsOf at ok ⊢
  cases e : p.2 with
  | none =>
    rw [e] at ok
    rw [tl_join1, ← len_tl]
    have := (ok _ (List.mem_cons_self ..)).top
    omega
  | some a =>
    rw [e] at ok
    rw [tl_join2, tl_sp, List.length_append, List.length_append, ← len_tl, ← len_tl]
    have h1 := (ok _ (List.mem_cons_self ..)).top
    have h2 := (ok _ (List.mem_cons_of_mem _ (List.mem_cons_self ..))).top
    simp only [List.length_cons, List.length_nil]
    omega
theorem joinL_len (S : List Nat) (b : Nat) : ∀ l : List (List Nat), (∀ x ∈ l, x.length ≤ b) → (joinL S l).length ≤ l.length * (b + S.length)
  | [], _ => by simp [joinL]
  | [p], h => by
    have := h p (List.mem_cons_self ..)
    simp only [joinL, List.length_cons, List.length_nil]
    omega
  | p :: q :: r, h => by
    have h1 := h p (List.mem_cons_self ..)
    have ih := joinL_len S b (q :: r) fun x hx => h x (List.mem_cons_of_mem _ hx)
    show (p ++ (S ++ joinL S (q :: r))).length ≤ _
    rw [List.length_append, List.length_append]
    rw [show (p :: q :: r).length = (q :: r).length + 1 from rfl, Nat.add_mul]
    omega
theorem line_len {js : Js} (W : WellJ js) : (lineOf js).length ≤ 200 := by
  rw [len_tl]
  unfold lineOf
  rw [join_eq, tl_join]
  refine Nat.le_trans (joinL_len _ 17 _ fun x hx => ?_) ?_
  · obtain ⟨z, hz, rfl⟩ := List.mem_map.mp hx
    obtain ⟨p, hp, rfl⟩ := List.mem_map.mp hz
    obtain ⟨k, hk⟩ := List.getElem?_of_mem hp
    rw [← len_tl]
    exact part_len W hk
  · rw [tl_sc, List.length_map]
    unfold partsOf
    rw [List.length_map]
    have := W.top
    simp only [List.length_cons, List.length_nil]
    omega
end Tz
end -- W1
section -- W1b
set_option maxHeartbeats 4000000
namespace Tz
open PySem PySem.Spec PyProof.Rows L2 TL
section
variable {P : Program} {w : World} {K : PySem.W.Frag} {mg : Str → Option Value} {base : Heap} {T : List (Addr × Str)}
theorem vSs_snoc (l : List Str) (x : Str) : vSs (l ++ [x]) = vSs l ++ [.str x] := List.map_append
theorem dJl_at {js : Js} {k : Nat} {p : Str × Option Nat} (h : js[k]? = some p) : (dJl js)[k]? = some (.tuple [.str p.1, dO p.2]) := by
  rw [List.getElem?_map, h]
  rfl
theorem nms_at {js : Js} {k : Nat} {p : Str × Option Nat} (h : js[k]? = some p) : (nmsOf js)[k]? = some p.1 := by
  rw [List.getElem?_map, h]
  rfl
theorem dJl_len (js : Js) : (dJl js).length = js.length := List.length_map _
theorem nms_len (js : Js) : (nmsOf js).length = js.length := List.length_map _
theorem joint_step {ch : List Addr} {fo na q : Addr} {H3 Hc : Hp} {fs ns : List V} {D : List PyData} {x : Str} {v : V} {d : PyData} (hne : fo ≠ na) (lv : Lv (na :: fo :: ch) H3) (frc : Fr T [] H3 Hc) (e1 : Hc fo = some (.lst fs)) (e2 : Hc na = some (.lst ns)) (nq : Hc q = none)
    (ds : DpAll K (Reg (na :: fo :: ch) H3) fs D) (dv : ∀ R, Dp K R v d) {wl : Addr} {ws : List V} (eW : Hc wl = some (.lst ws)) (nwf : fo ≠ wl) :
    (upd (upd Hc q (.tup [.str x, v])) fo (.lst (fs ++ [.ref q]))) na = some (.lst ns) ∧ (upd (upd Hc q (.tup [.str x, v])) fo (.lst (fs ++ [.ref q]))) wl = some (.lst ws) ∧
    Fr T [na, fo] H3 (upd (upd (upd Hc q (.tup [.str x, v])) fo (.lst (fs ++ [.ref q]))) na (.lst (ns ++ [.str x]))) ∧ (upd (upd (upd Hc q (.tup [.str x, v])) fo (.lst (fs ++ [.ref q]))) na (.lst (ns ++ [.str x]))) fo = some (.lst (fs ++ [.ref q])) ∧
    DpAll K (Reg (na :: fo :: ch) (upd (upd (upd Hc q (.tup [.str x, v])) fo (.lst (fs ++ [.ref q]))) na (.lst (ns ++ [.str x])))) (fs ++ [.ref q]) (D ++ [.tuple [.str x, d]]) := by
  have lc := frc.lv lv
  have nqf : fo ≠ q := ne_of_none e1 nq
  have nqa : na ≠ q := ne_of_none e2 nq
  have a1 : Fr T [na, fo] Hc (upd Hc q (.tup [.str x, v])) := .new nq
  have a2 : Fr T [na, fo] (upd Hc q (.tup [.str x, v])) (upd (upd Hc q (.tup [.str x, v])) fo (.lst (fs ++ [.ref q]))) := .write (o := .lst fs) (by rw [upd_ne nqf]; exact e1) wr_lst (fun _ z => nomatch z) (List.mem_cons_of_mem _ (List.mem_singleton.mpr rfl))
  have a3 : Fr T [na, fo] (upd (upd Hc q (.tup [.str x, v])) fo (.lst (fs ++ [.ref q]))) (upd (upd (upd Hc q (.tup [.str x, v])) fo (.lst (fs ++ [.ref q]))) na (.lst (ns ++ [.str x]))) :=
    .write (o := .lst ns) (by rw [upd_ne hne.symm, upd_ne nqa]; exact e2) wr_lst (fun _ z => nomatch z) (List.mem_cons_self ..)
  have sub : ∀ b ∈ [na, fo], b ∈ na :: fo :: ch := fun b hb => by
    rcases List.mem_cons.mp hb with h | h
    · rw [h]
      exact List.mem_cons_self ..
    · rw [List.mem_singleton.mp h]
      exact List.mem_cons_of_mem _ (List.mem_cons_self ..)
  have d1 : Dp K (Reg (na :: fo :: ch) (upd Hc q (.tup [.str x, v]))) (.ref q) (.tuple [.str x, d]) := new_tup lc nq (.cons (.str x) (.cons (dv _) .nil))
  refine ⟨by rw [upd_ne hne.symm, upd_ne nqa]; exact e2, by rw [upd_ne nwf.symm, upd_ne (ne_of_none eW nq)]; exact eW, frc.nil.trans ((a1.trans a2).trans a3), by rw [upd_ne hne, upd_same], dps_snoc ?_ ?_⟩
  · exact Same.dps ((frc.nil.trans ((a1.trans a2).trans a3)).reg sub) ds
  · exact Same.dp ((a2.trans a3).reg sub) d1
abbrev sJoints : Stmt := top 29
theorem scJoints : FnScope ["text", "found", "names", "k", "part", "words"] ["text"] (defScope sJoints) := ⟨rfl, rfl, rfl, by decide +kernel, rfl, by decide +kernel, by decide +kernel⟩
def spJoints (K : PySem.W.Frag) (T : List (Addr × Str)) : Sp := fun vs H Q _ => ∃ (js : Js) (ch : List Addr), vs = [.str (lineOf js)] ∧ WellJ js ∧ Lv ch H ∧ ∀ H' r, Fr T [] H H' → Dp K (Reg ch H') r (.list (dJl js)) → Q r H'
theorem ok_joints {f : Addr} {fd : FuncData} (F : L2.Fun K "joints_of" "joints_of" sJoints f fd) (B : Blt mg) (hM : ∃ t, mg "MOST_PLACES" = some (.int 40 t)) (DN : Def P w K mg base 1 "is_name" ["value"] (spIsName T)) :
    FnOk P w K mg base CX0 2 f fd ["text"] (spJoints K T) := by
  refine F.ok scJoints (fun vs H Q E h => ?_) (fun cdv A outer s H vs Q E hr h => ?_)
  · obtain ⟨js, ch, rfl, _⟩ := h
    rfl
  · obtain ⟨js, ch, rfl, W, lv, q⟩ := h
    obtain ⟨tM, hM⟩ := hM
    have hsz := line_len W
    refine ⟨_, pss_cons (ps_if (pt_not (pt_val (pe_callB call_isi (by rfl) B.isi (by decide +kernel) (pa_cons (pv 0) (pa_cons (pe_bltn (v := .ty "str") (by rfl) B.str (by decide +kernel) rfl) pa_nil))))) (pss_one (ps_ret pe_non)) pss_nil)
      (pss_cons (ps_par (i := 1) (j := 2) (by rfl) scJoints.nd rfl rfl (by decide) rfl rfl (pa_cons (pe_lst pa_nil) (pa_cons (pe_lst pa_nil) pa_nil)) (by rfl))
      (pss_cons (ps_for PassesOwn.never rfl (pi_enum (by rfl) B.enum (pa_cons (pe_split (pv 0) pe_str) pa_nil)) (pg_tup rfl (pgs_cons (pg_name (i := 3) scJoints.nd rfl (.inl rfl)) (pgs_cons (pg_name (i := 4) scJoints.nd rfl (.inl rfl)) pgs_nil)))
        (pss_cons (ps_set (i := 5) scJoints.nd rfl (Or.inl rfl) (pe_split (pv 4) pe_str))
        (pss_cons (ps_if (PW.pt (pw_or (pt_cmpR op_ne (pe_callB call_len_seq (by rfl) B.len PySem.boot_len (pa_cons (pv 5) pa_nil)) (pe_ifExp (pt_cmpR op_eq (pv 3) pe_int (nomark _)) pe_int pe_int) (nomark _))
            (pw_or (pt_not (pt_val (pe_callD DN hr (by rfl) (pa_cons (pe_ix ix_list (pv 5) pe_int (fun _ _ => rfl)) pa_nil))))
              (pw_or1 (pt_cmpR op_in_seq (pe_ix ix_list (pv 5) pe_int (fun _ _ => rfl)) (pv 2) (by rfl)))))) (pss_one (ps_ret pe_non)) pss_nil)
        (pss_cons (ps_if (PW.pt (pw_and (pt_cmpR op_gt (pv 3) pe_int (nomark _)) (pw_and1 (pt_cmpR op_notIn_seq (pe_ix ix_list (pv 5) pe_int (fun _ _ => rfl)) (pv 2) (by rfl))))) (pss_one (ps_ret pe_non)) pss_nil)
        (pss_cons (ps_expr (pe_bm PySem.F.plainAttrs_list PySem.F.slot_list_append PySem.F.type_list_append mt_append (pv 1) (pa_cons (pe_tup (pa_cons (pe_ix ix_list (pv 5) pe_int (fun _ _ => rfl))
            (pa_cons (pe_ifExp (pt_cmpR op_eq (pv 3) pe_int (nomark _)) pe_non (pe_bm PySem.F.plainAttrs_list PySem.F.slot_list_index PySem.F.type_list_index mt_index (pv 2) (pa_cons (pe_ix ix_list (pv 5) pe_int (fun _ _ => rfl)) pa_nil))) pa_nil))) pa_nil)))
        (pss_one (ps_expr (pe_bm PySem.F.plainAttrs_list PySem.F.slot_list_append PySem.F.type_list_append mt_append (pv 2) (pa_cons (pe_ix ix_list (pv 5) pe_int (fun _ _ => rfl)) pa_nil)))))))))
      (pss_one (ps_ret (pe_ifExp (pt_cmpR op_le (pe_callB call_len_seq (by rfl) B.len PySem.boot_len (pa_cons (pv 1) pa_nil)) (pe_glob (v := .int 40) rfl hM ⟨_, rfl⟩) (nomark _)) (pv 1) pe_non))))), ?_⟩
    -- isinstance(text, str)
    refine ⟨_, rfl, .str _, .ty "str", .type "str", .type "str", true, rfl, .ty _, .base (.str _), kit_ty (by decide +kernel), true, rfl, iteF ?_⟩
    -- found, names = [], []
    refine ⟨Nat.zero_le _, fun fo nfo => ⟨Nat.zero_le _, fun na nna => ⟨_, _, rfl, ?_⟩⟩⟩
    have l1 : Lv (fo :: ch) (upd H fo (.lst [])) := lv.new nfo fun _ z => nomatch z
    have l2 : Lv (na :: fo :: ch) (upd (upd H fo (.lst [])) na (.lst [])) := l1.new nna fun _ z => nomatch z
    -- text.split
    refine ⟨_, rfl, ⟨_, rfl⟩, _, _, rfl, rfl, by decide +kernel, by have := sizeLine_eq; omega, fun pl npl => ?_⟩
    rw [split_line W]
    have l3 : Lv (na :: fo :: ch) (upd (upd (upd H fo (.lst [])) na (.lst [])) pl (.lst (vSs (partsOf js)))) := (Fr.new npl : Fr T [] _ _).lv l2
    have nfa : fo ≠ na := fun z => by
      rw [← z, upd_same] at nna
      cases nna
    have npf : pl ≠ fo := fun z => by
      rw [z, upd_ne nfa, upd_same] at npl
      cases npl
    have npa : pl ≠ na := fun z => by
      rw [z, upd_same] at npl
      cases npl
    have fr0 : Fr T [na, fo] H (upd (upd (upd H fo (.lst [])) na (.lst [])) pl (.lst (vSs (partsOf js)))) := ((Fr.new nfo).trans (Fr.new nna)).trans (Fr.new npl)
    have plen : (vSs (partsOf js)).length = js.length := by rw [List.length_map]; exact List.length_map _
    refine ⟨pl, vSs (partsOf js), rfl, .inl (.inl upd_same), for_it (walk_enum (xs := vSs (partsOf js))) (fun i σ H3 => ∃ c3 c4 c5 fs, σ = [some (.str (lineOf js)), some (.ref fo), some (.ref na), c3, c4, c5] ∧ Fr T [na, fo] (upd (upd (upd H fo (.lst [])) na (.lst [])) pl (.lst (vSs (partsOf js)))) H3 ∧
        H3 fo = some (.lst fs) ∧ H3 na = some (.lst (vSs ((nmsOf js).take i))) ∧ DpAll K (Reg (na :: fo :: ch) H3) fs ((dJl js).take i)) ?_ ?_ ?_ ?_⟩
    · refine ⟨none, none, none, [], rfl, .refl, ?_, ?_, .nil⟩
      · rw [upd_ne npf.symm, upd_ne nfa, upd_same]
      · rw [upd_ne npa.symm, upd_same]
        rfl
    · rintro i σ H3 _ ⟨c3, c4, c5, fs, rfl, fr, e1, e2, ds⟩
      refine .inl (.inl (fr.keep pl _ (fun z => ?_) upd_same fun _ z => nomatch z))
      rcases List.mem_cons.mp z with z | z
      · exact npa z
      · exact npf (List.mem_singleton.mp z)
    · rintro i x σ H3 H4 hi ⟨c3, c4, c5, fs, rfl, fr, e1, e2, ds⟩ ⟨Tp, y1, y2, rfl, nT, rfl, f1, f2⟩
      cases f1
      obtain ⟨z, hz, rfl⟩ := map_at f2
      rw [plen] at hi
      obtain ⟨p, hp⟩ : ∃ p, js[i]? = some p := ⟨_, List.getElem?_eq_getElem hi⟩
      have ez : z = Txt.join " " (wordsOf js p) := by
        unfold partsOf at hz
        rw [List.getElem?_map, hp] at hz
        exact (Option.some.inj hz).symm
      subst ez
      have hw := words_ok W hp
      have hpl := part_len W hp
      have sl := sizeLine_eq
      refine ⟨Tp, _, rfl, .inl (.inl upd_same), rfl, _, _, rfl, _, _, rfl, rfl, ?_⟩
      refine ⟨_, rfl, ⟨_, rfl⟩, _, _, rfl, rfl, by decide +kernel, by omega, fun wl nwl => ?_⟩
      rw [split_part W hp]
      have frB : Fr T [] H3 (upd (upd H3 Tp (.tup [.int (i : Nat), .str (Txt.join " " (wordsOf js p))])) wl (.lst (vSs (wordsOf js p)))) := (Fr.new nT).trans (Fr.new nwl)
      have hcase : (i = 0 ∧ p.2 = none ∧ wordsOf js p = [p.1]) ∨ (0 < i ∧ ∃ a, p.2 = some a ∧ a < i ∧ wordsOf js p = [p.1, (nmsOf js).getD a Str.empty]) := by
        by_cases h0 : i = 0
        · subst h0
          have e := W.root p hp
          exact .inl ⟨rfl, e, by unfold wordsOf; rw [e]⟩
        · obtain ⟨a, e, ha⟩ := W.up i p hp (by omega)
          exact .inr ⟨by omega, a, e, ha, by unfold wordsOf; rw [e]⟩
      have nwf : fo ≠ wl := ne_of_none ((Fr.new (T := T) (W := []) (o := .tup [.int (i : Nat), .str (Txt.join " " (wordsOf js p))]) nT).keep fo _ (fun z => nomatch z) e1 fun _ z => nomatch z) nwl
      have hnew : decide (p.1 ∈ (nmsOf js).take i) = false := by
        refine decide_eq_false fun z => ?_
        obtain ⟨j, hj⟩ := List.getElem?_of_mem z
        have hji : j < i := by
          have := (List.getElem?_eq_some_iff.mp hj).1
          rw [List.length_take] at this
          omega
        rw [List.getElem?_take_of_lt hji] at hj
        have h2 : (nmsOf js)[i]? = some p.1 := by rw [List.getElem?_map, hp]; rfl
        obtain ⟨a1, b1⟩ := List.getElem?_eq_some_iff.mp hj
        obtain ⟨a2, b2⟩ := List.getElem?_eq_some_iff.mp h2
        have := (List.getElem_inj W.nd).mp (b1.trans b2.symm)
        omega
      rcases hcase with ⟨rfl, ep, ew⟩ | ⟨hi0, a, ep, ha, ew⟩
      · rw [ew] at nwl frB ⊢
        -- len(words) != 1
        refine ⟨_, rfl, wl, _, rfl, .inl (.inl (.inl upd_same)), _, rfl, rfl, _, rfl, iteT ⟨rfl, _, rfl, iteF ?_⟩⟩
        -- not is_name(words[0]) or words[0] in names
        refine ⟨_, rfl, wl, _, 0, _, rfl, rfl, .inl (.inl upd_same), atI_nat (j := 0) rfl, p.1, rfl, W.names p (List.mem_of_getElem? hp), fun Hc frC => ⟨true, rfl, iteF ?_⟩⟩
        have eW : Hc wl = some (.lst (vSs [p.1])) := frC.keep wl _ (fun z => nomatch z) upd_same fun _ z => nomatch z
        have e2c : Hc na = some (.lst (vSs ((nmsOf js).take 0))) := (frB.trans frC).keep na _ (fun z => nomatch z) e2 fun _ z => nomatch z
        have e1c : Hc fo = some (.lst fs) := (frB.trans frC).keep fo _ (fun z => nomatch z) e1 fun _ z => nomatch z
        refine ⟨_, rfl, wl, _, 0, _, rfl, rfl, .inl (.inl eW), atI_nat (j := 0) rfl, _, rfl, na, _, rfl, .inl (.inl (.inl e2c)), rfl, flat_S _, _, rfl, ?_⟩
        rw [show (if false = true then !inV (.str p.1) (vSs ((nmsOf js).take 0)) else inV (.str p.1) (vSs ((nmsOf js).take 0))) = false from rfl]
        refine iteF ?_
        -- k > 0 and ..
        refine ⟨_, rfl, _, _, rfl, rfl, _, rfl, iteF (iteF ?_)⟩
        -- found.append
        have hfs : fs.length ≤ 9 := by
          rw [dps_len ds, List.length_take]
          have h1 : (dJl js).length = js.length := List.length_map _
          have := W.top
          omega
        have hns : (vSs ((nmsOf js).take 0)).length ≤ 9 := by simp
        refine ⟨_, rfl, .inl ⟨rfl, _, .inl (.inl e1c)⟩, _, rfl, wl, _, 0, _, rfl, rfl, .inl (.inl eW), atI_nat (j := 0) rfl, _, rfl, rfl, _, rfl, iteT ⟨by show 2 ≤ sizeLine; decide, fun q nq => ⟨fo, fs, _, rfl, rfl, by rw [upd_ne (ne_of_none e1c nq)]; exact e1c, by omega, ?_⟩⟩⟩
        obtain ⟨g0, gW, g1, g2, g3⟩ := joint_step (T := T) (x := p.1) (v := .non) (d := dO p.2) nfa (fr.lv l3) (frB.trans frC) e1c e2c nq ds (fun _ => by rw [ep]; exact .non) eW nwf
        refine ⟨_, rfl, .inl ⟨rfl, _, .inl (.inl g0)⟩, _, rfl, wl, _, 0, _, rfl, rfl, .inl (.inl gW), atI_nat (j := 0) rfl, na, _, _, rfl, rfl, g0, by omega, some (.int 0), some (.str (Txt.join " " [p.1])), some (.ref wl), fs ++ [.ref q], rfl, fr.trans g1, g2, ?_, ?_⟩
        · rw [upd_same, take_snoc (nms_at hp)]
          rfl
        · rw [take_snoc (dJl_at hp)]
          exact g3
      · rw [ew] at nwl frB ⊢
        have hyl : (nmsOf js)[a]? = some ((nmsOf js).getD a Str.empty) := by
          have hal : a < (nmsOf js).length := by rw [nms_len]; omega
          rw [List.getD_eq_getElem?_getD, List.getElem?_eq_getElem hal]
          rfl
        have hya : ((nmsOf js).take i)[a]? = some ((nmsOf js).getD a Str.empty) := by rw [List.getElem?_take_of_lt ha]; exact hyl
        have hym : (nmsOf js).getD a Str.empty ∈ (nmsOf js).take i := List.mem_of_getElem? hya
        have hix : ixOf ((nmsOf js).getD a Str.empty) ((nmsOf js).take i) = a := ixOf_eq (W.nd.sublist (List.take_sublist _ _)) hya
        have hk0 : decide (V.int (i : Nat) = V.int 0) = false := decide_eq_false fun z => by
          have z2 : ((i : Nat) : Int) = 0 := V.int.inj z
          omega
        generalize (nmsOf js).getD a Str.empty = y at *
        -- len(words) != 2
        refine ⟨_, rfl, wl, _, rfl, .inl (.inl (.inl upd_same)), _, rfl, rfl, _, rfl, ?_⟩
        rw [hk0]
        refine iteF ⟨rfl, _, rfl, iteF ?_⟩
        refine ⟨_, rfl, wl, _, 0, _, rfl, rfl, .inl (.inl upd_same), atI_nat (j := 0) rfl, p.1, rfl, W.names p (List.mem_of_getElem? hp), fun Hc frC => ⟨true, rfl, iteF ?_⟩⟩
        have eW : Hc wl = some (.lst (vSs [p.1, y])) := frC.keep wl _ (fun z => nomatch z) upd_same fun _ z => nomatch z
        have e2c : Hc na = some (.lst (vSs ((nmsOf js).take i))) := (frB.trans frC).keep na _ (fun z => nomatch z) e2 fun _ z => nomatch z
        have e1c : Hc fo = some (.lst fs) := (frB.trans frC).keep fo _ (fun z => nomatch z) e1 fun _ z => nomatch z
        refine ⟨_, rfl, wl, _, 0, _, rfl, rfl, .inl (.inl eW), atI_nat (j := 0) rfl, _, rfl, na, _, rfl, .inl (.inl (.inl e2c)), rfl, flat_S _, _, rfl, ?_⟩
        rw [show (if false = true then !inV (.str p.1) (vSs ((nmsOf js).take i)) else inV (.str p.1) (vSs ((nmsOf js).take i))) = false from (inS _ _).trans hnew]
        refine iteF ?_
        -- k > 0 and words[1] not in names
        refine ⟨_, rfl, _, _, rfl, rfl, _, rfl, ?_⟩
        rw [show decide ((0 : Int) < ((i : Nat) : Int)) = true from decide_eq_true (by omega)]
        refine iteT ⟨_, rfl, wl, _, 1, _, rfl, rfl, .inl (.inl eW), atI_nat (j := 1) rfl, _, rfl, na, _, rfl, .inl (.inl (.inl e2c)), rfl, flat_S _, _, rfl, ?_⟩
        rw [show (if true = true then !inV (.str y) (vSs ((nmsOf js).take i)) else inV (.str y) (vSs ((nmsOf js).take i))) = false from by rw [if_pos rfl, inS, decide_eq_true hym]; rfl]
        refine iteF ?_
        have hfs : fs.length ≤ 9 := by
          rw [dps_len ds, List.length_take]
          have h1 : (dJl js).length = js.length := List.length_map _
          have := W.top
          omega
        have hns : (vSs ((nmsOf js).take i)).length ≤ 9 := by
          rw [List.length_map, List.length_take]
          have h1 : (nmsOf js).length = js.length := List.length_map _
          have := W.top
          omega
        obtain ⟨i1, i2, i3⟩ := idx_at (f := V.str) eqV_str hym
        rw [hix] at i1 i3
        refine ⟨_, rfl, .inl ⟨rfl, _, .inl (.inl e1c)⟩, _, rfl, wl, _, 0, _, rfl, rfl, .inl (.inl eW), atI_nat (j := 0) rfl, _, rfl, rfl, _, rfl, ?_⟩
        rw [hk0]
        refine iteF ⟨_, rfl, .inl ⟨rfl, _, .inl (.inl e2c)⟩, _, rfl, wl, _, 1, _, rfl, rfl, .inl (.inl eW), atI_nat (j := 1) rfl, na, _, _, a, _, rfl, rfl, .inl (.inl e2c), rfl, flat_S _, i1, i2, i3,
          by show 2 ≤ sizeLine; decide, fun q nq => ⟨fo, fs, _, rfl, rfl, by rw [upd_ne (ne_of_none e1c nq)]; exact e1c, by omega, ?_⟩⟩
        obtain ⟨g0, gW, g1, g2, g3⟩ := joint_step (T := T) (x := p.1) (v := .int (a : Nat)) (d := dO p.2) nfa (fr.lv l3) (frB.trans frC) e1c e2c nq ds (fun _ => by rw [ep]; exact .int _) eW nwf
        refine ⟨_, rfl, .inl ⟨rfl, _, .inl (.inl g0)⟩, _, rfl, wl, _, 0, _, rfl, rfl, .inl (.inl gW), atI_nat (j := 0) rfl, na, _, _, rfl, rfl, g0, by omega, some (.int (i : Nat)), some (.str (Txt.join " " [p.1, y])), some (.ref wl), fs ++ [.ref q], rfl, fr.trans g1, g2, ?_, ?_⟩
        · rw [upd_same, take_snoc (nms_at hp), vSs_snoc]
        · rw [take_snoc (dJl_at hp)]
          exact g3
    · rintro σ H3 ⟨c3, c4, c5, fs, rfl, fr, e1, e2, ds⟩
      have el : (partsOf js).length = js.length := List.length_map _
      rw [plen] at ds
      rw [List.take_of_length_le (by rw [dJl_len] <;> omega)] at ds
      have hl : fs.length = js.length := by rw [dps_len ds, dJl_len]
      have ht := W.top
      refine ⟨_, rfl, fo, fs, rfl, .inl (.inl (.inl e1)), _, _, rfl, rfl, _, rfl, ?_⟩
      rw [show decide ((fs.length : Int) ≤ 40) = true from decide_eq_true (by omega)]
      refine iteT ⟨_, rfl, q H3 _ (((fr0.trans fr).drop (nw_none ?_)).drop (nw_none nfo)) ?_⟩
      · exact Same.free (same_new (o := .lst []) nfo) nna
      · exact own_lst (lv.fresh nfo) e1 (Same.dps (reg_less fun b hb => List.mem_cons_of_mem _ hb) ds)
end
end Tz
end -- W1b
section -- W2
set_option maxHeartbeats 4000000
namespace Tz
open PySem PySem.Spec PyProof.Rows L2 TL
/-! ### rows that are written one by one -/
def Rows (H : Hp) (rs : List Addr) (rows : Nat → List Nat) : Prop := ∀ (x : Nat) (r : Addr), rs[x]? = some r → H r = some (.lst (vIs (rows x)))
theorem vIs_snoc (l : List Nat) (x : Nat) : vIs (l ++ [x]) = vIs l ++ [.int (x : Int)] := List.map_append
section
variable {K : PySem.W.Frag} {T : List (Addr × Str)} {H H' : Hp} {rs ch W : List Addr} {rows : Nat → List Nat} {x y : Nat} {r D : Addr}
theorem Rows.put (h : Rows H rs rows) (nd : rs.Nodup) (e : rs[x]? = some r) : Rows (upd H r (.lst (vIs (rows x) ++ [.int (y : Int)]))) rs (fun z => if z = x then rows z ++ [y] else rows z) := fun z q hz => by
  by_cases hzx : z = x
  · subst hzx
    rw [e] at hz
    cases hz
    rw [upd_same]
    show _ = some (HO.lst (vIs (if z = z then rows z ++ [y] else rows z)))
    rw [if_pos rfl, vIs_snoc]
  · have hne : q ≠ r := fun w => by
      subst w
      obtain ⟨a1, b1⟩ := List.getElem?_eq_some_iff.mp e
      obtain ⟨a2, b2⟩ := List.getElem?_eq_some_iff.mp hz
      exact hzx ((List.getElem_inj nd).mp (b2.trans b1.symm))
    rw [upd_ne hne]
    show _ = some (HO.lst (vIs (if z = x then rows z ++ [y] else rows z)))
    rw [if_neg hzx]
    exact h z q hz
theorem Rows.eq {rows' : Nat → List Nat} (h : Rows H rs rows) (e : ∀ z, z < rs.length → rows z = rows' z) : Rows H rs rows' := fun z q hz => by
  rw [← e z (List.getElem?_eq_some_iff.mp hz).1]
  exact h z q hz
theorem Fr.keepRows (f : Fr T W H H') (h : Rows H rs rows) (n : ∀ q ∈ rs, q ∉ W) : Rows H' rs rows := fun z q hz => f.keep q _ (n q (List.mem_of_getElem? hz)) (h z q hz) fun _ z => nomatch z
theorem Rows.more {o : HO} (h : Rows H rs fun _ => []) (nD : ∀ q ∈ rs, q ≠ D) (nr : H r = none) (rD : r ≠ D) : Rows (upd (upd H r (.lst [])) D o) (rs ++ [r]) fun _ => [] := fun z q hz => by
  by_cases hl : z < rs.length
  · rw [List.getElem?_append_left hl] at hz
    have hm := List.mem_of_getElem? hz
    rw [upd_ne (nD q hm), upd_ne (ne_of_none (h z q hz) nr)]
    exact h z q hz
  · rw [List.getElem?_append_right (by omega)] at hz
    have hm := List.mem_of_getElem? hz
    rw [List.mem_singleton.mp hm, upd_ne rD, upd_same]
    rfl
theorem rows_dps (h : Rows H rs rows) (n : ∀ q ∈ rs, q ∉ ch) : DpAll K (Reg ch H) (rs.map V.ref) ((List.range rs.length).map fun x => PyData.list (dIs (rows x))) := by
  have key : ∀ (l : List Addr) (k : Nat), (∀ (x : Nat) (r : Addr), l[x]? = some r → rs[k + x]? = some r) → DpAll K (Reg ch H) (l.map V.ref) ((List.range' k l.length).map fun x => PyData.list (dIs (rows x))) := by
    intro l
    induction l with
    | nil => intro k _; exact .nil
    | cons a l ih =>
      intro k hk
      have h0 := hk 0 a rfl
      have hm : a ∈ rs := List.mem_of_getElem? h0
      refine .cons (.lst (.inl (.inl (reg_in (n a hm) (h _ _ h0) fun _ z => nomatch z))) (is_dps _)) ?_
      refine ih (k + 1) fun x r hx => ?_
      have := hk (x + 1) r hx
      rw [← this]
      congr 1
      omega
  have := key rs 0 fun x r hx => by rw [Nat.zero_add]; exact hx
  rw [← List.range_eq_range'] at this
  exact this
end
/-! ### the tree's data -/
def prOf (js : Js) (k : Nat) : Nat := match js[k]? with
  | some (_, some a) => min a (k - 1)
  | _ => 0
def trOf (js : Js) : Tb.Tr where
  n := js.length
  pr := prOf js
  lt := fun k h0 hk => by
    unfold prOf
    split <;> omega
theorem pr_eq {js : Js} {k a : Nat} {p : Str × Option Nat} (h : js[k]? = some p) (e : p.2 = some a) (ha : a < k) : (trOf js).pr k = a := by
  show prOf js k = a
  obtain ⟨x, o⟩ := p
  cases e
  unfold prOf
  rw [h]
  show min a (k - 1) = a
  omega
abbrev dL (js : Js) : List PyData := (List.range js.length).map fun x => PyData.list (dIs ((trOf js).nb x))
abbrev tFlds (z : Str) (vj vl : V) : List (Str × V) := putF "links" vl (putF "joints" vj (putF "written" (.str z) []))
theorem kwj : ¬ (("joints" : Str) = "written") := by decide +kernel
theorem kwl : ¬ (("links" : Str) = "written") := by decide +kernel
theorem kjl : ¬ (("links" : Str) = "joints") := by decide +kernel
section
variable {z : Str} {vj vl : V}
theorem tF_w : (tFlds z vj vl).lookup ("written" : Str) = some (.str z) := by
  unfold tFlds
  rw [lookup_putF, if_neg fun e => kwl e.symm, lookup_putF, if_neg fun e => kwj e.symm, lookup_putF, if_pos rfl]
theorem tF_j : (tFlds z vj vl).lookup ("joints" : Str) = some vj := by
  unfold tFlds
  rw [lookup_putF, if_neg fun e => kjl e.symm, lookup_putF, if_pos rfl]
theorem tF_l : (tFlds z vj vl).lookup ("links" : Str) = some vl := by
  unfold tFlds
  rw [lookup_putF, if_pos rfl]
end
/-- a tree stands at v -/
def TreeAt (K : PySem.W.Frag) (CT : Addr) (R : Hp) (v : V) (js : Js) : Prop := ∃ a dx vj vl, v = .ref a ∧ R a = some (.ins CT dx (tFlds (lineOf js) vj vl)) ∧ Dp K R vj (.list (dJl js)) ∧ Dp K R vl (.list (dL js))
theorem Same.tree {K : PySem.W.Frag} {CT : Addr} {R R' : Hp} {v : V} {js : Js} (e : Same R R') (h : TreeAt K CT R v js) : TreeAt K CT R' v js := by
  obtain ⟨a, dx, vj, vl, rfl, h1, h2, h3⟩ := h
  exact ⟨a, dx, vj, vl, rfl, e _ _ h1, Same.dp e h2, Same.dp e h3⟩
theorem nbTo_len (T : Tb.Tr) (i x : Nat) : (T.nbTo i x).length ≤ i + 1 := by
  unfold Tb.Tr.nbTo
  rw [List.length_append]
  have h1 : ((List.range i).filter fun k => decide (0 < k ∧ T.pr k = x)).length ≤ i := Nat.le_trans (List.length_filter_le _ _) (Nat.le_of_eq List.length_range)
  have h2 : (if 0 < x ∧ x < i then [T.pr x] else []).length ≤ 1 := by split <;> simp
  omega
/-! ### properties, methods by bundles -/
structure Prp (P : Program) (w : World) (K : PySem.W.Frag) (mg : Str → Option Value) (base : Heap) (C : Addr) (k : Nat) (f : Str) (sp : Sp) : Prop where
  ex : ∃ p g fd, PropOf K C f p g ∧ FnOk P w K mg base CX0 k g fd ["self"] sp ∧ Binds K fd ["self"] []
section
variable {X : Cx} {C : Addr} {k : Nat} {f : Str} {sp : Sp} {e : Expr} {ta : TE} {pos : Pos}
theorem pe_propD (D : Prp X.prog X.w X.K X.mg X.base C k f sp) (c : Cls X.K C) (hr : Room (k + 1) X.A) (he : PE X e ta) (hab : attributeBase e f X.env (eval e X.env) = eval e X.env := by rfl) : PE X (.Attribute e f pos) (tProp C sp [] (fun _ _ _ => False) ta) := by
  obtain ⟨p, g, fd, hp, F, hb⟩ := D.ex
  exact pe_prop he c hp F hr hb .nil pass0 hab
end
section
variable {P : Program} {w : World} {K : PySem.W.Frag} {mg : Str → Option Value} {base : Heap} {T : List (Addr × Str)} {CT : Addr}
abbrev sTInit : Stmt := inClass (top 31) 0
theorem scTInit : FnScope ["self", "text", "joints", "k", "joint"] ["self", "text"] (defScope sTInit) := ⟨rfl, rfl, rfl, by decide +kernel, rfl, by decide +kernel, by decide +kernel⟩
def spTInit (K : PySem.W.Frag) (T : List (Addr × Str)) (CT : Addr) : Sp := fun vs H Q _ => ∃ (js : Js) (ch : List Addr) (a dx : Addr), vs = [.ref a, .str (lineOf js)] ∧ WellJ js ∧ Lv ch H ∧ H a = some (.ins CT dx []) ∧ a ∉ ch ∧ ∀ H', Fr T [a] H H' → TreeAt K CT (Reg ch H') (.ref a) js → Q .non H'
structure TreeF (K : PySem.W.Frag) (CT : Addr) : Prop where
  cl : Cls K CT
  nW : NoAttr K CT "written"
  nJ : NoAttr K CT "joints"
  nL : NoAttr K CT "links"
theorem ok_tinit {f : Addr} {fd : FuncData} (F : L2.Fun K "__init__" "Tree.__init__" sTInit f fd) (B : Blt mg) (TF : TreeF K CT) (DJ : Def P w K mg base 2 "joints_of" ["text"] (spJoints K T)) :
    FnOk P w K mg base CX0 3 f fd ["self", "text"] (spTInit K T CT) := by
  refine F.ok scTInit (fun vs H Q E h => ?_) (fun cdv A outer s H vs Q E hr h => ?_)
  · obtain ⟨js, ch, a, dx, rfl, _⟩ := h
    rfl
  · obtain ⟨js, ch, a, dx, rfl, W, lv, ea, nac, q⟩ := h
    refine ⟨_, pss_cons (ps_set (i := 2) scTInit.nd rfl (Or.inl rfl) (pe_callD DJ hr (by rfl) (pa_cons (pv 1) pa_nil)))
      (pss_cons (ps_if (pt_cmpR op_isN (pv 2) pe_non (nomark _)) (pss_one ps_never) pss_nil)
      (pss_cons (ps_asg (pe_tup (pa_cons (pv 1) (pa_cons (pv 2) pa_nil))) (pg_tup rfl (pgs_cons (pg_fld (pv 0)) (pgs_cons (pg_fld (pv 0)) pgs_nil))))
      (pss_cons (ps_fld (pv 0) (pe_lc (own := [("joint", 4)]) (g := gName 4) (tt := tYes) rfl scTInit.nd (pi_list (pv 2)) (blkOk_by (N := ["self", "text", "joints", "k", "joint"]) (sc := defScope sTInit) (by decide +kernel)) (fun _ _ _ _ _ => pg_name (i := 4) scTInit.nd rfl (Or.inl rfl)) (fun _ _ _ _ _ => pts_nil) (fun _ _ _ _ _ => pe_lst pa_nil)) rfl)
      (pss_one (ps_for PassesOwn.never rfl (pi_enum (by rfl) B.enum (pa_cons (pe_slice sl_list (pv 2) (po_some pe_int) po_none) pa_nil)) (pg_tup rfl (pgs_cons (pg_name (i := 3) scTInit.nd rfl (.inl rfl)) (pgs_cons (pg_name (i := 4) scTInit.nd rfl (.inl rfl)) pgs_nil)))
        (pss_cons (ps_expr (pe_bm PySem.F.plainAttrs_list PySem.F.slot_list_append PySem.F.type_list_append mt_append (pe_ix ix_list (pe_fld (pv 0) rfl) (pe_ix ix_tup (pv 4) pe_int (fun _ _ => rfl)) (fun _ _ => rfl)) (pa_cons (pe_op op_add (pv 3) pe_int) pa_nil)))
        (pss_one (ps_expr (pe_bm PySem.F.plainAttrs_list PySem.F.slot_list_append PySem.F.type_list_append mt_append (pe_ix ix_list (pe_fld (pv 0) rfl) (pe_op op_add (pv 3) pe_int) (fun _ _ => rfl)) (pa_cons (pe_ix ix_tup (pv 4) pe_int (fun _ _ => rfl)) pa_nil)))))))))), ?_⟩
    have lva : Lv (a :: ch) H := lv.cons ea fun _ z => nomatch z
    -- joints = joints_of(text)
    refine ⟨_, rfl, js, a :: ch, rfl, W, lva, fun H1 vj fr1 dj => ?_⟩
    obtain ⟨l, xs, rfl, hxs, dxs⟩ := dp_lst dj
    have ea1 : H1 a = some (.ins CT dx []) := fr1.keep a _ (fun z => nomatch z) ea fun _ z => nomatch z
    have lv1 := fr1.lv lva
    -- if joints is None
    refine ⟨_, rfl, rfl, _, rfl, ?_⟩
    rw [show decide (V.ref l = V.non) = false from dec_f fun z => nomatch z]
    refine iteF ?_
    -- self.written, self.joints = (text, joints)
    refine ⟨_, rfl, _, rfl, by show 2 ≤ sizeLine; decide, fun tp ntp => ⟨tp, _, rfl, .inl (.inl upd_same), rfl, _, _, rfl, _, rfl, a, CT, dx, [], rfl, by rw [upd_ne (ne_of_none ea1 ntp)]; exact ea1, TF.cl, TF.nW, by decide,
      _, _, rfl, _, rfl, a, CT, dx, _, rfl, upd_same, TF.cl, TF.nJ, by show 1 < 1000; decide, rfl, ?_⟩⟩
    -- self.links = [..]
    have fr3 : Fr T [a] H1 (upd (upd (upd H1 tp (.tup [.str (lineOf js), .ref l])) a (.ins CT dx (putF "written" (.str (lineOf js)) []))) a (.ins CT dx (putF "joints" (.ref l) (putF "written" (.str (lineOf js)) [])))) :=
      ((Fr.new ntp).trans (Fr.write (o := .ins CT dx []) (by rw [upd_ne (ne_of_none ea1 ntp)]; exact ea1) wr_ins nt_ins (List.mem_singleton.mpr rfl))).trans (Fr.write (o := .ins CT dx (putF "written" (.str (lineOf js)) [])) upd_same wr_ins nt_ins (List.mem_singleton.mpr rfl))
    have ea3 : (upd (upd (upd H1 tp (.tup [.str (lineOf js), .ref l])) a (.ins CT dx (putF "written" (.str (lineOf js)) []))) a (.ins CT dx (putF "joints" (.ref l) (putF "written" (.str (lineOf js)) [])))) a = some (.ins CT dx (putF "joints" (.ref l) (putF "written" (.str (lineOf js)) []))) := upd_same
    generalize (upd (upd (upd H1 tp (.tup [.str (lineOf js), .ref l])) a (.ins CT dx (putF "written" (.str (lineOf js)) []))) a (.ins CT dx (putF "joints" (.ref l) (putF "written" (.str (lineOf js)) [])))) = H3 at fr3 ea3 ⊢
    have sub1 : ∀ b ∈ [a], b ∈ a :: ch := fun b hb => by rw [List.mem_singleton.mp hb]; exact List.mem_cons_self ..
    have hxs3 : SqL K H3 l xs := reg_same.seq ((fr3.reg sub1).seq hxs)
    have nx : xs.length = js.length := by rw [dps_len dxs, dJl_len]
    refine ⟨_, rfl, l, rfl, ⟨xs, hxs3⟩, fun D nD => lc_it (walk_list (xs := xs)) (fun i H4 => ∃ rs : List Addr, rs.length = i ∧ rs.Nodup ∧ (∀ r ∈ rs, Nw H3 r ∧ r ≠ D) ∧ Fr T [D] H3 H4 ∧ H4 D = some (.lst (rs.map V.ref)) ∧ Rows H4 rs fun _ => [])
      ?_ ?_ ?_ ?_⟩
    · exact ⟨[], rfl, List.nodup_nil, (fun r z => nomatch z), .new nD, upd_same, fun x r z => by simp at z⟩
    · rintro i H4 _ ⟨rs, _, _, _, fr, _, _⟩
      exact reg_same.seq (((fr3.trans ((Fr.drop fr (nw_none nD)).nil)).reg sub1).seq hxs)
    · rintro i x H4 H5 hi ⟨rs, rfl, nd, nr, fr, eD, rw_⟩ ⟨rfl, hx⟩
      refine ⟨rfl, Nat.zero_le _, fun r nrr => ⟨_, by rw [upd_ne (ne_of_none eD nrr)]; exact eD, by rw [List.length_map]; have := W.top; have := sizeLine_eq; omega, rs ++ [r], by simp, ?_, ?_, ?_, ?_, ?_⟩⟩
      · refine List.nodup_append.mpr ⟨nd, by simp, fun b hb c hc e => ?_⟩
        rw [List.mem_singleton.mp hc] at e
        subst e
        obtain ⟨k, hk⟩ := List.getElem?_of_mem hb
        rw [rw_ k _ hk] at nrr
        cases nrr
      · intro q hq
        rcases List.mem_append.mp hq with hq | hq
        · exact nr q hq
        · rw [List.mem_singleton.mp hq]
          refine ⟨?_, (ne_of_none eD nrr).symm⟩
          exact fr.nw0 nrr
      · exact (fr.trans (.new nrr)).trans (.write (by rw [upd_ne (ne_of_none eD nrr)]; exact eD) wr_lst nt_lst (List.mem_singleton.mpr rfl))
      · rw [upd_same, List.map_append]
        rfl
      · exact Rows.more rw_ (fun q hq => (nr q hq).2) nrr (ne_of_none eD nrr).symm
    · rintro H4 ⟨rs, hrl, nd, nr, fr, eD, rw_⟩
      have fr4 : Fr T [a] H1 H4 := fr3.trans (fr.drop (nw_none nD)).nil
      have ea4 : H4 a = some (.ins CT dx (putF "joints" (.ref l) (putF "written" (.str (lineOf js)) []))) := fr.keep a _ (fun z => ne_of_none ea3 nD (List.mem_singleton.mp z)) ea3 nt_ins
      refine ⟨_, rfl, a, CT, dx, _, rfl, ea4, TF.cl, TF.nL, by show 2 < 1000; decide, ?_⟩
      have naD : a ≠ D := ne_of_none ea3 nD
      have nar : ∀ r ∈ rs, r ≠ a := fun r hr => (ne_nw ea3 nt_ins (nr r hr).1).symm
      have fr5 : Fr T [a] H1 (upd H4 a (.ins CT dx (tFlds (lineOf js) (.ref l) (.ref D)))) := fr4.trans (.write ea4 wr_ins nt_ins (List.mem_singleton.mpr rfl))
      have ea5 : (upd H4 a (.ins CT dx (tFlds (lineOf js) (.ref l) (.ref D)))) a = some (.ins CT dx (tFlds (lineOf js) (.ref l) (.ref D))) := upd_same
      have eD5 : (upd H4 a (.ins CT dx (tFlds (lineOf js) (.ref l) (.ref D)))) D = some (.lst (rs.map V.ref)) := by rw [upd_ne naD.symm]; exact eD
      have rw5 : Rows (upd H4 a (.ins CT dx (tFlds (lineOf js) (.ref l) (.ref D)))) rs fun _ => [] := fun z q hz => by rw [upd_ne (nar q (List.mem_of_getElem? hz))]; exact rw_ z q hz
      generalize (upd H4 a (.ins CT dx (tFlds (lineOf js) (.ref l) (.ref D)))) = H5 at fr5 ea5 eD5 rw5 ⊢
      -- for k, joint in enumerate(joints[1:])
      refine ⟨_, rfl, 1, rfl, l, xs, rfl, reg_same.seq ((fr5.reg sub1).seq hxs), fun c nc => ?_⟩
      rw [cutd]
      have fr6 : Fr T [a] H1 (upd H5 c (.lst (xs.drop 1))) := fr5.trans (.new nc)
      have lx : (xs.drop 1).length = js.length - 1 := by rw [List.length_drop, nx]
      refine ⟨c, xs.drop 1, rfl, .inl (.inl upd_same), for_it (walk_enum (xs := xs.drop 1)) (fun i σ H7 => ∃ c3 c4, σ = [some (.ref a), some (.str (lineOf js)), some (.ref l), c3, c4] ∧ Fr T rs (upd H5 c (.lst (xs.drop 1))) H7 ∧ Rows H7 rs ((trOf js).nbTo (i + 1))) ?_ ?_ ?_ ?_⟩
      · refine ⟨none, none, rfl, .refl, ?_⟩
        refine ((Fr.new (T := T) (W := []) nc).keepRows rw5 fun q _ z => nomatch z).eq fun z _ => ?_
        exact ((trOf js).nbTo_one z).symm
      · rintro i σ H7 _ ⟨c3, c4, rfl, fr7, _⟩
        refine .inl (.inl (fr7.keep c _ (fun z => ?_) upd_same nt_lst))
        obtain ⟨k, hk⟩ := List.getElem?_of_mem z
        rw [rw5 k c hk] at nc
        cases nc
      · rintro i y σ H7 H8 hi ⟨c3, c4, rfl, fr7, rw7⟩ ⟨Tp, y1, y2, rfl, nT, rfl, f1, f2⟩
        cases f1
        rw [lx] at hi
        have frr : ∀ r ∈ rs, Nw H1 r := fun r hr => fr3.nw (nr r hr).1
        have fr8 : Fr T (rs ++ [a]) H1 H7 := (fr6.wide fun b hb => List.mem_append_right _ hb).trans (fr7.wide fun b hb => List.mem_append_left _ hb)
        have fr8' : Fr T [a] H1 H7 := fr8.dropL frr
        have fr9 : Fr T [a] H1 (upd H7 Tp (.tup [.int (i : Nat), y2])) := fr8'.trans (.new nT)
        have ea7 : H7 a = some (.ins CT dx (tFlds (lineOf js) (.ref l) (.ref D))) := fr7.keep a _ (fun z => nar a z rfl) (by rw [upd_ne (ne_of_none ea5 nc)]; exact ea5) nt_ins
        have eD7 : H7 D = some (.lst (rs.map V.ref)) := fr7.keep D _ (fun z => (nr D z).2 rfl) (by rw [upd_ne (ne_of_none eD5 nc)]; exact eD5) nt_lst
        have ea9 : (upd H7 Tp (.tup [.int (i : Nat), y2])) a = some (.ins CT dx (tFlds (lineOf js) (.ref l) (.ref D))) := by rw [upd_ne (ne_of_none ea7 nT)]; exact ea7
        have eD9 : (upd H7 Tp (.tup [.int (i : Nat), y2])) D = some (.lst (rs.map V.ref)) := by rw [upd_ne (ne_of_none eD7 nT)]; exact eD7
        have rw9 : Rows (upd H7 Tp (.tup [.int (i : Nat), y2])) rs ((trOf js).nbTo (i + 1)) := (Fr.new (T := T) (W := []) nT).keepRows rw7 fun q _ z => nomatch z
        -- the joint
        obtain ⟨p, hp⟩ : ∃ p, js[i + 1]? = some p := ⟨_, List.getElem?_eq_getElem (by omega)⟩
        obtain ⟨b, eb, hb⟩ := W.up (i + 1) p hp (by omega)
        have f2' : (xs.drop 1)[i]? = some y2 := f2
        have hy2 : xs[i + 1]? = some y2 := by rw [List.getElem?_drop, Nat.add_comm 1 i] at f2'; exact f2'
        obtain ⟨dd, hdd, hdy⟩ := dps_get' dxs hy2
        rw [dJl_at hp] at hdd
        cases hdd
        rw [eb] at hdy
        obtain ⟨tq, ys, rfl, hys, hdys⟩ := dp_tup hdy
        have eys : ys = [.str p.1, .int (b : Nat)] := by
          cases hdys with
          | cons h1 h2 =>
            cases h2 with
            | cons h2 h3 =>
              cases h3
              rw [dp_str' _ _ h1, dp_int' _ _ h2]
        subst eys
        have hrs : rs.length = js.length := by rw [hrl, nx]
        obtain ⟨r1, hr1⟩ : ∃ r, rs[b]? = some r := ⟨_, List.getElem?_eq_getElem (by omega)⟩
        obtain ⟨r2, hr2⟩ : ∃ r, rs[i + 1]? = some r := ⟨_, List.getElem?_eq_getElem (by omega)⟩
        have hm1 := List.mem_of_getElem? hr1
        have hm2 := List.mem_of_getElem? hr2
        have ht := W.top
        have sl := sizeLine_eq
        have len1 : (vIs ((trOf js).nbTo (i + 1) b)).length < sizeLine := by
          have := nbTo_len (trOf js) (i + 1) b
          rw [List.length_map]
          omega
        refine ⟨Tp, _, rfl, .inl (.inl upd_same), rfl, _, _, rfl, _, _, rfl, rfl, ?_⟩
        have fr79 : Fr T rs (upd H5 c (.lst (xs.drop 1))) (upd H7 Tp (.tup [.int (i : Nat), .ref tq])) := fr7.trans (.new nT)
        generalize (upd H7 Tp (.tup [.int (i : Nat), .ref tq])) = H9 at fr9 ea9 eD9 rw9 fr79 ⊢
        have sqT : ∀ Hx, Fr T [a] H1 Hx → SqT K Hx tq [.str p.1, .int (b : Nat)] := fun Hx f => Same.seqT reg_same (Same.seqT (f.reg sub1) hys)
        -- self.links[joint[1]].append(k + 1)
        refine ⟨_, rfl, a, CT, dx, _, _, rfl, ea9, TF.cl, TF.nL, tF_l, _, rfl, tq, _, 1, _, rfl, rfl, sqT _ fr9, atI_nat (j := 1) rfl, D, _, _, .ref r1, rfl, rfl, .inl (.inl eD9), atI_nat (at_map hr1),
          .inl ⟨rfl, _, .inl (.inl (rw9 _ _ hr1))⟩, _, rfl, _, _, rfl, rfl, r1, _, _, rfl, rfl, rw9 _ _ hr1, len1, ?_⟩
        have rwA := Rows.put (y := i + 1) rw9 nd hr1
        have frA : Fr T [a] H1 (upd H9 r1 (.lst (vIs ((trOf js).nbTo (i + 1) b) ++ [.int ((i + 1 : Nat) : Int)]))) := (Fr.trans (W := [r1] ++ [a]) (fr9.wide fun z hz => List.mem_append_right _ hz) (.write (rw9 _ _ hr1) wr_lst nt_lst (List.mem_append_left _ (List.mem_singleton.mpr rfl)))).dropL fun z hz => by rw [List.mem_singleton.mp hz]; exact frr r1 hm1
        have eaA : (upd H9 r1 (.lst (vIs ((trOf js).nbTo (i + 1) b) ++ [.int ((i + 1 : Nat) : Int)]))) a = some (.ins CT dx (tFlds (lineOf js) (.ref l) (.ref D))) := by rw [upd_ne (nar r1 hm1).symm]; exact ea9
        have eDA : (upd H9 r1 (.lst (vIs ((trOf js).nbTo (i + 1) b) ++ [.int ((i + 1 : Nat) : Int)]))) D = some (.lst (rs.map V.ref)) := by rw [upd_ne (nr r1 hm1).2.symm]; exact eD9
        have eR := rwA _ _ hr2
        have len2 : (vIs (if i + 1 = b then (trOf js).nbTo (i + 1) (i + 1) ++ [i + 1] else (trOf js).nbTo (i + 1) (i + 1))).length < sizeLine := by
          have := nbTo_len (trOf js) (i + 1) (i + 1)
          rw [if_neg (by omega), List.length_map]
          omega
        refine ⟨_, rfl, a, CT, dx, _, _, rfl, eaA, TF.cl, TF.nL, tF_l, _, rfl, _, _, rfl, rfl, D, _, _, .ref r2, rfl, rfl, .inl (.inl eDA), atI_nat (j := i + 1) (at_map hr2),
          .inl ⟨rfl, _, .inl (.inl eR)⟩, _, rfl, tq, _, 1, _, rfl, rfl, sqT _ frA, atI_nat (j := 1) rfl, r2, _, _, rfl, rfl, eR, len2, some (.int (i : Nat)), some (.ref tq), rfl, ?_, ?_⟩
        · exact (fr79.trans (.write (rw9 _ _ hr1) wr_lst nt_lst hm1)).trans (.write eR wr_lst nt_lst hm2)
        · refine (Rows.put (y := b) rwA nd hr2).eq fun z hz => ?_
          rw [(trOf js).nbTo_step (i := i + 1) (by omega) (show i + 1 < js.length by omega) z, pr_eq hp eb hb]
          by_cases h1 : z = i + 1
          · subst h1
            rw [if_pos rfl, if_pos rfl, if_neg (by omega)]
          · rw [if_neg h1, if_neg h1]
      · rintro σ H7 ⟨c3, c4, rfl, fr7, rw7⟩
        have frr : ∀ r ∈ rs, Nw H1 r := fun r hr => fr3.nw (nr r hr).1
        have fr8 : Fr T (rs ++ [a]) H1 H7 := (fr6.wide fun b hb => List.mem_append_right _ hb).trans (fr7.wide fun b hb => List.mem_append_left _ hb)
        have fr8' : Fr T [a] H1 H7 := fr8.dropL frr
        have ea7 : H7 a = some (.ins CT dx (tFlds (lineOf js) (.ref l) (.ref D))) := fr7.keep a _ (fun z => nar a z rfl) (by rw [upd_ne (ne_of_none ea5 nc)]; exact ea5) nt_ins
        have eD7 : H7 D = some (.lst (rs.map V.ref)) := fr7.keep D _ (fun z => (nr D z).2 rfl) (by rw [upd_ne (ne_of_none eD5 nc)]; exact eD5) nt_lst
        have lvH1 : Lv ch H1 := fr1.lv lv
        have rch : ∀ r ∈ rs, r ∉ ch := fun r hr => lvH1.nw (frr r hr)
        have Dch : D ∉ ch := lvH1.nw (fr3.nw0 nD)
        refine q H7 (fr1.nil.trans fr8') ⟨a, dx, .ref l, .ref D, rfl, reg_in nac ea7 nt_ins, Same.dp (reg_less fun b hb => List.mem_cons_of_mem _ hb) (Same.dp (fr8'.reg sub1) dj), ?_⟩
        refine .lst (.inl (.inl (reg_in Dch eD7 nt_lst))) ?_
        have hrs : rs.length = js.length := by rw [hrl, nx]
        have hd := rows_dps (K := K) rw7 rch
        rw [hrs] at hd
        rw [show (xs.drop 1).length + 1 = js.length by have := W.one; omega] at hd
        exact hd
end
end Tz
end -- W2
section -- W3
set_option maxHeartbeats 4000000
namespace Tz
open PySem PySem.Spec PyProof.Rows L2 TL
/-! ### standings -/
abbrev Pose : Type := List (Option Str)
structure GoodP (pose : Pose) : Prop where
  names : ∀ z, some z ∈ pose → NmOk z
  nd : ∀ (i j : Nat) (z : Str), pose[i]? = some (some z) → pose[j]? = some (some z) → i = j
  top : pose.length ≤ 9
theorem GoodP.fresh {pose : Pose} (g : GoodP pose) {k : Nat} {z : Str} (h : pose[k]? = some (some z)) : some z ∉ pose.take k := fun m => by
  obtain ⟨j, hj⟩ := List.getElem?_of_mem m
  have hjk : j < k := by
    have := (List.getElem?_eq_some_iff.mp hj).1
    rw [List.length_take] at this
    omega
  rw [List.getElem?_take_of_lt hjk] at hj
  have := g.nd j k z hj h
  omega
abbrev dP (pose : Pose) : PyData := .tuple (pose.map dN)
theorem dp_pose {K : PySem.W.Frag} {R : Hp} {v : V} {pose : Pose} (h : Dp K R v (dP pose)) : ∃ a, v = .ref a ∧ SqT K R a (vNs pose) := by
  obtain ⟨a, xs, rfl, hs, hd⟩ := dp_tup h
  rw [dps_Ns hd] at hs
  exact ⟨a, rfl, hs⟩
theorem pose_dp {K : PySem.W.Frag} {R : Hp} {a : Addr} {pose : Pose} (h : SqT K R a (vNs pose)) : Dp K R (.ref a) (dP pose) := .tup h (ns_dps pose)
theorem cutt (xs : List V) (k : Nat) : cutV xs none (some (k : Int)) = xs.take k := by
  unfold cutV
  rw [HT.sIx_none, show HT.sIx xs.length xs.length (some (k : Int)) = min k xs.length from HT.sIx_nat xs.length xs.length k]
  show List.take (min k xs.length - 0) xs = _
  rw [Nat.sub_zero]
  by_cases h : k ≤ xs.length
  · rw [Nat.min_eq_left h]
  · rw [Nat.min_eq_right (by omega), List.take_of_length_le (Nat.le_refl _), List.take_of_length_le (by omega)]
/-- the pebbles of a standing -/
abbrev pebs (pose : Pose) : List Str := pose.filterMap id
section
variable {P : Program} {w : World} {K : PySem.W.Frag} {mg : Str → Option Value} {base : Heap} {T : List (Addr × Str)} {CT : Addr}
/-! ### tree.text, tree.places, == -/
abbrev sTText : Stmt := inClass (top 31) 1
theorem scTText : FnScope ["self"] ["self"] (defScope sTText) := ⟨rfl, rfl, rfl, by decide +kernel, rfl, by decide +kernel, by decide +kernel⟩
def spTText (CT : Addr) : Sp := fun vs H Q _ => ∃ a dx fs v, vs = [.ref a] ∧ H a = some (.ins CT dx fs) ∧ fs.lookup ("written" : Str) = some v ∧ Q v H
theorem ok_ttext {f : Addr} {fd : FuncData} (F : L2.Fun K "text" "Tree.text" sTText f fd) (TF : TreeF K CT) : FnOk P w K mg base CX0 1 f fd ["self"] (spTText CT) := by
  refine F.ok scTText (fun vs H Q E h => ?_) (fun cdv A outer s H vs Q E hr h => ?_)
  · obtain ⟨a, dx, fs, v, rfl, _⟩ := h
    rfl
  · obtain ⟨a, dx, fs, v, rfl, ea, el, q⟩ := h
    exact ⟨_, pss_one (ps_ret (pe_fld (pv 0) rfl)), _, rfl, a, CT, dx, fs, v, rfl, ea, TF.cl, TF.nW, el, q⟩
abbrev sTPlaces : Stmt := inClass (top 31) 2
theorem scTPlaces : FnScope ["self", "name", "ahead"] ["self"] (defScope sTPlaces) := ⟨rfl, rfl, rfl, by decide +kernel, rfl, by decide +kernel, by decide +kernel⟩
def spTPlaces (K : PySem.W.Frag) (T : List (Addr × Str)) (CT : Addr) : Sp := fun vs H Q _ => ∃ (js : Js) (ch : List Addr) (v : V), vs = [v] ∧ WellJ js ∧ Lv ch H ∧ TreeAt K CT (Reg ch H) v js ∧ ∀ H' p, Fr T [] H H' → Fz (Reg ch H') p (vSs (nmsOf js)) → Q (.ref p) H'
theorem ok_tplaces {f : Addr} {fd : FuncData} (F : L2.Fun K "places" "Tree.places" sTPlaces f fd) (B : Blt mg) (TF : TreeF K CT) : FnOk P w K mg base CX0 1 f fd ["self"] (spTPlaces K T CT) := by
  refine F.ok scTPlaces (fun vs H Q E h => ?_) (fun cdv A outer s H vs Q E hr h => ?_)
  · obtain ⟨js, ch, v, rfl, _⟩ := h
    rfl
  · obtain ⟨js, ch, v, rfl, W, lv, ⟨a, dx, vj, vl, rfl, ea, dj, dl⟩, q⟩ := h
    obtain ⟨l, xs, rfl, hxs, dxs⟩ := dp_lst dj
    have ht := W.top
    have sl := sizeLine_eq
    refine ⟨_, pss_one (ps_ret (pe_callTy call_tupleF (by rfl) B.tuple (by decide +kernel) (pa_cons (pe_lc (own := [("name", 1), ("ahead", 2)]) (g := gTup K 2 (gCons (gName 1) (gCons (gName 2) gNil))) (tt := tYes) rfl scTPlaces.nd (pi_list (pe_fld (pv 0) rfl)) (blkOk_by (N := ["self", "name", "ahead"]) (sc := defScope sTPlaces) (by decide +kernel))
      (fun _ _ _ _ _ => pg_tup rfl (pgs_cons (pg_name (i := 1) scTPlaces.nd rfl (Or.inl rfl)) (pgs_cons (pg_name (i := 2) scTPlaces.nd rfl (Or.inl rfl)) pgs_nil))) (fun _ _ _ _ _ => pts_nil) (fun _ _ _ _ _ => pv 1)) pa_nil))), ?_⟩
    refine ⟨_, rfl, a, CT, dx, _, _, rfl, reg_same _ _ ea, TF.cl, TF.nJ, tF_j, l, rfl, ⟨xs, reg_same.seq hxs⟩, fun D nD => lc_it (walk_list (xs := xs)) (fun i H2 => Fr T [D] H H2 ∧ H2 D = some (.lst (vSs ((nmsOf js).take i)))) ?_ ?_ ?_ ?_⟩
    · exact ⟨.new nD, upd_same⟩
    · rintro i H2 _ ⟨fr, _⟩
      exact reg_same.seq ((fr.drop (nw_none nD)).reg0.seq hxs)
    · rintro i x H2 H3 hi ⟨fr, eD⟩ ⟨rfl, hx⟩
      rw [dps_len dxs, dJl_len] at hi
      obtain ⟨p, hp⟩ : ∃ p, js[i]? = some p := ⟨_, List.getElem?_eq_getElem hi⟩
      obtain ⟨dd, hdd, hdx⟩ := dps_get' dxs hx
      rw [dJl_at hp] at hdd
      cases hdd
      obtain ⟨tq, ys, rfl, hys, hdys⟩ := dp_tup hdx
      cases hdys with
      | cons h1 h2 =>
        cases h2 with
        | cons h2 h3 =>
          cases h3
          rw [dp_str' _ _ h1] at hys
          refine ⟨tq, _, rfl, Same.seqT reg_same (Same.seqT ((fr.drop (nw_none nD)).reg0) hys), rfl, _, _, rfl, _, _, rfl, rfl, rfl, _, rfl, _, eD, ?_, ?_, ?_⟩
          · rw [List.length_map, List.length_take, nms_len]
            omega
          · exact fr.trans (.write eD wr_lst nt_lst (List.mem_singleton.mpr rfl))
          · rw [upd_same, take_snoc (nms_at hp), vSs_snoc]
    · rintro H2 ⟨fr, eD⟩
      rw [dps_len dxs, dJl_len, List.take_of_length_le (by rw [nms_len] <;> omega)] at eD
      exact ⟨D, _, rfl, .inl (.inl eD), fun p o ho np => q _ p ((fr.drop (nw_none nD)).trans (.new np)) ⟨o, reg_in (((fr.drop (nw_none nD)).lv lv).fresh np) upd_same nt_frz, ho⟩⟩
abbrev sTEq : Stmt := inClass (top 31) 10
theorem scTEq : FnScope ["self", "other"] ["self", "other"] (defScope sTEq) := ⟨rfl, rfl, rfl, by decide +kernel, rfl, by decide +kernel, by decide +kernel⟩
/-- what isinstance(tree, Tree) asks -/
structure IsF (K : PySem.W.Frag) (mg : Str → Option Value) (x : Str) (C : Addr) : Prop where
  mg_ : mg x = some (.ref C)
  ha : PySem.W.findIn K (.ref C) "__class__" = some (some (.builtin "object.__class__"))
  hn : PySem.W.specialIn K (.builtin "object.__class__") "__get__" = some (some (.builtin "getset_descriptor.__get__"))
  htk : PySem.W.takesIn K (.builtin "object.__class__") = some true
  hm : PySem.W.mroIn K C (.type "object") = some true
  one : PySem.W.kitOne K (.ref C) (.ref C) = some true
def eqTree (CT : Addr) : Addr → Addr → Hp → Prop := fun a b H => a = b ∧ ∃ dx fs z, H a = some (.ins CT dx fs) ∧ fs.lookup ("written" : Str) = some (.str z)
theorem ok_teq {f : Addr} {fd : FuncData} (F : L2.Fun K "__eq__" "Tree.__eq__" sTEq f fd) (B : Blt mg) (TF : TreeF K CT) (IT : IsF K mg "Tree" CT) (DT : Prp P w K mg base CT 1 "text" (spTText CT)) : FnOk P w K mg base CX0 3 f fd ["self", "other"] (spEq (eqTree CT)) := by
  refine F.ok scTEq (fun vs H Q E h => ?_) (fun cdv A outer s H vs Q E hr h => ?_)
  · obtain ⟨a, b, rfl, _⟩ := h
    rfl
  · obtain ⟨a, b, rfl, ⟨rfl, dx, fs, z, ea, el⟩, q⟩ := h
    refine ⟨_, pss_one (ps_ret (pe_and (pe_callB call_isi (by rfl) B.isi (by decide +kernel) (pa_cons (pv 1) (pa_cons (pe_glob (v := .ref CT) rfl IT.mg_ rfl) pa_nil))) (pe_one (pe_cmpR op_eq (pe_fld (pv 0) rfl) (pe_propD DT TF.cl hr (pv 1)) (nomark _))))), ?_⟩
    refine ⟨_, rfl, .ref a, .ref CT, .ref CT, .ref CT, true, rfl, .own CT, .base (.ins ea TF.cl IT.ha IT.hn IT.htk IT.hm), IT.one, true, rfl, iteT ?_⟩
    refine ⟨_, rfl, a, CT, dx, fs, _, rfl, ea, TF.cl, TF.nW, el, _, rfl, a, dx, fs, rfl, ea, a, dx, fs, _, rfl, ea, el, rfl, ?_⟩
    rw [decide_eq_true rfl]
    exact q H Ext.rfl'
end
end Tz
end -- W3
section -- SortMath
namespace Tz
open PySem PySem.Spec PyProof.Rows
theorem lt_anti : ∀ a b : List Nat, ltCps a b = false → ltCps b a = false → a = b
  | [], [], _, _ => rfl
  | [], _ :: _, h, _ => by simp [ltCps] at h
  | _ :: _, [], _, h => by simp [ltCps] at h
  | x :: a, y :: b, h1, h2 => by
    simp only [ltCps, Bool.or_eq_false_iff, decide_eq_false_iff_not, Bool.and_eq_false_iff, beq_eq_false_iff_ne] at h1 h2
    have e : x = y := by omega
    subst e
    rw [lt_anti a b (h1.2.resolve_left fun z => z rfl) (h2.2.resolve_left fun z => z rfl)]
theorem le_trans' : ∀ a b c : List Nat, ltCps b a = false → ltCps c b = false → ltCps c a = false
  | [], _, [], _, _ => rfl
  | [], _, _ :: _, _, _ => rfl
  | _ :: _, [], _, h, _ => by simp [ltCps] at h
  | _ :: _, _ :: _, [], _, h => by simp [ltCps] at h
  | x :: a, y :: b, z :: c, h1, h2 => by
    simp only [ltCps, Bool.or_eq_false_iff, decide_eq_false_iff_not, Bool.and_eq_false_iff, beq_eq_false_iff_ne] at h1 h2 ⊢
    refine ⟨by omega, ?_⟩
    by_cases e : z = x
    · subst e
      have e2 : y = z := by omega
      subst e2
      exact .inr (le_trans' a b c (h1.2.resolve_left fun z => z rfl) (h2.2.resolve_left fun z => z rfl))
    · exact .inl e
theorem rising_pair : ∀ (l : List Str) (p : Str), risingS p l = true → (p :: l).Pairwise (fun a b => ltCps b.cps.toList a.cps.toList = false)
  | [], p, _ => List.pairwise_singleton ..
  | x :: r, p, h => by
    unfold risingS at h
    obtain ⟨h1, h2⟩ := Bool.and_eq_true_iff.mp h
    have h1' : ltCps x.cps.toList p.cps.toList = false := by simpa using h1
    have ih := rising_pair r x h2
    refine List.pairwise_cons.mpr ⟨fun y hy => ?_, ih⟩
    rcases List.mem_cons.mp hy with e | hy
    · rw [e]
      exact h1'
    · exact le_trans' _ _ _ h1' ((List.pairwise_cons.mp ih).1 y hy)
theorem sorted_pair {l : List Str} (h : sortedS l = true) : l.Pairwise (fun a b => ltCps b.cps.toList a.cps.toList = false) := by
  cases l with
  | nil => exact List.Pairwise.nil
  | cons x r => exact rising_pair r x h
/-- sorted texts are one list -/
theorem sorted_one {a b c : List Str} (h : a.Perm c) (h' : b.Perm c) (s : sortedS a = true) (s' : sortedS b = true) : a = b := by
  refine List.Perm.eq_of_pairwise (fun x y _ _ h1 h2 => ?_) (sorted_pair s) (sorted_pair s') (h.trans h'.symm)
  have := lt_anti x.cps.toList y.cps.toList h2 h1
  exact Str.ext' (Array.toList_inj.mp this)
end Tz
end -- SortMath
section -- W4
set_option maxHeartbeats 4000000
namespace Tz
open PySem PySem.Spec PyProof.Rows L2 TL
section
variable {P : Program} {w : World} {K : PySem.W.Frag} {mg : Str → Option Value} {base : Heap} {T : List (Addr × Str)} {CT : Addr}
/-- the facts of the class Tree and of its names -/
structure TreeC (P : Program) (w : World) (K : PySem.W.Frag) (mg : Str → Option Value) (base : Heap) (T : List (Addr × Str)) (CT : Addr) : Prop where
  f : TreeF K CT
  is_ : IsF K mg "Tree" CT
  pl : Prp P w K mg base CT 1 "places" (spTPlaces K T CT)
theorem TreeAt.ins {R : Hp} {v : V} {js : Js} (h : TreeAt K CT R v js) : ∃ a dx fs, v = .ref a ∧ R a = some (.ins CT dx fs) := by
  obtain ⟨a, dx, vj, vl, rfl, h1, _⟩ := h
  exact ⟨a, dx, _, rfl, h1⟩
/-! ### check_tree -/
abbrev sCheckTree : Stmt := top 33
theorem scCheckTree : FnScope ["tree"] ["tree"] (defScope sCheckTree) := ⟨rfl, rfl, rfl, by decide +kernel, rfl, by decide +kernel, by decide +kernel⟩
def spCheckTree (CT : Addr) : Sp := fun vs H Q _ => ∃ a dx fs, vs = [.ref a] ∧ H a = some (.ins CT dx fs) ∧ Q .non H
theorem ok_checktree {f : Addr} {fd : FuncData} (F : L2.Fun K "check_tree" "check_tree" sCheckTree f fd) (B : Blt mg) (TF : TreeF K CT) (IT : IsF K mg "Tree" CT) : FnOk P w K mg base CX0 1 f fd ["tree"] (spCheckTree CT) := by
  refine F.ok scCheckTree (fun vs H Q E h => ?_) (fun cdv A outer s H vs Q E hr h => ?_)
  · obtain ⟨a, dx, fs, rfl, _⟩ := h
    rfl
  · obtain ⟨a, dx, fs, rfl, ea, q⟩ := h
    refine ⟨_, pss_one (ps_if (pt_not (pt_val (pe_callB call_isi (by rfl) B.isi (by decide +kernel) (pa_cons (pv 0) (pa_cons (pe_glob (v := .ref CT) rfl IT.mg_ rfl) pa_nil))))) (pss_one ps_never) pss_nil), ?_⟩
    exact ⟨_, rfl, .ref a, .ref CT, .ref CT, .ref CT, true, rfl, .own CT, .base (.ins ea TF.cl IT.ha IT.hn IT.htk IT.hm), IT.one, true, rfl, iteF q⟩
/-! ### index_of -/
abbrev sIndexOf : Stmt := top 34
theorem scIndexOf : FnScope ["tree", "place"] ["tree", "place"] (defScope sIndexOf) := ⟨rfl, rfl, rfl, by decide +kernel, rfl, by decide +kernel, by decide +kernel⟩
def spIndexOf (K : PySem.W.Frag) (T : List (Addr × Str)) (CT : Addr) : Sp := fun vs H Q _ => ∃ (js : Js) (ch : List Addr) (v : V) (x : Str), vs = [v, .str x] ∧ WellJ js ∧ Lv ch H ∧ TreeAt K CT (Reg ch H) v js ∧ x ∈ nmsOf js ∧ ∀ H', Fr T [] H H' → Q (.int (ixOf x (nmsOf js) : Nat)) H'
theorem ok_indexof {f : Addr} {fd : FuncData} (F : L2.Fun K "index_of" "index_of" sIndexOf f fd) (B : Blt mg) (C : TreeC P w K mg base T CT) : FnOk P w K mg base CX0 3 f fd ["tree", "place"] (spIndexOf K T CT) := by
  refine F.ok scIndexOf (fun vs H Q E h => ?_) (fun cdv A outer s H vs Q E hr h => ?_)
  · obtain ⟨js, ch, v, x, rfl, _⟩ := h
    rfl
  · obtain ⟨js, ch, v, x, rfl, W, lv, ht, hx, q⟩ := h
    obtain ⟨a, dx, fs, rfl, ea⟩ := ht.ins
    refine ⟨_, pss_cons (ps_if (PW.pt (pw_or (pt_not (pt_val (pe_callB call_isi (by rfl) B.isi (by decide +kernel) (pa_cons (pv 1) (pa_cons (pe_bltn (v := .ty "str") (by rfl) B.str (by decide +kernel) rfl) pa_nil)))))
        (pw_or1 (pt_cmpR op_notIn_seq (pv 1) (pe_propD C.pl C.f.cl hr (pv 0)) (by rfl))))) (pss_one ps_never) pss_nil)
      (pss_one (ps_ret (pe_bmT PySem.F.slot_tuple_index PySem.F.type_tuple_index mt_idxT (pe_propD C.pl C.f.cl hr (pv 0)) (pa_cons (pv 1) pa_nil)))), ?_⟩
    refine ⟨_, rfl, .str x, .ty "str", .type "str", .type "str", true, rfl, .ty _, .base (.str x), kit_ty (by decide +kernel), true, rfl, iteF ?_⟩
    refine ⟨_, rfl, _, rfl, a, dx, fs, rfl, reg_same _ _ ea, js, ch, _, rfl, W, lv, ht, fun H1 p fr1 fz1 => ⟨p, _, rfl, .inr (Same.seqT reg_same fz1.sq), rfl, flat_S _, _, rfl, ?_⟩⟩
    rw [show (if true = true then !inV (.str x) (vSs (nmsOf js)) else inV (.str x) (vSs (nmsOf js))) = false from by rw [if_pos rfl, inS, decide_eq_true hx]; rfl]
    refine iteF ?_
    have ht1 : TreeAt K CT (Reg ch H1) (.ref a) js := Same.tree fr1.reg0 ht
    obtain ⟨i1, i2, i3⟩ := idx_at (f := V.str) eqV_str hx
    exact ⟨_, rfl, a, dx, fs, rfl, reg_same _ _ (fr1.reg0 _ _ ea), js, ch, _, rfl, W, fr1.lv lv, ht1, fun H2 p2 fr2 fz2 => ⟨⟨p2, _, rfl, Same.fz reg_same fz2⟩, _, rfl, p2, _, _, _, _, rfl, rfl, Same.seqT reg_same fz2.sq, rfl, flat_S _, i1, i2, i3, q H2 (fr1.trans fr2)⟩⟩
/-! ### check_pebble -/
abbrev sCheckPeb : Stmt := top 39
theorem scCheckPeb : FnScope ["standing", "pebble"] ["standing", "pebble"] (defScope sCheckPeb) := ⟨rfl, rfl, rfl, by decide +kernel, rfl, by decide +kernel, by decide +kernel⟩
def spCheckPeb (K : PySem.W.Frag) : Sp := fun vs H Q _ => ∃ (a : Addr) (pose : Pose) (x : Str), vs = [.ref a, .str x] ∧ SqT K H a (vNs pose) ∧ some x ∈ pose ∧ Q .non H
theorem ok_checkpeb {f : Addr} {fd : FuncData} (F : L2.Fun K "check_pebble" "check_pebble" sCheckPeb f fd) (B : Blt mg) : FnOk P w K mg base CX0 1 f fd ["standing", "pebble"] (spCheckPeb K) := by
  refine F.ok scCheckPeb (fun vs H Q E h => ?_) (fun cdv A outer s H vs Q E hr h => ?_)
  · obtain ⟨a, pose, x, rfl, _⟩ := h
    rfl
  · obtain ⟨a, pose, x, rfl, hs, hx, q⟩ := h
    refine ⟨_, pss_one (ps_if (PW.pt (pw_or (pt_not (pt_val (pe_callB call_isi (by rfl) B.isi (by decide +kernel) (pa_cons (pv 1) (pa_cons (pe_bltn (v := .ty "str") (by rfl) B.str (by decide +kernel) rfl) pa_nil)))))
        (pw_or1 (pt_cmpR op_notIn_seq (pv 1) (pv 0) (by rfl))))) (pss_one ps_never) pss_nil), ?_⟩
    refine ⟨_, rfl, .str x, .ty "str", .type "str", .type "str", true, rfl, .ty _, .base (.str x), kit_ty (by decide +kernel), true, rfl, iteF ?_⟩
    refine ⟨_, rfl, _, rfl, a, _, rfl, .inr hs, rfl, flat_all _, _, rfl, ?_⟩
    rw [show (if true = true then !inV (.str x) (vNs pose) else inV (.str x) (vNs pose)) = false from by rw [if_pos rfl, show (V.str x) = vN (some x) from rfl, inN, decide_eq_true hx]; rfl]
    exact iteF q
/-! ### filled_in -/
abbrev sFilled : Stmt := top 48
theorem scFilled : FnScope ["standing", "k", "pebble"] ["standing"] (defScope sFilled) := ⟨rfl, rfl, rfl, by decide +kernel, rfl, by decide +kernel, by decide +kernel⟩
/-- the places that bear a pebble -/
def fillTo (pose : Pose) (n : Nat) : List Nat := (List.range n).filter fun k => (pose.getD k none).isSome
abbrev fillOf (pose : Pose) : List Nat := fillTo pose pose.length
theorem fillTo_step (pose : Pose) {i : Nat} {o : Option Str} (h : pose[i]? = some o) : fillTo pose (i + 1) = if o = none then fillTo pose i else fillTo pose i ++ [i] := by
  unfold fillTo
  rw [List.range_succ, List.filter_append]
  have e : (pose.getD i none) = o := by rw [List.getD_eq_getElem?_getD, h]; rfl
  cases o with
  | none =>
    rw [if_pos rfl]
    have : ([i] : List Nat).filter (fun k => (pose.getD k none).isSome) = [] := by simp [List.getD_eq_getElem?_getD, h]
    rw [this, List.append_nil]
  | some z =>
    rw [if_neg (fun z => nomatch z)]
    have : ([i] : List Nat).filter (fun k => (pose.getD k none).isSome) = [i] := by simp [List.getD_eq_getElem?_getD, h]
    rw [this]
theorem fillTo_len (pose : Pose) (n : Nat) : (fillTo pose n).length ≤ n := Nat.le_trans (List.length_filter_le _ _) (Nat.le_of_eq List.length_range)
def spFilled (K : PySem.W.Frag) (T : List (Addr × Str)) : Sp := fun vs H Q _ => ∃ (a : Addr) (pose : Pose), vs = [.ref a] ∧ SqT K H a (vNs pose) ∧ pose.length ≤ 9 ∧ ∀ H' p, Fr T [] H H' → Nw H p → H' p = some (.lst (vIs (fillOf pose))) → Q (.ref p) H'
theorem ok_filled {f : Addr} {fd : FuncData} (F : L2.Fun K "filled_in" "filled_in" sFilled f fd) (B : Blt mg) : FnOk P w K mg base CX0 1 f fd ["standing"] (spFilled K T) := by
  refine F.ok scFilled (fun vs H Q E h => ?_) (fun cdv A outer s H vs Q E hr h => ?_)
  · obtain ⟨a, pose, rfl, _⟩ := h
    rfl
  · obtain ⟨a, pose, rfl, hs, hn, q⟩ := h
    refine ⟨_, pss_one (ps_ret (pe_lc (own := [("k", 1), ("pebble", 2)]) (g := gTup K 2 (gCons (gName 1) (gCons (gName 2) gNil))) rfl scFilled.nd (pi_enumT (by rfl) B.enum (pa_cons (pv 0) pa_nil)) (blkOk_by (N := ["standing", "k", "pebble"]) (sc := defScope sFilled) (by decide +kernel))
      (fun _ _ _ _ _ => pg_tup rfl (pgs_cons (pg_name (i := 1) scFilled.nd rfl (Or.inl rfl)) (pgs_cons (pg_name (i := 2) scFilled.nd rfl (Or.inl rfl)) pgs_nil))) (fun _ _ _ _ _ => pts_one (pt_cmpR op_notN (pv 2) pe_non (nomark _))) (fun _ _ _ _ _ => pv 1))), ?_⟩
    have sl := sizeLine_eq
    refine ⟨_, rfl, a, _, rfl, hs, fun D nD => lc_it (walk_enumT (xs := vNs pose)) (fun i H2 => Fr T [D] H H2 ∧ H2 D = some (.lst (vIs (fillTo pose i)))) ?_ ?_ ?_ ?_⟩
    · exact ⟨.new nD, upd_same⟩
    · rintro i H2 _ ⟨fr, _⟩
      exact (fr.drop (nw_none nD)).sqT0 hs
    · rintro i x H2 H3 hi ⟨fr, eD⟩ ⟨Tp, y1, y2, rfl, nT, rfl, f1, f2⟩
      cases f1
      obtain ⟨o, ho, rfl⟩ := map_at f2
      have eD3 : (upd H2 Tp (.tup [.int (i : Nat), vN o])) D = some (.lst (vIs (fillTo pose i))) := by rw [upd_ne (ne_of_none eD nT)]; exact eD
      refine ⟨Tp, _, rfl, .inl (.inl upd_same), rfl, _, _, rfl, _, _, rfl, rfl, rfl, _, rfl, rfl, _, rfl, ?_⟩
      cases o with
      | none =>
        rw [show (!decide (vN none = V.non)) = false from rfl]
        refine iteF ⟨fr.trans (.new nT), ?_⟩
        rw [fillTo_step pose ho, if_pos rfl]
        exact eD3
      | some z =>
        rw [show (!decide (vN (some z) = V.non)) = true from rfl]
        refine iteT ⟨_, rfl, _, eD3, ?_, (fr.trans (.new nT)).trans (.write eD3 wr_lst nt_lst (List.mem_singleton.mpr rfl)), ?_⟩
        · rw [List.length_map]
          have := fillTo_len pose i
          have : i < pose.length := (List.getElem?_eq_some_iff.mp ho).1
          omega
        · rw [upd_same, fillTo_step pose ho, if_neg (fun z => nomatch z), vIs_snoc]
    · rintro H2 ⟨fr, eD⟩
      rw [show (vNs pose).length = pose.length from List.length_map _] at eD
      exact q H2 D (fr.drop (nw_none nD)) (nw_none nD) eD
end
end Tz
end -- W4
section -- W5
set_option maxHeartbeats 4000000
namespace Tz
open PySem PySem.Spec PyProof.Rows L2 TL
section
variable {P : Program} {w : World} {K : PySem.W.Frag} {mg : Str → Option Value} {base : Heap} {T : List (Addr × Str)} {CT : Addr}
theorem okD {x qual : Str} {params : Arguments} {body : List Stmt} {scope : Scope} {dvs : List V} {kws : List (Str × V)} {f : Addr} {fd : FuncData} {N ps : List Str} {k : Nat} {sp : Sp} (F : L2.FunD K x qual params body scope dvs kws f fd) (S : FnScope N ps scope) (len : ∀ vs H Q E, sp vs H Q E → vs.length = ps.length)
    (hbody : ∀ (cdv : Value) (A : Around) (outer : List Env) (s : Shared) (H : Hp) (vs : List V) (Q : VK) (E : XK), Room k (A.deeper (envOfC qual scope s.heap.objs.size f cdv)) → sp vs H Q E →
      ∃ t, PSs (cxOf CX0 P w K mg base N qual scope f cdv A outer s H E).nox body t ∧ t { nx := fun _ H' => Q .non H', rt := Q } (L2.start N vs) H) : FnOk P w K mg base CX0 (k + 1) f fd ps sp :=
  F.ok S len fun cdv A outer s H vs Q E hr h => by
    obtain ⟨t, h1, h2⟩ := hbody cdv A outer s H vs Q E hr h
    exact ⟨t, h1.nox, h2⟩
/-- a def with defaults -/
structure DefV (P : Program) (w : World) (K : PySem.W.Frag) (mg : Str → Option Value) (base : Heap) (k : Nat) (x : Str) (ps : List Str) (dvs : List V) (sp : Sp) : Prop where
  ex : ∃ f fd ds, FnOk P w K mg base CX0 k f fd ps sp ∧ mg x = some (.ref f) ∧ PySem.W.keepIn K (.ref f) = true ∧ Binds K fd ps ds ∧ Vals dvs ds
end
section
variable {X : Cx} {k : Nat} {x : Str} {ps : List Str} {dvs : List V} {sp : Sp} {p pos : Pos} {e : Expr} {es : List Expr} {t : TA}
theorem pe_callDV (D : DefV X.prog X.w X.K X.mg X.base k x ps dvs sp) (hr : Room k X.A) (hg : Gl X x) (ha : PA X (e :: es) t) (hdb : (x == ("__debug__" : Str)) = false := by decide)
    (he : starEach (e :: es) X.env = (false, eval e X.env) :: starEach es X.env := by rfl) (hpl : (backTo pos (starEach es X.env)).any (·.1) = false := by rfl) : PE X (.Call (.Name x p) (e :: es) [] pos) (tCall sp dvs (fun _ _ _ => False) t) := by
  obtain ⟨f, fd, ds, F, hm, hk, hb, hv⟩ := D.ex
  exact pe_call F hr hg hm hk hb hv pass0 ha hdb he hpl
end
section
variable {P : Program} {w : World} {K : PySem.W.Frag} {mg : Str → Option Value} {base : Heap} {T : List (Addr × Str)} {CT : Addr}
/-! ### check_standing -/
abbrev sCheckSt : Stmt := top 35
theorem scCheckSt : FnScope ["tree", "standing", "may_repeat", "k", "pebble"] ["tree", "standing", "may_repeat"] (defScope sCheckSt) := ⟨rfl, rfl, rfl, by decide +kernel, rfl, by decide +kernel, by decide +kernel⟩
def spCheckSt (K : PySem.W.Frag) (T : List (Addr × Str)) (CT : Addr) : Sp := fun vs H Q _ => ∃ (js : Js) (ch : List Addr) (v : V) (a : Addr) (pose : Pose), vs = [v, .ref a, .bl false] ∧ WellJ js ∧ Lv ch H ∧ TreeAt K CT (Reg ch H) v js ∧ SqT K H a (vNs pose) ∧ GoodP pose ∧ pose.length = js.length ∧
  ∀ H', Fr T [] H H' → Q .non H'
theorem ok_checkst {f : Addr} {fd : FuncData} (F : L2.FunD K "check_standing" "check_standing" (defArgs sCheckSt) (defBody sCheckSt) (defScope sCheckSt) [.bl false] [] f fd) (B : Blt mg) (C : TreeC P w K mg base T CT) (DN : Def P w K mg base 1 "is_name" ["value"] (spIsName T)) :
    FnOk P w K mg base CX0 3 f fd ["tree", "standing", "may_repeat"] (spCheckSt K T CT) := by
  refine okD F scCheckSt (fun vs H Q E h => ?_) (fun cdv A outer s H vs Q E hr h => ?_)
  · obtain ⟨js, ch, v, a, pose, rfl, _⟩ := h
    rfl
  · obtain ⟨js, ch, v, a, pose, rfl, W, lv, ht, hs, g, hl, q⟩ := h
    obtain ⟨ta, dx, fs, rfl, eta⟩ := ht.ins
    refine ⟨_, pss_cons (ps_if (PW.pt (pw_or (pt_not (pt_val (pe_callB call_isi (by rfl) B.isi (by decide +kernel) (pa_cons (pv 1) (pa_cons (pe_bltn (v := .ty "tuple") (by rfl) B.tuple (by decide +kernel) rfl) pa_nil)))))
        (pw_or1 (pt_cmpR op_ne (pe_callB call_len_seq (by rfl) B.len PySem.boot_len (pa_cons (pv 1) pa_nil)) (pe_callB call_len_seq (by rfl) B.len PySem.boot_len (pa_cons (pe_propD C.pl C.f.cl hr (pv 0)) pa_nil)) (nomark _))))) (pss_one ps_never) pss_nil)
      (pss_one (ps_for PassesOwn.never rfl (pi_enumT (by rfl) B.enum (pa_cons (pv 1) pa_nil)) (pg_tup rfl (pgs_cons (pg_name (i := 3) scCheckSt.nd rfl (.inl rfl)) (pgs_cons (pg_name (i := 4) scCheckSt.nd rfl (.inl rfl)) pgs_nil)))
        (pss_one (ps_if (PW.pt (pw_and (pt_cmpR op_notN (pv 4) pe_non (nomark _)) (pw_and1 (PW.pt (pw_or (pt_not (pt_val (pe_callD DN (hr.mono (by decide)) (by rfl) (pa_cons (pv 4) pa_nil))))
          (pw_or1 (PW.pt (pw_and (pt_not (pt_val (pv 2))) (pw_and1 (pt_cmpR op_in_seq (pv 4) (pe_slice sl_tupA (pv 1) po_none (po_some (pv 3))) (by rfl)))))))))))
          (pss_one ps_never) pss_nil)))), ?_⟩
    refine ⟨_, rfl, .ref a, .ty "tuple", .type "tuple", .type "tuple", true, rfl, .ty _, sqT_ty hs, kit_ty (by decide +kernel), true, rfl, iteF ?_⟩
    -- len(standing) != len(tree.places)
    refine ⟨_, rfl, a, _, rfl, .inr hs, _, rfl, ta, dx, fs, rfl, reg_same _ _ eta, js, ch, _, rfl, W, lv, ht, fun H1 p fr1 fz1 => ⟨p, _, rfl, .inr (Same.seqT reg_same fz1.sq), rfl, _, rfl, ?_⟩⟩
    have e1 : ((vNs pose).length : Int) = ((vSs (nmsOf js)).length : Int) := by
      rw [List.length_map, List.length_map, nms_len, hl]
    rw [show (!decide (V.int ((vNs pose).length : Nat) = V.int ((vSs (nmsOf js)).length : Nat))) = false from by rw [e1, decide_eq_true rfl]; rfl]
    refine iteF ?_
    -- for k, pebble in enumerate(standing)
    have hs1 : SqT K H1 a (vNs pose) := fr1.sqT0 hs
    refine ⟨_, rfl, a, _, rfl, hs1, for_it (walk_enumT (xs := vNs pose)) (fun i σ H2 => ∃ c3 c4, σ = [some (.ref ta), some (.ref a), some (.bl false), c3, c4] ∧ Fr T [] H1 H2) ?_ ?_ ?_ ?_⟩
    · exact ⟨none, none, rfl, .refl⟩
    · rintro i σ H2 _ ⟨_, _, _, fr⟩
      exact fr.sqT0 hs1
    · rintro i y σ H2 H3 hi ⟨c3, c4, rfl, fr⟩ ⟨Tp, y1, y2, rfl, nT, rfl, f1, f2⟩
      cases f1
      obtain ⟨o, ho, rfl⟩ := map_at f2
      refine ⟨Tp, _, rfl, .inl (.inl upd_same), rfl, _, _, rfl, _, _, rfl, rfl, _, rfl, rfl, _, rfl, ?_⟩
      cases o with
      | none =>
        rw [show (!decide (vN none = V.non)) = false from rfl]
        exact iteF (iteF ⟨some (.int (i : Nat)), some .non, rfl, fr.trans (.new nT)⟩)
      | some z =>
        rw [show (!decide (vN (some z) = V.non)) = true from rfl]
        have hz : some z ∈ pose := List.mem_of_getElem? ho
        refine iteT ⟨_, rfl, z, rfl, g.names z hz, fun H4 fr4 => ⟨true, rfl, iteF ⟨_, rfl, false, rfl, iteT ?_⟩⟩⟩
        have frT : Fr T [] H1 H4 := (fr.trans (.new nT)).trans fr4
        have hs4 : SqT K H4 a (vNs pose) := frT.sqT0 hs1
        have hil : i < (vNs pose).length := hi
        refine ⟨_, rfl, _, rfl, _, rfl, (i : Nat), rfl, a, _, rfl, hs4, fun hw => ?_, fun _ p np => ?_⟩
        · have h2 := hw.2
          rw [show HT.sIx (vNs pose).length (vNs pose).length (some (i : Int)) = min i (vNs pose).length from HT.sIx_nat _ _ i] at h2
          omega
        · rw [cutt]
          refine ⟨p, _, rfl, .inr (.inl (.inl upd_same)), rfl, ?_, _, rfl, ?_⟩
          · rw [← List.map_take]
            exact flat_all _
          · refine iteF' (show (if false = true then !inV (.str z) ((vNs pose).take i) else inV (.str z) ((vNs pose).take i)) = false from ?_) ⟨some (.int (i : Nat)), some (.str z), rfl, frT.trans (.new np)⟩
            rw [if_neg Bool.false_ne_true, ← List.map_take, show (V.str z) = vN (some z) from rfl, inN]
            exact decide_eq_false (g.fresh ho)
    · rintro σ H2 ⟨_, _, _, fr⟩
      exact q H2 (fr1.trans fr)
/-! ### pebbles_of -/
abbrev sPebs : Stmt := top 36
theorem scPebs : FnScope ["standing", "pebble"] ["standing"] (defScope sPebs) := ⟨rfl, rfl, rfl, by decide +kernel, rfl, by decide +kernel, by decide +kernel⟩
def spPebs (K : PySem.W.Frag) (T : List (Addr × Str)) : Sp := fun vs H Q _ => ∃ (a : Addr) (pose : Pose), vs = [.ref a] ∧ SqT K H a (vNs pose) ∧ pose.length ≤ 9 ∧ ∀ H' p ys, Fr T [] H H' → Nw H p → H' p = some (.lst (vSs ys)) → ys.Perm (pebs pose) → sortedS ys = true → Q (.ref p) H'
theorem pebs_step {pose : Pose} {i : Nat} {o : Option Str} (h : pose[i]? = some o) : pebs (pose.take (i + 1)) = pebs (pose.take i) ++ (match o with | none => [] | some z => [z]) := by
  rw [take_snoc h, pebs, List.filterMap_append]
  cases o <;> rfl
theorem pebs_len (pose : Pose) : (pebs pose).length ≤ pose.length := List.length_filterMap_le _ _
theorem ok_pebs {f : Addr} {fd : FuncData} (F : L2.Fun K "pebbles_of" "pebbles_of" sPebs f fd) (B : Blt mg) : FnOk P w K mg base CX0 1 f fd ["standing"] (spPebs K T) := by
  refine F.ok scPebs (fun vs H Q E h => ?_) (fun cdv A outer s H vs Q E hr h => ?_)
  · obtain ⟨a, pose, rfl, _⟩ := h
    rfl
  · obtain ⟨a, pose, rfl, hs, hn, q⟩ := h
    refine ⟨_, pss_one (ps_ret (pe_callB cr_sortedS (by rfl) B.sorted (by decide +kernel) (pa_cons (pe_lc (own := [("pebble", 1)]) (g := gName 1) rfl scPebs.nd (pi_tup (pv 0)) (blkOk_by (N := ["standing", "pebble"]) (sc := defScope sPebs) (by decide +kernel))
      (fun _ _ _ _ _ => pg_name (i := 1) scPebs.nd rfl (Or.inl rfl)) (fun _ _ _ _ _ => pts_one (pt_cmpR op_notN (pv 1) pe_non (nomark _))) (fun _ _ _ _ _ => pv 1)) pa_nil))), ?_⟩
    have sl := sizeLine_eq
    refine ⟨_, rfl, a, rfl, ⟨_, hs⟩, fun D nD => lc_it (walk_tup (xs := vNs pose)) (fun i H2 => Fr T [D] H H2 ∧ H2 D = some (.lst (vSs (pebs (pose.take i))))) ?_ ?_ ?_ ?_⟩
    · exact ⟨.new nD, upd_same⟩
    · rintro i H2 _ ⟨fr, _⟩
      exact (fr.drop (nw_none nD)).sqT0 hs
    · rintro i x H2 H3 hi ⟨fr, eD⟩ ⟨rfl, hx⟩
      obtain ⟨o, ho, rfl⟩ := map_at hx
      refine ⟨rfl, _, rfl, rfl, _, rfl, ?_⟩
      cases o with
      | none =>
        rw [show (!decide (vN none = V.non)) = false from rfl]
        refine iteF ⟨fr, ?_⟩
        rw [pebs_step ho, List.append_nil]
        exact eD
      | some z =>
        rw [show (!decide (vN (some z) = V.non)) = true from rfl]
        refine iteT ⟨_, rfl, _, eD, ?_, fr.trans (.write eD wr_lst nt_lst (List.mem_singleton.mpr rfl)), ?_⟩
        · rw [List.length_map]
          have := pebs_len (pose.take i)
          rw [List.length_take] at this
          omega
        · rw [upd_same, pebs_step ho, vSs_snoc]
          rfl
    · rintro H2 ⟨fr, eD⟩
      rw [show (vNs pose).length = pose.length from List.length_map _, List.take_of_length_le (Nat.le_refl _)] at eD
      refine ⟨D, _, rfl, .inl (.inl eD), by have := pebs_len pose; omega, fun ys p perm srt np => q _ p ys ((fr.drop (nw_none nD)).trans (.new np)) ((fr.drop (nw_none nD)).nw0 np) upd_same perm srt⟩
end
end Tz
end -- W5
section -- W6
set_option maxHeartbeats 4000000
namespace Tz
open PySem PySem.Spec PyProof.Rows L2 TL
theorem strs_plain (l : List Str) : (PyData.list (l.map PyData.str)).plain = true := plain_map (fun _ => rfl) l
theorem strs_depth (l : List Str) : (PyData.list (l.map PyData.str)).depth ≤ 1 := by
  have := depth_map (g := PyData.str) (n := 0) (fun _ => Nat.le_refl _) l
  simp only [PyData.depth]
  omega
section
variable {P : Program} {w : World} {K : PySem.W.Frag} {mg : Str → Option Value} {base : Heap} {T : List (Addr × Str)} {CT : Addr}
/-! ### check_matched, check_both -/
abbrev sMatched : Stmt := top 37
theorem scMatched : FnScope ["standing", "goal"] ["standing", "goal"] (defScope sMatched) := ⟨rfl, rfl, rfl, by decide +kernel, rfl, by decide +kernel, by decide +kernel⟩
def spMatched (K : PySem.W.Frag) (T : List (Addr × Str)) : Sp := fun vs H Q _ => ∃ (a b : Addr) (pose goal : Pose), vs = [.ref a, .ref b] ∧ SqT K H a (vNs pose) ∧ SqT K H b (vNs goal) ∧ pose.length ≤ 9 ∧ goal.length ≤ 9 ∧ (pebs goal).Perm (pebs pose) ∧ ∀ H', Fr T [] H H' → Q .non H'
theorem ok_matched {f : Addr} {fd : FuncData} (F : L2.Fun K "check_matched" "check_matched" sMatched f fd) (DP : Def P w K mg base 1 "pebbles_of" ["standing"] (spPebs K T)) : FnOk P w K mg base CX0 2 f fd ["standing", "goal"] (spMatched K T) := by
  refine F.ok scMatched (fun vs H Q E h => ?_) (fun cdv A outer s H vs Q E hr h => ?_)
  · obtain ⟨a, b, pose, goal, rfl, _⟩ := h
    rfl
  · obtain ⟨a, b, pose, goal, rfl, ha, hb, la, lb, pm, q⟩ := h
    refine ⟨_, pss_one (ps_if (pt_cmpR (op_neP hr.units) (pe_callD DP hr (by rfl) (pa_cons (pv 0) pa_nil)) (pe_callD DP hr (by rfl) (pa_cons (pv 1) pa_nil)) (nomark _)) (pss_one ps_never) pss_nil), ?_⟩
    refine ⟨_, rfl, a, pose, rfl, ha, la, fun H1 p1 ys fr1 _ e1 pm1 s1 => ⟨_, rfl, b, goal, rfl, fr1.sqT0 hb, lb, fun H2 p2 zs fr2 _ e2 pm2 s2 => ?_⟩⟩
    have e : zs = ys := sorted_one (pm2.trans pm) pm1 s2 s1
    subst e
    refine ⟨_, _, .lst (.inl (.inl (fr2.at0 e1 nt_lst))) (ss_dps zs), .lst (.inl (.inl e2)) (ss_dps zs), strs_plain zs, strs_plain zs, by have := strs_depth zs; omega, _, rfl, ?_⟩
    rw [SeqAt.eqv_refl_plain _ (strs_plain zs)]
    exact iteF (q H2 (fr1.trans fr2))
abbrev sBoth : Stmt := top 38
theorem scBoth : FnScope ["tree", "standing", "goal"] ["tree", "standing", "goal"] (defScope sBoth) := ⟨rfl, rfl, rfl, by decide +kernel, rfl, by decide +kernel, by decide +kernel⟩
/-- two standings of the tree with the same pebbles -/
structure Both (js : Js) (pose goal : Pose) : Prop where
  wj : WellJ js
  gp : GoodP pose
  gg : GoodP goal
  lp : pose.length = js.length
  lg : goal.length = js.length
  pm : (pebs goal).Perm (pebs pose)
def spBoth (K : PySem.W.Frag) (T : List (Addr × Str)) (CT : Addr) : Sp := fun vs H Q _ => ∃ (js : Js) (ch : List Addr) (v : V) (a b : Addr) (pose goal : Pose), vs = [v, .ref a, .ref b] ∧ Both js pose goal ∧ Lv ch H ∧ TreeAt K CT (Reg ch H) v js ∧ SqT K H a (vNs pose) ∧ SqT K H b (vNs goal) ∧ ∀ H', Fr T [] H H' → Q .non H'
theorem ok_both {f : Addr} {fd : FuncData} (F : L2.Fun K "check_both" "check_both" sBoth f fd) (DS : DefV P w K mg base 3 "check_standing" ["tree", "standing", "may_repeat"] [.bl false] (spCheckSt K T CT)) (DM : Def P w K mg base 2 "check_matched" ["standing", "goal"] (spMatched K T)) :
    FnOk P w K mg base CX0 4 f fd ["tree", "standing", "goal"] (spBoth K T CT) := by
  refine F.ok scBoth (fun vs H Q E h => ?_) (fun cdv A outer s H vs Q E hr h => ?_)
  · obtain ⟨js, ch, v, a, b, pose, goal, rfl, _⟩ := h
    rfl
  · obtain ⟨js, ch, v, a, b, pose, goal, rfl, Bt, lv, ht, ha, hb, q⟩ := h
    refine ⟨_, pss_cons (ps_expr (pe_callDV DS hr (by rfl) (pa_cons (pv 0) (pa_cons (pv 1) pa_nil)))) (pss_cons (ps_expr (pe_callDV DS hr (by rfl) (pa_cons (pv 0) (pa_cons (pv 2) pa_nil)))) (pss_one (ps_expr (pe_callD DM (hr.mono (by decide)) (by rfl) (pa_cons (pv 1) (pa_cons (pv 2) pa_nil)))))), ?_⟩
    refine ⟨_, rfl, _, rfl, js, ch, v, a, pose, rfl, Bt.wj, lv, ht, ha, Bt.gp, Bt.lp, fun H1 fr1 => ⟨_, rfl, _, rfl, js, ch, v, b, goal, rfl, Bt.wj, fr1.lv lv, Same.tree fr1.reg0 ht, fr1.sqT0 hb, Bt.gg, Bt.lg, fun H2 fr2 => ?_⟩⟩
    have fr := fr1.trans fr2
    exact ⟨_, rfl, _, rfl, a, b, pose, goal, rfl, fr.sqT0 ha, fr.sqT0 hb, Bt.gp.top, Bt.gg.top, Bt.pm, fun H3 fr3 => q H3 (fr.trans fr3)⟩
/-! ### moved -/
/-- a pebble gone from h to t -/
def mvd (pose : Pose) (h t : Nat) : Pose := (pose.set t (pose.getD h none)).set h none
theorem vNs_set (l : Pose) (i : Nat) (x : Option Str) : (vNs l).set i (vN x) = vNs (l.set i x) := by
  rw [vNs, vNs, List.map_set]
theorem vNs_at {l : Pose} {i : Nat} (h : i < l.length) : (vNs l)[i]? = some (vN (l.getD i none)) := by
  rw [List.getElem?_map, List.getElem?_eq_getElem h, List.getD_eq_getElem?_getD, List.getElem?_eq_getElem h]
  rfl
theorem ixN_nat {n i : Nat} (h : i < n) : ixN n (i : Int) = some i := by
  unfold ixN
  rw [if_pos (by omega), if_pos (by omega)]
  rfl
abbrev sMoved : Stmt := top 54
theorem scMoved : FnScope ["standing", "here", "there", "row"] ["standing", "here", "there"] (defScope sMoved) := ⟨rfl, rfl, rfl, by decide +kernel, rfl, by decide +kernel, by decide +kernel⟩
def spMoved (K : PySem.W.Frag) (T : List (Addr × Str)) : Sp := fun vs H Q _ => ∃ (ch : List Addr) (a : Addr) (pose : Pose) (h t : Nat), vs = [.ref a, .int (h : Nat), .int (t : Nat)] ∧ Lv ch H ∧ SqT K H a (vNs pose) ∧ h < pose.length ∧ t < pose.length ∧ ∀ H' p, Fr T [] H H' → Fz (Reg ch H') p (vNs (mvd pose h t)) → Q (.ref p) H'
theorem ok_moved {f : Addr} {fd : FuncData} (F : L2.Fun K "moved" "moved" sMoved f fd) (B : Blt mg) : FnOk P w K mg base CX0 1 f fd ["standing", "here", "there"] (spMoved K T) := by
  refine F.ok scMoved (fun vs H Q E h => ?_) (fun cdv A outer s H vs Q E hr h => ?_)
  · obtain ⟨ch, a, pose, h, t, rfl, _⟩ := h
    rfl
  · obtain ⟨ch, a, pose, h, t, rfl, lv, hs, hh, ht, q⟩ := h
    refine ⟨_, pss_cons (ps_set (i := 3) scMoved.nd rfl (Or.inl rfl) (pe_callTy call_list_of (by rfl) B.list (by decide +kernel) (pa_cons (pv 0) pa_nil)))
      (pss_cons (ps_asg (pe_tup (pa_cons (pe_ix ix_list (pv 3) (pv 1) (fun _ _ => rfl)) (pa_cons pe_non pa_nil))) (pg_tup rfl (pgs_cons (pg_sub (pv 3) (pv 2) set_list) (pgs_cons (pg_sub (pv 3) (pv 1) set_list) pgs_nil))))
      (pss_one (ps_ret (pe_callTy call_tupleF (by rfl) B.tuple (by decide +kernel) (pa_cons (pv 3) pa_nil))))), ?_⟩
    refine ⟨_, rfl, a, _, rfl, .inr hs, fun l nl => ?_⟩
    have hlen : (vNs pose).length = pose.length := List.length_map _
    refine ⟨_, rfl, _, rfl, l, _, (h : Nat), _, rfl, rfl, .inl (.inl upd_same), atI_nat (vNs_at hh), by show 2 ≤ sizeLine; decide, fun tp ntp => ⟨tp, _, rfl, .inl (.inl upd_same), rfl, _, _, rfl, _, rfl, _, rfl, l, vNs pose, (t : Nat), t, rfl, rfl, ?_, ixN_nat (by omega),
      _, _, rfl, _, rfl, _, rfl, l, (vNs pose).set t (vN (pose.getD h none)), (h : Nat), h, rfl, rfl, upd_same, ixN_nat (by rw [List.length_set]; omega), rfl, _, rfl, l, _, rfl, .inl (.inl upd_same), fun p o ho np => ?_⟩⟩
    · rw [upd_ne (ne_of_none (show (upd H l (.lst (vNs pose))) l = some _ from upd_same) ntp), upd_same]
    · have e : ((vNs pose).set t (vN (pose.getD h none))).set h .non = vNs (mvd pose h t) := by
        rw [vNs_set, show V.non = vN none from rfl, vNs_set]
        rfl
      rw [e] at np ⊢
      have fr1 : Fr T [l] H (upd H l (.lst (vNs pose))) := .new nl
      have n2 : l ≠ tp := ne_of_none (show (upd H l (.lst (vNs pose))) l = some _ from upd_same) ntp
      have fr2 : Fr T [l] H (upd (upd H l (.lst (vNs pose))) tp (.tup [vN (pose.getD h none), .non])) := fr1.trans (.new ntp)
      have e2 : (upd (upd H l (.lst (vNs pose))) tp (.tup [vN (pose.getD h none), .non])) l = some (.lst (vNs pose)) := by rw [upd_ne n2, upd_same]
      have fr3 := fr2.trans (.write (o' := .lst ((vNs pose).set t (vN (pose.getD h none)))) e2 wr_lst nt_lst (List.mem_singleton.mpr rfl))
      have fr4 := fr3.trans (.write (o := .lst ((vNs pose).set t (vN (pose.getD h none)))) (o' := .lst (vNs (mvd pose h t))) upd_same wr_lst nt_lst (List.mem_singleton.mpr rfl))
      have fr5 := (fr4.drop (nw_none nl)).trans (.new (o := .frz o (.tup (vNs (mvd pose h t)))) np)
      exact q _ p fr5 ⟨o, reg_in (((fr4.drop (nw_none nl)).lv lv).fresh np) upd_same nt_frz, ho⟩
end
end Tz
end -- W6
section -- W7
set_option maxHeartbeats 4000000
namespace Tz
open PySem PySem.Spec PyProof.Rows L2 TL
/-- may the pebble at h go to t -/
def legal (js : Js) (pose : Pose) (h t : Nat) : Bool := decide (t ∈ (trOf js).nb h) && decide (pose.getD t none = none)
section
variable {P : Program} {w : World} {K : PySem.W.Frag} {mg : Str → Option Value} {base : Heap} {T : List (Addr × Str)} {CT : Addr}
theorem links_at {R : Hp} {xs : List V} {js : Js} (h : DpAll K R xs (dL js)) {k : Nat} (hk : k < js.length) : ∃ a, xs[k]? = some (.ref a) ∧ SqL K R a (vIs ((trOf js).nb k)) := by
  have e : (dL js)[k]? = some (.list (dIs ((trOf js).nb k))) := by
    rw [List.getElem?_map, List.getElem?_range hk]
    rfl
  obtain ⟨v, ev, hd⟩ := dps_get h e
  obtain ⟨a, ys, rfl, hs, hds⟩ := dp_lst hd
  rw [dps_Is hds] at hs
  exact ⟨a, ev, hs⟩
theorem TreeAt.links {R : Hp} {v : V} {js : Js} (h : TreeAt K CT R v js) : ∃ a dx fs l xs, v = .ref a ∧ R a = some (.ins CT dx fs) ∧ fs.lookup ("links" : Str) = some (.ref l) ∧ SqL K R l xs ∧ DpAll K R xs (dL js) := by
  obtain ⟨a, dx, vj, vl, rfl, h1, _, h3⟩ := h
  obtain ⟨l, xs, rfl, hs, hd⟩ := dp_lst h3
  exact ⟨a, dx, _, l, xs, rfl, h1, tF_l, hs, hd⟩
/-! ### after -/
abbrev sAfter : Stmt := top 55
theorem scAfter : FnScope ["tree", "standing", "move", "here", "there", "one"] ["tree", "standing", "move"] (defScope sAfter) := ⟨rfl, rfl, rfl, by decide +kernel, rfl, by decide +kernel, by decide +kernel⟩
def spAfter (K : PySem.W.Frag) (T : List (Addr × Str)) (CT : Addr) : Sp := fun vs H Q _ => ∃ (js : Js) (ch : List Addr) (v : V) (a m : Addr) (pose : Pose) (x y : Str), vs = [v, .ref a, .ref m] ∧ WellJ js ∧ Lv ch H ∧ TreeAt K CT (Reg ch H) v js ∧ Fz H a (vNs pose) ∧ pose.length = js.length ∧ SqT K H m [.str x, .str y] ∧ some x ∈ pose ∧ y ∈ nmsOf js ∧
  (legal js pose (ixOf (some x) pose) (ixOf y (nmsOf js)) = true → ∀ H' p, Fr T [] H H' → Fz (Reg ch H') p (vNs (mvd pose (ixOf (some x) pose) (ixOf y (nmsOf js)))) → Q (.ref p) H') ∧
  (legal js pose (ixOf (some x) pose) (ixOf y (nmsOf js)) = false → ∀ H', Fr T [] H H' → Q .non H')
theorem ok_after {f : Addr} {fd : FuncData} (F : L2.Fun K "after" "after" sAfter f fd) (B : Blt mg) (C : TreeC P w K mg base T CT) (DM : Def P w K mg base 1 "moved" ["standing", "here", "there"] (spMoved K T)) :
    FnOk P w K mg base CX0 3 f fd ["tree", "standing", "move"] (spAfter K T CT) := by
  refine F.ok scAfter (fun vs H Q E h => ?_) (fun cdv A outer s H vs Q E hr h => ?_)
  · obtain ⟨js, ch, v, a, m, pose, x, y, rfl, _⟩ := h
    rfl
  · obtain ⟨js, ch, v, a, m, pose, x, y, rfl, W, lv, ht, ha, hl, hm, hx, hy, qy, qn⟩ := h
    obtain ⟨ta, dx, fs, l, xs, rfl, eta, el, hsl, hdl⟩ := ht.links
    refine ⟨_, pss_cons (ps_if (PW.pt (pw_or (pt_not (pt_val (pe_callB call_isi (by rfl) B.isi (by decide +kernel) (pa_cons (pv 2) (pa_cons (pe_bltn (v := .ty "tuple") (by rfl) B.tuple (by decide +kernel) rfl) pa_nil)))))
        (pw_or (pt_cmpR op_ne (pe_callB call_len_seq (by rfl) B.len PySem.boot_len (pa_cons (pv 2) pa_nil)) pe_int (nomark _))
          (pw_or1 (pt_not (pt_val (pe_callB (cr_all rfl) (by rfl) B.all (by decide +kernel) (pa_cons (pe_lc (own := [("one", 5)]) (g := gName 5) (tt := tYes) rfl scAfter.nd (pi_tup (pv 2)) (blkOk_by (N := ["tree", "standing", "move", "here", "there", "one"]) (sc := defScope sAfter) (by decide +kernel))
            (fun _ _ _ _ _ => pg_name (i := 5) scAfter.nd rfl (Or.inl rfl)) (fun _ _ _ _ _ => pts_nil)
            (fun _ _ _ _ _ => pe_callB (r := rIsi K) (id := "isinstance") call_isi (by rfl) B.isi (by decide +kernel) (pa_cons (pv 5) (pa_cons (pe_bltn (v := .ty "str") (by rfl) B.str (by decide +kernel) rfl) pa_nil)))) pa_nil)))))))) (pss_one (ps_ret pe_non)) pss_nil)
      (pss_cons (ps_if (PW.pt (pw_or (pt_cmpR op_notIn_seq (pe_ix ix_tup (pv 2) pe_int (fun _ _ => rfl)) (pv 1) (by rfl)) (pw_or1 (pt_cmpR op_notIn_seq (pe_ix ix_tup (pv 2) pe_int (fun _ _ => rfl)) (pe_propD C.pl C.f.cl hr (pv 0)) (by rfl))))) (pss_one (ps_ret pe_non)) pss_nil)
      (pss_cons (ps_par (i := 3) (j := 4) (by rfl) scAfter.nd rfl rfl (by decide) rfl rfl (pa_cons (pe_bmT PySem.F.slot_tuple_index PySem.F.type_tuple_index mt_idxT (pv 1) (pa_cons (pe_ix ix_tup (pv 2) pe_int (fun _ _ => rfl)) pa_nil))
          (pa_cons (pe_bmT PySem.F.slot_tuple_index PySem.F.type_tuple_index mt_idxT (pe_propD C.pl C.f.cl hr (pv 0)) (pa_cons (pe_ix ix_tup (pv 2) pe_int (fun _ _ => rfl)) pa_nil)) pa_nil)) (by rfl))
      (pss_one (ps_ret (pe_ifExp (PW.pt (pw_and (pt_cmpR op_in_seq (pv 4) (pe_ix ix_list (pe_fld (pv 0) rfl) (pv 3) (fun _ _ => rfl)) (by rfl)) (pw_and1 (pt_cmpR op_isN (pe_ix ix_tup (pv 1) (pv 4) (fun _ _ => rfl)) pe_non (nomark _)))))
        (pe_callD DM (hr.mono (by decide)) (by rfl) (pa_cons (pv 1) (pa_cons (pv 3) (pa_cons (pv 4) pa_nil)))) pe_non))))), ?_⟩
    -- isinstance(move, tuple), len(move) != 2
    refine ⟨_, rfl, .ref m, .ty "tuple", .type "tuple", .type "tuple", true, rfl, .ty _, sqT_ty hm, kit_ty (by decide +kernel), true, rfl, iteF ?_⟩
    refine ⟨_, rfl, m, _, rfl, .inr hm, rfl, _, rfl, iteF ?_⟩
    -- all([..])
    have sl := sizeLine_eq
    refine ⟨_, rfl, m, rfl, ⟨_, hm⟩, fun D nD => lc_it (walk_tup (xs := [.str x, .str y])) (fun i H2 => Fr T [D] H H2 ∧ H2 D = some (.lst ((List.replicate i true).map V.bl))) ?_ ?_ ?_ ?_⟩
    · exact ⟨.new nD, upd_same⟩
    · rintro i H2 _ ⟨fr, _⟩
      exact (fr.drop (nw_none nD)).sqT0 hm
    · rintro i z H2 H3 hi ⟨fr, eD⟩ ⟨rfl, hz⟩
      have hi2 : i < 2 := hi
      obtain ⟨u, rfl⟩ : ∃ u, z = V.str u := by
        match i, hz with
        | 0, hz => exact ⟨x, (Option.some.inj hz).symm⟩
        | 1, hz => exact ⟨y, (Option.some.inj hz).symm⟩
        | n + 2, _ => omega
      refine ⟨rfl, _, rfl, .str u, .ty "str", .type "str", .type "str", true, rfl, .ty _, .base (.str u), kit_ty (by decide +kernel), _, eD, by rw [List.length_map, List.length_replicate]; omega, fr.trans (.write eD wr_lst nt_lst (List.mem_singleton.mpr rfl)), ?_⟩
      rw [upd_same, List.replicate_succ', List.map_append]
      rfl
    · rintro H2 ⟨fr, eD⟩
      have fr2 : Fr T [] H H2 := fr.drop (nw_none nD)
      refine ⟨D, _, rfl, .inl (.inl eD), true, rfl, iteF ?_⟩
      -- move[0] not in standing or move[1] not in tree.places
      have hm2 := fr2.sqT0 hm
      have ht2 : TreeAt K CT (Reg ch H2) (.ref ta) js := Same.tree fr2.reg0 ht
      have ha2 : Fz H2 a (vNs pose) := by
        obtain ⟨o, e, d⟩ := ha
        exact ⟨o, fr2.at0 e nt_frz, d⟩
      refine ⟨_, rfl, m, _, 0, _, rfl, rfl, hm2, atI_nat (j := 0) rfl, _, rfl, a, _, rfl, .inr ha2.sq, rfl, flat_all _, _, rfl, ?_⟩
      refine iteF' (show (if true = true then !inV (.str x) (vNs pose) else inV (.str x) (vNs pose)) = false from by rw [if_pos rfl, show (V.str x) = vN (some x) from rfl, inN, decide_eq_true hx]; rfl) ?_
      refine ⟨_, rfl, m, _, 1, _, rfl, rfl, hm2, atI_nat (j := 1) rfl, _, rfl, ta, dx, fs, rfl, reg_same _ _ (fr2.reg0 _ _ eta), js, ch, _, rfl, W, fr2.lv lv, ht2, fun H3 p3 fr3 fz3 => ⟨p3, _, rfl, .inr (Same.seqT reg_same fz3.sq), rfl, flat_S _, _, rfl, ?_⟩⟩
      refine iteF' (show (if true = true then !inV (.str y) (vSs (nmsOf js)) else inV (.str y) (vSs (nmsOf js))) = false from by rw [if_pos rfl, inS, decide_eq_true hy]; rfl) ?_
      -- here, there
      have fr23 := fr2.trans fr3
      have hm3 := fr23.sqT0 hm
      have ha3 : Fz H3 a (vNs pose) := by
        obtain ⟨o, e, d⟩ := ha2
        exact ⟨o, fr3.at0 e nt_frz, d⟩
      have hx' : some x ∈ pose := hx
      obtain ⟨i1, i2, i3⟩ := idx_at (f := vN) eqV_vN hx'
      obtain ⟨j1, j2, j3⟩ := idx_at (f := V.str) eqV_str hy
      refine ⟨_, rfl, ⟨a, _, rfl, ha3⟩, _, rfl, m, _, 0, _, rfl, rfl, hm3, atI_nat (j := 0) rfl, a, _, _, _, _, rfl, rfl, ha3.sq, rfl, flat_all _, i1, i2, i3, ?_⟩
      refine ⟨_, rfl, ta, dx, fs, rfl, reg_same _ _ (fr23.reg0 _ _ eta), js, ch, _, rfl, W, fr23.lv lv, Same.tree fr23.reg0 ht, fun H4 p4 fr4 fz4 => ⟨⟨p4, _, rfl, Same.fz reg_same fz4⟩, _, rfl, m, _, 1, _, rfl, rfl, fr4.sqT0 hm3, atI_nat (j := 1) rfl, p4, _, _, _, _, rfl, rfl, Same.seqT reg_same fz4.sq, rfl, flat_S _, j1, j2, j3, _, _, rfl, ?_⟩⟩
      -- there in tree.links[here] and standing[there] is None
      have frA := fr23.trans fr4
      have hh := ixOf_lt hx'
      have htl : ixOf y (nmsOf js) < js.length := by have := ixOf_lt hy; rw [nms_len] at this; exact this
      obtain ⟨r, er, hr_⟩ := links_at hdl (show ixOf (some x) pose < js.length by omega)
      have hrr : SqL K H4 r (vIs ((trOf js).nb (ixOf (some x) pose))) := reg_same.seq (frA.reg0.seq hr_)
      have ha4 : SqT K H4 a (vNs pose) := fr4.sqT0 ha3.sq
      refine ⟨_, rfl, _, rfl, ta, CT, dx, fs, _, rfl, reg_same _ _ (frA.reg0 _ _ eta), C.f.cl, C.f.nL, el, _, rfl, l, _, _, _, rfl, rfl, reg_same.seq (frA.reg0.seq hsl), atI_nat er, r, _, rfl, .inl hrr, rfl, flat_I _, _, rfl, ?_⟩
      have e1 : (if false = true then !inV (V.int (ixOf y (nmsOf js) : Nat)) (vIs ((trOf js).nb (ixOf (some x) pose))) else inV (V.int (ixOf y (nmsOf js) : Nat)) (vIs ((trOf js).nb (ixOf (some x) pose)))) = decide (ixOf y (nmsOf js) ∈ (trOf js).nb (ixOf (some x) pose)) := by
        rw [if_neg Bool.false_ne_true, inI]
      by_cases hin : ixOf y (nmsOf js) ∈ (trOf js).nb (ixOf (some x) pose)
      · refine iteT' (e1.trans (decide_eq_true hin)) ⟨_, rfl, _, rfl, a, _, _, _, rfl, rfl, ha4, atI_nat (vNs_at (show ixOf y (nmsOf js) < pose.length by omega)), rfl, _, rfl, ?_⟩
        by_cases he : pose.getD (ixOf y (nmsOf js)) none = none
        · refine iteT' (decide_eq_true (vN_non.mpr he)) ?_
          have leg : legal js pose (ixOf (some x) pose) (ixOf y (nmsOf js)) = true := by
            unfold legal
            rw [decide_eq_true hin, decide_eq_true he]
            rfl
          exact ⟨_, rfl, _, rfl, _, rfl, ch, a, pose, _, _, rfl, frA.lv lv, ha4, hh, by omega, fun H5 p5 fr5 fz5 => qy leg H5 p5 (frA.trans fr5) fz5⟩
        · refine iteF' (decide_eq_false fun z => he (vN_non.mp z)) ?_
          have leg : legal js pose (ixOf (some x) pose) (ixOf y (nmsOf js)) = false := by
            unfold legal
            rw [decide_eq_false he, Bool.and_false]
          exact qn leg H4 frA
      · refine iteF' (e1.trans (decide_eq_false hin)) (iteF' rfl ?_)
        have leg : legal js pose (ixOf (some x) pose) (ixOf y (nmsOf js)) = false := by
          unfold legal
          rw [decide_eq_false hin, Bool.false_and]
        exact qn leg H4 frA
end
end Tz
end -- W7
section -- W8
set_option maxHeartbeats 4000000
namespace Tz
open PySem PySem.Spec PyProof.Rows L2 TL
/-! ### a board's data -/
abbrev bFlds (vb v1 v2 : V) : List (Str × V) := putF "past" v2 (putF "now" v1 (putF "base" vb []))
theorem knb : ¬ (("now" : Str) = "base") := by decide +kernel
theorem kpb : ¬ (("past" : Str) = "base") := by decide +kernel
theorem kpn : ¬ (("past" : Str) = "now") := by decide +kernel
section
variable {vb v1 v2 v : V}
theorem bF_eq : bFlds vb v1 v2 = ([("base", vb), ("now", v1), ("past", v2)] : List (Str × V)) := by
  show putF "past" v2 (if ("base" : Str) = "now" then [(("base" : Str), v1)] else (("base" : Str), vb) :: putF "now" v1 []) = _
  rw [if_neg fun e => knb e.symm]
  show (if ("base" : Str) = "past" then [(("base" : Str), v2), (("now" : Str), v1)] else (("base" : Str), vb) :: (if ("now" : Str) = "past" then [(("now" : Str), v2)] else (("now" : Str), v1) :: putF "past" v2 [])) = _
  rw [if_neg fun e => kpb e.symm, if_neg fun e => kpn e.symm]
  rfl
theorem bF_pn : putF "now" v (bFlds vb v1 v2) = bFlds vb v v2 := by
  rw [bF_eq, bF_eq]
  show (if ("base" : Str) = "now" then _ else (("base" : Str), vb) :: (if ("now" : Str) = "now" then (("now" : Str), v) :: [(("past" : Str), v2)] else _)) = _
  rw [if_neg fun e => knb e.symm, if_pos rfl]
theorem bF_pp : putF "past" v (bFlds vb v1 v2) = bFlds vb v1 v := by
  rw [bF_eq, bF_eq]
  show (if ("base" : Str) = "past" then _ else (("base" : Str), vb) :: (if ("now" : Str) = "past" then _ else (("now" : Str), v1) :: (if ("past" : Str) = "past" then [(("past" : Str), v)] else _))) = _
  rw [if_neg fun e => kpb e.symm, if_neg fun e => kpn e.symm, if_pos rfl]
theorem bF_b : (bFlds vb v1 v2).lookup ("base" : Str) = some vb := by
  unfold bFlds
  rw [lookup_putF, if_neg fun e => kpb e.symm, lookup_putF, if_neg fun e => knb e.symm, lookup_putF, if_pos rfl]
theorem bF_n : (bFlds vb v1 v2).lookup ("now" : Str) = some v1 := by
  unfold bFlds
  rw [lookup_putF, if_neg fun e => kpn e.symm, lookup_putF, if_pos rfl]
theorem bF_p : (bFlds vb v1 v2).lookup ("past" : Str) = some v2 := by
  unfold bFlds
  rw [lookup_putF, if_pos rfl]
theorem bF_no {m : Str} (h1 : ¬ m = "past") (h2 : ¬ m = "now") (h3 : ¬ m = "base") : (bFlds vb v1 v2).lookup m = none := by
  unfold bFlds
  rw [lookup_putF, if_neg h1, lookup_putF, if_neg h2, lookup_putF, if_neg h3]
  rfl
end
/-! ### states -/
abbrev Mvs : Type := List (Str × Str)
abbrev StM : Type := Pose × Mvs
abbrev dMv (m : Str × Str) : PyData := .tuple [.str m.1, .str m.2]
abbrev dMs (ms : Mvs) : PyData := .tuple (ms.map dMv)
abbrev dSt (s : StM) : PyData := .tuple [dP s.1, dMs s.2]
def StAt (K : PySem.W.Frag) (R : Hp) (v : V) (st : StM) : Prop := ∃ a p v2, v = .ref a ∧ SqT K R a [.ref p, v2] ∧ Fz R p (vNs st.1) ∧ Dp K R v2 (dMs st.2)
inductive AllSt (K : PySem.W.Frag) (R : Hp) : List V → List StM → Prop
  | nil : AllSt K R [] []
  | cons {v : V} {vs : List V} {s : StM} {ss : List StM} : StAt K R v s → AllSt K R vs ss → AllSt K R (v :: vs) (s :: ss)
section
variable {K : PySem.W.Frag} {R R' H H' : Hp} {T : List (Addr × Str)} {W ch : List Addr} {CT CB bd : Addr} {vb : V} {js : Js} {st : StM} {past : List StM}
theorem same_st (e : Same R R') {v : V} {st : StM} (h : StAt K R v st) : StAt K R' v st := by
  obtain ⟨a, p, v2, rfl, h1, h2, h3⟩ := h
  exact ⟨a, p, v2, rfl, Same.seqT e h1, Same.fz e h2, Same.dp e h3⟩
theorem same_sts (e : Same R R') : ∀ {vs : List V} {ss : List StM}, AllSt K R vs ss → AllSt K R' vs ss
  | _, [], h => by cases h; exact .nil
  | _, _ :: _, h => by
    cases h with
    | cons h1 h2 => exact .cons (same_st e h1) (same_sts e h2)
theorem StAt.dp {v : V} (h : StAt K R v st) : Dp K R v (dSt st) := by
  obtain ⟨a, p, v2, rfl, h1, h2, h3⟩ := h
  exact .tup h1 (.cons (pose_dp h2.sq) (.cons h3 .nil))
theorem AllSt.dps : ∀ {vs : List V} {ss : List StM}, AllSt K R vs ss → DpAll K R vs (ss.map dSt)
  | _, [], h => by cases h; exact .nil
  | _, _ :: _, h => by
    cases h with
    | cons h1 h2 => exact .cons h1.dp h2.dps
theorem AllSt.len : ∀ {vs : List V} {ss : List StM}, AllSt K R vs ss → vs.length = ss.length
  | _, [], h => by cases h; rfl
  | _, _ :: _, h => by
    cases h with
    | cons h1 h2 => rw [List.length_cons, List.length_cons, h2.len]
theorem AllSt.snoc : ∀ {vs : List V} {ss : List StM}, AllSt K R vs ss → ∀ {v : V} {s : StM}, StAt K R v s → AllSt K R (vs ++ [v]) (ss ++ [s])
  | _, [], h, _, _, h' => by cases h; exact .cons h' .nil
  | _, _ :: _, h, _, _, h' => by
    cases h with
    | cons h1 h2 => exact .cons h1 (h2.snoc h')
theorem AllSt.unsnoc : ∀ {ss : List StM} {s : StM} {vs : List V}, AllSt K R vs (ss ++ [s]) → ∃ ws w, vs = ws ++ [w] ∧ AllSt K R ws ss ∧ StAt K R w s
  | [], s, _, h => by
    cases h with
    | cons h1 h2 =>
      cases h2
      exact ⟨[], _, rfl, .nil, h1⟩
  | _ :: ss, s, _, h => by
    cases h with
    | cons h1 h2 =>
      obtain ⟨ws, w, rfl, a, b⟩ := AllSt.unsnoc h2
      exact ⟨_ :: ws, w, rfl, .cons h1 a, b⟩
/-- a board stands at bd: of the tree vb, in the state st, the states past behind it -/
def BoardAt (K : PySem.W.Frag) (CT CB : Addr) (H : Hp) (ch : List Addr) (bd : Addr) (vb : V) (js : Js) (st : StM) (past : List StM) : Prop :=
  ∃ dx v1 q vs, H bd = some (.ins CB dx (bFlds vb v1 (.ref q))) ∧ TreeAt K CT (Reg ch H) vb js ∧ StAt K (Reg ch H) v1 st ∧ SqT K (Reg ch H) q vs ∧ AllSt K (Reg ch H) vs past
theorem Fr.board (f : Fr T W H H') (h : ∀ b ∈ W, b ∈ ch) (n : bd ∉ W) (b : BoardAt K CT CB H ch bd vb js st past) : BoardAt K CT CB H' ch bd vb js st past := by
  obtain ⟨dx, v1, q, vs, e, h1, h2, h3, h4⟩ := b
  have s := f.reg h
  exact ⟨dx, v1, q, vs, f.keep bd _ n e nt_ins, Same.tree s h1, same_st s h2, Same.seqT s h3, same_sts s h4⟩
theorem Fr.board0 (f : Fr T [] H H') (b : BoardAt K CT CB H ch bd vb js st past) : BoardAt K CT CB H' ch bd vb js st past := f.board (fun _ z => nomatch z) (fun z => nomatch z) b
end
structure BoardF (K : PySem.W.Frag) (CB : Addr) : Prop where
  cl : Cls K CB
  nB : NoAttr K CB "base"
  nN : NoAttr K CB "now"
  nP : NoAttr K CB "past"
section
variable {P : Program} {w : World} {K : PySem.W.Frag} {mg : Str → Option Value} {base : Heap} {T : List (Addr × Str)} {CT CB : Addr}
/-! ### the plain ones -/
abbrev sBTree : Stmt := inClass (top 57) 1
theorem scBTree : FnScope ["self"] ["self"] (defScope sBTree) := ⟨rfl, rfl, rfl, by decide +kernel, rfl, by decide +kernel, by decide +kernel⟩
def spBTree (CB : Addr) : Sp := fun vs H Q _ => ∃ a dx fs v, vs = [.ref a] ∧ H a = some (.ins CB dx fs) ∧ fs.lookup ("base" : Str) = some v ∧ Q v H
theorem ok_btree {f : Addr} {fd : FuncData} (F : L2.Fun K "tree" "Board.tree" sBTree f fd) (BF : BoardF K CB) : FnOk P w K mg base CX0 1 f fd ["self"] (spBTree CB) := by
  refine F.ok scBTree (fun vs H Q E h => ?_) (fun cdv A outer s H vs Q E hr h => ?_)
  · obtain ⟨a, dx, fs, v, rfl, _⟩ := h
    rfl
  · obtain ⟨a, dx, fs, v, rfl, ea, el, q⟩ := h
    exact ⟨_, pss_one (ps_ret (pe_fld (pv 0) rfl)), _, rfl, a, CB, dx, fs, v, rfl, ea, BF.cl, BF.nB, el, q⟩
abbrev sBSt : Stmt := inClass (top 57) 2
theorem scBSt : FnScope ["self"] ["self"] (defScope sBSt) := ⟨rfl, rfl, rfl, by decide +kernel, rfl, by decide +kernel, by decide +kernel⟩
def spBSt (K : PySem.W.Frag) (CB : Addr) : Sp := fun vs H Q _ => ∃ a dx fs n v1 v2, vs = [.ref a] ∧ H a = some (.ins CB dx fs) ∧ fs.lookup ("now" : Str) = some (.ref n) ∧ SqT K H n [v1, v2] ∧ Q v1 H
theorem ok_bst {f : Addr} {fd : FuncData} (F : L2.Fun K "standing" "Board.standing" sBSt f fd) (BF : BoardF K CB) : FnOk P w K mg base CX0 1 f fd ["self"] (spBSt K CB) := by
  refine F.ok scBSt (fun vs H Q E h => ?_) (fun cdv A outer s H vs Q E hr h => ?_)
  · obtain ⟨a, dx, fs, n, v1, v2, rfl, _⟩ := h
    rfl
  · obtain ⟨a, dx, fs, n, v1, v2, rfl, ea, el, hn, q⟩ := h
    exact ⟨_, pss_one (ps_ret (pe_ix ix_tup (pe_fld (pv 0) rfl) pe_int (fun _ _ => rfl))), _, rfl, a, CB, dx, fs, _, rfl, ea, BF.cl, BF.nN, el, n, _, 0, v1, rfl, rfl, hn, atI_nat (j := 0) rfl, q⟩
abbrev sBMv : Stmt := inClass (top 57) 3
theorem scBMv : FnScope ["self"] ["self"] (defScope sBMv) := ⟨rfl, rfl, rfl, by decide +kernel, rfl, by decide +kernel, by decide +kernel⟩
def spBMv (K : PySem.W.Frag) (CB : Addr) : Sp := fun vs H Q _ => ∃ a dx fs n v1 v2, vs = [.ref a] ∧ H a = some (.ins CB dx fs) ∧ fs.lookup ("now" : Str) = some (.ref n) ∧ SqT K H n [v1, v2] ∧ Q v2 H
theorem ok_bmv {f : Addr} {fd : FuncData} (F : L2.Fun K "moves" "Board.moves" sBMv f fd) (BF : BoardF K CB) : FnOk P w K mg base CX0 1 f fd ["self"] (spBMv K CB) := by
  refine F.ok scBMv (fun vs H Q E h => ?_) (fun cdv A outer s H vs Q E hr h => ?_)
  · obtain ⟨a, dx, fs, n, v1, v2, rfl, _⟩ := h
    rfl
  · obtain ⟨a, dx, fs, n, v1, v2, rfl, ea, el, hn, q⟩ := h
    exact ⟨_, pss_one (ps_ret (pe_ix ix_tup (pe_fld (pv 0) rfl) pe_int (fun _ _ => rfl))), _, rfl, a, CB, dx, fs, _, rfl, ea, BF.cl, BF.nN, el, n, _, 1, v2, rfl, rfl, hn, atI_nat (j := 1) rfl, q⟩
abbrev sBCh : Stmt := inClass (top 57) 4
theorem scBCh : FnScope ["self"] ["self"] (defScope sBCh) := ⟨rfl, rfl, rfl, by decide +kernel, rfl, by decide +kernel, by decide +kernel⟩
def spBCh (K : PySem.W.Frag) (CB : Addr) : Sp := fun vs H Q _ => ∃ a dx fs n xs, vs = [.ref a] ∧ H a = some (.ins CB dx fs) ∧ fs.lookup ("past" : Str) = some (.ref n) ∧ SqT K H n xs ∧ Q (.int xs.length) H
theorem ok_bch {f : Addr} {fd : FuncData} (F : L2.Fun K "changes" "Board.changes" sBCh f fd) (B : Blt mg) (BF : BoardF K CB) : FnOk P w K mg base CX0 1 f fd ["self"] (spBCh K CB) := by
  refine F.ok scBCh (fun vs H Q E h => ?_) (fun cdv A outer s H vs Q E hr h => ?_)
  · obtain ⟨a, dx, fs, n, xs, rfl, _⟩ := h
    rfl
  · obtain ⟨a, dx, fs, n, xs, rfl, ea, el, hn, q⟩ := h
    exact ⟨_, pss_one (ps_ret (pe_callB call_len_seq (by rfl) B.len PySem.boot_len (pa_cons (pe_fld (pv 0) rfl) pa_nil))), _, rfl, a, CB, dx, fs, _, rfl, ea, BF.cl, BF.nP, el, n, xs, rfl, .inr hn, q⟩
abbrev sBBool : Stmt := inClass (top 57) 5
theorem scBBool : FnScope ["self"] ["self"] (defScope sBBool) := ⟨rfl, rfl, rfl, by decide +kernel, rfl, by decide +kernel, by decide +kernel⟩
def spBBool : Sp := fun vs H Q _ => ∃ a, vs = [.ref a] ∧ Q (.bl true) H
theorem ok_bbool {f : Addr} {fd : FuncData} (F : L2.Fun K "__bool__" "Board.__bool__" sBBool f fd) : FnOk P w K mg base CX0 1 f fd ["self"] spBBool := by
  refine F.ok scBBool (fun vs H Q E h => ?_) (fun cdv A outer s H vs Q E hr h => ?_)
  · obtain ⟨a, rfl, _⟩ := h
    rfl
  · obtain ⟨a, rfl, q⟩ := h
    exact ⟨_, pss_one (ps_ret pe_bl), q⟩
/-! ### a new board -/
abbrev sBInit : Stmt := inClass (top 57) 0
theorem scBInit : FnScope ["self", "tree", "standing"] ["self", "tree", "standing"] (defScope sBInit) := ⟨rfl, rfl, rfl, by decide +kernel, rfl, by decide +kernel, by decide +kernel⟩
def spBInit (K : PySem.W.Frag) (T : List (Addr × Str)) (CT CB : Addr) : Sp := fun vs H Q _ => ∃ (js : Js) (ch : List Addr) (bd dx p : Addr) (vb : V) (pose : Pose), vs = [.ref bd, vb, .ref p] ∧ WellJ js ∧ Lv ch H ∧ H bd = some (.ins CB dx []) ∧ bd ∈ ch ∧ TreeAt K CT (Reg ch H) vb js ∧ Fz (Reg ch H) p (vNs pose) ∧ GoodP pose ∧ pose.length = js.length ∧
  ∀ H', Fr T [bd] H H' → BoardAt K CT CB H' ch bd vb js (pose, []) [] → Q .non H'
theorem ok_binit {f : Addr} {fd : FuncData} (F : L2.Fun K "__init__" "Board.__init__" sBInit f fd) (BF : BoardF K CB) (DC : Def P w K mg base 1 "check_tree" ["tree"] (spCheckTree CT)) (DS : DefV P w K mg base 3 "check_standing" ["tree", "standing", "may_repeat"] [.bl false] (spCheckSt K T CT)) :
    FnOk P w K mg base CX0 4 f fd ["self", "tree", "standing"] (spBInit K T CT CB) := by
  refine F.ok scBInit (fun vs H Q E h => ?_) (fun cdv A outer s H vs Q E hr h => ?_)
  · obtain ⟨js, ch, bd, dx, p, vb, pose, rfl, _⟩ := h
    rfl
  · obtain ⟨js, ch, bd, dx, p, vb, pose, rfl, W, lvb, eb, nb, ht, hp, g, hl, q⟩ := h
    obtain ⟨ta, tdx, tfs, rfl, eta⟩ := ht.ins
    have nbt : ∀ t, t ∉ ch → t ≠ bd := fun t h z => h (by rw [z]; exact nb)
    have sub : ∀ b ∈ [bd], b ∈ ch := fun b hb => by rw [List.mem_singleton.mp hb]; exact nb
    refine ⟨_, pss_cons (ps_expr (pe_callD DC (hr.mono (by decide)) (by rfl) (pa_cons (pv 1) pa_nil))) (pss_cons (ps_expr (pe_callDV DS hr (by rfl) (pa_cons (pv 1) (pa_cons (pv 2) pa_nil))))
      (pss_cons (ps_fld (pv 0) (pv 1) rfl) (pss_cons (ps_fld (pv 0) (pe_tup (pa_cons (pv 2) (pa_cons (pe_tup pa_nil) pa_nil))) rfl) (pss_one (ps_fld (pv 0) (pe_tup pa_nil) rfl))))), ?_⟩
    refine ⟨_, rfl, ta, tdx, tfs, rfl, reg_same _ _ eta, ?_⟩
    refine ⟨_, rfl, _, rfl, js, ch, _, p, pose, rfl, W, lvb, ht, Same.seqT reg_same hp.sq, g, hl, fun H1 fr1 => ?_⟩
    have eb1 := fr1.at0 eb nt_ins
    refine ⟨_, rfl, _, rfl, bd, CB, dx, [], rfl, eb1, BF.cl, BF.nB, by decide, ?_⟩
    have fr2 : Fr T [bd] H (upd H1 bd (.ins CB dx (putF "base" (.ref ta) []))) := fr1.nil.trans (.write eb1 wr_ins nt_ins (List.mem_singleton.mpr rfl))
    have eb2 : (upd H1 bd (.ins CB dx (putF "base" (.ref ta) []))) bd = some (.ins CB dx (putF "base" (.ref ta) [])) := upd_same
    generalize (upd H1 bd (.ins CB dx (putF "base" (.ref ta) []))) = H2 at fr2 eb2 ⊢
    refine ⟨_, rfl, Nat.zero_le _, fun t1 n1 => ⟨by show 2 ≤ sizeLine; decide, fun t2 n2 => ?_⟩⟩
    have fr3 : Fr T [bd] H (upd (upd H2 t1 (.tup [])) t2 (.tup [.ref p, .ref t1])) := (fr2.trans (.new n1)).trans (.new n2)
    have eb3 : (upd (upd H2 t1 (.tup [])) t2 (.tup [.ref p, .ref t1])) bd = some (.ins CB dx (putF "base" (.ref ta) [])) := by
      have h1 : (upd H2 t1 (.tup [])) bd = some (.ins CB dx (putF "base" (.ref ta) [])) := by rw [upd_ne (ne_of_none eb2 n1)]; exact eb2
      rw [upd_ne (ne_of_none h1 n2)]
      exact h1
    have lv3 := fr3.lv lvb
    have e2 : (upd (upd H2 t1 (.tup [])) t2 (.tup [.ref p, .ref t1])) t2 = some (.tup [.ref p, .ref t1]) := upd_same
    have e1 : (upd (upd H2 t1 (.tup [])) t2 (.tup [.ref p, .ref t1])) t1 = some (.tup []) := by rw [upd_ne (ne_of_none (show (upd H2 t1 (.tup [])) t1 = some (.tup []) from upd_same) n2), upd_same]
    have c1 : t1 ∉ ch := (fr2.lv lvb).fresh n1
    have c2 : t2 ∉ ch := ((fr2.trans (.new n1)).lv lvb).fresh n2
    generalize (upd (upd H2 t1 (.tup [])) t2 (.tup [.ref p, .ref t1])) = H3 at fr3 eb3 lv3 e1 e2 ⊢
    refine ⟨_, rfl, bd, CB, dx, _, rfl, eb3, BF.cl, BF.nN, by show 1 < 1000; decide, ?_⟩
    have fr4 := fr3.trans (.write (o' := .ins CB dx (putF "now" (.ref t2) (putF "base" (.ref ta) []))) eb3 wr_ins nt_ins (List.mem_singleton.mpr rfl))
    have eb4 : (upd H3 bd (.ins CB dx (putF "now" (.ref t2) (putF "base" (.ref ta) [])))) bd = some (.ins CB dx (putF "now" (.ref t2) (putF "base" (.ref ta) []))) := upd_same
    have e14 : (upd H3 bd (.ins CB dx (putF "now" (.ref t2) (putF "base" (.ref ta) [])))) t1 = some (.tup []) := by rw [upd_ne (nbt t1 c1)]; exact e1
    have e24 : (upd H3 bd (.ins CB dx (putF "now" (.ref t2) (putF "base" (.ref ta) [])))) t2 = some (.tup [.ref p, .ref t1]) := by rw [upd_ne (nbt t2 c2)]; exact e2
    generalize (upd H3 bd (.ins CB dx (putF "now" (.ref t2) (putF "base" (.ref ta) [])))) = H4 at fr4 eb4 e14 e24 ⊢
    refine ⟨Nat.zero_le _, fun t3 n3 => ⟨_, rfl, bd, CB, dx, _, rfl, by rw [upd_ne (ne_of_none eb4 n3)]; exact eb4, BF.cl, BF.nP, by show 2 < 1000; decide, ?_⟩⟩
    have fr5 : Fr T [bd] H (upd (upd H4 t3 (.tup [])) bd (.ins CB dx (bFlds (.ref ta) (.ref t2) (.ref t3)))) := (fr4.trans (.new n3)).trans (.write (by rw [upd_ne (ne_of_none eb4 n3)]; exact eb4) wr_ins nt_ins (List.mem_singleton.mpr rfl))
    have c3 : t3 ∉ ch := (fr4.lv lvb).fresh n3
    refine q _ fr5 ⟨dx, .ref t2, t3, [], upd_same, ?_, ⟨t2, p, .ref t1, rfl, .inl (.inl (reg_in c2 (by rw [upd_ne (nbt t2 c2), upd_ne (ne_of_none e24 n3)]; exact e24) nt_tup)), ?_, .tup (.inl (.inl (reg_in c1 (by rw [upd_ne (nbt t1 c1), upd_ne (ne_of_none e14 n3)]; exact e14) nt_tup))) .nil⟩,
      .inl (.inl (reg_in c3 (by rw [upd_ne (nbt t3 c3), upd_same]) nt_tup)), .nil⟩
    · exact Same.tree (fr5.reg sub) ht
    · exact Same.fz (fr5.reg sub) hp
end
end Tz
end -- W8
section -- W9
set_option maxHeartbeats 4000000
namespace Tz
open PySem PySem.Spec PyProof.Rows L2 TL
/-! ### own exceptions with one field -/
def spExcI (C : Addr) (f : Str) : Sp := fun vs H Q _ => ∃ (a : Addr) (y : V), vs = [.ref a, y] ∧ H a = some (exo a C none) ∧ ∀ dx, H dx = none → dx ≠ a → Q .non (upd (upd H dx (exd dx [(f, y)])) a (exo a C (some dx)))
structure ExcF (P : Program) (w : World) (K : PySem.W.Frag) (mg : Str → Option Value) (base : Heap) (x : Str) (C : Addr) (f : Str) : Prop where
  ex : ∃ (B newId initId : String) (bmB : List Value) (fI : Addr) (fd : FuncData) (ps : List Str), BaseOk B newId initId bmB ∧ OexG K C newId bmB ∧ PySem.W.findIn K (.ref C) "__init__" = some (some (.ref fI)) ∧ PySem.W.typeIn K (.ref fI) = some (.type "function") ∧ FnOk P w K mg base CX0 1 fI fd ps (spExcI C f) ∧ Binds K fd ps []
  mg_ : mg x = some (.ref C)
section
variable {P : Program} {w : World} {K : PySem.W.Frag} {mg : Str → Option Value} {base : Heap} {T : List (Addr × Str)} {CT CB C : Addr}
theorem exc_new {H1 : Hp} {a dx : Addr} {f : Str} {y : V} {o1 o2 o3 : HO} (na : H1 a = none) (nd : H1 dx = none) : Same H1 (upd (del (upd (upd (upd H1 a o1) dx o2) a o3) a) dx (.xd [(f, y)])) := fun b o e => by
  have h1 := ne_of_none e na
  have h2 := ne_of_none e nd
  rw [upd_ne h2]
  unfold L2.del
  rw [if_neg h1, upd_ne h1, upd_ne h2, upd_ne h1]
  exact e
theorem exc_done {H1 : Hp} {f : Str} {y : V} {Q : XK} (h : ∀ (d : Addr) (H' : Hp), Same H1 H' → H1 d = none → H' d = some (.xd [(f, y)]) → Q (.ref C) (some d) H') (a : Addr) (na : H1 a = none) :
    spExcI C f [.ref a, y] (upd H1 a (exo a C none)) (fun v H2 => v = .non ∧ ∃ (d : Addr) (fs : List (Str × V)), H2 a = some (exo a C (some d)) ∧ H2 d = some (exd d fs) ∧ H1 d = none ∧ Q (.ref C) (some d) (upd (del H2 a) d (.xd fs))) (fun _ _ _ => False) := by
  refine ⟨a, y, rfl, upd_same, fun dx nd hne => ⟨rfl, dx, _, upd_same, by rw [upd_ne hne, upd_same], ?_, ?_⟩⟩
  · rw [upd_ne hne] at nd
    exact nd
  · rw [upd_ne hne] at nd
    exact h dx _ (exc_new na nd) nd upd_same
end
section
variable {X : Cx} {x f : Str} {C : Addr} {e : Expr} {es : List Expr} {ta : TA} {p pos : Pos}
theorem pmk_exc (D : ExcF X.prog X.w X.K X.mg X.base x C f) (hr : Room 2 X.A) (hg : Gl X x) (ha : PA X (e :: es) ta)
    (hdb : (x == ("__debug__" : Str)) = false := by decide) (he : starEach (e :: es) X.env = (false, eval e X.env) :: starEach es X.env := by rfl) (hpl : (backTo pos (starEach es X.env)).any (·.1) = false := by rfl) :
    PMk X (.Call (.Name x p) (e :: es) [] pos) (tMkO C (spExcI C f) [] ta) := by
  obtain ⟨B, newId, initId, bmB, fI, fd, ps, BO, TT, iC, tI, F, hb⟩ := D.ex
  exact pmk_G BO TT iC tI F (hr.mono (by decide)) hb pass0 hg D.mg_ ha hdb he hpl
end
section
variable {P : Program} {w : World} {K : PySem.W.Frag} {mg : Str → Option Value} {base : Heap} {T : List (Addr × Str)} {CT CB C : Addr}
abbrev sXNear : Stmt := inClass (top 19) 0
theorem scXNear : FnScope ["self", "place"] ["self", "place"] (defScope sXNear) := ⟨rfl, rfl, rfl, by decide +kernel, rfl, by decide +kernel, by decide +kernel⟩
theorem ok_xnear {f : Addr} {fd : FuncData} {newId initId B : String} {bmB : List Value} (F : L2.Fun K "__init__" "NotNear.__init__" sXNear f fd) (BO : BaseOk B newId initId bmB) (TT : OexG K C newId bmB) (no : PySem.W.findIn K (.ref C) "place" = some none) : FnOk P w K mg base CX0 1 f fd ["self", "place"] (spExcI C "place") := by
  refine F.ok scXNear (fun vs H Q E h => ?_) (fun cdv A outer s H vs Q E hr h => ?_)
  · obtain ⟨a, y, rfl, _⟩ := h
    rfl
  · obtain ⟨a, y, rfl, ea, q⟩ := h
    exact ⟨_, pss_one (ps_ostG BO (pv 0) (pv 1)), _, rfl, _, rfl, a, C, rfl, TT, no, ea, q⟩
abbrev sXEmpty : Stmt := inClass (top 20) 0
theorem scXEmpty : FnScope ["self", "place"] ["self", "place"] (defScope sXEmpty) := ⟨rfl, rfl, rfl, by decide +kernel, rfl, by decide +kernel, by decide +kernel⟩
theorem ok_xempty {f : Addr} {fd : FuncData} {newId initId B : String} {bmB : List Value} (F : L2.Fun K "__init__" "NotEmpty.__init__" sXEmpty f fd) (BO : BaseOk B newId initId bmB) (TT : OexG K C newId bmB) (no : PySem.W.findIn K (.ref C) "place" = some none) : FnOk P w K mg base CX0 1 f fd ["self", "place"] (spExcI C "place") := by
  refine F.ok scXEmpty (fun vs H Q E h => ?_) (fun cdv A outer s H vs Q E hr h => ?_)
  · obtain ⟨a, y, rfl, _⟩ := h
    rfl
  · obtain ⟨a, y, rfl, ea, q⟩ := h
    exact ⟨_, pss_one (ps_ostG BO (pv 0) (pv 1)), _, rfl, _, rfl, a, C, rfl, TT, no, ea, q⟩
abbrev sXIndex : Stmt := inClass (top 7) 0
theorem scXIndex : FnScope ["self", "given"] ["self", "given"] (defScope sXIndex) := ⟨rfl, rfl, rfl, by decide +kernel, rfl, by decide +kernel, by decide +kernel⟩
theorem ok_xindex {f : Addr} {fd : FuncData} {newId initId B : String} {bmB : List Value} (F : L2.Fun K "__init__" "InvalidIndex.__init__" sXIndex f fd) (BO : BaseOk B newId initId bmB) (TT : OexG K C newId bmB) (no : PySem.W.findIn K (.ref C) "given" = some none) : FnOk P w K mg base CX0 1 f fd ["self", "given"] (spExcI C "given") := by
  refine F.ok scXIndex (fun vs H Q E h => ?_) (fun cdv A outer s H vs Q E hr h => ?_)
  · obtain ⟨a, y, rfl, _⟩ := h
    rfl
  · obtain ⟨a, y, rfl, ea, q⟩ := h
    exact ⟨_, pss_one (ps_ostG BO (pv 0) (pv 1)), _, rfl, _, rfl, a, C, rfl, TT, no, ea, q⟩
/-! ### become -/
structure Mth (P : Program) (w : World) (K : PySem.W.Frag) (mg : Str → Option Value) (base : Heap) (CX : CXT) (C : Addr) (k : Nat) (m : Str) (ps : List Str) (sp : Sp) : Prop where
  ex : ∃ f fd, Meth K C m f ∧ FnOk P w K mg base CX k f fd ps sp ∧ Binds K fd ps []
structure BoardC (P : Program) (w : World) (K : PySem.W.Frag) (mg : Str → Option Value) (base : Heap) (CB : Addr) : Prop where
  f : BoardF K CB
  tr : Prp P w K mg base CB 1 "tree" (spBTree CB)
  st : Prp P w K mg base CB 1 "standing" (spBSt K CB)
  mv : Prp P w K mg base CB 1 "moves" (spBMv K CB)
  ch : Prp P w K mg base CB 1 "changes" (spBCh K CB)
abbrev sBecome : Stmt := inClass (top 57) 6
theorem scBecome : FnScope ["self", "standing", "moves"] ["self", "standing", "moves"] (defScope sBecome) := ⟨rfl, rfl, rfl, by decide +kernel, rfl, by decide +kernel, by decide +kernel⟩
def spBecome (K : PySem.W.Frag) (T : List (Addr × Str)) (CT CB : Addr) : Sp := fun vs H Q _ => ∃ (js : Js) (ch : List Addr) (bd p : Addr) (vb v2 : V) (st st' : StM) (past : List StM), vs = [.ref bd, .ref p, v2] ∧ Lv ch H ∧ bd ∈ ch ∧ BoardAt K CT CB H ch bd vb js st past ∧ past.length ≤ 100 ∧ Fz (Reg ch H) p (vNs st'.1) ∧ Dp K (Reg ch H) v2 (dMs st'.2) ∧
  ∀ H', Fr T [bd] H H' → BoardAt K CT CB H' ch bd vb js st' (past ++ [st]) → Q .non H'
theorem ok_become {f : Addr} {fd : FuncData} (F : L2.Fun K "become" "Board.become" sBecome f fd) (BF : BoardF K CB) : FnOk P w K mg base CX0 1 f fd ["self", "standing", "moves"] (spBecome K T CT CB) := by
  refine F.ok scBecome (fun vs H Q E h => ?_) (fun cdv A outer s H vs Q E hr h => ?_)
  · obtain ⟨js, ch, bd, p, vb, v2, st, st', past, rfl, _⟩ := h
    rfl
  · obtain ⟨js, ch, bd, p, vb, v2, st, st', past, rfl, lv, hb, ⟨dx, v1, q1, vs, eb, ht, hst, hq1, hvs⟩, hpl, hp, hv2, q⟩ := h
    have sub : ∀ b ∈ [bd], b ∈ ch := fun b h => by rw [List.mem_singleton.mp h]; exact hb
    have nbt : ∀ t, t ∉ ch → t ≠ bd := fun t h z => h (by rw [z]; exact hb)
    have sl := sizeLine_eq
    refine ⟨_, pss_cons (ps_fld (pv 0) (pe_tup (StX.pa_star (pe_fld (pv 0) rfl) (pa_cons (pe_fld (pv 0) rfl) pa_nil))) rfl) (pss_one (ps_fld (pv 0) (pe_tup (pa_cons (pv 1) (pa_cons (pv 2) pa_nil))) rfl)), ?_⟩
    refine ⟨_, rfl, bd, CB, dx, _, _, rfl, eb, BF.cl, BF.nP, bF_p, q1, vs, rfl, .inl (Same.seqT reg_same hq1), _, rfl, bd, CB, dx, _, _, rfl, eb, BF.cl, BF.nN, bF_n, ?_, fun t1 n1 => ⟨_, rfl, bd, CB, dx, _, rfl, by rw [upd_ne (ne_of_none eb n1)]; exact eb, BF.cl, BF.nP, by rw [bF_eq]; show 3 < 1000; decide, ?_⟩⟩
    · have := hvs.len
      rw [List.length_append]
      show vs.length + 1 ≤ _
      omega
    rw [bF_pp]
    have fr1 : Fr T [bd] H (upd (upd H t1 (.tup (vs ++ [v1]))) bd (.ins CB dx (bFlds vb v1 (.ref t1)))) := (Fr.new n1).trans (.write (by rw [upd_ne (ne_of_none eb n1)]; exact eb) wr_ins nt_ins (List.mem_singleton.mpr rfl))
    have eb1 : (upd (upd H t1 (.tup (vs ++ [v1]))) bd (.ins CB dx (bFlds vb v1 (.ref t1)))) bd = some (.ins CB dx (bFlds vb v1 (.ref t1))) := upd_same
    have c1 : t1 ∉ ch := lv.fresh n1
    have e1 : (upd (upd H t1 (.tup (vs ++ [v1]))) bd (.ins CB dx (bFlds vb v1 (.ref t1)))) t1 = some (.tup (vs ++ [v1])) := by rw [upd_ne (nbt t1 c1), upd_same]
    generalize (upd (upd H t1 (.tup (vs ++ [v1]))) bd (.ins CB dx (bFlds vb v1 (.ref t1)))) = H1 at fr1 eb1 e1 ⊢
    refine ⟨_, rfl, _, rfl, by show 2 ≤ sizeLine; decide, fun t2 n2 => ⟨_, rfl, bd, CB, dx, _, rfl, by rw [upd_ne (ne_of_none eb1 n2)]; exact eb1, BF.cl, BF.nN, by rw [bF_eq]; show 3 < 1000; decide, ?_⟩⟩
    rw [bF_pn]
    have fr2 : Fr T [bd] H (upd (upd H1 t2 (.tup [.ref p, v2])) bd (.ins CB dx (bFlds vb (.ref t2) (.ref t1)))) := (fr1.trans (.new n2)).trans (.write (by rw [upd_ne (ne_of_none eb1 n2)]; exact eb1) wr_ins nt_ins (List.mem_singleton.mpr rfl))
    have c2 : t2 ∉ ch := (fr1.lv lv).fresh n2
    have sm := fr2.reg sub
    refine q _ fr2 ⟨dx, .ref t2, t1, vs ++ [v1], upd_same, Same.tree sm ht, ⟨t2, p, v2, rfl, .inl (.inl (reg_in c2 (by rw [upd_ne (nbt t2 c2), upd_same]) nt_tup)), Same.fz sm hp, Same.dp sm hv2⟩, .inl (.inl (reg_in c1 (by rw [upd_ne (nbt t1 c1), upd_ne (ne_of_none e1 n2)]; exact e1) nt_tup)), (same_sts sm hvs).snoc (same_st sm hst)⟩
end
end Tz
end -- W9
section -- W10
set_option maxHeartbeats 4000000
namespace Tz
open PySem PySem.Spec PyProof.Rows L2 TL
section
variable {X : Cx} {CX : CXT} {C : Addr} {k : Nat} {m : Str} {ps : List Str} {sp : Sp} {E : XK} {o e : Expr} {es : List Expr} {ta : TE} {t : TA} {apos pos : Pos}
theorem pe_methD {pl : Sem Bool} (D : Mth X.prog X.w X.K X.mg X.base CX0 C k m ps sp) (c : Cls X.K C) (hr : Room k X.A) (ho : PE X o ta) (ha : PA X (e :: es) t) (he : starEach (e :: es) X.env = (false, eval e X.env) :: starEach es X.env := by rfl) (hpl : (backTo pos (starEach es X.env)).any (·.1) = false := by rfl)
    (ht : eval (.Call (.Attribute o m apos) (e :: es) [] pos) X.env = (do
      let ov ← eval o X.env
      standAt apos.atName
      let (f, first) ← holding [ov] (getMethod ov m pl)
      callWith pos f first (backTo pos (starEach (e :: es) X.env)) (backToKw pos (keywordEach [] X.env))) := by rfl) : PE X (.Call (.Attribute o m apos) (e :: es) [] pos) (tMeth C m sp [] (fun _ _ _ => False) ta t) := by
  obtain ⟨f, fd, hm, F, hb⟩ := D.ex
  exact pe_meth ho c hm F hr hb .nil pass0 ha he hpl ht
end
section
variable {P : Program} {w : World} {K : PySem.W.Frag} {mg : Str → Option Value} {base : Heap} {T : List (Addr × Str)} {CT CB CN CE CI CU : Addr}
/-! ### move -/
abbrev sMove : Stmt := inClass (top 57) 7
theorem scMove : FnScope ["self", "pebble", "place", "there", "here"] ["self", "pebble", "place"] (defScope sMove) := ⟨rfl, rfl, rfl, by decide +kernel, rfl, by decide +kernel, by decide +kernel⟩
def spMove (K : PySem.W.Frag) (T : List (Addr × Str)) (CT CB CN CE : Addr) : Sp := fun vs H Q E => ∃ (js : Js) (ch : List Addr) (bd : Addr) (vb : V) (st : StM) (past : List StM) (x y : Str), vs = [.ref bd, .str x, .str y] ∧ WellJ js ∧ Lv ch H ∧ bd ∈ ch ∧ BoardAt K CT CB H ch bd vb js st past ∧ past.length ≤ 100 ∧ st.2.length ≤ 1000 ∧ st.1.length = js.length ∧
  some x ∈ st.1 ∧ y ∈ nmsOf js ∧
  (legal js st.1 (ixOf (some x) st.1) (ixOf y (nmsOf js)) = true → ∀ H', Fr T [bd] H H' → BoardAt K CT CB H' ch bd vb js (mvd st.1 (ixOf (some x) st.1) (ixOf y (nmsOf js)), st.2 ++ [(x, y)]) (past ++ [st]) → Q .non H') ∧
  (ixOf y (nmsOf js) ∉ (trOf js).nb (ixOf (some x) st.1) → ∀ H' d, Fr T [] H H' → H' d = some (.xd [("place", .str y)]) → E (.ref CN) (some d) H') ∧
  (ixOf y (nmsOf js) ∈ (trOf js).nb (ixOf (some x) st.1) → st.1.getD (ixOf y (nmsOf js)) none ≠ none → ∀ H' d, Fr T [] H H' → H' d = some (.xd [("place", .str y)]) → E (.ref CE) (some d) H')
theorem dMs_snoc {R : Hp} {ms : Mvs} {q : Addr} {xs : List V} {t : Addr} {x y : Str} (h : DpAll K R xs (ms.map dMv)) (hq : SqT K R q (xs ++ [.ref t])) (ht : SqT K R t [.str x, .str y]) : Dp K R (.ref q) (dMs (ms ++ [(x, y)])) := by
  unfold dMs
  rw [List.map_append]
  exact .tup hq (dps_snoc h (.tup ht (.cons (.str x) (.cons (.str y) .nil))))
theorem ok_move {f : Addr} {fd : FuncData} (F : L2.Fun K "move" "Board.move" sMove f fd) (C : TreeC P w K mg base T CT) (BC : BoardC P w K mg base CB) (DP : Def P w K mg base 1 "check_pebble" ["standing", "pebble"] (spCheckPeb K)) (DI : Def P w K mg base 3 "index_of" ["tree", "place"] (spIndexOf K T CT))
    (DM : Def P w K mg base 1 "moved" ["standing", "here", "there"] (spMoved K T)) (MB : Mth P w K mg base CX0 CB 1 "become" ["self", "standing", "moves"] (spBecome K T CT CB)) (XN : ExcF P w K mg base "NotNear" CN "place") (XE : ExcF P w K mg base "NotEmpty" CE "place") :
    FnOk P w K mg base (L2.CX P w) 4 f fd ["self", "pebble", "place"] (spMove K T CT CB CN CE) := by
  refine F.okX scMove (fun vs H Q E h => ?_) (fun cdv A outer s H vs Q E hr h => ?_)
  · obtain ⟨js, ch, bd, vb, st, past, x, y, rfl, _⟩ := h
    rfl
  · obtain ⟨js, ch, bd, vb, st, past, x, y, rfl, W, lv, hb, bo, hpl, hml, hl, hx, hy, q1, q2, q3⟩ := h
    obtain ⟨dx, v1, q0, vs, eb, ht, ⟨an, p, v2, rfl, hn, hp, hv2⟩, hq0, hvs⟩ := id bo
    obtain ⟨ta, tdx, tfs, l, xs, rfl, eta, el, hsl, hdl⟩ := ht.links
    have hr1 : Room 1 _ := hr.mono (by decide)
    refine ⟨_, pss_cons (ps_expr (pe_callD DP hr1 (by rfl) (pa_cons (pe_propD BC.st BC.f.cl (hr.mono (by decide)) (pv 0)) (pa_cons (pv 1) pa_nil))))
      (pss_cons (ps_set (i := 3) scMove.nd rfl (Or.inl rfl) (pe_callD DI hr (by rfl) (pa_cons (pe_fld (pv 0) rfl) (pa_cons (pv 2) pa_nil))))
      (pss_cons (ps_set (i := 4) scMove.nd rfl (Or.inl rfl) (pe_bmT PySem.F.slot_tuple_index PySem.F.type_tuple_index mt_idxT (pe_propD BC.st BC.f.cl (hr.mono (by decide)) (pv 0)) (pa_cons (pv 1) pa_nil)))
      (pss_cons (ps_if (pt_cmpR op_notIn_seq (pv 3) (pe_ix ix_list (pe_fld (pe_fld (pv 0) rfl) rfl) (pv 4) (fun _ _ => rfl)) (by rfl)) (pss_one (ps_raise rfl (takes_of rfl rfl rfl rfl) (pmk_exc XN (hr.mono (by decide)) (by rfl) (pa_cons (pv 2) pa_nil)))) pss_nil)
      (pss_cons (ps_if (pt_cmpR op_notN (pe_ix ix_tup (pe_propD BC.st BC.f.cl (hr.mono (by decide)) (pv 0)) (pv 3) (fun _ _ => rfl)) pe_non (nomark _)) (pss_one (ps_raise rfl (takes_of rfl rfl rfl rfl) (pmk_exc XE (hr.mono (by decide)) (by rfl) (pa_cons (pv 2) pa_nil)))) pss_nil)
      (pss_one (ps_expr (pe_methD MB BC.f.cl hr1 (pv 0) (pa_cons (pe_callD DM hr1 (by rfl) (pa_cons (pe_propD BC.st BC.f.cl (hr.mono (by decide)) (pv 0)) (pa_cons (pv 4) (pa_cons (pv 3) pa_nil))))
        (pa_cons (pe_tup (StX.pa_star (pe_propD BC.mv BC.f.cl (hr.mono (by decide)) (pv 0)) (pa_cons (pe_tup (pa_cons (pv 1) (pa_cons (pv 2) pa_nil))) pa_nil))) pa_nil))))))))), ?_⟩
    have hnH := Same.seqT reg_same hn
    have hpH := Same.fz reg_same hp
    -- check_pebble(self.standing, pebble); there = index_of(self.base, place)
    refine ⟨_, rfl, bd, dx, _, rfl, eb, bd, dx, _, an, _, _, rfl, eb, bF_n, hnH, _, rfl, p, st.1, x, rfl, hpH.sq, hx, ?_⟩
    refine ⟨_, rfl, bd, CB, dx, _, _, rfl, eb, BC.f.cl, BC.f.nB, bF_b, _, rfl, js, ch, _, y, rfl, W, lv, ht, hy, fun H1 fr1 => ?_⟩
    have eb1 := fr1.at0 eb nt_ins
    have hn1 : SqT K H1 an [.ref p, v2] := Same.seqT reg_same (Same.seqT fr1.reg0 hn)
    have hp1 : Fz H1 p (vNs st.1) := Same.fz reg_same (Same.fz fr1.reg0 hp)
    obtain ⟨i1, i2, i3⟩ := idx_at (f := vN) eqV_vN hx
    -- here = self.standing.index(pebble)
    refine ⟨_, rfl, bd, dx, _, rfl, eb1, bd, dx, _, an, _, _, rfl, eb1, bF_n, hn1, ⟨p, _, rfl, hp1⟩, _, rfl, p, _, _, _, _, rfl, rfl, hp1.sq, rfl, flat_all _, i1, i2, i3, ?_⟩
    -- there not in self.base.links[here]
    have hh := ixOf_lt hx
    have htl : ixOf y (nmsOf js) < js.length := by have := ixOf_lt hy; rw [nms_len] at this; exact this
    obtain ⟨r, er, hr_⟩ := links_at hdl (show ixOf (some x) st.1 < js.length by omega)
    have hrr : SqL K H1 r (vIs ((trOf js).nb (ixOf (some x) st.1))) := reg_same.seq (fr1.reg0.seq hr_)
    refine ⟨_, rfl, _, rfl, bd, CB, dx, _, _, rfl, eb1, BC.f.cl, BC.f.nB, bF_b, ta, CT, tdx, tfs, _, rfl, reg_same _ _ (fr1.reg0 _ _ eta), C.f.cl, C.f.nL, el, _, rfl, l, _, _, _, rfl, rfl, reg_same.seq (fr1.reg0.seq hsl), atI_nat er, r, _, rfl, .inl hrr, rfl, flat_I _, _, rfl, ?_⟩
    have e1 : (if true = true then !inV (V.int (ixOf y (nmsOf js) : Nat)) (vIs ((trOf js).nb (ixOf (some x) st.1))) else inV (V.int (ixOf y (nmsOf js) : Nat)) (vIs ((trOf js).nb (ixOf (some x) st.1)))) = !decide (ixOf y (nmsOf js) ∈ (trOf js).nb (ixOf (some x) st.1)) := by
      rw [if_pos rfl, inI]
    by_cases hin : ixOf y (nmsOf js) ∈ (trOf js).nb (ixOf (some x) st.1)
    · refine iteF' (e1.trans (by rw [decide_eq_true hin]; rfl)) ?_
      -- self.standing[there] is not None
      refine ⟨_, rfl, bd, dx, _, rfl, eb1, bd, dx, _, an, _, _, rfl, eb1, bF_n, hn1, _, rfl, p, _, _, _, rfl, rfl, hp1.sq, atI_nat (vNs_at (show ixOf y (nmsOf js) < st.1.length by omega)), rfl, _, rfl, ?_⟩
      by_cases he : st.1.getD (ixOf y (nmsOf js)) none = none
      · refine iteF' (by rw [decide_eq_true (vN_non.mpr he)]; rfl) ?_
        have leg : legal js st.1 (ixOf (some x) st.1) (ixOf y (nmsOf js)) = true := by
          unfold legal
          rw [decide_eq_true hin, decide_eq_true he]
          rfl
        refine ⟨_, rfl, bd, dx, _, rfl, eb1, bF_no (by decide +kernel) (by decide +kernel) (by decide +kernel), ?_⟩
        refine ⟨_, rfl, bd, dx, _, rfl, eb1, bd, dx, _, an, _, _, rfl, eb1, bF_n, hn1, _, rfl, _, rfl, ch, p, st.1, _, _, rfl, fr1.lv lv, hp1.sq, hh, by omega, fun H2 p2 fr2 fz2 => ?_⟩
        have fr12 := fr1.trans fr2
        have eb2 := fr2.at0 eb1 nt_ins
        obtain ⟨mq, mxs, rfl, hmq, hmx⟩ := dp_tup hv2
        have hn2 : SqT K H2 an [.ref p, .ref mq] := Same.seqT reg_same (Same.seqT fr12.reg0 hn)
        have hmq2 : SqT K H2 mq mxs := Same.seqT reg_same (Same.seqT fr12.reg0 hmq)
        have lm : mxs.length = st.2.length := by rw [dps_len hmx]; exact List.length_map _
        have sl := sizeLine_eq
        refine ⟨_, rfl, bd, dx, _, rfl, eb2, bd, dx, _, an, _, _, rfl, eb2, bF_n, hn2, mq, mxs, rfl, .inl hmq2, _, rfl, _, rfl, by show 2 ≤ sizeLine; decide, fun t1 n1 => ⟨by rw [List.length_append]; show mxs.length + 1 ≤ _; omega, fun t2 n2 => ?_⟩⟩
        have fr3 : Fr T [] H (upd (upd H2 t1 (.tup [.str x, .str y])) t2 (.tup (mxs ++ [.ref t1]))) := (fr12.trans (.new n1)).trans (.new n2)
        have fr23 : Fr T [] H2 (upd (upd H2 t1 (.tup [.str x, .str y])) t2 (.tup (mxs ++ [.ref t1]))) := (Fr.new n1).trans (.new n2)
        have l2 := fr12.lv lv
        have c1 : t1 ∉ ch := l2.fresh n1
        have c2 : t2 ∉ ch := ((Fr.new (T := T) (W := []) n1).lv l2).fresh n2
        have et1 : (upd (upd H2 t1 (.tup [.str x, .str y])) t2 (.tup (mxs ++ [.ref t1]))) t1 = some (.tup [.str x, .str y]) := by
          rw [upd_ne (ne_of_none (show (upd H2 t1 (.tup [.str x, .str y])) t1 = some (.tup [.str x, .str y]) from upd_same) n2), upd_same]
        refine ⟨js, ch, bd, p2, .ref ta, _, st, (mvd st.1 (ixOf (some x) st.1) (ixOf y (nmsOf js)), st.2 ++ [(x, y)]), past, rfl, fr3.lv lv, hb, fr3.board0 bo, hpl, Same.fz fr23.reg0 fz2, ?_, fun H4 fr4 bo4 => q1 leg H4 (fr3.nil.trans fr4) bo4⟩
        exact dMs_snoc (Same.dps fr3.reg0 hmx) (.inl (.inl (reg_in c2 upd_same nt_tup))) (.inl (.inl (reg_in c1 et1 nt_tup)))
      · refine iteT' (by rw [decide_eq_false fun z => he (vN_non.mp z)]; rfl) ?_
        exact ⟨_, rfl, by show 1 ≤ 1000; decide, exc_done fun d H' s _ e => q3 hin he H' d (fr1.trans (.of_same s)) e⟩
    · refine iteT' (e1.trans (by rw [decide_eq_false hin]; rfl)) ?_
      exact ⟨_, rfl, by show 1 ≤ 1000; decide, exc_done fun d H' s _ e => q2 hin H' d (fr1.trans (.of_same s)) e⟩
end
end Tz
end -- W10
section -- W11
set_option maxHeartbeats 4000000
namespace Tz
open PySem PySem.Spec PyProof.Rows L2 TL
/-! ### rows of moves -/
def stepD (js : Js) (pose : Pose) (d : Str × Str) : Pose := mvd pose (ixOf (some d.1) pose) (ixOf d.2 (nmsOf js))
def legalD (js : Js) (pose : Pose) (d : Str × Str) : Bool := legal js pose (ixOf (some d.1) pose) (ixOf d.2 (nmsOf js))
def runFrom (js : Js) : Nat → Pose → Mvs → Nat ⊕ Pose
  | _, pose, [] => .inr pose
  | k, pose, d :: r => if legalD js pose d = true then runFrom js (k + 1) (stepD js pose d) r else .inl k
def okRun (js : Js) : Pose → Mvs → Prop
  | _, [] => True
  | pose, d :: r => some d.1 ∈ pose ∧ d.2 ∈ nmsOf js ∧ (legalD js pose d = true → okRun js (stepD js pose d) r)
theorem step_len (js : Js) (pose : Pose) (d : Str × Str) : (stepD js pose d).length = pose.length := by
  unfold stepD mvd
  rw [List.length_set, List.length_set]
section
variable {P : Program} {w : World} {K : PySem.W.Frag} {mg : Str → Option Value} {base : Heap} {T : List (Addr × Str)} {CT CB CI CU : Addr}
abbrev sLead : Stmt := inClass (top 57) 8
theorem scLead : FnScope ["self", "moves", "standing", "k", "move"] ["self", "moves"] (defScope sLead) := ⟨rfl, rfl, rfl, by decide +kernel, rfl, by decide +kernel, by decide +kernel⟩
def spLead (K : PySem.W.Frag) (T : List (Addr × Str)) (CT CB CI : Addr) : Sp := fun vs H Q E => ∃ (js : Js) (ch : List Addr) (bd mq : Addr) (vb : V) (st : StM) (past : List StM) (deeds : Mvs), vs = [.ref bd, .ref mq] ∧ WellJ js ∧ Lv ch H ∧ bd ∈ ch ∧ BoardAt K CT CB H ch bd vb js st past ∧ past.length ≤ 100 ∧ st.2.length ≤ 1000 ∧ st.1.length = js.length ∧
  Dp K (Reg ch H) (.ref mq) (dMs deeds) ∧ deeds.length ≤ 100 ∧ okRun js st.1 deeds ∧
  (∀ pose', runFrom js 0 st.1 deeds = .inr pose' → ∀ H', Fr T [bd] H H' → BoardAt K CT CB H' ch bd vb js (pose', st.2 ++ deeds) (past ++ [st]) → Q .non H') ∧
  (∀ k : Nat, runFrom js 0 st.1 deeds = .inl k → ∀ H' d, Fr T [] H H' → H' d = some (.xd [("given", .int (k : Nat))]) → E (.ref CI) (some d) H')
theorem ok_lead {f : Addr} {fd : FuncData} (F : L2.Fun K "lead" "Board.lead" sLead f fd) (B : Blt mg) (BC : BoardC P w K mg base CB) (DA : Def P w K mg base 3 "after" ["tree", "standing", "move"] (spAfter K T CT))
    (MB : Mth P w K mg base CX0 CB 1 "become" ["self", "standing", "moves"] (spBecome K T CT CB)) (XI : ExcF P w K mg base "InvalidIndex" CI "given") :
    FnOk P w K mg base (L2.CX P w) 4 f fd ["self", "moves"] (spLead K T CT CB CI) := by
  refine F.okX scLead (fun vs H Q E h => ?_) (fun cdv A outer s H vs Q E hr h => ?_)
  · obtain ⟨js, ch, bd, mq, vb, st, past, deeds, rfl, _⟩ := h
    rfl
  · obtain ⟨js, ch, bd, mq, vb, st, past, deeds, rfl, W, lv, hb, bo, hpl, hml, hl, hmv, hdl, hok, q1, q2⟩ := h
    obtain ⟨dx, v1, q0, vs, eb, ht, ⟨an, p, v2, rfl, hn, hp, hv2⟩, hq0, hvs⟩ := id bo
    obtain ⟨mvs, emv, hmq, hmx⟩ : ∃ xs, V.ref mq = V.ref mq ∧ SqT K (Reg ch H) mq xs ∧ DpAll K (Reg ch H) xs (deeds.map dMv) := by
      obtain ⟨a, xs, e, h1, h2⟩ := dp_tup hmv
      cases e
      exact ⟨xs, rfl, h1, h2⟩
    have hr1 : Room 1 _ := hr.mono (by decide)
    refine ⟨_, pss_cons (ps_if (pt_not (pt_val (pe_callB call_isi (by rfl) B.isi (by decide +kernel) (pa_cons (pv 1) (pa_cons (pe_bltn (v := .ty "tuple") (by rfl) B.tuple (by decide +kernel) rfl) pa_nil))))) (pss_one ps_never) pss_nil)
      (pss_cons (ps_set (i := 2) scLead.nd rfl (Or.inl rfl) (pe_propD BC.st BC.f.cl (hr.mono (by decide)) (pv 0)))
      (pss_cons (ps_for (passes_of rfl) rfl (pi_enumT (by rfl) B.enum (pa_cons (pv 1) pa_nil)) (pg_tup rfl (pgs_cons (pg_name (i := 3) scLead.nd rfl (.inl rfl)) (pgs_cons (pg_name (i := 4) scLead.nd rfl (.inl rfl)) pgs_nil)))
        (pss_cons (ps_set (i := 2) scLead.nd rfl (Or.inl rfl) (pe_callD DA (hr.mono (by decide)) (by rfl) (pa_cons (pe_fld (pv 0) rfl) (pa_cons (pv 2) (pa_cons (pv 4) pa_nil)))))
        (pss_one (ps_if (pt_cmpR op_isN (pv 2) pe_non (nomark _)) (pss_one (ps_raise rfl (takes_of rfl rfl rfl rfl) (pmk_exc XI (hr.mono (by decide)) (by rfl) (pa_cons (pv 3) pa_nil)))) pss_nil))))
      (pss_one (ps_expr (pe_methD MB BC.f.cl hr1 (pv 0) (pa_cons (pv 2) (pa_cons (pe_op op_catA (pe_propD BC.mv BC.f.cl (hr.mono (by decide)) (pv 0)) (pv 1)) pa_nil))))))), ?_⟩
    have lmv : mvs.length = deeds.length := by rw [dps_len hmx]; exact List.length_map _
    refine ⟨_, rfl, .ref mq, .ty "tuple", .type "tuple", .type "tuple", true, rfl, .ty _, sqT_ty (Same.seqT reg_same hmq), kit_ty (by decide +kernel), true, rfl, iteF ?_⟩
    refine ⟨_, rfl, bd, dx, _, rfl, eb, bd, dx, _, an, _, _, rfl, eb, bF_n, Same.seqT reg_same hn, ?_⟩
    refine ⟨_, rfl, mq, mvs, rfl, Same.seqT reg_same hmq, for_it (walk_enumT (xs := mvs)) (fun i σ H2 => ∃ c3 c4 pi pose, σ = [some (.ref bd), some (.ref mq), some (.ref pi), c3, c4] ∧ Fr T [] H H2 ∧ Fz (Reg ch H2) pi (vNs pose) ∧ pose.length = js.length ∧ okRun js pose (deeds.drop i) ∧ runFrom js i pose (deeds.drop i) = runFrom js 0 st.1 deeds) ?_ ?_ ?_ ?_⟩
    · exact ⟨none, none, p, st.1, rfl, .refl, hp, hl, hok, rfl⟩
    · rintro i σ H2 _ ⟨_, _, _, _, _, fr, _⟩
      exact fr.sqT0 (Same.seqT reg_same hmq)
    · rintro i y σ H2 H3 hi ⟨c3, c4, pi, pose, rfl, fr, fz, hpo, hrun, heq⟩ ⟨Tp, y1, y2, rfl, nT, rfl, f1, f2⟩
      cases f1
      have f2' : mvs[i]? = some y2 := f2
      have hid : i < deeds.length := by rw [← lmv]; exact hi
      obtain ⟨d, hd⟩ : ∃ d, deeds[i]? = some d := ⟨_, List.getElem?_eq_getElem hid⟩
      obtain ⟨dd, hdd, hdy⟩ := dps_get' hmx f2'
      rw [List.getElem?_map, hd] at hdd
      cases hdd
      obtain ⟨tq, ys, rfl, hys, hdys⟩ := dp_tup hdy
      have eys : ys = [.str d.1, .str d.2] := by
        cases hdys with
        | cons h1 h2 =>
          cases h2 with
          | cons h2 h3 =>
            cases h3
            rw [dp_str' _ _ h1, dp_str' _ _ h2]
      subst eys
      have edrop : deeds.drop i = d :: deeds.drop (i + 1) := by
        rw [List.drop_eq_getElem_cons hid]
        congr 1
        exact (List.getElem?_eq_some_iff.mp hd).2
      rw [edrop] at hrun heq
      obtain ⟨o1, o2, o3⟩ := hrun
      have fr3 : Fr T [] H (upd H2 Tp (.tup [.int (i : Nat), .ref tq])) := fr.trans (.new nT)
      have fr23 : Fr T [] H2 (upd H2 Tp (.tup [.int (i : Nat), .ref tq])) := .new nT
      refine ⟨Tp, _, rfl, .inl (.inl upd_same), rfl, _, _, rfl, _, _, rfl, rfl, ?_⟩
      refine ⟨_, rfl, bd, CB, dx, _, _, rfl, fr3.at0 eb nt_ins, BC.f.cl, BC.f.nB, bF_b, _, rfl, _, rfl, js, ch, vb, pi, tq, pose, d.1, d.2, rfl, W, fr3.lv lv, Same.tree fr3.reg0 ht, Same.fz reg_same (Same.fz fr23.reg0 fz), hpo, Same.seqT reg_same (Same.seqT fr3.reg0 hys), o1, o2, fun leg H4 p4 fr4 fz4 => ?_, fun leg H4 fr4 => ?_⟩
      · refine ⟨_, rfl, rfl, _, rfl, ?_⟩
        rw [show decide (V.ref p4 = V.non) = false from rfl]
        refine iteF ⟨some (.int (i : Nat)), some (.ref tq), p4, stepD js pose d, rfl, fr3.trans fr4, fz4, by rw [step_len]; exact hpo, o3 leg, ?_⟩
        rw [← heq]
        show _ = if legalD js pose d = true then runFrom js (i + 1) (stepD js pose d) (deeds.drop (i + 1)) else _
        rw [if_pos (show legalD js pose d = true from leg)]
      · refine ⟨_, rfl, rfl, _, rfl, iteT ⟨_, rfl, by show 1 ≤ 1000; decide, exc_done fun d' H' s _ e => ?_⟩⟩
        refine q2 i ?_ H' d' ((fr3.trans fr4).trans (.of_same s)) e
        rw [← heq]
        show (if legalD js pose d = true then runFrom js (i + 1) (stepD js pose d) (deeds.drop (i + 1)) else Sum.inl i) = _
        rw [if_neg (by show ¬ (legalD js pose d = true); unfold legalD; rw [leg]; exact Bool.false_ne_true)]
    · rintro σ H2 ⟨c3, c4, pi, pose, rfl, fr, fz, hpo, hrun, heq⟩
      rw [lmv, List.drop_length] at heq
      have eb2 := fr.at0 eb nt_ins
      have hn2 : SqT K H2 an [.ref p, v2] := Same.seqT reg_same (Same.seqT fr.reg0 hn)
      obtain ⟨wq, wxs, rfl, hwq, hwx⟩ := dp_tup hv2
      have lw : wxs.length = st.2.length := by rw [dps_len hwx]; exact List.length_map _
      have sl := sizeLine_eq
      have key : ∀ (H' : Hp) (q' : Addr), Fr T [] H2 H' → Dp K (Reg ch H') (.ref q') (dMs (st.2 ++ deeds)) → spBecome K T CT CB [.ref bd, .ref pi, .ref q'] H' (fun _ H'' => Q .non H'') (fun _ _ _ => False) := fun H' q' fr' hd' =>
        ⟨js, ch, bd, pi, vb, _, st, (pose, st.2 ++ deeds), past, rfl, (fr.trans fr').lv lv, hb, (fr.trans fr').board0 bo, hpl, Same.fz fr'.reg0 fz, hd', fun H4 fr4 bo4 => q1 pose heq.symm H4 ((fr.trans fr').nil.trans fr4) bo4⟩
      have hwR := Same.seqT fr.reg0 hwq
      have hmR := Same.seqT fr.reg0 hmq
      have dall : DpAll K (Reg ch H2) (wxs ++ mvs) ((st.2 ++ deeds).map dMv) := by
        rw [List.map_append]
        exact dps_app (Same.dps fr.reg0 hwx) (Same.dps fr.reg0 hmx)
      refine ⟨_, rfl, bd, dx, _, rfl, eb2, bF_no (by decide +kernel) (by decide +kernel) (by decide +kernel), _, rfl, _, rfl, bd, dx, _, rfl, eb2, bd, dx, _, an, _, _, rfl, eb2, bF_n, hn2, _, rfl, wq, mq, wxs, mvs, rfl, rfl, Same.seqT reg_same hwR, Same.seqT reg_same hmR, by omega, fun e => ?_, fun _ e => ?_, fun _ _ t1 n1 => ?_⟩
      · refine key H2 mq .refl ?_
        subst e
        exact .tup hmR dall
      · refine key H2 wq .refl ?_
        subst e
        rw [List.append_nil] at dall
        exact .tup hwR dall
      · refine key _ t1 (.new n1) ?_
        exact new_tup (fr.lv lv) n1 dall
/-! ### undo -/
abbrev sUndo : Stmt := inClass (top 57) 10
theorem scUndo : FnScope ["self"] ["self"] (defScope sUndo) := ⟨rfl, rfl, rfl, by decide +kernel, rfl, by decide +kernel, by decide +kernel⟩
def spUndo (K : PySem.W.Frag) (T : List (Addr × Str)) (CT CB CU : Addr) : Sp := fun vs H Q E => ∃ (js : Js) (ch : List Addr) (bd : Addr) (vb : V) (st : StM) (past : List StM), vs = [.ref bd] ∧ Lv ch H ∧ bd ∈ ch ∧ BoardAt K CT CB H ch bd vb js st past ∧
  (∀ past' st', past = past' ++ [st'] → ∀ H', Fr T [bd] H H' → BoardAt K CT CB H' ch bd vb js st' past' → Q .non H') ∧ (past = [] → ∀ H', Fr T [] H H' → E (.ref CU) none H')
theorem dP_plain (p : Pose) : (dP p).plain = true := plain_map (fun x => by cases x <;> rfl) p
theorem dP_depth (p : Pose) : (dP p).depth ≤ 1 := by
  have := depth_map (g := dN) (n := 0) (fun x => by cases x <;> exact Nat.le_refl _) p
  simp only [PyData.depth]
  omega
theorem dMs_plain (m : Mvs) : (dMs m).plain = true := plain_map (fun x => rfl) m
theorem dMs_depth (m : Mvs) : (dMs m).depth ≤ 2 := by
  have := depth_map (g := dMv) (n := 1) (fun x => by simp [PyData.depth, PyData.depthAll]) m
  simp only [PyData.depth]
  omega
theorem dSt_plain (st : StM) : (dSt st).plain = true := by
  show ((dP st.1).plain && ((dMs st.2).plain && true)) = true
  rw [dP_plain, dMs_plain]
  rfl
theorem dSt_depth (st : StM) : (dSt st).depth ≤ 3 := by
  have h1 := dP_depth st.1
  have h2 := dMs_depth st.2
  simp only [PyData.depth, PyData.depthAll] at h1 h2 ⊢
  omega
structure ExcU (K : PySem.W.Frag) (mg : Str → Option Value) (x : Str) (C : Addr) : Prop where
  q : PySem.W.excIn K C [.type "ArithmeticError", .type "Exception", .type "BaseException", .type "object"] "ArithmeticError.__new__" = true
  gC : mg x = some (.ref C)
  kC : PySem.W.keepIn K (.ref C) = true
  sub : PySem.W.subIn K (.ref C) (.type "BaseException") = some true
  ty : PySem.W.typeIn K (.ref C) = some (.type "type")
theorem cutm (xs : List V) (y : V) : cutV (xs ++ [y]) none (some (-1)) = xs := by
  unfold cutV
  have h : HT.sIx (xs ++ [y]).length (xs ++ [y]).length (some (-1)) = xs.length := by
    unfold HT.sIx
    rw [List.length_append]
    simp
    omega
  rw [HT.sIx_none, h]
  show List.take (xs.length - 0) (xs ++ [y]) = xs
  rw [Nat.sub_zero, List.take_left]
theorem ok_undo {f : Addr} {fd : FuncData} (F : L2.Fun K "undo" "Board.undo" sUndo f fd) (BF : BoardF K CB) (XU : ExcU K mg "NothingToUndo" CU) : FnOk P w K mg base (L2.CX P w) 1 f fd ["self"] (spUndo K T CT CB CU) := by
  refine F.okX scUndo (fun vs H Q E h => ?_) (fun cdv A outer s H vs Q E hr h => ?_)
  · obtain ⟨js, ch, bd, vb, st, past, rfl, _⟩ := h
    rfl
  · obtain ⟨js, ch, bd, vb, st, past, rfl, lv, hb, ⟨dx, v1, q0, vs, eb, ht, hst, hq0, hvs⟩, q1, q2⟩ := h
    have sub : ∀ b ∈ [bd], b ∈ ch := fun b h => by rw [List.mem_singleton.mp h]; exact hb
    have nbt : ∀ t, t ∉ ch → t ≠ bd := fun t h z => h (by rw [z]; exact hb)
    refine ⟨_, pss_cons (ps_if (pt_cmpR (op_eqP hr.units) (pe_fld (pv 0) rfl) (pe_tup pa_nil) (nomark _)) (pss_one (ps_raise rfl (takes_of rfl rfl rfl rfl) (pmk_own0 PySem.F.excBase_ArithmeticError XU.q XU.gC XU.kC (raises_own XU.sub XU.ty) (by rfl)))) pss_nil)
      (pss_cons (ps_fld (pv 0) (pe_ix ix_tup (pe_fld (pv 0) rfl) (pe_un un_neg pe_int) (fun _ _ => rfl)) rfl)
      (pss_one (ps_fld (pv 0) (pe_slice sl_tupA (pe_fld (pv 0) rfl) po_none (po_some (pe_un un_neg pe_int))) rfl))), ?_⟩
    have hq0H := Same.seqT reg_same hq0
    refine ⟨_, rfl, bd, CB, dx, _, _, rfl, eb, BF.cl, BF.nP, bF_p, Nat.zero_le _, fun t0 n0 => ⟨_, _, .tup (Same.seqT (same_new n0) hq0H) (Same.dps (same_new n0) (dps_in hvs.dps)), .tup (.inl (.inl upd_same)) .nil, plain_map dSt_plain past, rfl, ?_, _, rfl, ?_⟩⟩
    · have := depth_map dSt_depth past
      simp only [PyData.depth]
      omega
    have fr0 : Fr T [] H (upd H t0 (.tup [])) := .new n0
    have eb0 := fr0.at0 eb nt_ins
    by_cases hp : past = []
    · subst hp
      refine iteT' rfl ?_
      exact q2 rfl _ fr0
    · obtain ⟨past', st', rfl⟩ : ∃ p' s', past = p' ++ [s'] := ⟨_, _, (List.dropLast_concat_getLast hp).symm⟩
      refine iteF' (by cases past' <;> rfl) ?_
      obtain ⟨ws, u, rfl, hws, hu⟩ := hvs.unsnoc
      have hq1 : SqT K (upd H t0 (.tup [])) q0 (ws ++ [u]) := Same.seqT (same_new n0) hq0H
      refine ⟨_, rfl, bd, CB, dx, _, _, rfl, eb0, BF.cl, BF.nP, bF_p, 1, rfl, q0, _, -1, u, rfl, rfl, hq1, atI_last _ _, _, rfl, bd, CB, dx, _, rfl, eb0, BF.cl, BF.nN, by rw [bF_eq]; show 3 < 1000; decide, ?_⟩
      rw [bF_pn]
      have fr1 : Fr T [bd] H (upd (upd H t0 (.tup [])) bd (.ins CB dx (bFlds vb u (.ref q0)))) := fr0.nil.trans (.write eb0 wr_ins nt_ins (List.mem_singleton.mpr rfl))
      have eb1 : (upd (upd H t0 (.tup [])) bd (.ins CB dx (bFlds vb u (.ref q0)))) bd = some (.ins CB dx (bFlds vb u (.ref q0))) := upd_same
      generalize (upd (upd H t0 (.tup [])) bd (.ins CB dx (bFlds vb u (.ref q0)))) = H1 at fr1 eb1 ⊢
      have sm1 := fr1.reg sub
      refine ⟨_, rfl, bd, CB, dx, _, _, rfl, eb1, BF.cl, BF.nP, bF_p, 1, rfl, -1, rfl, q0, _, rfl, Same.seqT reg_same (Same.seqT sm1 hq0), fun hw => ?_, fun _ t1 n1 => ?_⟩
      · exfalso
        have h2 := hw.2
        have h : HT.sIx (ws ++ [u]).length (ws ++ [u]).length (some (-1)) = ws.length := by
          unfold HT.sIx
          rw [List.length_append]
          simp
          omega
        have h3 : HT.sIx (ws ++ [u]).length (ws ++ [u]).length (some (-1)) = (ws ++ [u]).length := h2
        rw [h, List.length_append] at h3
        simp at h3
      · rw [show cutV (ws ++ [u]) none (some (-1)) = ws from cutm ws u]
        refine ⟨_, rfl, bd, CB, dx, _, rfl, by rw [upd_ne (ne_of_none eb1 n1)]; exact eb1, BF.cl, BF.nP, by rw [bF_eq]; show 3 < 1000; decide, ?_⟩
        rw [bF_pp]
        have fr2 : Fr T [bd] H (upd (upd H1 t1 (.tup ws)) bd (.ins CB dx (bFlds vb u (.ref t1)))) := (fr1.trans (.new n1)).trans (.write (by rw [upd_ne (ne_of_none eb1 n1)]; exact eb1) wr_ins nt_ins (List.mem_singleton.mpr rfl))
        have c1 : t1 ∉ ch := (fr1.lv lv).fresh n1
        have sm := fr2.reg sub
        exact q1 past' st' rfl _ fr2 ⟨dx, u, t1, ws, upd_same, Same.tree sm ht, same_st sm hu, .inl (.inl (reg_in c1 (by rw [upd_ne (nbt t1 c1), upd_same]) nt_tup)), same_sts sm hws⟩
end
end Tz
end -- W11
section -- W12
set_option maxHeartbeats 4000000
namespace Tz
open PySem PySem.Spec PyProof.Rows L2 TL
theorem wnb (js : Js) {y : Nat} (h : y < js.length) : ((trOf js).nb y).Nodup := Tb.Tr.nodup_nb (T := trOf js) y h
section
variable {P : Program} {w : World} {K : PySem.W.Frag} {mg : Str → Option Value} {base : Heap} {T : List (Addr × Str)} {CT : Addr}
/-! ### lane_from -/
abbrev sLaneFrom : Stmt := top 41
theorem scLaneFrom : FnScope ["tree", "start", "later", "found", "k"] ["tree", "start", "later"] (defScope sLaneFrom) := ⟨rfl, rfl, rfl, by decide +kernel, rfl, by decide +kernel, by decide +kernel⟩
def spLaneFrom (K : PySem.W.Frag) (T : List (Addr × Str)) (CT : Addr) : Sp := fun vs H Q _ => ∃ (js : Js) (ch : List Addr) (v : V) (x y : Nat), vs = [v, .int (x : Nat), .int (y : Nat)] ∧ WellJ js ∧ Lv ch H ∧ TreeAt K CT (Reg ch H) v js ∧ (trOf js).Adj x y ∧
  ∀ H' p l, Fr T [] H H' → Nw H p → H' p = some (.lst (vIs l)) → (trOf js).IsLane x y l → l.length ≤ 9 → Q (.ref p) H'
theorem at_back1 (t : List Nat) (z : Nat) : atI (vIs (t ++ [z])) (-1) = some (.int (z : Nat)) := by
  rw [vIs_snoc]
  exact atI_last _ _
theorem at_back2 (t : List Nat) (y z : Nat) : atI (vIs (t ++ [y, z])) (-2) = some (.int (y : Nat)) := by
  have hl : (vIs (t ++ [y, z])).length = t.length + 2 := by rw [List.length_map, List.length_append]; rfl
  unfold atI
  have e : ixN (vIs (t ++ [y, z])).length (-2) = some t.length := by
    unfold ixN
    rw [hl, if_neg (by omega), if_pos (by omega)]
    congr 1
    omega
  rw [e]
  show (vIs (t ++ [y, z]))[t.length]? = _
  rw [List.getElem?_map]
  simp
theorem two_back (r : List Nat) (x y : Nat) : ∃ t, x :: y :: r = t ++ [(Tb.lastTwo x y r).2, (Tb.lastTwo x y r).1] := by
  obtain ⟨t, e⟩ := Tb.lastTwo_rev r x y
  refine ⟨t.reverse, ?_⟩
  have := congrArg List.reverse e
  rw [List.reverse_reverse] at this
  rw [this]
  simp
theorem ok_lanefrom {f : Addr} {fd : FuncData} (F : L2.Fun K "lane_from" "lane_from" sLaneFrom f fd) (B : Blt mg) (C : TreeC P w K mg base T CT) : FnOk P w K mg base CX0 1 f fd ["tree", "start", "later"] (spLaneFrom K T CT) := by
  refine F.ok scLaneFrom (fun vs H Q E h => ?_) (fun cdv A outer s H vs Q E hr h => ?_)
  · obtain ⟨js, ch, v, x, y, rfl, _⟩ := h
    rfl
  · obtain ⟨js, ch, v, x, y, rfl, W, lv, ht, hadj, q⟩ := h
    obtain ⟨ta, tdx, tfs, l, xs, rfl, eta, el, hsl, hdl⟩ := ht.links
    have hn : (trOf js).n = js.length := rfl
    refine ⟨_, pss_cons (ps_set (i := 3) scLaneFrom.nd rfl (Or.inr rfl) (pe_lst (pa_cons (pv 1) (pa_cons (pv 2) pa_nil))))
      (pss_cons (ps_while PassesOwn.never (pt_cmpR op_eq (pe_callB call_len_seq (by rfl) B.len PySem.boot_len (pa_cons (pe_ix ix_list (pe_fld (pv 0) rfl) (pe_ix ix_list (pv 3) (pe_un un_neg pe_int) (fun _ _ => rfl)) (fun _ _ => rfl)) pa_nil)) pe_int (nomark _))
        (pss_one (ps_expr (pe_bm PySem.F.plainAttrs_list PySem.F.slot_list_extend PySem.F.type_list_extend mt_extend (pv 3) (pa_cons
          (pe_lc (own := [("k", 4)]) (g := gName 4) (tt := tTest (tOp rNe (tVar 4) (tOp (rIxL K) (tVar 3) (tUn (rU fun i => .int (-i)) (tC (.int 2)))))) rfl scLaneFrom.nd (pi_list (pe_ix ix_list (pe_fld (pv 0) rfl) (pe_ix ix_list (pv 3) (pe_un un_neg pe_int) (fun _ _ => rfl)) (fun _ _ => rfl))) (blkOk_by (N := ["tree", "start", "later", "found", "k"]) (sc := defScope sLaneFrom) (by decide +kernel))
            (fun _ _ _ _ _ => pg_name (i := 4) scLaneFrom.nd rfl (Or.inl rfl)) (fun _ _ _ _ _ => pts_one (pt_cmpR op_ne (pv 4) (pe_ix ix_list (pv 3) (pe_un un_neg pe_int) (fun _ _ => rfl)) (nomark _))) (fun _ _ _ _ _ => pv 4)) pa_nil)))))
      (pss_one (ps_ret (pv 3)))), ?_⟩
    have sl := sizeLine_eq
    refine ⟨_, rfl, _, rfl, by show 2 ≤ sizeLine; decide, fun fo nfo => ?_⟩
    refine while_by (fun σ H2 => ∃ r c4, σ = [some (.ref ta), some (.int (x : Nat)), some (.int (y : Nat)), some (.ref fo), c4] ∧ Fr T [fo] H H2 ∧ H2 fo = some (.lst (vIs (x :: y :: r))) ∧ (trOf js).Lane (x :: y :: r))
      (fun σ H2 => 20 - (match H2 fo with | some (.lst zs) => zs.length | _ => 0)) ?_ ?_ ?_
    · exact ⟨[], none, rfl, .new nfo, upd_same, hadj⟩
    · rintro σ H2 ⟨r, c4, rfl, fr, ef, hL⟩
      have fr0 : Fr T [] H H2 := fr.drop (nw_none nfo)
      have hlt := hL.lt
      have hlen : (x :: y :: r).length ≤ js.length := Tb.len_le hL.nodup hlt
      have h9 := W.top
      obtain ⟨t, et⟩ := two_back r x y
      have hz := hL.lastAdj
      generalize hz1 : (Tb.lastTwo x y r).1 = z at et hz
      generalize hz2 : (Tb.lastTwo x y r).2 = u at et hz
      have hzn : z < js.length := hz.1
      have a1 : atI (vIs (x :: y :: r)) (-1) = some (.int (z : Nat)) := by
        rw [et, show t ++ [u, z] = (t ++ [u]) ++ [z] by simp]
        exact at_back1 _ _
      have a2 : atI (vIs (x :: y :: r)) (-2) = some (.int (u : Nat)) := by
        rw [et]
        exact at_back2 _ _ _
      obtain ⟨ra, er, hra⟩ := links_at hdl hzn
      have hra2 : SqL K H2 ra (vIs ((trOf js).nb z)) := reg_same.seq (fr0.reg0.seq hra)
      refine ⟨_, rfl, ta, CT, tdx, tfs, _, rfl, reg_same _ _ (fr0.reg0 _ _ eta), C.f.cl, C.f.nL, el, _, rfl, 1, rfl, fo, _, -1, _, rfl, rfl, .inl (.inl ef), a1, l, _, _, _, rfl, rfl, reg_same.seq (fr0.reg0.seq hsl), atI_nat er, ra, _, rfl, .inl hra2, rfl, _, rfl, ?_⟩
      by_cases h2 : ((trOf js).nb z).length = 2
      · refine iteT' (decide_eq_true (by rw [List.length_map, h2]; rfl)) ?_
        have nd := wnb js hzn
        obtain ⟨z', hne, hz', hall, hfil⟩ := Tb.two_nb nd h2 ((Tb.Tr.mem_nb (T := trOf js) hzn).mpr hz)
        refine ⟨_, rfl, .inl ⟨rfl, _, .inl (.inl ef)⟩, _, rfl, ta, CT, tdx, tfs, _, rfl, reg_same _ _ (fr0.reg0 _ _ eta), C.f.cl, C.f.nL, el, _, rfl, 1, rfl, fo, _, -1, _, rfl, rfl, .inl (.inl ef), a1, l, _, _, _, rfl, rfl, reg_same.seq (fr0.reg0.seq hsl), atI_nat er, ra, rfl, ⟨_, hra2⟩, fun D nD =>
          lc_it (walk_list (xs := vIs ((trOf js).nb z))) (fun i H3 => Fr T [D] H2 H3 ∧ H3 D = some (.lst (vIs ((((trOf js).nb z).take i).filter fun k => decide (k ≠ u))))) ?_ ?_ ?_ ?_⟩
        · exact ⟨.new nD, upd_same⟩
        · rintro i H3 _ ⟨frd, _⟩
          exact (frd.drop (nw_none nD)).sqL0 hra2
        · rintro i v H3 H4 hi ⟨frd, eD⟩ ⟨rfl, hv⟩
          obtain ⟨b, hb, rfl⟩ := map_at hv
          have frd0 := frd.drop (nw_none nD)
          have ef3 := frd0.at0 ef nt_lst
          have hcnt : ((((trOf js).nb z).take i).filter fun k => decide (k ≠ u)).length < sizeLine := by
            have h1 := List.length_filter_le (fun k => decide (k ≠ u)) (((trOf js).nb z).take i)
            rw [List.length_take] at h1
            omega
          refine ⟨rfl, _, rfl, _, rfl, 2, rfl, fo, _, -2, _, rfl, rfl, .inl (.inl ef3), a2, rfl, _, rfl, ?_⟩
          rw [take_snoc hb, List.filter_append]
          by_cases hbu : b = u
          · subst hbu
            refine iteF' (by rw [decide_eq_true rfl]; rfl) ⟨frd, ?_⟩
            have e : ([b] : List Nat).filter (fun k => decide (k ≠ b)) = [] := by simp
            rw [e, List.append_nil]
            exact eD
          · refine iteT' (by rw [decide_eq_false (fun e => hbu (by have := V.int.inj e; omega))]; rfl) ⟨_, rfl, _, eD, by rw [List.length_map]; exact hcnt, frd.trans (.write eD wr_lst nt_lst (List.mem_singleton.mpr rfl)), ?_⟩
            have e : ([b] : List Nat).filter (fun k => decide (k ≠ u)) = [b] := by simp [hbu]
            rw [upd_same, e, vIs_snoc]
        · rintro H3 ⟨frd, eD⟩
          have frd0 := frd.drop (nw_none nD)
          have ef3 := frd0.at0 ef nt_lst
          rw [List.length_map, List.take_of_length_le (Nat.le_refl _), hfil] at eD
          have elen : (vIs (x :: y :: r)).length = (x :: y :: r).length := List.length_map _
          have e2 : vIs (x :: y :: r) ++ vIs [z'] = vIs (x :: y :: (r ++ [z'])) := by
            rw [← List.map_append]
            rfl
          refine ⟨fo, D, _, _, rfl, rfl, ef3, eD, by rw [elen]; show (x :: y :: r).length + 1 ≤ _; omega, ?_⟩
          rw [e2]
          refine ⟨⟨r ++ [z'], c4, rfl, fr.trans (frd0.nil.trans (.write ef3 wr_lst nt_lst (List.mem_singleton.mpr rfl))), upd_same, ?_⟩, ?_⟩
          · refine hL.snoc ?_ ?_ fun b hb => ?_
            · rw [hz1]
              exact (Tb.Tr.mem_nb (T := trOf js) hzn).mp hz'
            · rw [hz2]
              exact hne
            · rw [hz2]
              rw [hz1] at hb
              exact hall b ((Tb.Tr.mem_nb (T := trOf js) hzn).mpr hb)
          · show 20 - (match (upd H3 fo (.lst (vIs (x :: y :: (r ++ [z']))))) fo with | some (.lst zs) => zs.length | _ => 0) < 20 - (match H2 fo with | some (.lst zs) => zs.length | _ => 0)
            rw [upd_same, ef]
            show 20 - (vIs (x :: y :: (r ++ [z']))).length < 20 - (vIs (x :: y :: r)).length
            rw [elen, List.length_map]
            simp only [List.length_cons, List.length_append, List.length_nil] at hlen ⊢
            omega
      · refine iteF' (decide_eq_false fun e => h2 (by have := V.int.inj e; rw [List.length_map] at this; omega)) ?_
        exact ⟨_, rfl, q H2 fo _ fr0 (nw_none nfo) ef ⟨r, rfl, hL, by rw [hz1]; exact h2⟩ (by omega)⟩
    · intro σ H2 Q1 Q2 hq h
      obtain ⟨v0, e0, a, C, dx, fs, vv, ea, eH, cl, na, el, v3, e3, i, ei, p, xs, i', z, ep, ei', sq, at', p2, xs2, i2, z2, ep2, ei2, sq2, at2, pp, ys, exs, hsq, sc, k, ek, q⟩ := h
      exact ⟨v0, e0, a, C, dx, fs, vv, ea, eH, cl, na, el, v3, e3, i, ei, p, xs, i', z, ep, ei', sq, at', p2, xs2, i2, z2, ep2, ei2, sq2, at2, pp, ys, exs, hsq, sc, k, ek, hq _ _ q⟩
end
end Tz
end -- W12
section -- W13
set_option maxHeartbeats 4000000
namespace Tz
open PySem PySem.Spec PyProof.Rows L2 TL
section
variable {P : Program} {w : World} {K : PySem.W.Frag} {mg : Str → Option Value} {base : Heap} {T : List (Addr × Str)} {CT : Addr}
/-- a def whose code object is known -/
theorem okC {x qual : Str} {st : Stmt} {f c : Addr} {fd : FuncData} {N ps : List Str} {k : Nat} {sp : Sp} (F : L2.Fun K x qual st f fd) (hc : fd.code = .ref c) (S : FnScope N ps (defScope st)) (len : ∀ vs H Q E, sp vs H Q E → vs.length = ps.length)
    (hbody : ∀ (A : Around) (outer : List Env) (s : Shared) (H : Hp) (vs : List V) (Q : VK) (E : XK), Room k (A.deeper (envOfC qual (defScope st) s.heap.objs.size f (.ref c))) → sp vs H Q E →
      ∃ t, PSs (cxOf CX0 P w K mg base N qual (defScope st) f (.ref c) A outer s H E).nox (defBody st) t ∧ t { nx := fun _ H' => Q .non H', rt := Q } (L2.start N vs) H) : FnOk P w K mg base CX0 (k + 1) f fd ps sp := by
  obtain ⟨oc, od, kV, doc, pm, an, cdv, ct, osl, rfl, lk, hcd⟩ := F.ex
  have e : cdv = .ref c := hc
  subst e
  refine fn_of lk hcd S len fun A outer s H vs Q E hr hsp => ?_
  obtain ⟨t, h, q⟩ := hbody A outer s H vs Q E hr hsp
  exact ⟨t, h.nox, q⟩
theorem okGC {x qual : Str} {st : Stmt} {f c : Addr} {fd : FuncData} {N ps : List Str} {k : Nat} {sp : Sp} (F : L2.Fun K x qual st f fd) (hc : fd.code = .ref c) (S : FnScope N ps (defScope st)) (len : ∀ vs H Q E, sp vs H Q E → vs.length = ps.length)
    (hbody : ∀ (A : Around) (outer : List Env) (s : Shared) (H : Hp) (vs : List V) (Q : VK) (E : XK), Room k (A.deeper (envOfC qual (defScope st) s.heap.objs.size f (.ref c))) → A.guards = some [] → sp vs H Q E →
      ∃ t, PSs (cxOf CX0 P w K mg base N qual (defScope st) f (.ref c) A outer s H E).nox (defBody st) t ∧ t { nx := fun _ H' => Q .non H', rt := Q } (L2.start N vs) H) : FnG P w K mg base (k + 1) f fd ps sp := by
  obtain ⟨oc, od, kV, doc, pm, an, cdv, ct, osl, rfl, lk, hcd⟩ := F.ex
  have e : cdv = .ref c := hc
  subst e
  refine ⟨len, fun A outer s H args us vs Q E hr hg e0 hb r hsp => ?_⟩
  refine LamX.run_ofS (N := N) lk hcd S hr e0 hb r (len _ _ _ _ hsp) fun hr' => ?_
  obtain ⟨t, h, q⟩ := hbody A outer s H vs Q E hr' hg hsp
  exact ⟨t, h.nox, q⟩
/-! ### all_lanes -/
abbrev dLn (l : List Nat) : PyData := .list (dIs l)
abbrev sLanes : Stmt := top 42
abbrev nLanes : List Str := ["tree", "found", "start", "mates", "lanes_here", "mate", "lane"]
theorem scLanes : FnScope nLanes ["tree"] (defScope sLanes) := ⟨rfl, rfl, rfl, by decide +kernel, rfl, by decide +kernel, by decide +kernel⟩
def spLanes (K : PySem.W.Frag) (T : List (Addr × Str)) (CT : Addr) : Sp := fun vs H Q _ => ∃ (js : Js) (ch : List Addr) (v : V), vs = [v] ∧ WellJ js ∧ Lv ch H ∧ LamX.Tabs T H ∧ TreeAt K CT (Reg ch H) v js ∧ ∀ H' r L, Fr T [] H H' → Dp K (Reg ch H') r (.list (L.map dLn)) → (trOf js).IsLanes js.length L → Q r H'
/-- the lanes that are made: where each stands -/
abbrev Ts : Type := List (Addr × List Nat)
def TsAt (H : Hp) (ts : Ts) : Prop := ∀ t ∈ ts, H t.1 = some (.lst (vIs t.2)) ∧ t.2 ≠ []
theorem ts_sort (ts : Ts) : ((ts.map fun t => (V.ref t.1, (Tb.lastOf t.2 : Int))).mergeSort fun x y => decide (x.2 ≤ y.2)).map (·.1) = (ts.mergeSort fun a b => decide ((Tb.lastOf a.2 : Int) ≤ (Tb.lastOf b.2 : Int))).map fun t => V.ref t.1 := by
  have := List.map_mergeSort (r := fun a b : Addr × List Nat => decide ((Tb.lastOf a.2 : Int) ≤ (Tb.lastOf b.2 : Int))) (s := fun x y : V × Int => decide (x.2 ≤ y.2)) (f := fun t => (V.ref t.1, (Tb.lastOf t.2 : Int))) (l := ts) fun a _ b _ => rfl
  rw [← this, List.map_map]
  rfl
theorem ts_sort2 (ts : Ts) : (ts.mergeSort fun a b => decide ((Tb.lastOf a.2 : Int) ≤ (Tb.lastOf b.2 : Int))).map (·.2) = Tb.sortL (ts.map (·.2)) := by
  have := List.map_mergeSort (r := fun a b : Addr × List Nat => decide ((Tb.lastOf a.2 : Int) ≤ (Tb.lastOf b.2 : Int))) (s := fun x y : List Nat => decide ((Tb.lastOf x : Int) ≤ (Tb.lastOf y : Int))) (f := fun t => t.2) (l := ts) fun a _ b _ => rfl
  rw [this]
  rfl
theorem ts_dps {ch : List Addr} {H : Hp} {ts : Ts} (h : TsAt H ts) (n : ∀ t ∈ ts, t.1 ∉ ch) : DpAll K (Reg ch H) (ts.map fun t => V.ref t.1) ((ts.map (·.2)).map dLn) := by
  induction ts with
  | nil => exact .nil
  | cons t ts ih =>
    refine .cons (.lst (.inl (.inl (reg_in (n t (List.mem_cons_self ..)) (h t (List.mem_cons_self ..)).1 nt_lst))) (is_dps _)) (ih (fun u hu => h u (List.mem_cons_of_mem _ hu)) fun u hu => n u (List.mem_cons_of_mem _ hu))
theorem last_at {l : List Nat} (h : l ≠ []) : atI (vIs l) (-1) = some (.int (Tb.lastOf l : Nat)) := by
  obtain ⟨t, z, rfl⟩ : ∃ t z, l = t ++ [z] := ⟨_, _, (List.dropLast_concat_getLast h).symm⟩
  have e : Tb.lastOf (t ++ [z]) = z := by simp [Tb.lastOf]
  rw [e]
  exact at_back1 _ _
theorem nb_len (T : Tb.Tr) (x : Nat) : (T.nb x).length ≤ T.n := by
  by_cases h : x < T.n
  · exact Tb.len_le (Tb.Tr.nodup_nb x h) fun k hk => ((Tb.Tr.mem_nb h).mp hk).2.1
  · have e : T.nb x = [] := by
      unfold Tb.Tr.nb Tb.Tr.nbTo
      rw [if_neg (by omega), List.nil_append, List.filter_eq_nil_iff]
      intro k hk
      have hk' := List.mem_range.mp hk
      simp only [decide_eq_true_eq, not_and]
      intro h1 h2
      have := T.lt k h1 hk'
      omega
    rw [e]
    exact Nat.zero_le _
theorem isLane_ne {T : Tb.Tr} {x y : Nat} {l : List Nat} (h : T.IsLane x y l) : l ≠ [] := by
  obtain ⟨r, rfl, _⟩ := h
  exact fun z => nomatch z
theorem ok_lanes {f c tb : Addr} {fd : FuncData} (F : L2.Fun K "all_lanes" "all_lanes" sLanes f fd) (hc : fd.code = .ref c) (TB : LamX.TabB base mg c tb) (hmT : (tb, ("all_lanes" : Str) ++ ".<locals>." ++ "<lambda>") ∈ T) (hu : ∀ p ∈ T, p.1 = tb → p.2 = ("all_lanes" : Str) ++ ".<locals>." ++ "<lambda>")
    (B : Blt mg) (C : TreeC P w K mg base T CT) (DF : Def P w K mg base 1 "lane_from" ["tree", "start", "later"] (spLaneFrom K T CT)) : FnOk P w K mg base CX0 4 f fd ["tree"] (spLanes K T CT) := by
  refine okC F hc scLanes (fun vs H Q E h => ?_) (fun A outer s H vs Q E hr h => ?_)
  · obtain ⟨js, ch, v, rfl, _⟩ := h
    rfl
  · obtain ⟨js, ch, v, rfl, W, lv, tabs, ht, q⟩ := h
    obtain ⟨ta, tdx, tfs, l, xs, rfl, eta, el, hsl, hdl⟩ := ht.links
    refine ⟨_, pss_cons (ps_set (i := 1) scLanes.nd rfl (Or.inl rfl) (pe_lst pa_nil))
      (pss_cons (ps_for PassesOwn.never rfl (pi_enum (by rfl) B.enum (pa_cons (pe_fld (pv 0) rfl) pa_nil)) (pg_tup rfl (pgs_cons (pg_name (i := 2) scLanes.nd rfl (.inr rfl)) (pgs_cons (pg_name (i := 3) scLanes.nd rfl (.inl rfl)) pgs_nil)))
        (pss_one (ps_if (pt_cmpR op_ne (pe_callB call_len_seq (by rfl) B.len PySem.boot_len (pa_cons (pv 3) pa_nil)) pe_int (nomark _))
          (pss_cons (ps_setLc (i := 4) (own := [("mate", 5)]) (g := gName 5) (tt := tYes) (te := tCall (spLaneFrom K T CT) [] (fun _ _ _ => False) (tCons (tVar 0) (tCons (tVar 2) (tCons (tVar 5) tNil)))) rfl scLanes.nd rfl rfl (sw_true rfl rfl rfl (by decide +kernel)) (pi_list (pv 3)) (blkOk_by (N := nLanes) (sc := defScope sLanes) (by decide +kernel))
              (fun _ _ _ _ _ => pg_name (i := 5) scLanes.nd rfl (Or.inl rfl)) (fun _ _ _ _ _ => pts_nil) (fun _ _ _ _ _ => pe_callD DF (hr.mono (by decide)) (by rfl) (pa_cons (pv 0) (pa_cons (pv 2) (pa_cons (pv 5) pa_nil)))))
          (pss_one (ps_expr (pe_bm PySem.F.plainAttrs_list PySem.F.slot_list_extend PySem.F.type_list_extend mt_extend (pv 1) (pa_cons
            (pe_sortLam (n := "lane") B.sorted hr (pa_cons (pe_lc (own := [("lane", 6)]) (g := gName 6) (tt := tTest (tOp (rI0 fun i j => .bl (decide (i > j))) (tOp (rIxL K) (tVar 6) (tUn (rU fun i => .int (-i)) (tC (.int 1)))) (tVar 2))) rfl scLanes.nd (pi_list (pv 4)) (blkOk_by (N := nLanes) (sc := defScope sLanes) (by decide +kernel))
              (fun _ _ _ _ _ => pg_name (i := 6) scLanes.nd rfl (Or.inl rfl)) (fun _ _ _ _ _ => pts_one (pt_cmpR op_gt (pe_ix ix_list (pv 6) (pe_un un_neg pe_int) (fun _ _ => rfl)) (pv 2) (nomark _))) (fun _ _ _ _ _ => pv 6)) pa_nil)
              TB rfl hmT hu rfl (fun _ _ _ _ _ => rfl) rfl rfl rfl rfl (by decide +kernel) (by rfl)) pa_nil))))) pss_nil)))
      (pss_one (ps_ret (pv 1)))), ?_⟩
    have h9 := W.top
    have sl := sizeLine_eq
    refine ⟨Nat.zero_le _, fun fo nfo => ?_⟩
    have fr0 : Fr T [fo] H (upd H fo (.lst [])) := .new nfo
    have eta0 : (upd H fo (.lst [])) ta = some (.ins CT tdx tfs) := (fr0.drop (nw_none nfo)).at0 (reg_same _ _ eta) nt_ins
    refine ⟨_, rfl, ta, CT, tdx, tfs, _, rfl, eta0, C.f.cl, C.f.nL, el, l, xs, rfl, (fr0.drop (nw_none nfo)).sqL0 (reg_same.seq hsl), for_it (walk_enum (xs := xs)) (fun i σ H2 => ∃ c2 c3 c4 c5 c6 vs L, σ = [some (.ref ta), some (.ref fo), c2, c3, c4, c5, c6] ∧ Fr T [fo] H H2 ∧ H2 fo = some (.lst vs) ∧ DpAll K (Reg (fo :: ch) H2) vs (L.map dLn) ∧ (trOf js).IsLanes i L) ?_ ?_ ?_ ?_⟩
    · exact ⟨none, none, none, none, none, [], [], rfl, fr0, upd_same, .nil, rfl⟩
    · rintro i σ H2 _ ⟨_, _, _, _, _, _, _, _, fr, _⟩
      exact (fr.drop (nw_none nfo)).sqL0 (reg_same.seq hsl)
    · rintro i y σ H2 H3' hi ⟨c2, c3, c4, c5, c6, vs, L, rfl, fr, efo, hvs, hL⟩ ⟨Tp, y1, y2, rfl, nT, rfl, f1, f2⟩
      cases f1
      have hin : i < js.length := by
        have e := dps_len hdl
        rw [List.length_map, List.length_range] at e
        omega
      have hxi : xs[i]? = some y2 := f2
      obtain ⟨ra, er, hra⟩ := links_at hdl hin
      rw [hxi] at er
      cases er
      have hvl : vs.length = L.length := by rw [dps_len hvs]; exact List.length_map _
      have hLl := hL.count fun x => nb_len (trOf js) x
      have hLl2 : L.length ≤ 81 := Nat.le_trans hLl (Nat.mul_le_mul (by omega : i ≤ 9) (show js.length ≤ 9 by omega))
      refine ⟨Tp, _, rfl, .inl (.inl upd_same), rfl, _, _, rfl, _, _, rfl, rfl, ?_⟩
      have frT : Fr T [fo] H (upd H2 Tp (.tup [.int (i : Nat), .ref ra])) := fr.trans (.new nT)
      have fr23 : Fr T [] H2 (upd H2 Tp (.tup [.int (i : Nat), .ref ra])) := .new nT
      have efo3 : (upd H2 Tp (.tup [.int (i : Nat), .ref ra])) fo = some (.lst vs) := fr23.at0 efo nt_lst
      have hvs3 := Same.dps (fr23.reg0 (ch := fo :: ch)) hvs
      generalize (upd H2 Tp (.tup [.int (i : Nat), .ref ra])) = H3 at frT fr23 efo3 hvs3 ⊢
      have frH : Fr T [] H H3 := frT.drop (nw_none nfo)
      have hra3 : SqL K H3 ra (vIs ((trOf js).nb i)) := reg_same.seq (frH.reg0.seq hra)
      refine ⟨_, rfl, ra, _, rfl, .inl hra3, rfl, _, rfl, ?_⟩
      by_cases h2 : ((trOf js).nb i).length = 2
      · refine iteF' (by rw [decide_eq_true (by rw [List.length_map, h2]; rfl)]; rfl) ⟨_, _, c4, c5, c6, vs, L, rfl, frT, efo3, hvs3, L, [], hL, .inl ⟨h2, rfl⟩, by rw [List.append_nil]⟩
      · refine iteT' (by rw [decide_eq_false fun e => h2 (by have := V.int.inj e; rw [List.length_map] at this; omega)]; rfl) ?_
        -- lanes_here
        refine ⟨_, rfl, ra, rfl, ⟨_, hra3⟩, fun D nD => lc_it (walk_list (xs := vIs ((trOf js).nb i))) (fun j H4 => ∃ ts : Ts, Fr T [D] H3 H4 ∧ H4 D = some (.lst (ts.map fun t => V.ref t.1)) ∧ TsAt H4 ts ∧ (∀ t ∈ ts, Nw H3 t.1 ∧ t.1 ≠ D) ∧ Tb.Lanes2 (trOf js) i (((trOf js).nb i).take j) (ts.map (·.2))) ?_ ?_ ?_ ?_⟩
        · exact ⟨[], .new nD, upd_same, (fun t z => nomatch z), (fun t z => nomatch z), .nil⟩
        · rintro j H4 _ ⟨_, frd, _⟩
          exact (frd.drop (nw_none nD)).sqL0 hra3
        · rintro j v H4 H5 hj ⟨ts, frd, eD, hts, hnw, hln⟩ ⟨e45, hv⟩
          subst e45
          obtain ⟨m, hm, rfl⟩ := map_at hv
          have frd0 := frd.drop (nw_none nD)
          have frA : Fr T [] H H5 := frH.trans frd0
          refine ⟨rfl, _, rfl, _, rfl, _, rfl, js, [], _, i, m, rfl, W, Lv.nil, Same.tree (reg_less fun _ z => nomatch z) (Same.tree frA.reg0 ht), (Tb.Tr.mem_nb (T := trOf js) hin).mp (List.mem_of_getElem? hm), fun H6 p lm fr6 nw6 ep isl hl9 => ?_⟩
          have eD6 := fr6.at0 eD nt_lst
          have hpD : p ≠ D := (ne_nw eD nt_lst nw6).symm
          have hlen : ts.length ≤ 9 := by
            have := hln.len
            rw [List.length_map, List.length_take] at this
            have := nb_len (trOf js) i
            have : (trOf js).n = js.length := rfl
            omega
          refine ⟨_, eD6, by rw [List.length_map]; omega, ts ++ [(p, lm)], frd.trans (fr6.nil.trans (.write eD6 wr_lst nt_lst (List.mem_singleton.mpr rfl))), by rw [upd_same, List.map_append]; rfl, ?_, ?_, ?_⟩
          · intro t htm
            rcases List.mem_append.mp htm with h | h
            · rw [upd_ne (hnw t h).2]
              exact ⟨fr6.at0 (hts t h).1 nt_lst, (hts t h).2⟩
            · rw [List.mem_singleton.mp h, upd_ne hpD]
              exact ⟨ep, isLane_ne isl⟩
          · intro t htm
            rcases List.mem_append.mp htm with h | h
            · exact hnw t h
            · rw [List.mem_singleton.mp h]
              exact ⟨frd.nw nw6, hpD⟩
          · rw [take_snoc hm, List.map_append]
            exact hln.snoc isl
        · rintro H4 ⟨ts, frd, eD, hts, hnw, hln⟩
          rw [List.length_map, List.take_of_length_le (Nat.le_refl _)] at hln
          have frd0 := frd.drop (nw_none nD)
          have hlen : ts.length ≤ 9 := by
            have := hln.len
            rw [List.length_map] at this
            have := nb_len (trOf js) i
            have : (trOf js).n = js.length := rfl
            omega
          have efo4 := frd0.at0 efo3 nt_lst
          -- found.extend(sorted(.., key=..))
          refine ⟨_, rfl, .inl ⟨rfl, _, .inl (.inl efo4)⟩, _, rfl, D, rfl, ⟨_, .inl (.inl eD)⟩, fun D2 nD2 => lc_it (walk_list (xs := ts.map fun t => V.ref t.1)) (fun j H5 => Fr T [D2] H4 H5 ∧ H5 D2 = some (.lst (((ts.take j).filter fun t => decide (i < Tb.lastOf t.2)).map fun t => V.ref t.1))) ?_ ?_ ?_ ?_⟩
          · exact ⟨.new nD2, upd_same⟩
          · rintro j H5 _ ⟨fr2, _⟩
            exact (fr2.drop (nw_none nD2)).sqL0 (.inl (.inl eD))
          · rintro j v H5 H6 hj ⟨fr2, eD2⟩ ⟨rfl, hv⟩
            obtain ⟨t, ht', rfl⟩ := map_at hv
            have htm := List.mem_of_getElem? ht'
            have et := (fr2.drop (nw_none nD2)).at0 (hts t htm).1 nt_lst
            refine ⟨rfl, _, rfl, 1, rfl, t.1, vIs t.2, -1, _, rfl, rfl, .inl (.inl et), last_at (hts t htm).2, _, rfl, _, _, rfl, rfl, _, rfl, ?_⟩
            rw [take_snoc ht', List.filter_append]
            by_cases hlt : i < Tb.lastOf t.2
            · have e : ([t] : Ts).filter (fun t => decide (i < Tb.lastOf t.2)) = [t] := by simp [hlt]
              have hfl := List.length_filter_le (fun t : Addr × List Nat => decide (i < Tb.lastOf t.2)) (ts.take j)
              rw [List.length_take] at hfl
              refine iteT' (decide_eq_true (by omega)) ⟨_, rfl, _, eD2, by rw [List.length_map]; omega, fr2.trans (.write eD2 wr_lst nt_lst (List.mem_singleton.mpr rfl)), ?_⟩
              rw [e, upd_same, List.map_append]
              rfl
            · have e : ([t] : Ts).filter (fun t => decide (i < Tb.lastOf t.2)) = [] := by simp [hlt]
              refine iteF' (decide_eq_false (by omega)) ⟨fr2, ?_⟩
              rw [e, List.append_nil]
              exact eD2
          · rintro H5 ⟨fr2, eD2⟩
            rw [List.length_map, List.take_of_length_le (Nat.le_refl _)] at eD2
            have fr20 := fr2.drop (nw_none nD2)
            have frAll : Fr T [] H H5 := (frH.trans frd0).trans fr20
            have hbs : (((ts.filter fun t => decide (i < Tb.lastOf t.2)).map fun t => (V.ref t.1, (Tb.lastOf t.2 : Int))).map (·.1)) = (ts.filter fun t => decide (i < Tb.lastOf t.2)).map fun t => V.ref t.1 := by
              rw [List.map_map]
              rfl
            have hfl := List.length_filter_le (fun t : Addr × List Nat => decide (i < Tb.lastOf t.2)) ts
            refine ⟨frAll.tabs tabs, D2, (ts.filter fun t => decide (i < Tb.lastOf t.2)).map fun t => (V.ref t.1, (Tb.lastOf t.2 : Int)), rfl, by rw [hbs]; exact .inl (.inl eD2), by rw [List.length_map]; omega, fun x hx => ?_, fun H6 eN tabs6 p np => ?_⟩
            · obtain ⟨t, htf, rfl⟩ := List.mem_map.mp hx
              have htm := (List.mem_filter.mp htf).1
              exact ⟨t.1, _, rfl, .inl (.inl (fr20.at0 (hts t htm).1 nt_lst)), last_at (hts t htm).2⟩
            · rw [ts_sort]
              have fr56 : Fr T [] H5 H6 := .of_ext eN tabs6
              have fr67 : Fr T [] H6 (upd H6 p (.lst (((ts.filter fun t => decide (i < Tb.lastOf t.2)).mergeSort fun a b => decide ((Tb.lastOf a.2 : Int) ≤ (Tb.lastOf b.2 : Int))).map fun t => V.ref t.1))) := .new np
              have fr37 := ((frd0.trans fr20).trans fr56).trans fr67
              have efo7 := fr37.at0 efo3 nt_lst
              have hml : (((ts.filter fun t => decide (i < Tb.lastOf t.2)).mergeSort fun a b => decide ((Tb.lastOf a.2 : Int) ≤ (Tb.lastOf b.2 : Int))).map fun t => V.ref t.1).length ≤ 9 := by
                rw [List.length_map, List.length_mergeSort]
                omega
              refine ⟨fo, p, _, _, rfl, rfl, efo7, upd_same, by omega, _, _, _, c5, c6, _, L ++ Tb.sortL (((ts.map (·.2))).filter fun l => decide (i < Tb.lastOf l)), rfl, (frT.trans fr37.nil).trans (.write efo7 wr_lst nt_lst (List.mem_singleton.mpr rfl)), upd_same, ?_, L, _, hL, .inr ⟨h2, _, hln, rfl⟩, rfl⟩
              rw [List.map_append]
              have frW := fr37.nil.trans (Fr.write (T := T) (W := [fo]) (o' := .lst (vs ++ ((ts.filter fun t => decide (i < Tb.lastOf t.2)).mergeSort fun a b => decide ((Tb.lastOf a.2 : Int) ≤ (Tb.lastOf b.2 : Int))).map fun t => V.ref t.1)) efo7 wr_lst nt_lst (List.mem_singleton.mpr rfl))
              have lv3 : Lv (fo :: ch) H3 := (frH.lv lv).cons efo3 nt_lst
              refine dps_app (Same.dps (frW.reg fun b hb => by rw [List.mem_singleton.mp hb]; exact List.mem_cons_self ..) hvs3) ?_
              have e3 : Tb.sortL ((ts.map (·.2)).filter fun l => decide (i < Tb.lastOf l)) = ((ts.filter fun t => decide (i < Tb.lastOf t.2)).mergeSort fun a b => decide ((Tb.lastOf a.2 : Int) ≤ (Tb.lastOf b.2 : Int))).map (·.2) := by
                rw [ts_sort2, List.filter_map]
                rfl
              rw [e3]
              refine ts_dps (fun t htm => ?_) fun t htm => ?_
              · have htm2 := (List.mem_filter.mp (List.mem_mergeSort.mp htm)).1
                have hne : t.1 ≠ fo := (ne_nw efo3 nt_lst (hnw t htm2).1).symm
                rw [upd_ne hne]
                exact ⟨((fr20.trans fr56).trans fr67).at0 (hts t htm2).1 nt_lst, (hts t htm2).2⟩
              · have htm2 := (List.mem_filter.mp (List.mem_mergeSort.mp htm)).1
                exact lv3.nw (hnw t htm2).1
    · rintro σ H2 ⟨c2, c3, c4, c5, c6, vs, L, rfl, fr, efo, hvs, hL⟩
      have e : xs.length = js.length := by
        have e := dps_len hdl
        rw [List.length_map, List.length_range] at e
        exact e
      rw [e] at hL
      exact ⟨_, rfl, q H2 _ L (fr.drop (nw_none nfo)) (own_lst (lv.fresh nfo) efo hvs) hL⟩
/-! ### lanes_with -/
abbrev sLong : Stmt := top 43
theorem scLong : FnScope ["tree", "holes", "lane"] ["tree", "holes"] (defScope sLong) := ⟨rfl, rfl, rfl, by decide +kernel, rfl, by decide +kernel, by decide +kernel⟩
def spLong (K : PySem.W.Frag) (T : List (Addr × Str)) (CT : Addr) : Sp := fun vs H Q _ => ∃ (js : Js) (ch : List Addr) (v : V) (h : Nat), vs = [v, .int (h : Nat)] ∧ WellJ js ∧ Lv ch H ∧ LamX.Tabs T H ∧ TreeAt K CT (Reg ch H) v js ∧ ∀ H' r L, Fr T [] H H' → Dp K (Reg ch H') r (.list (L.map dLn)) → (trOf js).IsLong h L → L.length ≤ 81 → Q r H'
theorem ok_long {f : Addr} {fd : FuncData} (F : L2.Fun K "lanes_with" "lanes_with" sLong f fd) (B : Blt mg) (DL : Def P w K mg base 4 "all_lanes" ["tree"] (spLanes K T CT)) : FnOk P w K mg base CX0 5 f fd ["tree", "holes"] (spLong K T CT) := by
  refine F.ok scLong (fun vs H Q E h => ?_) (fun cdv A outer s H vs Q E hr h => ?_)
  · obtain ⟨js, ch, v, h, rfl, _⟩ := h
    rfl
  · obtain ⟨js, ch, v, h, rfl, W, lv, tabs, ht, q⟩ := h
    refine ⟨_, pss_one (ps_ret (pe_lc (own := [("lane", 2)]) (g := gName 2) (tt := tTest (tOp (rI0 fun i j => .bl (decide (j ≤ i))) (tCB (fun xs H Q => ∃ p ys, xs = [.ref p] ∧ (SqL K H p ys ∨ SqT K H p ys) ∧ Q (.int ys.length) H) (tCons (tVar 2) tNil)) (tVar 1))) rfl scLong.nd (pi_list (pe_callD DL hr (by rfl) (pa_cons (pv 0) pa_nil))) (blkOk_by (N := ["tree", "holes", "lane"]) (sc := defScope sLong) (by decide +kernel))
      (fun _ _ _ _ _ => pg_name (i := 2) scLong.nd rfl (Or.inl rfl)) (fun _ _ _ _ _ => pts_one (pt_cmpR op_ge (pe_callB (id := "len") call_len_seq (by rfl) B.len PySem.boot_len (pa_cons (pv 2) pa_nil)) (pv 1) (nomark _))) (fun _ _ _ _ _ => pv 2))), ?_⟩
    have h9 := W.top
    have sl := sizeLine_eq
    refine ⟨_, rfl, js, ch, v, rfl, W, lv, tabs, ht, fun H1 r L fr1 dp isL => ?_⟩
    obtain ⟨a, xs, rfl, hs, hd⟩ := dp_lst dp
    have lx : xs.length = L.length := by rw [dps_len hd]; exact List.length_map _
    have hc := isL.count fun x => nb_len (trOf js) x
    have hL81 : L.length ≤ 81 := Nat.le_trans hc (Nat.mul_le_mul h9 (show js.length ≤ 9 from h9))
    refine ⟨a, rfl, ⟨xs, reg_same.seq hs⟩, fun D nD => lc_it (walk_list (xs := xs)) (fun i H2 => ∃ ys, Fr T [D] H1 H2 ∧ H2 D = some (.lst ys) ∧ DpAll K (Reg ch H1) ys (((L.take i).filter fun l => decide (h ≤ l.length)).map dLn)) ?_ ?_ ?_ ?_⟩
    · exact ⟨[], .new nD, upd_same, .nil⟩
    · rintro i H2 _ ⟨_, fr, _⟩
      exact (fr.drop (nw_none nD)).sqL0 (reg_same.seq hs)
    · rintro i x H2 H3 hi ⟨ys, fr, eD, hys⟩ ⟨rfl, hx⟩
      have fr0 := fr.drop (nw_none nD)
      obtain ⟨dd, hdd, hdx⟩ := dps_get' hd hx
      rw [List.getElem?_map] at hdd
      cases e : L[i]? with
      | none =>
        rw [e] at hdd
        cases hdd
      | some ln =>
        rw [e] at hdd
        cases hdd
        obtain ⟨p, zs, rfl, hp, hz⟩ := dp_lst hdx
        rw [dps_Is hz] at hp
        have hp2 := reg_same.seq (fr0.reg0.seq hp)
        refine ⟨rfl, _, rfl, p, _, rfl, .inl hp2, _, rfl, _, _, rfl, rfl, _, rfl, ?_⟩
        rw [take_snoc e, List.filter_append]
        by_cases hl : h ≤ ln.length
        · have e1 : ([ln] : List (List Nat)).filter (fun l => decide (h ≤ l.length)) = [ln] := by simp [hl]
          have hyl : ys.length ≤ 81 := by
            rw [dps_len hys, List.length_map]
            have := List.length_filter_le (fun l : List Nat => decide (h ≤ l.length)) (L.take i)
            rw [List.length_take] at this
            omega
          refine iteT' (decide_eq_true (by rw [List.length_map]; omega)) ⟨_, rfl, _, eD, by omega, _, fr.trans (.write eD wr_lst nt_lst (List.mem_singleton.mpr rfl)), upd_same, ?_⟩
          rw [e1, List.map_append]
          exact dps_snoc hys hdx
        · have e1 : ([ln] : List (List Nat)).filter (fun l => decide (h ≤ l.length)) = [] := by simp; omega
          refine iteF' (decide_eq_false (by rw [List.length_map]; omega)) ⟨ys, fr, eD, ?_⟩
          rw [e1, List.append_nil]
          exact hys
    · rintro H2 ⟨ys, fr, eD, hys⟩
      have fr0 := fr.drop (nw_none nD)
      rw [lx, List.take_of_length_le (Nat.le_refl _)] at hys
      refine q H2 _ _ (fr1.trans fr0) (.lst (.inl (.inl (reg_in ((fr1.lv lv).fresh nD) eD nt_lst))) (Same.dps fr0.reg0 hys)) ⟨L, isL, rfl⟩ ?_
      have := List.length_filter_le (fun l : List Nat => decide (h ≤ l.length)) L
      omega
end
end Tz
end -- W13
section -- W14
set_option maxHeartbeats 4000000
namespace Tz
open PySem PySem.Spec PyProof.Rows L2 TL
theorem dIs_plain (l : List Nat) : (dLn l).plain = true := plain_map (fun _ => rfl) l
theorem dIs_depth (l : List Nat) : (dLn l).depth ≤ 1 := by
  have h : PyData.depthAll (dIs l) ≤ 0 := depth_map (g := fun k : Nat => PyData.int (k : Int)) (n := 0) (fun _ => Nat.le_refl _) l
  show PyData.depthAll (dIs l) + 1 ≤ 1
  omega
def lenL (H : Hp) (a : Addr) : Nat := match H a with
  | some (.lst zs) => zs.length
  | _ => 0
theorem lenL_at {H : Hp} {a : Addr} {l : List Nat} (h : H a = some (.lst (vIs l))) : lenL H a = l.length := by
  unfold lenL
  rw [h]
  exact List.length_map _
section
variable {P : Program} {w : World} {K : PySem.W.Frag} {mg : Str → Option Value} {base : Heap} {T : List (Addr × Str)} {CT : Addr}
/-! ### side_of -/
abbrev sSide : Stmt := top 45
abbrev nSide : List Str := ["tree", "lane", "found", "fresh", "order", "k", "mate"]
theorem scSide : FnScope nSide ["tree", "lane"] (defScope sSide) := ⟨rfl, rfl, rfl, by decide +kernel, rfl, by decide +kernel, by decide +kernel⟩
def spSide (K : PySem.W.Frag) (T : List (Addr × Str)) (CT : Addr) : Sp := fun vs H Q _ => ∃ (js : Js) (ch : List Addr) (v : V) (la x y : Nat) (r : List Nat), vs = [v, .ref la] ∧ WellJ js ∧ Lv ch H ∧ TreeAt K CT (Reg ch H) v js ∧ SqL K H la (vIs (x :: y :: r)) ∧ (trOf js).Adj x y ∧
  ∀ H' p l, Fr T [] H H' → Nw H p → H' p = some (.lst (vIs l)) → (trOf js).IsSide x y l → l.length ≤ 9 → Q (.ref p) H'
theorem fresh_snoc (T : Tb.Tr) (found : List Nat) (y k : Nat) (l : List Nat) : T.fresh found y (l ++ [k]) = T.fresh found y l ++ (T.nb k).filter fun m => decide (¬ m = y ∧ m ∉ found) := by
  unfold Tb.Tr.fresh
  rw [List.flatMap_append]
  simp
theorem ok_side {f : Addr} {fd : FuncData} (F : L2.Fun K "side_of" "side_of" sSide f fd) (B : Blt mg) (C : TreeC P w K mg base T CT) : FnOk P w K mg base CX0 1 f fd ["tree", "lane"] (spSide K T CT) := by
  refine F.ok scSide (fun vs H Q E h => ?_) (fun cdv A outer s H vs Q E hr h => ?_)
  · obtain ⟨js, ch, v, la, x, y, r, rfl, _⟩ := h
    rfl
  · obtain ⟨js, ch, v, la, x, y, r, rfl, W, lv, ht, hla, hadj, q⟩ := h
    obtain ⟨ta, tdx, tfs, l, xs, rfl, eta, el, hsl, hdl⟩ := ht.links
    refine ⟨_, pss_cons (ps_set (i := 2) scSide.nd rfl (Or.inr rfl) (pe_lst (pa_cons (pe_ix ix_list (pv 1) pe_int (fun _ _ => rfl)) pa_nil)))
      (pss_cons (ps_set (i := 3) scSide.nd rfl (Or.inl rfl) (pe_lst (pa_cons (pe_ix ix_list (pv 1) pe_int (fun _ _ => rfl)) pa_nil)))
      (pss_cons (ps_while PassesOwn.never (pt_cmpR (op_neP hr.units) (pv 3) (pe_lst pa_nil) (nomark _))
        (pss_cons (ps_par (i := 4) (j := 3) (by rfl) scSide.nd rfl rfl (by decide) rfl rfl (pa_cons (pv 3) (pa_cons (pe_lst pa_nil) pa_nil)) (by rfl))
        (pss_cons (ps_for PassesOwn.never rfl (pi_list (pv 4)) (pg_name (i := 5) scSide.nd rfl (Or.inl rfl))
          (pss_one (ps_expr (pe_bm PySem.F.plainAttrs_list PySem.F.slot_list_extend PySem.F.type_list_extend mt_extend (pv 3) (pa_cons
            (pe_lc (own := [("mate", 6)]) (g := gName 6) (tt := tAnd (tTest (tOp rNe (tVar 6) (tOp (rIxL K) (tVar 1) (tC (.int 1))))) (tTest (tOp (rIn K true) (tVar 6) (tVar 2)))) rfl scSide.nd (pi_list (pe_ix ix_list (pe_fld (pv 0) rfl) (pv 5) (fun _ _ => rfl))) (blkOk_by (N := nSide) (sc := defScope sSide) (by decide +kernel))
              (fun _ _ _ _ _ => pg_name (i := 6) scSide.nd rfl (Or.inl rfl)) (fun _ _ _ _ _ => pts_one (PW.pt (pw_and (pt_cmpR op_ne (pv 6) (pe_ix ix_list (pv 1) pe_int (fun _ _ => rfl)) (nomark _)) (pw_and1 (pt_cmpR op_notIn_seq (pv 6) (pv 2) (by rfl)))))) (fun _ _ _ _ _ => pv 6)) pa_nil)))))
        (pss_one (ps_expr (pe_bm PySem.F.plainAttrs_list PySem.F.slot_list_extend PySem.F.type_list_extend mt_extend (pv 2) (pa_cons (pv 3) pa_nil)))))))
      (pss_one (ps_ret (pv 2))))), ?_⟩
    have sl := sizeLine_eq
    have h9 := W.top
    have hn : (trOf js).n = js.length := rfl
    -- found = [lane[0]]; fresh = [lane[0]]
    refine ⟨_, rfl, la, _, 0, _, rfl, rfl, hla, atI_nat (j := 0) rfl, by show 1 ≤ sizeLine; decide, fun fo nfo => ?_⟩
    have fr1 : Fr T [] H (upd H fo (.lst [.int (x : Nat)])) := .new nfo
    refine ⟨_, rfl, la, _, 0, _, rfl, rfl, fr1.sqL0 hla, atI_nat (j := 0) rfl, by show 1 ≤ sizeLine; decide, fun fa nfa => ?_⟩
    have nfoa : fo ≠ fa := ne_of_none (show (upd H fo (.lst [.int (x : Nat)])) fo = some _ from upd_same) nfa
    refine while_by (fun σ H2 => ∃ fa found new c4 c5 c6, σ = [some (.ref ta), some (.ref la), some (.ref fo), some (.ref fa), c4, c5, c6] ∧ Fr T [fo] H H2 ∧ H2 fo = some (.lst (vIs found)) ∧ H2 fa = some (.lst (vIs new)) ∧ fa ≠ fo ∧ Nw H fa ∧ (trOf js).Sweep x y found new)
      (fun (σ : L2.St) H2 => 2 * (20 - lenL H2 fo) + (match σ[3]? with | some (some (V.ref a)) => if lenL H2 a = 0 then 0 else 1 | _ => 0)) ?_ ?_ ?_
    · exact ⟨fa, [x], [x], none, none, none, rfl, (Fr.nil fr1).trans (.new nfa), by rw [upd_ne nfoa, upd_same]; rfl, upd_same, nfoa.symm, fr1.nw0 nfa, .start hadj⟩
    · rintro σ H2 ⟨fa, found, new, c4, c5, c6, rfl, fr, efo, efa, hne, nwa, sw⟩
      have hfl : found.length ≤ js.length := Tb.len_le sw.nod fun k hk => (sw.side k hk).1
      refine ⟨_, rfl, Nat.zero_le _, fun e0 ne0 => ⟨dLn new, .list [], .lst (.inl (.inl ((Fr.new (T := T) (W := []) ne0).at0 efa nt_lst))) (is_dps new), .lst (.inl (.inl upd_same)) .nil, dIs_plain new, rfl, by have := dIs_depth new; omega, _, rfl, ?_⟩⟩
      have frE : Fr T [fo] H (upd H2 e0 (.lst [])) := fr.trans (.new ne0)
      have efoE := (Fr.new (T := T) (W := []) (o := .lst []) ne0).at0 efo nt_lst
      have efaE := (Fr.new (T := T) (W := []) (o := .lst []) ne0).at0 efa nt_lst
      generalize (upd H2 e0 (.lst [])) = HE at frE efoE efaE ⊢
      cases hnew : new with
      | nil =>
        subst hnew
        refine iteF' rfl ?_
        exact ⟨_, rfl, q HE fo found (frE.drop (nw_none nfo)) (nw_none nfo) efoE sw.end_ (by omega)⟩
      | cons a0 t0 =>
        refine iteT' rfl ?_
        have hnpos : 0 < new.length := by rw [hnew]; exact Nat.succ_pos _
        -- order, fresh = fresh, []
        refine ⟨_, rfl, Nat.zero_le _, fun fb nfb => ⟨_, _, rfl, ?_⟩⟩
        have efo3 := (Fr.new (T := T) (W := []) (o := .lst []) nfb).at0 efoE nt_lst
        have efa3 := (Fr.new (T := T) (W := []) (o := .lst []) nfb).at0 efaE nt_lst
        have fr3 : Fr T [fo] H (upd HE fb (.lst [])) := frE.trans (.new nfb)
        have nb_fo : fb ≠ fo := (ne_of_none efoE nfb).symm
        have nb_fa : fb ≠ fa := (ne_of_none efaE nfb).symm
        have nwb : Nw H fb := frE.nw0 nfb
        have efb3 : (upd HE fb (.lst [])) fb = some (.lst []) := upd_same
        generalize (upd HE fb (.lst [])) = H3 at efo3 efa3 fr3 efb3 ⊢
        have sw2 := sw.step
        have hf2 : (found ++ (trOf js).fresh found y new).length ≤ js.length := Tb.len_le sw2.nod fun k hk => (sw2.side k hk).1
        rw [List.length_append] at hf2
        refine ⟨_, rfl, fa, rfl, ⟨_, .inl (.inl efa3)⟩, for_it (walk_list (xs := vIs new)) (fun i σ H4 => ∃ c5 c6, σ = [some (.ref ta), some (.ref la), some (.ref fo), some (.ref fb), some (.ref fa), c5, c6] ∧ Fr T [fb] H3 H4 ∧ H4 fb = some (.lst (vIs ((trOf js).fresh found y (new.take i))))) ?_ ?_ ?_ ?_⟩
        · exact ⟨c5, c6, rfl, .refl, efb3⟩
        · rintro i σ H4 _ ⟨_, _, _, f4, _⟩
          exact .inl (.inl (f4.keep fa _ (fun z => nb_fa (List.mem_singleton.mp z).symm) efa3 nt_lst))
        · rintro i z σ H4 H5 hi ⟨c5, c6, rfl, f4, eb⟩ ⟨rfl, hz⟩
          obtain ⟨k, hk, rfl⟩ := map_at hz
          have hkn : k < js.length := (sw.side k (sw.newIn k (List.mem_of_getElem? hk))).1
          have efo4 := f4.keep fo _ (fun z => nb_fo (List.mem_singleton.mp z).symm) efo3 nt_lst
          have frA := (fr3.drop (nw_none nfo)).wide (W' := [fb]) (fun _ z => nomatch z)
          have frB := (frA.trans f4).drop nwb
          obtain ⟨ra, er, hra⟩ := links_at hdl hkn
          refine ⟨_, rfl, .inl ⟨rfl, _, .inl (.inl eb)⟩, _, rfl, ta, CT, tdx, tfs, _, rfl, reg_same _ _ (frB.reg0 _ _ eta), C.f.cl, C.f.nL, el, _, rfl, l, _, _, _, rfl, rfl, reg_same.seq (frB.reg0.seq hsl), atI_nat er, ra, rfl, ⟨_, reg_same.seq (frB.reg0.seq hra)⟩, fun D nD =>
            lc_it (walk_list (xs := vIs ((trOf js).nb k))) (fun j H6 => Fr T [D] H5 H6 ∧ H6 D = some (.lst (vIs ((((trOf js).nb k).take j).filter fun m => decide (¬ m = y ∧ m ∉ found))))) ?_ ?_ ?_ ?_⟩
          · exact ⟨.new nD, upd_same⟩
          · rintro j H6 _ ⟨fd, _⟩
            exact (fd.drop (nw_none nD)).sqL0 (reg_same.seq (frB.reg0.seq hra))
          · rintro j z H6 H7 hj ⟨fd, eD⟩ ⟨rfl, hz⟩
            obtain ⟨m, hm, rfl⟩ := map_at hz
            have fd0 := fd.drop (nw_none nD)
            have hla7 := fd0.sqL0 (frB.sqL0 hla)
            have efo7 := fd0.at0 efo4 nt_lst
            have hcnt : ((((trOf js).nb k).take j).filter fun m => decide (¬ m = y ∧ m ∉ found)).length < sizeLine := by
              have h1 := List.length_filter_le (fun m => decide (¬ m = y ∧ m ∉ found)) (((trOf js).nb k).take j)
              rw [List.length_take] at h1
              have := nb_len (trOf js) k
              omega
            refine ⟨rfl, _, rfl, _, rfl, la, _, 1, _, rfl, rfl, hla7, atI_nat (j := 1) rfl, rfl, _, rfl, ?_⟩
            rw [take_snoc hm, List.filter_append]
            by_cases hmy : m = y
            · subst hmy
              refine iteF' (by rw [decide_eq_true rfl]; rfl) (iteF ⟨fd, ?_⟩)
              have e : ([m] : List Nat).filter (fun m' => decide (¬ m' = m ∧ m' ∉ found)) = [] := by simp
              rw [e, List.append_nil]
              exact eD
            · refine iteT' (by rw [decide_eq_false fun e => hmy (by have := V.int.inj e; omega)]; rfl) ⟨_, rfl, _, rfl, fo, _, rfl, .inl (.inl (.inl efo7)), rfl, flat_I _, _, rfl, ?_⟩
              have e1 : (if true = true then !inV (V.int (m : Nat)) (vIs found) else inV (V.int (m : Nat)) (vIs found)) = !decide (m ∈ found) := by rw [if_pos rfl, inI]
              by_cases hmf : m ∈ found
              · refine iteF' (e1.trans (by rw [decide_eq_true hmf]; rfl)) ⟨fd, ?_⟩
                have e : ([m] : List Nat).filter (fun m' => decide (¬ m' = y ∧ m' ∉ found)) = [] := by simp [hmf]
                rw [e, List.append_nil]
                exact eD
              · refine iteT' (e1.trans (by rw [decide_eq_false hmf]; rfl)) ⟨_, rfl, _, eD, by rw [List.length_map]; exact hcnt, fd.trans (.write eD wr_lst nt_lst (List.mem_singleton.mpr rfl)), ?_⟩
                have e : ([m] : List Nat).filter (fun m' => decide (¬ m' = y ∧ m' ∉ found)) = [m] := by simp [hmf, hmy]
                rw [e, upd_same, vIs_snoc]
          · rintro H6 ⟨fd, eD⟩
            have fd0 := fd.drop (nw_none nD)
            rw [List.length_map, List.take_of_length_le (Nat.le_refl _)] at eD
            have eb6 := fd0.at0 eb nt_lst
            have e2 := fresh_snoc (trOf js) found y k (new.take i)
            rw [← take_snoc hk] at e2
            have hlen : ((trOf js).fresh found y (new.take i)).length ≤ 9 ∧ (((trOf js).nb k).filter fun m => decide (¬ m = y ∧ m ∉ found)).length ≤ 9 := by
              have h1 := nb_len (trOf js) k
              have h2 := List.length_filter_le (fun m => decide (¬ m = y ∧ m ∉ found)) ((trOf js).nb k)
              have h3 : ((trOf js).fresh found y new) = (trOf js).fresh found y (new.take i) ++ (trOf js).fresh found y (new.drop i) := by
                unfold Tb.Tr.fresh
                rw [← List.flatMap_append, List.take_append_drop]
              rw [h3, List.length_append] at hf2
              omega
            refine ⟨fb, D, _, _, rfl, rfl, eb6, eD, by rw [List.length_map, List.length_map]; omega, ⟨_, c6, rfl, f4.trans (fd0.nil.trans (.write eb6 wr_lst nt_lst (List.mem_singleton.mpr rfl))), ?_⟩⟩
            rw [upd_same, e2, ← List.map_append]
        · rintro σ H4 ⟨c5, c6, rfl, f4, eb⟩
          rw [List.length_map, List.take_of_length_le (Nat.le_refl _)] at eb
          have efo4 := f4.keep fo _ (fun z => nb_fo (List.mem_singleton.mp z).symm) efo3 nt_lst
          have frA := (fr3.drop (nw_none nfo)).wide (W' := [fb]) (fun _ z => nomatch z)
          have frB := (frA.trans f4).drop nwb
          have e3 : vIs found ++ vIs ((trOf js).fresh found y new) = vIs (found ++ (trOf js).fresh found y new) := (List.map_append).symm
          refine ⟨_, rfl, .inl ⟨rfl, _, .inl (.inl efo4)⟩, _, rfl, fo, fb, _, _, rfl, rfl, efo4, eb, by rw [List.length_map, List.length_map]; omega, ?_⟩
          rw [e3]
          have ebW : (upd H4 fo (.lst (vIs (found ++ (trOf js).fresh found y new)))) fb = some (.lst (vIs ((trOf js).fresh found y new))) := by rw [upd_ne nb_fo]; exact eb
          refine ⟨⟨fb, _, _, _, _, _, rfl, frB.nil.trans (.write efo4 wr_lst nt_lst (List.mem_singleton.mpr rfl)), upd_same, ebW, nb_fo, nwb, sw2⟩, ?_⟩
          show 2 * (20 - lenL (upd H4 fo (.lst (vIs (found ++ (trOf js).fresh found y new)))) fo) + (if lenL (upd H4 fo (.lst (vIs (found ++ (trOf js).fresh found y new)))) fb = 0 then 0 else 1) < 2 * (20 - lenL H2 fo) + (if lenL H2 fa = 0 then 0 else 1)
          rw [lenL_at efo, lenL_at efa, lenL_at ebW, lenL_at (l := found ++ (trOf js).fresh found y new) upd_same, show (if new.length = 0 then 0 else 1) = 1 from if_neg (by omega), List.length_append]
          split <;> omega
    · intro σ H2 Q1 Q2 hq h
      obtain ⟨v0, e0, sz, h⟩ := h
      refine ⟨v0, e0, sz, fun l nl => ?_⟩
      obtain ⟨d, e, h1, h2, h3, h4, h5, k, ek, q⟩ := h l nl
      exact ⟨d, e, h1, h2, h3, h4, h5, k, ek, hq _ _ q⟩
end
end Tz
end -- W14
section -- W15
set_option maxHeartbeats 4000000
namespace Tz
open PySem PySem.Spec PyProof.Rows L2 TL
abbrev inF (fs : List Nat) : Nat → Bool := fun k => decide (k ∈ fs)
theorem vIs_drop (l : List Nat) (n : Nat) : vIs (l.drop n) = (vIs l).drop n := List.map_drop
theorem vIs_take (l : List Nat) (n : Nat) : vIs (l.take n) = (vIs l).take n := List.map_take
theorem vIs_app (l m : List Nat) : vIs (l ++ m) = vIs l ++ vIs m := List.map_append
section
variable {P : Program} {w : World} {K : PySem.W.Frag} {mg : Str → Option Value} {base : Heap} {T : List (Addr × Str)} {CT : Addr}
theorem filt_step {l : List Nat} {i k : Nat} (fs : List Nat) (h : l[i]? = some k) : (l.take (i + 1)).filter (inF fs) = if k ∈ fs then (l.take i).filter (inF fs) ++ [k] else (l.take i).filter (inF fs) := by
  rw [take_snoc h, List.filter_append]
  by_cases hk : k ∈ fs
  · rw [if_pos hk]
    have e : ([k] : List Nat).filter (inF fs) = [k] := by simp [inF, hk]
    rw [e]
  · rw [if_neg hk]
    have e : ([k] : List Nat).filter (inF fs) = [] := by simp [inF, hk]
    rw [e, List.append_nil]
/-- [k for k in l if k in filled]: the reading -/
theorem lc_filt {fs l : List Nat} {fl a i5 : Nat} {H1 : Hp} {g : TG} {tt : TT} {te : TE} {vs : List Nat} {σ : L2.St} {D : Addr} {Qd : Hp → Prop} (nD : H1 D = none) (hl : l.length ≤ 9) (hfl : SqL K H1 fl (vIs fs)) (ha : SqL K H1 a (vIs l))
    (hw : ∀ x : V, wipe ((wipe σ vs).set i5 (some x)) vs = wipe σ vs)
    (hg : ∀ (x : V) (H : Hp) (Q : L2.St → Hp → Prop), Q ((wipe σ vs).set i5 (some x)) H → g x (wipe σ vs) H Q)
    (ht : ∀ (k : Nat) (H : Hp) (Q : Bool → Hp → Prop), SqL K H fl (vIs fs) → Q (decide (k ∈ fs)) H → tt ((wipe σ vs).set i5 (some (.int (k : Nat)))) H Q)
    (he : ∀ (x : V) (H : Hp) (Q : VK), Q x H → te ((wipe σ vs).set i5 (some x)) H Q)
    (hd : ∀ H2, Fr T [] H1 H2 → H2 D = some (.lst (vIs (l.filter (inF fs)))) → Qd H2) :
    ∃ W : Nat → Nat → Hp → Prop, (∃ m, W 0 m (upd H1 D (.lst []))) ∧ ∀ i m H, W i m H → ((Itl K a).stop i H ∧ Qd H) ∨ ((Itl K a).go i H ∧ ∃ Nx : Hp → Prop, (∀ H', Nx H' → ∃ m', m' < m ∧ W (i + 1) m' H') ∧ ∀ x H', (Itl K a).yld i H x H' → g x (wipe σ vs) H' fun σ2 H2 => wipe σ2 vs = wipe σ vs ∧ tt σ2 H2 fun b H3 => if b = true then te σ2 H3 fun y H4 => ∃ acc, H4 D = some (.lst acc) ∧ acc.length < sizeLine ∧ Nx (upd H4 D (.lst (acc ++ [y]))) else Nx H3) := by
  have sl := sizeLine_eq
  refine lc_it (walk_list (xs := vIs l)) (fun i H2 => Fr T [D] H1 H2 ∧ H2 D = some (.lst (vIs ((l.take i).filter (inF fs))))) ⟨.new nD, upd_same⟩ ?_ ?_ ?_
  · rintro i H2 _ ⟨fr, _⟩
    exact (fr.drop (nw_none nD)).sqL0 ha
  · rintro i x H2 H3 hi ⟨fr, eD⟩ ⟨rfl, hx⟩
    obtain ⟨k, hk, rfl⟩ := map_at hx
    refine hg _ _ _ ⟨hw _, ht k _ _ ((fr.drop (nw_none nD)).sqL0 hfl) ?_⟩
    have hfe := filt_step fs hk
    by_cases hkf : k ∈ fs
    · rw [if_pos hkf] at hfe
      refine iteT' (decide_eq_true hkf) (he _ _ _ ⟨_, eD, ?_, fr.trans (.write eD wr_lst nt_lst (List.mem_singleton.mpr rfl)), ?_⟩)
      · rw [List.length_map]
        have h1 := List.length_filter_le (inF fs) (l.take i)
        rw [List.length_take] at h1
        omega
      · rw [upd_same, hfe, vIs_snoc]
    · rw [if_neg hkf] at hfe
      refine iteF' (decide_eq_false hkf) ⟨fr, ?_⟩
      rw [hfe]
      exact eD
  · rintro H2 ⟨fr, eD⟩
    rw [List.length_map, List.take_of_length_le (Nat.le_refl _)] at eD
    exact hd H2 (fr.drop (nw_none nD)) eD
/-! ### before_of -/
abbrev sBef : Stmt := top 46
abbrev nBef : List Str := ["tree", "filled", "lane", "side", "here", "holes", "k"]
theorem scBef : FnScope nBef ["tree", "filled", "lane"] (defScope sBef) := ⟨rfl, rfl, rfl, by decide +kernel, rfl, by decide +kernel, by decide +kernel⟩
def spBef (K : PySem.W.Frag) (T : List (Addr × Str)) (CT : Addr) : Sp := fun vs H Q _ => ∃ (js : Js) (ch : List Addr) (v : V) (fl la : Addr) (fs : List Nat) (x y : Nat) (r : List Nat), vs = [v, .ref fl, .ref la] ∧ WellJ js ∧ Lv ch H ∧ TreeAt K CT (Reg ch H) v js ∧ SqL K H fl (vIs fs) ∧ SqL K H la (vIs (x :: y :: r)) ∧ (trOf js).Adj x y ∧ fs.length ≤ 9 ∧ (x :: y :: r).length ≤ 9 ∧
  ∀ H' p l, Fr T [] H H' → Nw H p → H' p = some (.lst (vIs (Tb.befL (inF fs) l (x :: y :: r)))) → (trOf js).IsSide x y l → l.length ≤ 9 → Q (.ref p) H'
theorem ok_bef {f : Addr} {fd : FuncData} (F : L2.Fun K "before_of" "before_of" sBef f fd) (B : Blt mg) (DS : Def P w K mg base 1 "side_of" ["tree", "lane"] (spSide K T CT)) : FnOk P w K mg base CX0 2 f fd ["tree", "filled", "lane"] (spBef K T CT) := by
  refine F.ok scBef (fun vs H Q E h => ?_) (fun cdv A outer s H vs Q E hr h => ?_)
  · obtain ⟨js, ch, v, fl, la, fs, x, y, r, rfl, _⟩ := h
    rfl
  · obtain ⟨js, ch, v, fl, la, fs, x, y, r, rfl, W, lv, ht, hfl, hla, hadj, hf9, hl9, q⟩ := h
    refine ⟨_, pss_cons (ps_set (i := 3) scBef.nd rfl (Or.inl rfl) (pe_callD DS hr (by rfl) (pa_cons (pv 0) (pa_cons (pv 2) pa_nil))))
      (pss_cons (ps_setLc (i := 4) (own := [("k", 6)]) (g := gName 6) (tt := tTest (tOp (rIn K false) (tVar 6) (tVar 1))) rfl scBef.nd rfl rfl (sw_true rfl rfl rfl (by decide +kernel)) (pi_list (pv 3)) (blkOk_by (N := nBef) (sc := defScope sBef) (by decide +kernel))
          (fun _ _ _ _ _ => pg_name (i := 6) scBef.nd rfl (Or.inl rfl)) (fun _ _ _ _ _ => pts_one (pt_cmpR op_in_seq (pv 6) (pv 1) (by rfl))) (fun _ _ _ _ _ => pv 6))
      (pss_cons (ps_set (i := 5) scBef.nd rfl (Or.inl rfl) (pe_op op_sub (pe_callB call_len_seq (by rfl) B.len PySem.boot_len (pa_cons (pv 3) pa_nil)) (pe_callB call_len_seq (by rfl) B.len PySem.boot_len (pa_cons (pv 4) pa_nil))))
      (pss_cons (ps_if (pt_cmpR op_eq (pv 5) pe_int (nomark _)) (pss_one (ps_ret (pe_slice sl_list (pv 4) (po_some pe_int) po_none))) pss_nil)
      (pss_one (ps_ret (pe_op op_cat (pv 4) (pe_slice sl_list (pe_lc (own := [("k", 6)]) (g := gName 6) (tt := tTest (tOp (rIn K false) (tVar 6) (tVar 1))) rfl scBef.nd (pi_list (pe_slice sl_list (pv 2) (po_some pe_int) po_none)) (blkOk_by (N := nBef) (sc := defScope sBef) (by decide +kernel))
          (fun _ _ _ _ _ => pg_name (i := 6) scBef.nd rfl (Or.inl rfl)) (fun _ _ _ _ _ => pts_one (pt_cmpR op_in_seq (pv 6) (pv 1) (by rfl))) (fun _ _ _ _ _ => pv 6)) po_none (po_some (pe_op op_sub (pv 5) pe_int))))))))), ?_⟩
    refine ⟨_, rfl, _, rfl, js, ch, v, la, x, y, r, rfl, W, lv, ht, hla, hadj, fun H1 ps l fr1 nw1 eps isS hl9' => ?_⟩
    have sl := sizeLine_eq
    -- here
    refine ⟨_, rfl, ps, rfl, ⟨_, .inl (.inl eps)⟩, fun D nD => lc_filt (T := T) (fl := fl) (i5 := 6) nD hl9' (fr1.sqL0 hfl) (.inl (.inl eps)) (fun _ => rfl) (fun _ _ _ h => h) (fun k H Q hf hq => ⟨_, rfl, _, rfl, fl, _, rfl, .inl hf, rfl, flat_I _, _, rfl, ?_⟩) (fun x H Q hq => ⟨_, rfl, hq⟩) fun H2 fr2 eD => ?_⟩
    · rw [show (if false = true then !inV (V.int (k : Nat)) (vIs fs) else inV (V.int (k : Nat)) (vIs fs)) = decide (k ∈ fs) from by rw [if_neg Bool.false_ne_true, inI]]
      exact hq
    have eps2 := fr2.at0 eps nt_lst
    have hfl2 := List.length_filter_le (inF fs) l
    -- holes
    refine ⟨_, rfl, ps, _, rfl, .inl (.inl (.inl eps2)), _, rfl, D, _, rfl, .inl (.inl (.inl eD)), _, _, rfl, rfl, ?_⟩
    have eh : ((vIs l).length : Int) - ((vIs (l.filter (inF fs))).length : Int) = ((l.length - (l.filter (inF fs)).length : Nat) : Int) := by
      rw [List.length_map, List.length_map]
      omega
    dsimp only
    rw [eh]
    generalize hho : l.length - (l.filter (inF fs)).length = ho
    refine ⟨_, rfl, rfl, _, rfl, ?_⟩
    by_cases h0 : ho = 0
    · refine iteT' (decide_eq_true (by rw [h0]; rfl)) ⟨_, rfl, 1, rfl, D, _, rfl, .inl (.inl eD), fun p np => ?_⟩
      rw [cutd]
      have e : (vIs (l.filter (inF fs))).drop 1 = vIs (Tb.befL (inF fs) l (x :: y :: r)) := by
        unfold Tb.befL
        rw [hho, if_pos h0, vIs_drop]
      rw [e]
      exact q _ p l ((fr1.trans fr2).trans (.new np)) ((fr1.trans fr2).nw0 np) upd_same isS hl9'
    · refine iteF' (decide_eq_false fun e => h0 (by have := V.int.inj e; omega)) ?_
      have hla2 := (fr1.trans fr2).sqL0 hla
      refine ⟨_, rfl, _, rfl, 1, rfl, la, _, rfl, hla2, fun c nc => ⟨c, rfl, ?_⟩⟩
      rw [cutd]
      have ec : (vIs (x :: y :: r)).drop 1 = vIs (y :: r) := rfl
      rw [ec]
      have fr3 : Fr T [] H2 (upd H2 c (.lst (vIs (y :: r)))) := .new nc
      refine ⟨⟨_, .inl (.inl upd_same)⟩, fun D2 nD2 => lc_filt (T := T) (fl := fl) (i5 := 6) nD2 (by simp only [List.length_cons] at hl9 ⊢; omega) (((fr1.trans fr2).trans fr3).sqL0 hfl) (.inl (.inl upd_same)) (fun _ => rfl) (fun _ _ _ h => h) (fun k H Q hf hq => ⟨_, rfl, _, rfl, fl, _, rfl, .inl hf, rfl, flat_I _, _, rfl, ?_⟩) (fun x H Q hq => ⟨_, rfl, hq⟩) fun H4 fr4 eD2 => ?_⟩
      · rw [show (if false = true then !inV (V.int (k : Nat)) (vIs fs) else inV (V.int (k : Nat)) (vIs fs)) = decide (k ∈ fs) from by rw [if_neg Bool.false_ne_true, inI]]
        exact hq
      have fr24 := fr3.trans fr4
      have eD4 := fr24.at0 eD nt_lst
      refine ⟨_, rfl, _, _, rfl, rfl, _, rfl, D2, _, rfl, .inl (.inl eD2), fun c2 nc2 => ?_⟩
      dsimp only
      rw [show ((ho : Nat) : Int) - 1 = ((ho - 1 : Nat) : Int) by omega, cutt]
      have fr5 : Fr T [] H4 (upd H4 c2 (.lst ((vIs ((y :: r).filter (inF fs))).take (ho - 1)))) := .new nc2
      have hfl3 := List.length_filter_le (inF fs) (y :: r)
      refine ⟨D, c2, _, _, rfl, rfl, fr5.at0 eD4 nt_lst, upd_same, ?_, fun p np => ?_⟩
      · rw [List.length_map, List.length_take, List.length_map]
        omega
      · have e : vIs (l.filter (inF fs)) ++ (vIs ((y :: r).filter (inF fs))).take (ho - 1) = vIs (Tb.befL (inF fs) l (x :: y :: r)) := by
          unfold Tb.befL
          rw [hho, if_neg h0, vIs_app, vIs_take]
          rfl
        rw [e]
        have frA := (((fr1.trans fr2).trans fr24).trans fr5)
        exact q _ p l (frA.trans (.new np)) (frA.nw0 np) upd_same isS hl9'
end
end Tz
end -- W15
section -- W16
set_option maxHeartbeats 4000000
namespace Tz
open PySem PySem.Spec PyProof.Rows L2 TL
theorem Fr.unlock {T : List (Addr × Str)} {H H' : Hp} {d : Addr} {u : HO} {od : Obj} (hd : H d = some u) (wu : Wr u) (f : Fr T [] (upd H d (.frz od u)) H') (e : H' d = some (.frz od u)) : Fr T [] H (upd H' d u) := by
  have wf : Wr (.frz od u) := ⟨(fun _ z => nomatch z), (fun _ z => nomatch z)⟩
  have a : Fr T [d] H (upd H d (.frz od u)) := .write hd wu wf.1 (List.mem_singleton.mpr rfl)
  have b : Fr T [d] H' (upd H' d u) := .write e wf wu.1 (List.mem_singleton.mpr rfl)
  have c : Fr T [d] H (upd H' d u) := (a.trans f.nil).trans b
  refine ⟨fun x o _ ex n => ?_, c.live, c.tabs⟩
  by_cases hx : x = d
  · subst hx
    rw [hd] at ex
    cases ex
    exact upd_same
  · exact c.keep x o (fun z => hx (List.mem_singleton.mp z)) ex n
def sgV : Tb.Sg → V
  | .bef => .str "before"
  | .beh => .str "behind"
  | .num i => .int (i : Nat)
def isS : V → Bool
  | .str _ => true
  | _ => false
/-- so many numbers stand in the dict -/
def nums (kvs : List (Key × V)) : Nat := kvs.countP fun kv => !isS kv.2
theorem nums_put {kvs : List (Key × V)} {k : Key} {x : Str} (h : nums kvs = 0) : nums (putK kvs k (.str x)) = 0 := by
  unfold nums at *
  rw [List.countP_eq_zero] at *
  intro p hp
  unfold putK at hp
  split at hp
  · obtain ⟨q, hq, rfl⟩ := List.mem_map.mp hp
    split
    · simp [isS]
    · exact h q hq
  · rcases List.mem_append.mp hp with z | z
    · exact h p z
    · rw [List.mem_singleton.mp z]; simp [isS]
theorem nums_new {kvs : List (Key × V)} {k : Key} {i : Int} (h : valV kvs k = none) : nums (putK kvs k (.int i)) = nums kvs + 1 := by
  rw [putK_new _ h]
  unfold nums
  rw [List.countP_append]
  rfl
/-- every value is a text or a number -/
def SgVals (kvs : List (Key × V)) : Prop := ∀ p ∈ kvs, (∃ x, p.2 = .str x) ∨ ∃ i, p.2 = .int i
theorem sgVals_put {kvs : List (Key × V)} {k : Key} {v : V} (h : SgVals kvs) (hv : (∃ x, v = .str x) ∨ ∃ i, v = .int i) : SgVals (putK kvs k v) := by
  intro p hp
  unfold putK at hp
  split at hp
  · obtain ⟨q, hq, rfl⟩ := List.mem_map.mp hp
    split
    · exact hv
    · exact h q hq
  · rcases List.mem_append.mp hp with z | z
    · exact h p z
    · rw [List.mem_singleton.mp z]; exact hv
theorem not_in_take {l : List Nat} (nd : l.Nodup) : ∀ {i k : Nat}, l[i]? = some k → k ∉ l.take i := by
  intro i k h hm
  have e : l = l.take i ++ k :: l.drop (i + 1) := by
    obtain ⟨h1, h2⟩ := List.getElem?_eq_some_iff.mp h
    rw [← h2, ← List.drop_eq_getElem_cons h1, List.take_append_drop]
  rw [e] at nd
  exact (List.nodup_append.mp nd).2.2 k hm k (List.mem_cons_self ..) rfl
section
variable {P : Program} {w : World} {K : PySem.W.Frag} {mg : Str → Option Value} {base : Heap} {T : List (Addr × Str)} {CT : Addr}
/-! ### signs_for -/
abbrev sSigns : Stmt := top 47
abbrev nSigns : List Str := ["tree", "filled", "lane", "found", "k", "sign"]
theorem scSigns : FnScope nSigns ["tree", "filled", "lane"] (defScope sSigns) := ⟨rfl, rfl, rfl, by decide +kernel, rfl, by decide +kernel, by decide +kernel⟩
/-- the signs that a dict tells -/
def SgAt (n : Nat) (fs : List Nat) (g : Nat → Tb.Sg) (kvs : List (Key × V)) : Prop := ∀ k, k < n → k ∈ fs → valV kvs (.inl (k : Nat) : Key) = some (sgV (g k))
def spSigns (K : PySem.W.Frag) (T : List (Addr × Str)) (CT : Addr) : Sp := fun vs H Q _ => ∃ (js : Js) (ch : List Addr) (v : V) (fl la : Addr) (fs : List Nat) (x y : Nat) (r : List Nat), vs = [v, .ref fl, .ref la] ∧ WellJ js ∧ Lv ch H ∧ TreeAt K CT (Reg ch H) v js ∧ SqL K H fl (vIs fs) ∧ SqL K H la (vIs (x :: y :: r)) ∧ (trOf js).Lane (x :: y :: r) ∧ fs.length ≤ 9 ∧ Tb.holes (trOf js).n (inF fs) (fun _ => True) ≤ (x :: y :: r).length ∧
  ∀ H' d kvs, Fr T [] H H' → Nw H d → H' d = some (.dK kvs) → SgAt js.length fs (fun k => (trOf js).sg (x :: y :: r) (inF fs) k) kvs → Q (.ref d) H'
abbrev putAll (x : Str) (kvs0 : List (Key × V)) (l : List Nat) : List (Key × V) := l.foldl (fun kvs k => putK kvs (.inl (k : Nat) : Key) (.str x)) kvs0
theorem putAll_val (x : Str) (l : List Nat) (kvs0 : List (Key × V)) (j : Nat) : valV (putAll x kvs0 l) (.inl (j : Nat) : Key) = if j ∈ l then some (V.str x) else valV kvs0 (.inl (j : Nat) : Key) := by
  induction l generalizing kvs0 with
  | nil => rfl
  | cons a l ih =>
    show valV (putAll x (putK kvs0 (.inl (a : Nat) : Key) (.str x)) l) _ = _
    rw [ih, valV_put]
    by_cases h : j ∈ l
    · rw [if_pos h, if_pos (List.mem_cons_of_mem _ h)]
    · rw [if_neg h]
      by_cases e : j = a
      · rw [if_pos (by rw [e]), if_pos (by rw [e]; exact List.mem_cons_self ..)]
      · rw [if_neg (fun z => e (by have := Sum.inl.inj z; omega)), if_neg (fun z => by rcases List.mem_cons.mp z with z | z; exact e z; exact h z)]
theorem putAll_len (x : Str) (l : List Nat) (kvs0 : List (Key × V)) : (putAll x kvs0 l).length ≤ kvs0.length + l.length := by
  induction l generalizing kvs0 with
  | nil => exact Nat.le_refl _
  | cons a l ih =>
    have h1 := ih (putK kvs0 (.inl (a : Nat) : Key) (.str x))
    have h2 := length_putK kvs0 (.inl (a : Nat) : Key) (.str x)
    show (putAll x (putK kvs0 (.inl (a : Nat) : Key) (.str x)) l).length ≤ _
    rw [List.length_cons]
    omega
theorem putAll_nums (x : Str) (l : List Nat) (kvs0 : List (Key × V)) (h : nums kvs0 = 0) : nums (putAll x kvs0 l) = 0 := by
  induction l generalizing kvs0 with
  | nil => exact h
  | cons a l ih => exact ih _ (nums_put h)
theorem putAll_vals (x : Str) (l : List Nat) (kvs0 : List (Key × V)) (h : SgVals kvs0) : SgVals (putAll x kvs0 l) := by
  induction l generalizing kvs0 with
  | nil => exact h
  | cons a l ih => exact ih _ (sgVals_put h (.inl ⟨x, rfl⟩))
theorem putAll_snoc (x : Str) {l : List Nat} {i k : Nat} (kvs0 : List (Key × V)) (h : l[i]? = some k) : putAll x kvs0 (l.take (i + 1)) = putK (putAll x kvs0 (l.take i)) (.inl (k : Nat) : Key) (.str x) := by
  rw [take_snoc h]
  exact List.foldl_append
open Classical in
theorem mark_val {kvs : List (Key × V)} {M1 M2 : List Nat} {F : Nat → Bool} (h : kvs = putAll "behind" (putAll "before" [] M1) M2) (j : Nat) : valV kvs (.inl (j : Nat) : Key) = (Tb.markS [] M1 M2 F j).map sgV := by
  rw [h, putAll_val, putAll_val, Tb.markS_nil]
  by_cases h2 : j ∈ M2
  · rw [if_pos h2, if_pos h2]; rfl
  rw [if_neg h2, if_neg h2]
  by_cases h1 : j ∈ M1
  · rw [if_pos h1, if_pos h1]; rfl
  rw [if_neg h1, if_neg h1]
  rfl
open Classical in
theorem ok_signs {f : Addr} {fd : FuncData} (F : L2.Fun K "signs_for" "signs_for" sSigns f fd) (B : Blt mg) (DB : Def P w K mg base 2 "before_of" ["tree", "filled", "lane"] (spBef K T CT)) : FnOk P w K mg base CX0 3 f fd ["tree", "filled", "lane"] (spSigns K T CT) := by
  refine F.ok scSigns (fun vs H Q E h => ?_) (fun cdv A outer s H vs Q E hr h => ?_)
  · obtain ⟨js, ch, v, fl, la, fs, x, y, r, rfl, _⟩ := h
    rfl
  · obtain ⟨js, ch, v, fl, la, fs, x, y, r, rfl, W, lv, ht, hfl, hla, hL, hf9, hho, q⟩ := h
    have hu := hu_of hr
    refine ⟨_, pss_cons (ps_set (i := 3) scSigns.nd rfl (Or.inl rfl) pe_dnewK)
      (pss_cons (ps_for PassesOwn.never rfl (pi_list (pe_callD DB hr (by rfl) (pa_cons (pv 0) (pa_cons (pv 1) (pa_cons (pv 2) pa_nil))))) (pg_name (i := 4) scSigns.nd rfl (Or.inl rfl))
          (pss_one (ps_dput hu (pv 3) (pv 4) pe_str rfl)))
      (pss_cons (ps_for PassesOwn.never rfl (pi_list (pe_callD DB hr (by rfl) (pa_cons (pv 0) (pa_cons (pv 1) (pa_cons (pe_revL (pv 2)) pa_nil))))) (pg_name (i := 4) scSigns.nd rfl (Or.inl rfl))
          (pss_one (ps_dput hu (pv 3) (pv 4) pe_str rfl)))
      (pss_cons (ps_for PassesOwn.never rfl (pi_list (pv 2)) (pg_name (i := 4) scSigns.nd rfl (Or.inl rfl))
          (pss_one (ps_if (PW.pt (pw_and (pt_cmpR op_in_seq (pv 4) (pv 1) (by rfl)) (pw_and1 (pt_cmp (pc_dnotin hu (pv 4) (pv 3))))))
            (pss_one (ps_dput hu (pv 3) (pv 4) (pe_op op_add pe_int (pe_callB call_len_seq (by rfl) B.len PySem.boot_len (pa_cons
              (pe_lock (pe_lc (own := [("sign", 5)]) (g := gName 5) (tt := tNot (tB (tCB (rIsi K) (tCons (tVar 5) (tCons (tC (.ty "str")) tNil))))) rfl scSigns.nd (pi_values (pv 3)) (blkOk_by (N := nSigns) (sc := defScope sSigns) (by decide +kernel))
                (fun _ _ _ _ _ => pg_name (i := 5) scSigns.nd rfl (Or.inl rfl))
                (fun _ _ _ _ _ => pts_one (pt_not (pt_val (pe_callB (r := rIsi K) (id := "isinstance") call_isi (by rfl) B.isi (by decide +kernel) (pa_cons (pv 5) (pa_cons (pe_bltn (v := .ty "str") (by rfl) B.str (by decide +kernel) rfl) pa_nil))))))
                (fun _ _ _ _ _ => pv 5))) pa_nil))) rfl)) pss_nil)))
      (pss_one (ps_ret (pv 3)))))), ?_⟩
    have sl := sizeLine_eq
    have h9 := W.top
    have hn : (trOf js).n = js.length := rfl
    have hl9 : (x :: y :: r).length ≤ 9 := by
      have := Tb.len_le hL.nodup hL.lt
      omega
    -- found = {}
    refine fun fo nfo => ?_
    have frO : Fr T [fo] H (upd H fo (.dK [])) := .new nfo
    have nwo : Nw H fo := nw_none nfo
    have efo0 : (upd H fo (.dK [])) fo = some (.dK []) := upd_same
    generalize (upd H fo (.dK [])) = H0 at frO efo0 ⊢
    have fr0 := frO.drop nwo
    -- the first marks
    refine ⟨_, rfl, _, rfl, _, rfl, js, ch, v, fl, la, fs, x, y, r, rfl, W, fr0.lv lv, Same.tree fr0.reg0 ht, fr0.sqL0 hfl, fr0.sqL0 hla, hL.adj, hf9, hl9, fun H1 p l1 fr1 nwp ep isS1 hl1 => ?_⟩
    generalize hM1 : Tb.befL (inF fs) l1 (x :: y :: r) = M1 at ep
    have hM1l : M1.length ≤ 18 := by
      have := Tb.befL_len (inF fs) l1 (x :: y :: r)
      rw [hM1] at this
      omega
    have nfp : p ≠ fo := (ne_nw efo0 nt_dK nwp).symm
    refine ⟨p, rfl, ⟨_, .inl (.inl ep)⟩, for_it (walk_list (xs := vIs M1)) (fun i σ H2 => ∃ c4 c5, σ = [some v, some (.ref fl), some (.ref la), some (.ref fo), c4, c5] ∧ Fr T [fo] H1 H2 ∧ H2 fo = some (.dK (putAll "before" [] (M1.take i)))) ?_ ?_ ?_ ?_⟩
    · exact ⟨none, none, rfl, .refl, fr1.at0 efo0 nt_dK⟩
    · rintro i σ H2 _ ⟨_, _, _, f2, _⟩
      exact .inl (.inl (f2.keep p _ (fun z => nfp (List.mem_singleton.mp z)) ep nt_lst))
    · rintro i z σ H2 H3 hi ⟨c4, c5, rfl, f2, eo⟩ ⟨rfl, hz⟩
      obtain ⟨k, hk, rfl⟩ := map_at hz
      have hlen := putAll_len "before" (M1.take i) []
      have htl : (M1.take i).length ≤ M1.length := by rw [List.length_take]; omega
      refine ⟨_, rfl, _, rfl, fo, _, rfl, DPut.k (k := Sum.inl (k : Nat)) eo (Nat.lt_of_le_of_lt hlen (by rw [List.length_nil]; omega)), ⟨_, c5, rfl, f2.trans (.write eo wr_dK nt_dK (List.mem_singleton.mpr rfl)), ?_⟩⟩
      rw [upd_same, putAll_snoc _ _ hk]
    rintro σ H2 ⟨c4, c5, rfl, f2, eo2⟩
    rw [List.length_map, List.take_of_length_le (Nat.le_refl _)] at eo2
    have fA : Fr T [] H H2 := (((frO.trans fr1.nil).trans f2)).drop nwo
    -- the other marks
    obtain ⟨t, et⟩ := Tb.lastTwo_rev r x y
    refine ⟨_, rfl, _, rfl, _, rfl, la, _, rfl, fA.sqL0 hla, fun pr npr => ?_⟩
    have erev : (vIs (x :: y :: r)).reverse = vIs ((Tb.lastTwo x y r).1 :: (Tb.lastTwo x y r).2 :: t) := by
      rw [← et]
      exact List.map_reverse.symm
    rw [erev]
    have fB : Fr T [] H2 (upd H2 pr (.lst (vIs ((Tb.lastTwo x y r).1 :: (Tb.lastTwo x y r).2 :: t)))) := .new npr
    have epr : (upd H2 pr (.lst (vIs ((Tb.lastTwo x y r).1 :: (Tb.lastTwo x y r).2 :: t)))) pr = some (.lst (vIs ((Tb.lastTwo x y r).1 :: (Tb.lastTwo x y r).2 :: t))) := upd_same
    generalize (upd H2 pr (.lst (vIs ((Tb.lastTwo x y r).1 :: (Tb.lastTwo x y r).2 :: t)))) = H3 at fB epr ⊢
    have fAB := fA.trans fB
    have eo3 := fB.at0 eo2 nt_dK
    refine ⟨js, ch, v, fl, pr, fs, _, _, t, rfl, W, fAB.lv lv, Same.tree fAB.reg0 ht, fAB.sqL0 hfl, .inl (.inl epr), hL.lastAdj, hf9, by rw [← et, List.length_reverse]; exact hl9, fun H4 p2 l2 fr4 nwp2 ep2 isS2 hl2 => ?_⟩
    rw [← et] at ep2
    generalize hM2 : Tb.befL (inF fs) l2 (x :: y :: r).reverse = M2 at ep2
    have hM2l : M2.length ≤ 18 := by
      have := Tb.befL_len (inF fs) l2 (x :: y :: r).reverse
      rw [hM2, List.length_reverse] at this
      omega
    have eo4 := fr4.at0 eo3 nt_dK
    have nfp2 : p2 ≠ fo := (ne_nw eo3 nt_dK nwp2).symm
    refine ⟨p2, rfl, ⟨_, .inl (.inl ep2)⟩, for_it (walk_list (xs := vIs M2)) (fun i σ H5 => ∃ c4 c5, σ = [some v, some (.ref fl), some (.ref la), some (.ref fo), c4, c5] ∧ Fr T [fo] H4 H5 ∧ H5 fo = some (.dK (putAll "behind" (putAll "before" [] M1) (M2.take i)))) ?_ ?_ ?_ ?_⟩
    · exact ⟨c4, c5, rfl, .refl, eo4⟩
    · rintro i σ H5 _ ⟨_, _, _, f5, _⟩
      exact .inl (.inl (f5.keep p2 _ (fun z => nfp2 (List.mem_singleton.mp z)) ep2 nt_lst))
    · rintro i z σ H5 H6 hi ⟨c4, c5, rfl, f5, eo⟩ ⟨rfl, hz⟩
      obtain ⟨k, hk, rfl⟩ := map_at hz
      have hlen := putAll_len "behind" (M2.take i) (putAll "before" [] M1)
      have hlen0 := putAll_len "before" M1 []
      have htl : (M2.take i).length ≤ M2.length := by rw [List.length_take]; omega
      refine ⟨_, rfl, _, rfl, fo, _, rfl, DPut.k (k := Sum.inl (k : Nat)) eo (Nat.lt_of_le_of_lt (Nat.le_trans hlen (Nat.add_le_add_right hlen0 _)) (by rw [List.length_nil]; omega)), ⟨_, c5, rfl, f5.trans (.write eo wr_dK nt_dK (List.mem_singleton.mpr rfl)), ?_⟩⟩
      rw [upd_same, putAll_snoc _ _ hk]
    rintro σ H5 ⟨c4', c5', rfl, f5, eo5⟩
    rw [List.length_map, List.take_of_length_le (Nat.le_refl _)] at eo5
    -- the numbers
    have hval0 := fun j => mark_val (F := inF fs) (rfl : putAll "behind" (putAll "before" [] M1) M2 = _) j
    have hnum0 : nums (putAll "behind" (putAll "before" [] M1) M2) = 0 := putAll_nums _ _ _ (putAll_nums _ _ _ rfl)
    have hvals0 : SgVals (putAll "behind" (putAll "before" [] M1) M2) := putAll_vals _ _ _ (putAll_vals _ _ _ fun _ z => nomatch z)
    have hlen0 : (putAll "behind" (putAll "before" [] M1) M2).length ≤ 36 := by
      have h1 := putAll_len "behind" M2 (putAll "before" [] M1)
      have h2 := putAll_len "before" M1 []
      simp only [List.length_nil] at h2
      omega
    generalize putAll "behind" (putAll "before" [] M1) M2 = kvs0 at eo5 hval0 hnum0 hvals0 hlen0
    have fC : Fr T [fo] H H5 := (((fAB.trans fr4).nil).trans f5)
    have hla5 := (fC.drop nwo).sqL0 hla
    refine ⟨_, rfl, la, rfl, ⟨_, hla5⟩, for_it (walk_list (xs := vIs (x :: y :: r))) (fun i σ H6 => ∃ c4 c5 kvs, σ = [some v, some (.ref fl), some (.ref la), some (.ref fo), c4, c5] ∧ Fr T [fo] H H6 ∧ H6 fo = some (.dK kvs) ∧ (∀ j : Nat, valV kvs (.inl (j : Nat) : Key) = (Tb.markS ((x :: y :: r).take i) M1 M2 (inF fs) j).map sgV) ∧ SgVals kvs ∧ kvs.length ≤ 36 + i ∧ nums kvs = ((x :: y :: r).take i).countP fun j => inF fs j && decide (j ∉ M1 ∧ j ∉ M2)) ?_ ?_ ?_ ?_⟩
    · exact ⟨c4', c5', kvs0, rfl, fC, eo5, hval0, hvals0, by omega, hnum0⟩
    · rintro i σ H6 _ ⟨_, _, _, _, f6, _⟩
      exact (f6.drop nwo).sqL0 hla
    · rintro i z σ H6 H7 hi ⟨c4, c5, kvs, rfl, f6, eo, hval, hvals, hlen, hnum⟩ ⟨rfl, hz⟩
      obtain ⟨k, hk, rfl⟩ := map_at hz
      have hi9 : i < (x :: y :: r).length := (List.getElem?_eq_some_iff.mp hk).1
      have hkt : k ∉ (x :: y :: r).take i := not_in_take hL.nodup hk
      have eT : (x :: y :: r).take (i + 1) = (x :: y :: r).take i ++ [k] := take_snoc hk
      have hfl6 := (f6.drop nwo).sqL0 hfl
      have e1 : (if false = true then !inV (V.int (k : Nat)) (vIs fs) else inV (V.int (k : Nat)) (vIs fs)) = inF fs k := by rw [if_neg Bool.false_ne_true, inI]
      have old : (k ∈ M1 ∨ k ∈ M2 ∨ ¬ inF fs k = true) → (∀ j : Nat, valV kvs (.inl (j : Nat) : Key) = (Tb.markS ((x :: y :: r).take (i + 1)) M1 M2 (inF fs) j).map sgV) ∧ nums kvs = ((x :: y :: r).take (i + 1)).countP fun j => inF fs j && decide (j ∉ M1 ∧ j ∉ M2) := fun ho => by
        rw [eT]
        refine ⟨fun j => ?_, ?_⟩
        · rw [hval j]
          by_cases hj : j = k
          · subst hj
            rw [Tb.markS_old ho hkt]
          · rw [Tb.markS_ne hj]
        · rw [hnum, List.countP_append, List.countP_cons_of_neg]
          · rfl
          · rcases ho with z | z | z <;> simp [z]
      refine ⟨_, rfl, _, rfl, fl, _, rfl, .inl hfl6, rfl, flat_I _, _, rfl, ?_⟩
      by_cases hkf : inF fs k = true
      · refine iteT' (e1.trans hkf) ⟨_, rfl, _, rfl, fo, _, rfl, DGet.k (k := Sum.inl (k : Nat)) eo, _, rfl, ?_⟩
        have hno := Tb.markS_none (M1 := M1) (M2 := M2) (F := inF fs) hkt
        cases ev : valV kvs (Sum.inl (k : Nat) : Key) with
        | some u =>
          have hm : k ∈ M1 ∨ k ∈ M2 := by
            by_cases h1 : k ∈ M1
            · exact .inl h1
            · by_cases h2 : k ∈ M2
              · exact .inr h2
              · have := hval k
                rw [hno.mpr ⟨h1, h2⟩, ev] at this
                cases this
          obtain ⟨o1, o2⟩ := old (hm.elim .inl fun z => .inr (.inl z))
          exact iteF' rfl ⟨_, c5, kvs, rfl, f6, eo, o1, hvals, by omega, o2⟩
        | none =>
          have hm : k ∉ M1 ∧ k ∉ M2 := by
            have := hval k
            rw [ev] at this
            refine hno.mp ?_
            cases hq : Tb.markS ((x :: y :: r).take i) M1 M2 (inF fs) k with
            | none => rfl
            | some g =>
              rw [hq] at this
              cases this
          refine iteT' rfl ⟨fo, _, eo, trivial, fun od => ?_⟩
          refine ⟨_, rfl, fo, od, kvs, rfl, upd_same, fun D nD => lc_it (walk_values (kvs := kvs)) (fun j H8 => Fr T [D] (upd H7 fo (.frz od (.dK kvs))) H8 ∧ ∃ acc, H8 D = some (.lst acc) ∧ acc.length = (kvs.take j).countP fun kv => !isS kv.2) ?_ ?_ ?_ ?_⟩
          · exact ⟨.new nD, [], upd_same, rfl⟩
          · rintro j H8 _ ⟨f8, _⟩
            exact (f8.drop (nw_none nD)).at0 upd_same (fun _ z => nomatch z)
          · rintro j u H8 H9 hj ⟨f8, acc, eD, ha⟩ ⟨rfl, kk, hkk⟩
            have hcl := List.countP_le_length (p := fun kv : Key × V => !isS kv.2) (l := kvs.take j)
            have htl : (kvs.take j).length ≤ kvs.length := by rw [List.length_take]; omega
            refine ⟨rfl, _, rfl, ?_⟩
            rw [take_snoc hkk, List.countP_append]
            rcases hvals _ (List.mem_of_getElem? hkk) with ⟨xx, hx⟩ | ⟨ii, hx⟩
            · have hx' : u = .str xx := hx
              subst hx'
              refine ⟨_, _, .type "str", .type "str", true, rfl, .ty _, .base (.str xx), kit_ty (by decide +kernel), _, rfl, iteF' rfl ⟨f8, acc, eD, ?_⟩⟩
              rw [ha]
              rfl
            · have hx' : u = .int ii := hx
              subst hx'
              refine ⟨_, _, .type "int", .type "str", false, rfl, .ty _, .base (.int ii), kit_ty (by decide +kernel), _, rfl, iteT' rfl ⟨_, rfl, acc, eD, by omega, f8.trans (.write eD wr_lst nt_lst (List.mem_singleton.mpr rfl)), _, upd_same, ?_⟩⟩
              rw [List.length_append, ha]
              rfl
          · rintro H8 ⟨f8, acc, eD, ha⟩
            rw [List.take_of_length_le (Nat.le_refl _)] at ha
            have f80 := f8.drop (nw_none nD)
            have efr := f80.at0 (upd_same (o := .frz od (.dK kvs))) (fun _ z => nomatch z)
            have nDf : D ≠ fo := fun z => by
              rw [z, upd_same] at nD
              cases nD
            have fU : Fr T [] H7 (upd H8 fo (.dK kvs)) := Fr.unlock eo wr_dK f80 efr
            refine ⟨efr, ?_⟩
            have eD9 : (upd H8 fo (.dK kvs)) D = some (.lst acc) := by rw [upd_ne nDf]; exact eD
            have eo9 : (upd H8 fo (.dK kvs)) fo = some (.dK kvs) := upd_same
            generalize (upd H8 fo (.dK kvs)) = H9 at fU eD9 eo9 ⊢
            have hacc : acc.length = ((x :: y :: r).take i).countP fun j => inF fs j && decide (j ∉ M1 ∧ j ∉ M2) := by rw [ha]; exact hnum
            refine ⟨D, _, rfl, .inl (.inl (.inl eD9)), _, _, rfl, rfl, _, rfl, _, rfl, fo, _, rfl, DPut.k (k := Sum.inl (k : Nat)) eo9 (by omega), ⟨_, c5, _, rfl, (f6.trans fU.nil).trans (.write eo9 wr_dK nt_dK (List.mem_singleton.mpr rfl)), upd_same, fun j => ?_, sgVals_put hvals (.inr ⟨_, rfl⟩), ?_, ?_⟩⟩
            · rw [valV_put, eT]
              by_cases hj : j = k
              · subst hj
                rw [if_pos rfl, Tb.markS_new hm.1 hm.2 hkf hkt, ← hacc]
                show some (V.int _) = some (V.int _)
                congr 2
              · rw [if_neg (fun z => hj (by have := Sum.inl.inj z; omega)), Tb.markS_ne hj]
                exact hval j
            · exact Nat.le_trans (length_putK _ _ _) (by omega)
            · rw [nums_new ev, hnum, eT, List.countP_append]
              rw [List.countP_cons_of_pos]
              · rfl
              · simp [hkf, hm.1, hm.2]
      · obtain ⟨o1, o2⟩ := old (.inr (.inr hkf))
        exact iteF' (e1.trans (by simpa using hkf)) ⟨_, c5, kvs, rfl, f6, eo, o1, hvals, by omega, o2⟩
    rintro σ H6 ⟨c4, c5, kvs, rfl, f6, eo, hval, _, _, _⟩
    rw [List.length_map, List.take_of_length_le (Nat.le_refl _)] at hval
    refine ⟨_, rfl, q H6 fo kvs (f6.drop nwo) nwo eo fun k hk hkf => ?_⟩
    rw [hval k, ← hM1, ← hM2, Tb.marks_lane hL isS1 isS2 hho hk (decide_eq_true hkf)]
    rfl
end
end Tz
end -- W16
section -- W17
set_option maxHeartbeats 4000000
namespace Tz
open PySem PySem.Spec PyProof.Rows L2 TL
/-- a dict comprehension over a walk -/
theorem dc_it {J : It} {n : Nat} {G : Hp → Prop} {Y : Nat → Hp → V → Hp → Prop} (w : Walk J n G Y) {g : TG} {tt : TT} {tk tv : TE} {vs : List Nat} {σ : L2.St} {H1 : Hp} {D : Addr} {Qd : Hp → Prop} (Pv : Nat → Hp → Prop) (h0 : Pv 0 (upd H1 D (.dK []))) (hG : ∀ i H, i ≤ n → Pv i H → G H)
    (hs : ∀ i x H H', i < n → Pv i H → Y i H x H' → g x (wipe σ vs) H' fun σ2 H2 => wipe σ2 vs = wipe σ vs ∧ tt σ2 H2 fun b H3 =>
      if b = true then tk σ2 H3 fun y H4 => tv σ2 H4 fun z H5 => ∃ kvs k, y = kV k ∧ H5 D = some (.dK kvs) ∧ kvs.length < sizeLine ∧ Pv (i + 1) (upd H5 D (.dK (putK kvs k z))) else Pv (i + 1) H3) (hd : ∀ H, Pv n H → Qd H) :
    ∃ W : Nat → Nat → Hp → Prop, (∃ m, W 0 m (upd H1 D (.dK []))) ∧ ∀ i m H, W i m H →
      (J.stop i H ∧ Qd H) ∨ (J.go i H ∧ ∃ Nx : Hp → Prop, (∀ H', Nx H' → ∃ m', m' < m ∧ W (i + 1) m' H') ∧ ∀ x H', J.yld i H x H' → g x (wipe σ vs) H' fun σ2 H2 => wipe σ2 vs = wipe σ vs ∧ tt σ2 H2 fun b H3 =>
        if b = true then tk σ2 H3 fun y H4 => tv σ2 H4 fun z H5 => ∃ kvs k, y = kV k ∧ H5 D = some (.dK kvs) ∧ kvs.length < sizeLine ∧ Nx (upd H5 D (.dK (putK kvs k z))) else Nx H3) := by
  refine ⟨fun i m H => m = n - i ∧ i ≤ n ∧ Pv i H, ⟨n, by simp, Nat.zero_le _, h0⟩, ?_⟩
  rintro i m H ⟨rfl, hi, p⟩
  have q := hG i H hi p
  by_cases hlt : i < n
  · exact .inr ⟨w.goes i H hlt q, Pv (i + 1), fun H' p' => ⟨n - (i + 1), by omega, rfl, hlt, p'⟩, fun x H' y => hs i x H H' hlt p (w.yields i H x H' hlt q y)⟩
  · have e : i = n := by omega
    subst e
    exact .inl ⟨w.stops H q, hd H p⟩
def dSg : Tb.Sg → PyData
  | .bef => .str "before"
  | .beh => .str "behind"
  | .num i => .int (i : Nat)
theorem dp_sg (K : PySem.W.Frag) (R : Hp) : ∀ g, Dp K R (sgV g) (dSg g)
  | .bef => .str _
  | .beh => .str _
  | .num i => .int _
/-- a place's signs -/
noncomputable abbrev sgs (T : Tb.Tr) (L : List (List Nat)) (fs : List Nat) (k : Nat) : PyData := .tuple (L.map fun l => dSg (T.sg l (inF fs) k))
theorem long_lane {T : Tb.Tr} {h : Nat} {L : List (List Nat)} (hL : T.IsLong h L) : ∀ l ∈ L, (∃ x y r, l = x :: y :: r ∧ T.Lane l) ∧ h ≤ l.length := fun l hl => by
  obtain ⟨L0, h0, rfl⟩ := hL
  obtain ⟨h1, h2⟩ := List.mem_filter.mp hl
  exact ⟨h0.lane l h1, of_decide_eq_true h2⟩
open Classical in
theorem holes_of {n : Nat} {fs : List Nat} (nd : fs.Nodup) (hlt : ∀ k ∈ fs, k < n) : Tb.holes n (inF fs) (fun _ => True) = n - fs.length := by
  have h1 : (List.range n).countP (inF fs) = fs.length := by
    rw [List.countP_eq_length_filter]
    refine List.Perm.length_eq ?_
    refine (List.perm_ext_iff_of_nodup (List.nodup_range.filter _) nd).mpr fun k => ?_
    rw [List.mem_filter, List.mem_range]
    exact ⟨fun h => of_decide_eq_true h.2, fun h => ⟨hlt k h, decide_eq_true h⟩⟩
  have h2 := Tb.countP_not (inF fs) (List.range n)
  rw [List.length_range] at h2
  have h3 : Tb.holes n (inF fs) (fun _ => True) = (List.range n).countP fun k => !inF fs k := by
    unfold Tb.holes
    congr 1
    funext k
    simp
  rw [h3]
  omega
section
variable {P : Program} {w : World} {K : PySem.W.Frag} {mg : Str → Option Value} {base : Heap} {T : List (Addr × Str)} {CT : Addr}
/-! ### all_signs -/
abbrev sAll : Stmt := top 49
abbrev nAll : List Str := ["tree", "filled", "rows", "lane", "k", "row"]
theorem scAll : FnScope nAll ["tree", "filled"] (defScope sAll) := ⟨rfl, rfl, rfl, by decide +kernel, rfl, by decide +kernel, by decide +kernel⟩
/-- what is told of each place: the value's address and the signs -/
def Told (K : PySem.W.Frag) (R : Hp) (T : Tb.Tr) (L : List (List Nat)) (fs : List Nat) (ts : List (Nat × V)) : Prop := ∀ t ∈ ts, Dp K R t.2 (sgs T L fs t.1)
theorem Told.same {R R' : Hp} {Tt : Tb.Tr} {L : List (List Nat)} {fs : List Nat} {ts : List (Nat × V)} (h : Told K R Tt L fs ts) (s : Same R R') : Told K R' Tt L fs ts := fun t ht => Same.dp s (h t ht)
abbrev kvI (ts : List (Nat × V)) : List (Key × V) := ts.map fun t => ((.inl (t.1 : Nat) : Key), t.2)
theorem kvI_none {ts : List (Nat × V)} {k : Nat} (h : k ∉ ts.map (·.1)) : valV (kvI ts) (.inl (k : Nat) : Key) = none := by
  induction ts with
  | nil => rfl
  | cons t ts ih =>
    rw [List.map_cons] at h
    rw [kvI, List.map_cons, valV_neg (fun z => h (by have := Sum.inl.inj z; rw [show k = t.1 by omega]; exact List.mem_cons_self ..))]
    exact ih fun z => h (List.mem_cons_of_mem _ z)
/-- the rows: where each lane's signs stand -/
def RowsAt (n : Nat) (T : Tb.Tr) (fs : List Nat) (H : Hp) (rs : List (Addr × List Nat)) : Prop := ∀ t ∈ rs, ∃ kvs, H t.1 = some (.dK kvs) ∧ SgAt n fs (fun k => T.sg t.2 (inF fs) k) kvs
def spAll (K : PySem.W.Frag) (T : List (Addr × Str)) (CT : Addr) : Sp := fun vs H Q _ => ∃ (js : Js) (ch : List Addr) (v : V) (fl : Addr) (fs : List Nat), vs = [v, .ref fl] ∧ WellJ js ∧ Lv ch H ∧ LamX.Tabs T H ∧ TreeAt K CT (Reg ch H) v js ∧ SqL K H fl (vIs fs) ∧ fs.Nodup ∧ (∀ k ∈ fs, k < js.length) ∧
  ∀ H' d L ts, Fr T [] H H' → Nw H d → H' d = some (.dK (kvI ts)) → ts.map (·.1) = fs → (trOf js).IsLong (js.length - fs.length) L → L.length ≤ 81 → Told K (Reg [d] H') (trOf js) L fs ts → Q (.ref d) H'
theorem ok_all {f : Addr} {fd : FuncData} (F : L2.Fun K "all_signs" "all_signs" sAll f fd) (B : Blt mg) (C : TreeC P w K mg base T CT) (DS : Def P w K mg base 3 "signs_for" ["tree", "filled", "lane"] (spSigns K T CT)) (DL : Def P w K mg base 5 "lanes_with" ["tree", "holes"] (spLong K T CT)) : FnOk P w K mg base CX0 6 f fd ["tree", "filled"] (spAll K T CT) := by
  refine F.ok scAll (fun vs H Q E h => ?_) (fun cdv A outer s H vs Q E hr h => ?_)
  · obtain ⟨js, ch, v, fl, fs, rfl, _⟩ := h
    rfl
  · obtain ⟨js, ch, v, fl, fs, rfl, W, lv, tabs, ht, hfl, nd, hlt, q⟩ := h
    have hu := hu_of hr
    refine ⟨_, pss_cons (ps_set (i := 2) scAll.nd rfl (Or.inr rfl) (pe_lc (own := [("lane", 3)]) (g := gName 3) (tt := tYes) (te := tCall (spSigns K T CT) [] (fun _ _ _ => False) (tCons (tVar 0) (tCons (tVar 1) (tCons (tVar 3) tNil)))) rfl scAll.nd
          (pi_list (pe_callD DL hr (by rfl) (pa_cons (pv 0) (pa_cons (pe_op op_sub (pe_callB call_len_seq (by rfl) B.len PySem.boot_len (pa_cons (pe_propD C.pl C.f.cl (hr.mono (by decide)) (pv 0)) pa_nil)) (pe_callB call_len_seq (by rfl) B.len PySem.boot_len (pa_cons (pv 1) pa_nil))) pa_nil))))
          (blkOk_by (N := nAll) (sc := defScope sAll) (by decide +kernel))
          (fun _ _ _ _ _ => pg_name (i := 3) scAll.nd rfl (Or.inl rfl)) (fun _ _ _ _ _ => pts_nil) (fun _ _ _ _ _ => pe_callD DS (hr.mono (by decide)) (by rfl) (pa_cons (pv 0) (pa_cons (pv 1) (pa_cons (pv 3) pa_nil))))))
      (pss_one (ps_ret (pe_dc (own := [("k", 4)]) (g := gName 4) (tt := tYes) (tk := tVar 4) (tv := tCB (rTupF K) (tCons (tLc (iList K (tVar 2)) (gName 5) tYes (tDGet (tVar 5) (tVar 4)) [5]) tNil)) rfl scAll.nd (pi_list (pv 1)) (blkOk_by (N := nAll) (sc := defScope sAll) (by decide +kernel))
          (fun _ _ _ _ _ => pg_name (i := 4) scAll.nd rfl (Or.inr rfl)) (fun _ _ _ _ _ => pts_nil) (fun _ _ _ _ _ => pv 4)
          (fun _ _ _ _ _ => pe_callTy call_tupleF (by rfl) B.tuple (by decide +kernel) (pa_cons (pe_lc (own := [("row", 5)]) (g := gName 5) (tt := tYes) (te := tDGet (tVar 5) (tVar 4)) rfl scAll.nd (pi_list (pv 2)) (by show BlkOk nAll { kind := .function, names := [(".0", .local), ("k", .cell), ("tuple", .globalImplicit), ("rows", .cell)], isGenerator := false, isCoroutine := false } _ _; exact blkOk_by (N := nAll) (sc := { kind := .function, names := [(".0", .local), ("k", .cell), ("tuple", .globalImplicit), ("rows", .cell)], isGenerator := false, isCoroutine := false }) (by decide +kernel))
            (fun _ _ _ _ _ => pg_name (i := 5) scAll.nd rfl (Or.inl rfl)) (fun _ _ _ _ _ => pts_nil) (fun _ _ _ _ _ => pe_dget hu (pv 5) (pv 4) (fun _ _ => rfl))) pa_nil))))), ?_⟩
    have h9 := W.top
    have sl := sizeLine_eq
    have hn : (trOf js).n = js.length := rfl
    have hfs : fs.length ≤ js.length := Tb.len_le nd hlt
    obtain ⟨ta, tdx, tfs, etv, eta⟩ := ht.ins
    subst etv
    refine ⟨_, rfl, _, rfl, ta, tdx, tfs, rfl, reg_same _ _ eta, js, ch, _, rfl, W, lv, ht, fun H0 p0 fr0 fz0 => ?_⟩
    refine ⟨p0, _, rfl, .inr (Same.seqT reg_same fz0.sq), _, rfl, fl, _, rfl, .inl (fr0.sqL0 hfl), _, _, rfl, rfl, ?_⟩
    have eh : ((vSs (nmsOf js)).length : Int) - ((vIs fs).length : Int) = ((js.length - fs.length : Nat) : Int) := by
      rw [List.length_map, List.length_map, List.length_map]
      omega
    dsimp only
    rw [eh]
    refine ⟨js, ch, _, _, rfl, W, fr0.lv lv, fr0.tabs tabs, Same.tree fr0.reg0 ht, fun H1 r L fr1 dp isL hL81 => ?_⟩
    obtain ⟨a, xs, rfl, hs, hd⟩ := dp_lst dp
    have lx : xs.length = L.length := by rw [dps_len hd]; exact List.length_map _
    have fr01 := fr0.trans fr1
    have hho := holes_of nd hlt
    -- the rows
    refine ⟨a, rfl, ⟨xs, reg_same.seq hs⟩, fun D nD => lc_it (walk_list (xs := xs)) (fun i H2 => ∃ rs : List (Addr × List Nat), Fr T [D] H1 H2 ∧ H2 D = some (.lst (rs.map fun t => V.ref t.1)) ∧ RowsAt js.length (trOf js) fs H2 rs ∧ (∀ t ∈ rs, Nw H1 t.1 ∧ t.1 ≠ D) ∧ rs.map (·.2) = L.take i) ?_ ?_ ?_ ?_⟩
    · exact ⟨[], .new nD, upd_same, (fun _ z => nomatch z), (fun _ z => nomatch z), rfl⟩
    · rintro i H2 _ ⟨_, fr, _⟩
      exact (fr.drop (nw_none nD)).sqL0 (reg_same.seq hs)
    · rintro i x H2 H3 hi ⟨rs, fr, eD, hrs, hnw, hmap⟩ ⟨rfl, hx⟩
      have fr0' := fr.drop (nw_none nD)
      have frA := fr01.trans fr0'
      obtain ⟨dd, hdd, hdx⟩ := dps_get' hd hx
      rw [List.getElem?_map] at hdd
      cases e : L[i]? with
      | none =>
        rw [e] at hdd
        cases hdd
      | some ln =>
        rw [e] at hdd
        cases hdd
        obtain ⟨p, zs, rfl, hp, hz⟩ := dp_lst hdx
        rw [dps_Is hz] at hp
        have hp2 := reg_same.seq (fr0'.reg0.seq hp)
        obtain ⟨⟨x1, y1, r1, rfl, hln⟩, hll⟩ := long_lane isL ln (List.mem_of_getElem? e)
        refine ⟨rfl, _, rfl, _, rfl, _, rfl, js, [], _, fl, p, fs, x1, y1, r1, rfl, W, Lv.nil, Same.tree (reg_less fun _ z => nomatch z) (Same.tree frA.reg0 ht), frA.sqL0 hfl, hp2, hln, by omega, by rw [hn, hho]; exact hll, fun H4 d kvs fr4 nwd ed hsg => ?_⟩
        have eD4 := fr4.at0 eD nt_lst
        have hdD : d ≠ D := (ne_nw eD nt_lst nwd).symm
        have hlen : rs.length ≤ 81 := by
          have := congrArg List.length hmap
          rw [List.length_map, List.length_take] at this
          omega
        refine ⟨_, eD4, by rw [List.length_map]; omega, rs ++ [(d, x1 :: y1 :: r1)], fr.trans (fr4.nil.trans (.write eD4 wr_lst nt_lst (List.mem_singleton.mpr rfl))), by rw [upd_same, List.map_append]; rfl, ?_, ?_, ?_⟩
        · intro t htm
          rcases List.mem_append.mp htm with h | h
          · obtain ⟨kv, e1, e2⟩ := hrs t h
            exact ⟨kv, by rw [upd_ne (hnw t h).2]; exact fr4.at0 e1 nt_dK, e2⟩
          · rw [List.mem_singleton.mp h]
            exact ⟨kvs, by rw [upd_ne hdD]; exact ed, hsg⟩
        · intro t htm
          rcases List.mem_append.mp htm with h | h
          · exact hnw t h
          · rw [List.mem_singleton.mp h]
            exact ⟨fr.nw nwd, hdD⟩
        · rw [take_snoc e, List.map_append, hmap]
          rfl
    rintro H2 ⟨rs, fr2, eD, hrs, _, hmap⟩
    rw [lx, List.take_of_length_le (Nat.le_refl _)] at hmap
    have frB := fr01.trans (fr2.drop (nw_none nD))
    clear fr2
    have hrl : rs.length ≤ 81 := by
      have := congrArg List.length hmap
      rw [List.length_map] at this
      omega
    -- the dict
    refine ⟨_, rfl, fl, rfl, ⟨_, frB.sqL0 hfl⟩, fun D2 nD2 => dc_it (walk_list (xs := vIs fs)) (fun i H3 => ∃ ts, Fr T [D2] H2 H3 ∧ H3 D2 = some (.dK (kvI ts)) ∧ ts.map (·.1) = fs.take i ∧ Told K (Reg [D2] H3) (trOf js) L fs ts) ?_ ?_ ?_ ?_⟩
    · exact ⟨[], .new nD2, upd_same, rfl, fun _ z => nomatch z⟩
    · rintro i H3 _ ⟨_, fr3, _⟩
      exact ((frB.trans (fr3.drop (nw_none nD2)))).sqL0 hfl
    · rintro i z H3 H4 hi ⟨ts, fr3, eD2, hmt, htl⟩ ⟨rfl, hz⟩
      obtain ⟨k, hk, rfl⟩ := map_at hz
      have hkm := List.mem_of_getElem? hk
      have fr30 := fr3.drop (nw_none nD2)
      have hlt3 : ts.length ≤ 9 := by
        have := congrArg List.length hmt
        rw [List.length_map, List.length_take] at this
        omega
      refine ⟨rfl, _, rfl, _, rfl, D, rfl, ⟨_, .inl (.inl (fr30.at0 eD nt_lst))⟩, fun D3 nD3 => lc_it (walk_list (xs := rs.map fun t => V.ref t.1)) (fun j H5 => Fr T [D3] H4 H5 ∧ H5 D3 = some (.lst (((rs.take j).map fun t => sgV ((trOf js).sg t.2 (inF fs) k))))) ?_ ?_ ?_ ?_⟩
      · exact ⟨.new nD3, upd_same⟩
      · rintro j H5 _ ⟨fr5, _⟩
        exact (fr5.drop (nw_none nD3)).sqL0 (.inl (.inl (fr30.at0 eD nt_lst)))
      · rintro j v H5 H6 hj ⟨fr5, eD3⟩ ⟨rfl, hv⟩
        obtain ⟨t, htj, rfl⟩ := map_at hv
        obtain ⟨kv, e1, e2⟩ := hrs t (List.mem_of_getElem? htj)
        have e3 := (fr30.trans (fr5.drop (nw_none nD3))).at0 e1 nt_dK
        have hg := e2 k (hlt k hkm) hkm
        refine ⟨rfl, _, rfl, _, rfl, t.1, _, rfl, (by have hh := DGet.k (k := Sum.inl (k : Nat)) e3; rw [hg] at hh; exact hh), _, eD3, by rw [List.length_map, List.length_take]; omega, fr5.trans (.write eD3 wr_lst nt_lst (List.mem_singleton.mpr rfl)), ?_⟩
        rw [upd_same, take_snoc htj, List.map_append]
        rfl
      · rintro H5 ⟨fr5, eD3⟩
        rw [List.length_map, List.take_of_length_le (Nat.le_refl _)] at eD3
        have fr50 := fr5.drop (nw_none nD3)
        refine ⟨D3, _, rfl, .inl (.inl eD3), fun lq o ho nq => ?_⟩
        have f6 : Fr T [] H5 (upd H5 lq (.frz o (.tup (rs.map fun t => sgV ((trOf js).sg t.2 (inF fs) k))))) := .new nq
        have fr46 := fr50.trans f6
        have eq6 : (upd H5 lq (.frz o (.tup (rs.map fun t => sgV ((trOf js).sg t.2 (inF fs) k))))) lq = some (.frz o (.tup (rs.map fun t => sgV ((trOf js).sg t.2 (inF fs) k)))) := upd_same
        generalize (upd H5 lq (.frz o (.tup (rs.map fun t => sgV ((trOf js).sg t.2 (inF fs) k))))) = H6 at f6 fr46 eq6 ⊢
        have eD26 := fr46.at0 eD2 nt_dK
        have hqD : lq ≠ D2 := (ne_of_none (fr50.at0 eD2 nt_dK) nq).symm
        have hnew : k ∉ ts.map (·.1) := by rw [hmt]; exact not_in_take nd hk
        refine ⟨kvI ts, Sum.inl (k : Nat), rfl, eD26, by rw [List.length_map]; omega, ts ++ [(k, .ref lq)], fr3.trans (fr46.nil.trans (.write eD26 wr_dK nt_dK (List.mem_singleton.mpr rfl))), ?_, by rw [List.map_append, hmt, take_snoc hk]; rfl, ?_⟩
        · rw [upd_same, putK_new _ (kvI_none hnew), kvI, kvI, List.map_append]
          rfl
        · have fW : Fr T [D2] H6 (upd H6 D2 (.dK (putK (kvI ts) (Sum.inl (k : Nat)) (.ref lq)))) := .write eD26 wr_dK nt_dK (List.mem_singleton.mpr rfl)
          have sW : Same (Reg [D2] H6) (Reg [D2] (upd H6 D2 (.dK (putK (kvI ts) (Sum.inl (k : Nat)) (.ref lq))))) := fW.reg fun b hb => hb
          intro t htm
          rcases List.mem_append.mp htm with h | h
          · exact Same.dp sW (Same.dp fr46.reg0 (htl t h))
          · rw [List.mem_singleton.mp h]
            refine Same.dp sW (.tup (.inl (.inr ⟨o, reg_in (fun z => hqD (List.mem_singleton.mp z)) eq6 nt_frz⟩)) ?_)
            have eL : (L.map fun l => dSg ((trOf js).sg l (inF fs) k)) = rs.map fun t => dSg ((trOf js).sg t.2 (inF fs) k) := by
              rw [← hmap, List.map_map]
              rfl
            rw [eL]
            exact dps_map (f := fun t : Addr × List Nat => sgV ((trOf js).sg t.2 (inF fs) k)) (fun t => dp_sg K _ _) rs
    · rintro H3 ⟨ts, fr3, eD2, hmt, htl⟩
      rw [List.length_map, List.take_of_length_le (Nat.le_refl _)] at hmt
      have fr30 := fr3.drop (nw_none nD2)
      exact q H3 D2 L ts (frB.trans fr30) (frB.nw0 nD2) eD2 hmt isL hL81 htl
end
end Tz
end -- W17
section -- W18
set_option maxHeartbeats 4000000
namespace Tz
open PySem PySem.Spec PyProof.Rows L2 TL
/-- e's own new list or dict, written no more -/
def tFrz (t : TE) : TE := fun σ H Q => t σ H fun x H1 => ∃ d u, x = .ref d ∧ H1 d = some u ∧ Mut (some u) ∧ ∀ od, Q (.ref d) (upd H1 d (.frz od u))
theorem pe_frz {X : Cx} {e : Expr} {t : TE} (h : PE X e t) : PE X e (tFrz t) := by
  refine ⟨fun pins s σ H Q I hw => thn (h.run pins s σ H _ I hw) fun v s1 ⟨x, H1, I1, r, d, u, ex, hd, mu, q⟩ => ?_⟩
  subst ex
  obtain ⟨od, I2⟩ := I1.lock hd mu
  exact ⟨_, _, I2, r, q od⟩
theorem Fr.frz {T : List (Addr × Str)} {H : Hp} {d : Addr} {u : HO} {od : Obj} (hd : H d = some u) (wu : Wr u) : Fr T [d] H (upd H d (.frz od u)) :=
  .write hd wu (fun _ z => nomatch z) (List.mem_singleton.mpr rfl)
/-! ### the pebbles and their places -/
def nameAt (pose : Pose) (k : Nat) : Str := (pose.getD k none).getD ""
theorem fill_lt {pose : Pose} {k : Nat} (h : k ∈ fillOf pose) : k < pose.length := List.mem_range.mp (List.mem_filter.mp h).1
theorem fill_at {pose : Pose} {k : Nat} (h : k ∈ fillOf pose) : pose[k]? = some (some (nameAt pose k)) := by
  have h1 := fill_lt h
  have h2 := (List.mem_filter.mp h).2
  unfold nameAt
  rw [List.getD_eq_getElem?_getD] at h2 ⊢
  rw [List.getElem?_eq_getElem h1] at h2 ⊢
  revert h2
  simp only [Option.getD_some]
  cases pose[k] with
  | none => intro z; cases z
  | some x => intro _; rfl
theorem fill_mem {pose : Pose} {k : Nat} {x : Str} (h : pose[k]? = some (some x)) : k ∈ fillOf pose := by
  have h1 := (List.getElem?_eq_some_iff.mp h).1
  refine List.mem_filter.mpr ⟨List.mem_range.mpr h1, ?_⟩
  rw [List.getD_eq_getElem?_getD, h]
  rfl
theorem fill_nd (pose : Pose) : (fillOf pose).Nodup := List.nodup_range.filter _
theorem pebs_fill (pose : Pose) : ∀ i, i ≤ pose.length → pebs (pose.take i) = (fillTo pose i).map (nameAt pose) := by
  intro i
  induction i with
  | zero => intro _; rfl
  | succ i ih =>
    intro hi
    have e : pose[i]? = some pose[i] := List.getElem?_eq_getElem hi
    rw [take_snoc e, fillTo_step pose e]
    show List.filterMap id _ = _
    rw [List.filterMap_append]
    have ih' : List.filterMap id (pose.take i) = (fillTo pose i).map (nameAt pose) := ih (by omega)
    rw [ih']
    cases h : pose[i] with
    | none =>
      rw [if_pos rfl]
      simp
    | some x =>
      rw [if_neg (fun z => nomatch z), List.map_append]
      have e2 : nameAt pose i = x := by
        unfold nameAt
        rw [List.getD_eq_getElem?_getD, e, h]
        rfl
      simp [e2]
theorem pebs_all (pose : Pose) : pebs pose = (fillOf pose).map (nameAt pose) := by
  have h := pebs_fill pose pose.length (Nat.le_refl _)
  rw [List.take_of_length_le (Nat.le_refl _)] at h
  exact h
theorem ix_name {pose : Pose} (g : GoodP pose) {k : Nat} (h : k ∈ fillOf pose) : ixOf (some (nameAt pose k)) pose = k :=
  g.nd _ _ _ (ixOf_at (List.mem_of_getElem? (fill_at h))) (fill_at h)
/-- a pebble's signs -/
noncomputable abbrev SG (T : Tb.Tr) (L : List (List Nat)) (pose : Pose) (x : Str) : PyData := sgs T L (fillOf pose) (ixOf (some x) pose)
noncomputable def cmpS (T : Tb.Tr) (L : List (List Nat)) (p1 p2 : Pose) : Bool := (pebs p1).all fun x => PyData.eqv (SG T L p1 x) (SG T L p2 x)
theorem dSg_plain : ∀ g, (dSg g).plain = true
  | .bef => rfl
  | .beh => rfl
  | .num _ => rfl
theorem dSg_depth : ∀ g, (dSg g).depth ≤ 0
  | .bef => Nat.le_refl _
  | .beh => Nat.le_refl _
  | .num _ => Nat.le_refl _
theorem sgs_plain (T : Tb.Tr) (L : List (List Nat)) (fs : List Nat) (k : Nat) : (sgs T L fs k).plain = true := plain_map (g := fun l => dSg (T.sg l (inF fs) k)) (fun _ => dSg_plain _) L
theorem sgs_depth (T : Tb.Tr) (L : List (List Nat)) (fs : List Nat) (k : Nat) : (sgs T L fs k).depth ≤ 60 := by
  have h : PyData.depthAll (L.map fun l => dSg (T.sg l (inF fs) k)) ≤ 0 := depth_map (g := fun l => dSg (T.sg l (inF fs) k)) (n := 0) (fun _ => dSg_depth _) L
  show PyData.depthAll (L.map fun l => dSg (T.sg l (inF fs) k)) + 1 ≤ 60
  omega
abbrev kvS (ts : List (Str × V)) : List (Key × V) := ts.map fun t => ((.inr t.1 : Key), t.2)
theorem kvS_none {ts : List (Str × V)} {k : Str} (h : k ∉ ts.map (·.1)) : valV (kvS ts) (.inr k : Key) = none := by
  induction ts with
  | nil => rfl
  | cons t ts ih =>
    rw [List.map_cons] at h
    rw [kvS, List.map_cons, valV_neg (fun z => h (by rw [← Sum.inr.inj z]; exact List.mem_cons_self ..))]
    exact ih fun z => h (List.mem_cons_of_mem _ z)
theorem kvS_some {ts : List (Str × V)} {k : Str} (h : k ∈ ts.map (·.1)) : ∃ v, valV (kvS ts) (.inr k : Key) = some v ∧ (k, v) ∈ ts := by
  induction ts with
  | nil => cases h
  | cons t ts ih =>
    by_cases e : t.1 = k
    · subst e
      exact ⟨t.2, valV_pos rfl, List.mem_cons_self ..⟩
    · rw [List.map_cons] at h
      obtain ⟨v, h1, h2⟩ := ih ((List.mem_cons.mp h).resolve_left fun z => e z.symm)
      exact ⟨v, by rw [kvS, List.map_cons, valV_neg (fun z => e (Sum.inr.inj z))]; exact h1, List.mem_cons_of_mem _ h2⟩
theorem hits_sg {K : PySem.W.Frag} {H : Hp} {f g : Str → PyData} {ls : List (Str × V)} (hf : ∀ x, (f x).plain = true ∧ (f x).depth ≤ 60) (hg : ∀ x, (g x).plain = true) (h2 : ∀ t ∈ ls, Dp K H t.2 (g t.1)) :
    ∀ ks : List (Str × V), (∀ t ∈ ks, Dp K H t.2 (f t.1)) → (∀ t ∈ ks, t.1 ∈ ls.map (·.1)) → Hits K H (kvS ls) (kvS ks) ((ks.map (·.1)).all fun x => PyData.eqv (f x) (g x))
  | [], _, _ => .nil
  | t :: ks, h1, h3 => by
    obtain ⟨v, e1, e2⟩ := kvS_some (h3 t (List.mem_cons_self ..))
    exact .hit e1 (h1 t (List.mem_cons_self ..)) (h2 _ e2) (hf _).1 (hg _) (hf _).2 (hits_sg hf hg h2 ks (fun u hu => h1 u (List.mem_cons_of_mem _ hu)) fun u hu => h3 u (List.mem_cons_of_mem _ hu))
section
variable {P : Program} {w : World} {K : PySem.W.Frag} {mg : Str → Option Value} {base : Heap} {T : List (Addr × Str)} {CT CB : Addr}
/-! ### signs_by_pebble -/
abbrev sByP : Stmt := top 50
abbrev nByP : List Str := ["tree", "standing", "k", "told"]
theorem scByP : FnScope nByP ["tree", "standing"] (defScope sByP) := ⟨rfl, rfl, rfl, by decide +kernel, rfl, by decide +kernel, by decide +kernel⟩
def ToldS (K : PySem.W.Frag) (R : Hp) (f : Str → PyData) (ts : List (Str × V)) : Prop := ∀ t ∈ ts, Dp K R t.2 (f t.1)
def spByP (K : PySem.W.Frag) (T : List (Addr × Str)) (CT : Addr) : Sp := fun vs H Q _ => ∃ (js : Js) (ch : List Addr) (v : V) (a : Addr) (pose : Pose), vs = [v, .ref a] ∧ WellJ js ∧ Lv ch H ∧ LamX.Tabs T H ∧ TreeAt K CT (Reg ch H) v js ∧ SqT K H a (vNs pose) ∧ GoodP pose ∧ pose.length = js.length ∧
  ∀ H' d L ts, Fr T [] H H' → Nw H d → H' d = some (.dK (kvS ts)) → ts.map (·.1) = pebs pose → (trOf js).IsLong (js.length - (pebs pose).length) L → ToldS K (Reg [] H') (SG (trOf js) L pose) ts → Q (.ref d) H'
theorem ok_byP {f : Addr} {fd : FuncData} (F : L2.Fun K "signs_by_pebble" "signs_by_pebble" sByP f fd) (B : Blt mg) (DF : Def P w K mg base 1 "filled_in" ["standing"] (spFilled K T)) (DA : Def P w K mg base 6 "all_signs" ["tree", "filled"] (spAll K T CT)) : FnOk P w K mg base CX0 7 f fd ["tree", "standing"] (spByP K T CT) := by
  refine F.ok scByP (fun vs H Q E h => ?_) (fun cdv A outer s H vs Q E hr h => ?_)
  · obtain ⟨js, ch, v, a, pose, rfl, _⟩ := h
    rfl
  · obtain ⟨js, ch, v, a, pose, rfl, W, lv, tabs, ht, ha, gp, hl, q⟩ := h
    refine ⟨_, pss_one (ps_ret (pe_dc (own := [("k", 2), ("told", 3)]) (g := gTup K 2 (gCons (gName 2) (gCons (gName 3) gNil))) (tt := tYes) (tk := tOp (rIxT K) (tVar 1) (tVar 2)) (tv := tVar 3) rfl scByP.nd
        (pi_items (pe_frz (pe_callD DA hr (by rfl) (pa_cons (pv 0) (pa_cons (pe_callD DF (hr.mono (by decide)) (by rfl) (pa_cons (pv 1) pa_nil)) pa_nil))))) (blkOk_by (N := nByP) (sc := defScope sByP) (by decide +kernel))
        (fun _ _ _ _ _ => pg_tup rfl (pgs_cons (pg_name (i := 2) scByP.nd rfl (.inl rfl)) (pgs_cons (pg_name (i := 3) scByP.nd rfl (.inl rfl)) pgs_nil))) (fun _ _ _ _ _ => pts_nil)
        (fun _ _ _ _ _ => pe_ix ix_tup (pv 1) (pv 2) (fun _ _ => rfl)) (fun _ _ _ _ _ => pv 3))), ?_⟩
    have h9 := W.top
    have sl := sizeLine_eq
    refine ⟨_, rfl, _, rfl, a, pose, rfl, ha, by omega, fun H1 pf fr1 nwf ef => ?_⟩
    have hfp : (fillOf pose).length = (pebs pose).length := by rw [pebs_all, List.length_map]
    refine ⟨js, ch, v, pf, fillOf pose, rfl, W, fr1.lv lv, fr1.tabs tabs, Same.tree fr1.reg0 ht, .inl (.inl ef), fill_nd pose, (fun k hk => by have := fill_lt hk; omega), fun H2 d L ts fr2 nwd ed hmap isL hL81 htl => ?_⟩
    refine ⟨d, _, rfl, ed, trivial, fun od => ⟨d, od, kvI ts, rfl, upd_same, ?_⟩⟩
    have fz : Fr T [d] H2 (upd H2 d (.frz od (.dK (kvI ts)))) := .frz ed wr_dK
    have ez : (upd H2 d (.frz od (.dK (kvI ts)))) d = some (.frz od (.dK (kvI ts))) := upd_same
    have hz := htl.same (fz.reg (ch := [d]) fun b hb => hb)
    have fr3 : Fr T [] H1 (upd H2 d (.frz od (.dK (kvI ts)))) := (fr2.nil.trans fz).drop nwd
    generalize (upd H2 d (.frz od (.dK (kvI ts)))) = H3 at fz ez hz fr3 ⊢
    have fr03 := fr1.trans fr3
    have hzR : Told K (Reg [] H3) (trOf js) L (fillOf pose) ts := hz.same (reg_less fun _ z => nomatch z)
    have hlt : ts.length ≤ 9 := by
      have h1 : ts.length = (fillTo pose pose.length).length := by rw [← List.length_map (f := fun t : Nat × V => t.1)]; exact congrArg List.length hmap
      have h2 := fillTo_len pose pose.length
      omega
    refine fun D nD => dc_it (walk_items (kvs := kvI ts)) (fun i H4 => Fr T [D] H3 H4 ∧ H4 D = some (.dK (kvS ((ts.take i).map fun t => (nameAt pose t.1, t.2))))) ?_ ?_ ?_ ?_
    · exact ⟨.new nD, upd_same⟩
    · rintro i H4 _ ⟨fr4, _⟩
      exact (fr4.drop (nw_none nD)).at0 ez nt_frz
    · rintro i z H4 H5 hi ⟨fr4, eD⟩ ⟨Tp, y1, y2, rfl, nT, rfl, f1, f2⟩
      have hi' : i < ts.length := by rw [List.length_map] at hi; exact hi
      have et : ts[i]? = some ts[i] := List.getElem?_eq_getElem hi'
      obtain ⟨k, vt⟩ : ∃ t, ts[i]? = some t := ⟨_, et⟩
      have ek : (kvI ts)[i]? = some ((.inl (k.1 : Nat) : Key), k.2) := by rw [List.getElem?_map, vt]; rfl
      dsimp only at f1 f2
      rw [ek] at f1 f2
      cases f1
      cases f2
      have hkm : k.1 ∈ fillOf pose := by rw [← hmap]; exact List.mem_map_of_mem (List.mem_of_getElem? vt)
      have frT : Fr T [D] H3 (upd H4 Tp (.tup [.int (k.1 : Nat), k.2])) := fr4.trans (.new nT)
      have eD5 : (upd H4 Tp (.tup [.int (k.1 : Nat), k.2])) D = some (.dK (kvS ((ts.take i).map fun t => (nameAt pose t.1, t.2)))) := (Fr.new (T := T) (W := []) nT).at0 eD nt_dK
      refine ⟨Tp, _, rfl, .inl (.inl upd_same), rfl, _, _, rfl, _, _, rfl, rfl, ?_⟩
      have eT : (upd H4 Tp (.tup [kV (Sum.inl (k.1 : Int)), k.2])) = (upd H4 Tp (.tup [.int (k.1 : Nat), k.2])) := rfl
      rw [eT]
      have hnd : ((ts.take i).map fun t => (nameAt pose t.1, t.2)).map (·.1) = ((fillOf pose).take i).map (nameAt pose) := by
        rw [← hmap, List.map_map, ← List.map_take, List.map_map]
        rfl
      have hnew : nameAt pose k.1 ∉ ((ts.take i).map fun t => (nameAt pose t.1, t.2)).map (·.1) := by
        rw [hnd]
        intro z
        obtain ⟨j, hj, ej⟩ := List.mem_map.mp z
        have hjm := List.mem_of_mem_take hj
        have e1 := fill_at hjm
        rw [ej] at e1
        have := gp.nd _ _ _ e1 (fill_at hkm)
        subst this
        have ekf : (fillOf pose)[i]? = some k.1 := by rw [← hmap, List.getElem?_map, vt]; rfl
        exact not_in_take (fill_nd pose) ekf hj
      refine ⟨rfl, _, rfl, _, rfl, a, vNs pose, (k.1 : Nat), _, rfl, rfl, (fr03.trans (frT.drop (nw_none nD))).sqT0 ha, atI_nat (show (vNs pose)[k.1]? = some (.str (nameAt pose k.1)) by rw [List.getElem?_map, fill_at hkm]; rfl), _, rfl, _, Sum.inr (nameAt pose k.1), rfl, eD5, by rw [List.length_map, List.length_map, List.length_take]; omega, frT.trans (.write eD5 wr_dK nt_dK (List.mem_singleton.mpr rfl)), ?_⟩
      rw [upd_same, putK_new _ (kvS_none hnew), take_snoc vt, List.map_append, kvS, kvS, List.map_append]
      rfl
    · rintro H4 ⟨fr4, eD⟩
      rw [List.length_map, List.take_of_length_le (Nat.le_refl _)] at eD
      have fr40 := fr4.drop (nw_none nD)
      have frA := fr03.trans fr40
      refine q H4 D L _ frA (fr03.nw0 nD) eD ?_ (by rw [← hfp]; exact isL) ?_
      · rw [List.map_map, pebs_all, ← hmap, List.map_map]
        rfl
      · intro t htm
        obtain ⟨u, hu, rfl⟩ := List.mem_map.mp htm
        have hum : u.1 ∈ fillOf pose := by rw [← hmap]; exact List.mem_map_of_mem hu
        show Dp K (Reg [] H4) u.2 (sgs (trOf js) L (fillOf pose) (ixOf (some (nameAt pose u.1)) pose))
        rw [ix_name gp hum]
        exact Same.dp fr40.reg0 (hzR u hu)
end
end Tz
end -- W18
section -- W19
set_option maxHeartbeats 4000000
namespace Tz
open PySem PySem.Spec PyProof.Rows L2 TL
section
variable {P : Program} {w : World} {K : PySem.W.Frag} {mg : Str → Option Value} {base : Heap} {T : List (Addr × Str)} {CT CB : Addr}
/-! ### comes, can_become -/
abbrev sComes : Stmt := top 52
theorem scComes : FnScope ["tree", "standing", "goal"] ["tree", "standing", "goal"] (defScope sComes) := ⟨rfl, rfl, rfl, by decide +kernel, rfl, by decide +kernel, by decide +kernel⟩
theorem told_eq {H1 H2 : Hp} {js : Js} {L : List (List Nat)} {p1 p2 : Pose} {t1 t2 : List (Str × V)} (B : Both js p1 p2) (m1 : t1.map (·.1) = pebs p1) (m2 : t2.map (·.1) = pebs p2) (d1 : ToldS K H2 (SG (trOf js) L p1) t1) (d2 : ToldS K H2 (SG (trOf js) L p2) t2) :
    ((kvS t1).length == (kvS t2).length) = true ∧ Hits K H2 (kvS t2) (kvS t1) (cmpS (trOf js) L p1 p2) := by
  refine ⟨?_, ?_⟩
  · have h1 := congrArg List.length m1
    have h2 := congrArg List.length m2
    have h3 := B.pm.length_eq
    rw [List.length_map] at h1 h2
    simp only [List.length_map, beq_iff_eq]
    omega
  · unfold cmpS
    rw [← m1]
    refine hits_sg (f := SG (trOf js) L p1) (g := SG (trOf js) L p2) (fun x => ⟨sgs_plain _ _ _ _, sgs_depth _ _ _ _⟩) (fun x => sgs_plain _ _ _ _) d2 t1 d1 fun t ht => ?_
    rw [m2]
    have : t.1 ∈ pebs p1 := by rw [← m1]; exact List.mem_map_of_mem ht
    exact B.pm.mem_iff.mpr this
def spComes (K : PySem.W.Frag) (T : List (Addr × Str)) (CT : Addr) : Sp := fun vs H Q _ => ∃ (js : Js) (ch : List Addr) (v : V) (a b : Addr) (pose goal : Pose), vs = [v, .ref a, .ref b] ∧ Both js pose goal ∧ Lv ch H ∧ LamX.Tabs T H ∧ TreeAt K CT (Reg ch H) v js ∧ SqT K H a (vNs pose) ∧ SqT K H b (vNs goal) ∧
  ∀ H' L, Fr T [] H H' → (trOf js).IsLong (js.length - (pebs pose).length) L → Q (.bl (cmpS (trOf js) L pose goal)) H'
theorem ok_comes {f : Addr} {fd : FuncData} (F : L2.Fun K "comes" "comes" sComes f fd) (DC : Def P w K mg base 1 "check_tree" ["tree"] (spCheckTree CT)) (DB : Def P w K mg base 4 "check_both" ["tree", "standing", "goal"] (spBoth K T CT)) (DY : Def P w K mg base 7 "signs_by_pebble" ["tree", "standing"] (spByP K T CT)) :
    FnOk P w K mg base CX0 8 f fd ["tree", "standing", "goal"] (spComes K T CT) := by
  refine F.ok scComes (fun vs H Q E h => ?_) (fun cdv A outer s H vs Q E hr h => ?_)
  · obtain ⟨js, ch, v, a, b, pose, goal, rfl, _⟩ := h
    rfl
  · obtain ⟨js, ch, v, a, b, pose, goal, rfl, Bt, lv, tabs, ht, ha, hb, q⟩ := h
    have hu65 : _ + 65 < cLine := Nat.lt_of_le_of_lt (Nat.add_le_add_left (by decide : 65 ≤ 16 * 7 + 200) _) (by have := hr.un; rw [Nat.add_assoc] at this; exact this)
    refine ⟨_, pss_cons (ps_expr (pe_callD DC (hr.mono (by decide)) (by rfl) (pa_cons (pv 0) pa_nil))) (pss_cons (ps_expr (pe_callD DB (hr.mono (by decide)) (by rfl) (pa_cons (pv 0) (pa_cons (pv 1) (pa_cons (pv 2) pa_nil)))))
      (pss_one (ps_ret (pe_cmpR (op_eqDT hu65) (pe_callD DY hr (by rfl) (pa_cons (pv 0) (pa_cons (pv 1) pa_nil))) (pe_callD DY hr (by rfl) (pa_cons (pv 0) (pa_cons (pv 2) pa_nil))) (nomark _))))), ?_⟩
    obtain ⟨ta, tdx, tfs, etv, eta⟩ := ht.ins
    subst etv
    refine ⟨_, rfl, ta, tdx, tfs, rfl, reg_same _ _ eta, ?_⟩
    refine ⟨_, rfl, _, rfl, _, rfl, js, ch, _, a, b, pose, goal, rfl, Bt, lv, ht, ha, hb, fun H1 fr1 => ?_⟩
    refine ⟨_, rfl, _, rfl, js, ch, _, a, pose, rfl, Bt.wj, fr1.lv lv, fr1.tabs tabs, Same.tree fr1.reg0 ht, fr1.sqT0 ha, Bt.gp, Bt.lp, fun H2 d1 L1 t1 fr2 nw1 e1 m1 isL1 td1 => ?_⟩
    have fr12 := fr1.trans fr2
    refine ⟨_, rfl, _, rfl, js, ch, _, b, goal, rfl, Bt.wj, fr12.lv lv, fr12.tabs tabs, Same.tree fr12.reg0 ht, fr12.sqT0 hb, Bt.gg, Bt.lg, fun H3 d2 L2 t2 fr3 nw2 e2 m2 isL2 td2 => ?_⟩
    have eL : L2 = L1 := by
      rw [Bt.pm.length_eq] at isL2
      exact isL2.one isL1
    subst eL
    have h1 : ToldS K H3 (SG (trOf js) L2 pose) t1 := fun t ht => dp_in (Same.dp fr3.reg0 (td1 t ht))
    have h2 : ToldS K H3 (SG (trOf js) L2 goal) t2 := fun t ht => dp_in (td2 t ht)
    obtain ⟨g1, g2⟩ := told_eq (H1 := H3) Bt m1 m2 h1 h2
    refine ⟨d1, d2, _, _, _, rfl, rfl, fr3.at0 e1 nt_dK, e2, g2, ?_⟩
    rw [g1, Bool.true_and]
    exact q H3 L2 (fr12.trans fr3) isL1
abbrev sCan : Stmt := inClass (top 57) 9
theorem scCan : FnScope ["self", "goal"] ["self", "goal"] (defScope sCan) := ⟨rfl, rfl, rfl, by decide +kernel, rfl, by decide +kernel, by decide +kernel⟩
def spCan (K : PySem.W.Frag) (T : List (Addr × Str)) (CT CB : Addr) : Sp := fun vs H Q _ => ∃ (js : Js) (ch : List Addr) (bd b : Addr) (vb : V) (st : StM) (past : List StM) (goal : Pose), vs = [.ref bd, .ref b] ∧ Both js st.1 goal ∧ Lv ch H ∧ LamX.Tabs T H ∧ BoardAt K CT CB H ch bd vb js st past ∧ SqT K H b (vNs goal) ∧
  ∀ H' L, Fr T [] H H' → (trOf js).IsLong (js.length - (pebs st.1).length) L → Q (.bl (cmpS (trOf js) L st.1 goal)) H'
theorem ok_can {f : Addr} {fd : FuncData} (F : L2.Fun K "can_become" "Board.can_become" sCan f fd) (BC : BoardC P w K mg base CB) (DB : Def P w K mg base 4 "check_both" ["tree", "standing", "goal"] (spBoth K T CT)) (DY : Def P w K mg base 7 "signs_by_pebble" ["tree", "standing"] (spByP K T CT)) :
    FnOk P w K mg base CX0 8 f fd ["self", "goal"] (spCan K T CT CB) := by
  refine F.ok scCan (fun vs H Q E h => ?_) (fun cdv A outer s H vs Q E hr h => ?_)
  · obtain ⟨js, ch, bd, b, vb, st, past, goal, rfl, _⟩ := h
    rfl
  · obtain ⟨js, ch, bd, b, vb, st, past, goal, rfl, Bt, lv, tabs, bo, hb, q⟩ := h
    have hu65 : _ + 65 < cLine := Nat.lt_of_le_of_lt (Nat.add_le_add_left (by decide : 65 ≤ 16 * 7 + 200) _) (by have := hr.un; rw [Nat.add_assoc] at this; exact this)
    have hr1 : Room 2 _ := hr.mono (by decide)
    refine ⟨_, pss_cons (ps_expr (pe_callD DB (hr.mono (by decide)) (by rfl) (pa_cons (pe_fld (pv 0) rfl) (pa_cons (pe_propD BC.st BC.f.cl hr1 (pv 0)) (pa_cons (pv 1) pa_nil)))))
      (pss_one (ps_ret (pe_cmpR (op_eqDT hu65) (pe_callD DY hr (by rfl) (pa_cons (pe_fld (pv 0) rfl) (pa_cons (pe_propD BC.st BC.f.cl hr1 (pv 0)) pa_nil))) (pe_callD DY hr (by rfl) (pa_cons (pe_fld (pv 0) rfl) (pa_cons (pv 1) pa_nil))) (nomark _)))), ?_⟩
    obtain ⟨dx, v1, q0, vs, eb, ht, ⟨an, p, v2, rfl, hn, hp, hv2⟩, hq0, hvs⟩ := id bo
    refine ⟨_, rfl, bd, CB, dx, _, _, rfl, eb, BC.f.cl, BC.f.nB, bF_b, _, rfl, bd, dx, _, rfl, eb, bd, dx, _, an, _, _, rfl, eb, bF_n, Same.seqT reg_same hn, _, rfl, js, ch, _, p, b, st.1, goal, rfl, Bt, lv, ht, (Same.fz reg_same hp).sq, hb, fun H1 fr1 => ?_⟩
    have eb1 := fr1.at0 eb nt_ins
    refine ⟨_, rfl, bd, CB, dx, _, _, rfl, eb1, BC.f.cl, BC.f.nB, bF_b, _, rfl, bd, dx, _, rfl, eb1, bd, dx, _, an, _, _, rfl, eb1, bF_n, fr1.sqT0 (Same.seqT reg_same hn), js, ch, _, p, st.1, rfl, Bt.wj, fr1.lv lv, fr1.tabs tabs, Same.tree fr1.reg0 ht, fr1.sqT0 (Same.fz reg_same hp).sq, Bt.gp, Bt.lp, fun H2 d1 L1 t1 fr2 nw1 e1 m1 isL1 td1 => ?_⟩
    have fr12 := fr1.trans fr2
    have eb2 := fr12.at0 eb nt_ins
    refine ⟨_, rfl, bd, CB, dx, _, _, rfl, eb2, BC.f.cl, BC.f.nB, bF_b, _, rfl, js, ch, _, b, goal, rfl, Bt.wj, fr12.lv lv, fr12.tabs tabs, Same.tree fr12.reg0 ht, fr12.sqT0 hb, Bt.gg, Bt.lg, fun H3 d2 L2 t2 fr3 nw2 e2 m2 isL2 td2 => ?_⟩
    have eL : L2 = L1 := by
      rw [Bt.pm.length_eq] at isL2
      exact isL2.one isL1
    subst eL
    have h1 : ToldS K H3 (SG (trOf js) L2 st.1) t1 := fun t ht => dp_in (Same.dp fr3.reg0 (td1 t ht))
    have h2 : ToldS K H3 (SG (trOf js) L2 goal) t2 := fun t ht => dp_in (td2 t ht)
    obtain ⟨g1, g2⟩ := told_eq (H1 := H3) Bt m1 m2 h1 h2
    refine ⟨d1, d2, _, _, _, rfl, rfl, fr3.at0 e1 nt_dK, e2, g2, ?_⟩
    rw [g1, Bool.true_and]
    exact q H3 L2 (fr12.trans fr3) isL1
end
end Tz
end -- W19
section -- W20
set_option maxHeartbeats 4000000
namespace Tz
open PySem PySem.Spec PyProof.Rows L2 TL
theorem vSs_app (l m : List Str) : vSs (l ++ m) = vSs l ++ vSs m := List.map_append
theorem vSs_erase (l : List Str) (d : Nat) : (vSs l).eraseIdx d = vSs (l.eraseIdx d) := by
  induction l generalizing d with
  | nil => rfl
  | cons a l ih => cases d with
    | zero => rfl
    | succ d => exact congrArg (V.str a :: ·) (ih d)
theorem erase_perm {α : Type} {l : List α} {d : Nat} {y : α} (h : l[d]? = some y) : (y :: l.eraseIdx d).Perm l := by
  induction l generalizing d with
  | nil => cases h
  | cons a l ih => cases d with
    | zero =>
      cases h
      exact .refl _
    | succ d => exact (List.Perm.swap a y _).trans ((ih (d := d) h).cons a)
/-- the purse: what is left of the script's number, and the seed -/
def Pu (H : Hp) (pa : Addr) : Prop := ∃ a b : Int, 0 ≤ a ∧ 0 ≤ b ∧ H pa = some (.lst [.int a, .int b])
theorem Fr.pu {T : List (Addr × Str)} {H H' : Hp} {pa : Addr} (f : Fr T [] H H') (h : Pu H pa) : Pu H' pa := by
  obtain ⟨a, b, h1, h2, e⟩ := h
  exact ⟨a, b, h1, h2, f.at0 e nt_lst⟩
section
variable {P : Program} {w : World} {K : PySem.W.Frag} {mg : Str → Option Value} {base : Heap} {T : List (Addr × Str)} {CT CB : Addr}
/-! ### _law_draw -/
abbrev sDraw : Stmt := top 60
abbrev nDraw : List Str := ["_law_purse_here", "_law_many", "_law_digit"]
theorem scDraw : FnScope nDraw ["_law_purse_here", "_law_many"] (defScope sDraw) := ⟨rfl, rfl, rfl, by decide +kernel, rfl, by decide +kernel, by decide +kernel⟩
def spDraw (T : List (Addr × Str)) : Sp := fun vs H Q _ => ∃ (pa : Addr) (m : Nat), vs = [.ref pa, .int (m : Nat)] ∧ 1 ≤ m ∧ m ≤ 1000 ∧ Pu H pa ∧ ∀ H' (d : Nat), d < m → Fr T [pa] H H' → Pu H' pa → Q (.int (d : Nat)) H'
theorem ok_draw {f : Addr} {fd : FuncData} (F : L2.Fun K "_law_draw" "_law_draw" sDraw f fd) (B : Blt mg) : FnOk P w K mg base CX0 1 f fd ["_law_purse_here", "_law_many"] (spDraw T) := by
  refine F.ok scDraw (fun vs H Q E h => ?_) (fun cdv A outer s H vs Q E hr h => ?_)
  · obtain ⟨pa, m, rfl, _⟩ := h
    rfl
  · obtain ⟨pa, m, rfl, hm, hm2, ⟨a, b, ha, hb, e⟩, q⟩ := h
    refine ⟨_, pss_cons (ps_if (pt_cmpR op_gt (pe_ix ix_list (pv 0) pe_int (fun _ _ => rfl)) pe_int (nomark _))
        (pss_cons (ps_asg (pe_callB call_divmod (by rfl) B.divmod (by decide +kernel) (pa_cons (pe_ix ix_list (pv 0) pe_int (fun _ _ => rfl)) (pa_cons (pv 1) pa_nil))) (pg_tup rfl (pgs_cons (pg_sub (pv 0) pe_int set_list) (pgs_cons (pg_name (i := 2) scDraw.nd rfl (.inl rfl)) pgs_nil))))
        (pss_one (ps_ret (pv 2)))) pss_nil)
      (pss_cons (ps_asg (pe_op op_mod (pe_callTy call_int1 (by rfl) B.int (by decide +kernel) (pa_cons (pe_op op_add (pe_op op_mul (pe_ix ix_list (pv 0) pe_int (fun _ _ => rfl)) pe_int) pe_int) pa_nil)) pe_int) (pg_sub (pv 0) pe_int set_list))
      (pss_one (ps_ret (pe_op op_mod (pe_callTy call_int1 (by rfl) B.int (by decide +kernel) (pa_cons (pe_op op_fdiv (pe_ix ix_list (pv 0) pe_int (fun _ _ => rfl)) pe_int) pa_nil)) (pv 1))))), ?_⟩
    refine ⟨_, rfl, pa, _, 0, _, rfl, rfl, .inl (.inl e), atI_nat (j := 0) rfl, _, _, rfl, rfl, _, rfl, ?_⟩
    by_cases h0 : a > 0
    · refine iteT' (decide_eq_true h0) ?_
      refine ⟨_, rfl, pa, _, 0, _, rfl, rfl, .inl (.inl e), atI_nat (j := 0) rfl, _, rfl, a, (m : Nat), rfl, ⟨by omega, by omega⟩, fun p np => ?_⟩
      have ep : (upd H p (.tup [.int (a / (m : Nat)), .int (a % (m : Nat))])) pa = some (.lst [.int a, .int b]) := (Fr.new (T := T) (W := []) np).at0 e nt_lst
      have fr1 : Fr T [pa] H (upd H p (.tup [.int (a / (m : Nat)), .int (a % (m : Nat))])) := .new np
      refine ⟨p, _, rfl, .inl (.inl upd_same), rfl, _, _, rfl, ?_⟩
      refine ⟨_, rfl, pa, _, 0, 0, rfl, rfl, ep, rfl, _, _, rfl, rfl, ?_⟩
      have hd : 0 ≤ a % (m : Int) ∧ a % (m : Int) < m := ⟨Int.emod_nonneg _ (by omega), Int.emod_lt_of_pos _ (by omega)⟩
      obtain ⟨d, ed⟩ : ∃ d : Nat, a % (m : Int) = d := ⟨(a % (m : Int)).toNat, by omega⟩
      refine ⟨_, rfl, ?_⟩
      have hq := q (upd (upd H p (.tup [.int (a / (m : Nat)), .int (a % (m : Nat))])) pa (.lst [.int (a / (m : Nat)), .int b])) d (by omega) (fr1.trans (.write ep wr_lst nt_lst (List.mem_singleton.mpr rfl))) ⟨a / (m : Nat), b, Int.ediv_nonneg ha (by omega), hb, upd_same⟩
      rw [← ed] at hq
      exact hq
    · refine iteF' (decide_eq_false h0) ?_
      refine ⟨_, rfl, pa, _, 1, _, rfl, rfl, .inl (.inl e), atI_nat (j := 1) rfl, _, _, rfl, rfl, .inr ⟨by decide, by decide⟩, _, _, rfl, rfl, .inl ⟨_, rfl, ?_⟩⟩
      refine ⟨_, _, rfl, rfl, (show (0 : Int) < 2147483647 by decide), ?_⟩
      refine ⟨_, rfl, pa, _, 1, 1, rfl, rfl, e, rfl, ?_⟩
      obtain ⟨b', hb'⟩ : ∃ b', (b * 69621 + 40503) % 2147483647 = b' := ⟨_, rfl⟩
      dsimp only
      rw [show [V.int a, V.int b].set 1 (V.int ((b * 69621 + 40503) % 2147483647)) = [.int a, .int b'] from by rw [hb']; rfl]
      have hb0 : 0 ≤ b' := by rw [← hb']; exact Int.emod_nonneg _ (by decide)
      have e2 : (upd H pa (.lst [.int a, .int b'])) pa = some (.lst [.int a, .int b']) := upd_same
      have fr1 : Fr T [pa] H (upd H pa (.lst [.int a, .int b'])) := .write e wr_lst nt_lst (List.mem_singleton.mpr rfl)
      refine ⟨_, rfl, pa, _, 1, _, rfl, rfl, .inl (.inl e2), atI_nat (j := 1) rfl, _, _, rfl, rfl, ⟨by decide, by decide⟩, .inl ⟨_, rfl, _, rfl, _, _, rfl, rfl, by omega, ?_⟩⟩
      have hd : 0 ≤ b' / 1024 % (m : Int) ∧ b' / 1024 % (m : Int) < m := ⟨Int.emod_nonneg _ (by omega), Int.emod_lt_of_pos _ (by omega)⟩
      obtain ⟨d, ed⟩ : ∃ d : Nat, b' / 1024 % (m : Int) = d := ⟨(b' / 1024 % (m : Int)).toNat, by omega⟩
      have hq := q (upd H pa (.lst [.int a, .int b'])) d (by omega) fr1 ⟨a, b', ha, hb0, e2⟩
      rw [← ed] at hq
      exact hq
/-! ### _law_pick -/
abbrev sPick : Stmt := top 61
theorem scPick : FnScope ["_law_purse_here", "_law_some"] ["_law_purse_here", "_law_some"] (defScope sPick) := ⟨rfl, rfl, rfl, by decide +kernel, rfl, by decide +kernel, by decide +kernel⟩
def spPick (K : PySem.W.Frag) (T : List (Addr × Str)) : Sp := fun vs H Q _ => ∃ (pa l : Addr) (xs : List V), vs = [.ref pa, .ref l] ∧ SqL K (Reg [pa] H) l xs ∧ 1 ≤ xs.length ∧ xs.length ≤ 1000 ∧ Pu H pa ∧ ∀ H' (d : Nat) (x : V), xs[d]? = some x → Fr T [pa] H H' → Pu H' pa → Q x H'
theorem ok_pick {f : Addr} {fd : FuncData} (F : L2.Fun K "_law_pick" "_law_pick" sPick f fd) (B : Blt mg) (DD : Def P w K mg base 1 "_law_draw" ["_law_purse_here", "_law_many"] (spDraw T)) : FnOk P w K mg base CX0 2 f fd ["_law_purse_here", "_law_some"] (spPick K T) := by
  refine F.ok scPick (fun vs H Q E h => ?_) (fun cdv A outer s H vs Q E hr h => ?_)
  · obtain ⟨pa, l, xs, rfl, _⟩ := h
    rfl
  · obtain ⟨pa, l, xs, rfl, hl, h1, h2, pu, q⟩ := h
    refine ⟨_, pss_one (ps_ret (pe_ix ix_list (pv 1) (pe_callD DD hr (by rfl) (pa_cons (pv 0) (pa_cons (pe_callB call_len_seq (by rfl) B.len PySem.boot_len (pa_cons (pv 1) pa_nil)) pa_nil))) (fun _ _ => rfl))), ?_⟩
    refine ⟨_, rfl, _, rfl, _, rfl, l, xs, rfl, .inl (reg_same.seq hl), pa, xs.length, rfl, h1, h2, pu, fun H' d hd fr pu' => ?_⟩
    obtain ⟨x, hx⟩ : ∃ x, xs[d]? = some x := ⟨_, List.getElem?_eq_getElem hd⟩
    exact ⟨l, xs, _, x, rfl, rfl, reg_same.seq ((fr.reg fun b hb => hb).seq hl), atI_nat hx, q H' d x hx fr pu'⟩
/-! ### _law_names -/
abbrev sNames : Stmt := top 62
abbrev nNames : List Str := ["_law_purse_here", "_law_many", "_law_left", "_law_found", "_law_turn", "_law_letter"]
theorem scNames : FnScope nNames ["_law_purse_here", "_law_many"] (defScope sNames) := ⟨rfl, rfl, rfl, by decide +kernel, rfl, by decide +kernel, by decide +kernel⟩
abbrev one (c : Nat) : Str := ⟨#[c]⟩
def poolA : List Str := ("abcdefghijklmnopqrstuvwxyz" : Str).cps.toList.map one
def poolB : List Str := ["to", "fork", "none", "error", "abcdefgh"]
abbrev litB : List V := [V.str "to", V.str "fork", V.str "none", V.str "error", V.str "abcdefgh"]
def poolC : List Str := ("bdfhjlnprtvxz" : Str).cps.toList.map fun c => one c ++ one c
def pool : List Str := poolA ++ poolB ++ poolC
theorem pool_nd : pool.Nodup := by decide +kernel
theorem pool_ok : ∀ z ∈ pool, NmOk z := fun z hz => by
  have h : pool.all (fun z => decide (1 ≤ z.length) && (decide (z.length ≤ 8) && z.cps.toList.all fun c => decide (c ∈ ("abcdefghijklmnopqrstuvwxyz" : Str).cps.toList))) = true := by decide +kernel
  have h2 := List.all_eq_true.mp h z hz
  simp only [Bool.and_eq_true, decide_eq_true_eq, List.all_eq_true] at h2
  exact ⟨h2.1, h2.2.1, h2.2.2⟩
theorem pool_len : pool.length = 44 := by decide +kernel
def spNames (K : PySem.W.Frag) (T : List (Addr × Str)) : Sp := fun vs H Q _ => ∃ (pa : Addr) (m : Nat), vs = [.ref pa, .int (m : Nat)] ∧ m ≤ 10 ∧ Pu H pa ∧ ∀ H' p (ns : List Str), Fr T [pa] H H' → Nw H p → H' p = some (.lst (vSs ns)) → ns.length = m → ns.Nodup → (∀ z ∈ ns, NmOk z) → Pu H' pa → Q (.ref p) H'
theorem ok_names {f : Addr} {fd : FuncData} (F : L2.Fun K "_law_names" "_law_names" sNames f fd) (B : Blt mg) (DD : Def P w K mg base 1 "_law_draw" ["_law_purse_here", "_law_many"] (spDraw T)) : FnOk P w K mg base CX0 2 f fd ["_law_purse_here", "_law_many"] (spNames K T) := by
  refine F.ok scNames (fun vs H Q E h => ?_) (fun cdv A outer s H vs Q E hr h => ?_)
  · obtain ⟨pa, m, rfl, _⟩ := h
    rfl
  · obtain ⟨pa, m, rfl, hm, pu, q⟩ := h
    refine ⟨_, pss_cons (ps_set (i := 2) scNames.nd rfl (Or.inl rfl) (pe_op op_cat (pe_lc (own := [("_law_letter", 5)]) (g := gName 5) (tt := tYes) rfl scNames.nd (pi_str pe_str) (blkOk_by (N := nNames) (sc := defScope sNames) (by decide +kernel)) (fun _ _ _ _ _ => pg_name (i := 5) scNames.nd rfl (Or.inl rfl)) (fun _ _ _ _ _ => pts_nil)
            (fun _ _ _ _ _ => pv 5)) (pe_lst (pa_cons pe_str (pa_cons pe_str (pa_cons pe_str (pa_cons pe_str (pa_cons pe_str pa_nil))))))))
      (pss_cons (ps_set (i := 2) scNames.nd rfl (Or.inl rfl) (pe_op op_cat (pv 2) (pe_lc (own := [("_law_letter", 5)]) (g := gName 5) (tt := tYes) rfl scNames.nd (pi_str pe_str) (blkOk_by (N := nNames) (sc := defScope sNames) (by decide +kernel)) (fun _ _ _ _ _ => pg_name (i := 5) scNames.nd rfl (Or.inl rfl)) (fun _ _ _ _ _ => pts_nil)
            (fun _ _ _ _ _ => pe_op op_mulS (pv 5) pe_int))))
      (pss_cons (ps_set (i := 3) scNames.nd rfl (Or.inl rfl) (pe_lst pa_nil))
      (pss_cons (ps_for PassesOwn.never rfl (pi_range1 rfl B.range (pa_cons (pv 1) pa_nil)) (pg_name (i := 4) scNames.nd rfl (Or.inl rfl))
        (pss_one (ps_expr (pe_bm PySem.F.plainAttrs_list PySem.F.slot_list_append PySem.F.type_list_append mt_append (pv 3) (pa_cons
          (pe_bm PySem.F.plainAttrs_list PySem.F.slot_list_pop PySem.F.type_list_pop mt_popAt (pv 2) (pa_cons (pe_callD DD hr (by rfl) (pa_cons (pv 0) (pa_cons (pe_callB call_len_seq (by rfl) B.len PySem.boot_len (pa_cons (pv 2) pa_nil)) pa_nil))) pa_nil)) pa_nil)))))
      (pss_one (ps_ret (pv 3)))))), ?_⟩
    have sl := sizeLine_eq
    -- the letters
    refine ⟨("abcdefghijklmnopqrstuvwxyz" : Str), rfl, fun D nD => lc_it walk_str (fun i H2 => Fr T [D] H H2 ∧ H2 D = some (.lst (vSs (((("abcdefghijklmnopqrstuvwxyz" : Str).cps.toList.take i).map one))))) ⟨.new nD, upd_same⟩ (fun _ _ _ _ => trivial) ?_ ?_⟩
    · rintro i x H2 H3 hi ⟨fr, eD⟩ ⟨rfl, c, hc, rfl⟩
      have hc' : ("abcdefghijklmnopqrstuvwxyz" : Str).cps.toList[i]? = some c := by rw [Array.getElem?_toList]; exact hc
      have hi26 : i < 26 := hi
      refine ⟨rfl, _, rfl, _, eD, by rw [List.length_map, List.length_map, List.length_take]; omega, fr.trans (.write eD wr_lst nt_lst (List.mem_singleton.mpr rfl)), ?_⟩
      rw [upd_same, take_snoc hc', List.map_append, vSs_app]
      rfl
    rintro H1 ⟨frD, eD⟩
    have e26 : (("abcdefghijklmnopqrstuvwxyz" : Str).cps.toList.take ("abcdefghijklmnopqrstuvwxyz" : Str).cps.size).map one = poolA := by decide +kernel
    rw [e26] at eD
    have fr1 : Fr T [] H H1 := frD.drop (nw_none nD)
    refine ⟨by decide +kernel, fun c nc => ?_⟩
    have frc : Fr T [] H1 (upd H1 c (.lst (litB))) := .new nc
    have lA : (vSs poolA).length = 26 := by decide +kernel
    have lB : litB.length = 5 := rfl
    refine ⟨D, c, _, _, rfl, rfl, frc.at0 eD nt_lst, upd_same, by rw [lA]; show 26 + 5 ≤ sizeLine; omega, fun p1 np1 => ?_⟩
    have fr2 := (fr1.trans frc).trans (Fr.new (T := T) (W := []) (o := .lst (vSs poolA ++ litB)) np1)
    have ep1 : (upd (upd H1 c (.lst (litB))) p1 (.lst (vSs poolA ++ litB))) p1 = some (.lst (vSs poolA ++ litB)) := upd_same
    generalize (upd (upd H1 c (.lst (litB))) p1 (.lst (vSs poolA ++ litB))) = H2 at fr2 ep1 ⊢
    -- the doubled letters
    refine ⟨_, rfl, ("bdfhjlnprtvxz" : Str), rfl, fun D2 nD2 => lc_it walk_str (fun i H3 => Fr T [D2] H2 H3 ∧ H3 D2 = some (.lst (vSs (((("bdfhjlnprtvxz" : Str).cps.toList.take i).map fun c => one c ++ one c))))) ⟨.new nD2, upd_same⟩ (fun _ _ _ _ => trivial) ?_ ?_⟩
    · rintro i x H3 H4 hi ⟨fr, eD⟩ ⟨rfl, c, hc, rfl⟩
      have hc' : ("bdfhjlnprtvxz" : Str).cps.toList[i]? = some c := by rw [Array.getElem?_toList]; exact hc
      have hi26 : i < 13 := hi
      refine ⟨rfl, _, rfl, one c, rfl, rfl, by show 0 < 1; decide, by show 1 ≤ 1000; decide, _, eD, by rw [List.length_map, List.length_map, List.length_take]; omega, fr.trans (.write eD wr_lst nt_lst (List.mem_singleton.mpr rfl)), ?_⟩
      rw [upd_same, take_snoc hc', List.map_append, vSs_app]
      rfl
    rintro H3 ⟨frD2, eD2⟩
    have e13 : ((("bdfhjlnprtvxz" : Str).cps.toList.take ("bdfhjlnprtvxz" : Str).cps.size).map fun c => one c ++ one c) = poolC := by decide +kernel
    rw [e13] at eD2
    have fr3 : Fr T [] H H3 := fr2.trans (frD2.drop (nw_none nD2))
    have lC : (vSs poolC).length = 13 := by decide +kernel
    refine ⟨p1, D2, _, _, rfl, rfl, (frD2.drop (nw_none nD2)).at0 ep1 nt_lst, eD2, by rw [List.length_append, lA, lC]; show 26 + 5 + 13 ≤ sizeLine; omega, fun p2 np2 => ?_⟩
    have epool : vSs poolA ++ litB ++ vSs poolC = vSs pool := by unfold pool; rw [vSs_app, vSs_app]; rfl
    rw [epool]
    have fr4 := fr3.trans (Fr.new (T := T) (W := []) (o := .lst (vSs pool)) np2)
    have nw2 : Nw H p2 := fr3.nw0 np2
    have ep2 : (upd H3 p2 (.lst (vSs pool))) p2 = some (.lst (vSs pool)) := upd_same
    generalize (upd H3 p2 (.lst (vSs pool))) = H4 at fr4 ep2 ⊢
    refine ⟨Nat.zero_le _, fun fo nfo => ?_⟩
    have nwf : Nw H fo := fr4.nw0 nfo
    have fr5 := fr4.trans (Fr.new (T := T) (W := []) (o := .lst []) nfo)
    have ep5 : (upd H4 fo (.lst [])) p2 = some (.lst (vSs pool)) := (Fr.new (T := T) (W := []) (o := .lst []) nfo).at0 ep2 nt_lst
    have hfp : fo ≠ p2 := (ne_of_none ep2 nfo).symm
    have efo : (upd H4 fo (.lst [])) fo = some (.lst []) := upd_same
    generalize (upd H4 fo (.lst [])) = H5 at fr5 ep5 efo ⊢
    obtain ⟨a0, b0, _, _, epa⟩ := id pu
    have hpa2 : pa ≠ p2 := ne_nw epa nt_lst nw2
    have hpaf : pa ≠ fo := ne_nw epa nt_lst nwf
    refine ⟨_, rfl, (m : Nat), rfl, by omega, by omega, for_it (walk_range (lo := 0) (n := m)) (fun i σ H6 => ∃ c4 c5 left ns, σ = [some (.ref pa), some (.int (m : Nat)), some (.ref p2), some (.ref fo), c4, c5] ∧ Fr T [pa, p2, fo] H5 H6 ∧ H6 p2 = some (.lst (vSs left)) ∧ H6 fo = some (.lst (vSs ns)) ∧ Pu H6 pa ∧ ns.length = i ∧ (ns ++ left).Perm pool) ?_ ?_ ?_ ?_⟩
    · exact ⟨none, none, pool, [], rfl, .refl, ep5, efo, fr5.pu pu, rfl, .refl _⟩
    · exact fun _ _ _ _ _ => trivial
    · rintro i x σ H6 H7 hi ⟨c4, c5, left, ns, rfl, fr, el, en, pu6, hl, hp⟩ ⟨rfl, rfl⟩
      have hlen := hp.length_eq
      rw [List.length_append, pool_len] at hlen
      refine ⟨_, rfl, .inl ⟨rfl, _, .inl (.inl en)⟩, _, rfl, .inl ⟨rfl, _, .inl (.inl el)⟩, _, rfl, _, rfl, p2, _, rfl, .inl (.inl (.inl el)), pa, (vSs left).length, rfl, by rw [List.length_map]; omega, by rw [List.length_map]; omega, pu6, fun H8 d hd fr8 pu8 => ?_⟩
      rw [List.length_map] at hd
      have el8 : H8 p2 = some (.lst (vSs left)) := fr8.keep p2 _ (fun z => hpa2 (List.mem_singleton.mp z).symm) el nt_lst
      have en8 : H8 fo = some (.lst (vSs ns)) := fr8.keep fo _ (fun z => hpaf (List.mem_singleton.mp z).symm) en nt_lst
      obtain ⟨y, hy⟩ : ∃ y, left[d]? = some y := ⟨_, List.getElem?_eq_getElem hd⟩
      have hyv : (vSs left)[d]? = some (.str y) := by rw [List.getElem?_map, hy]; rfl
      refine ⟨p2, _, _, d, _, rfl, rfl, el8, by omega, by omega, by rw [seqIndex_of (by omega) (by rw [List.length_map]; omega)]; rfl, hyv, ?_⟩
      have er : (vSs left).eraseIdx d = vSs (left.eraseIdx d) := vSs_erase _ _
      rw [er]
      have en9 : (upd H8 p2 (.lst (vSs (left.eraseIdx d)))) fo = some (.lst (vSs ns)) := by rw [upd_ne hfp]; exact en8
      have fr9 : Fr T [pa, p2, fo] H7 (upd H8 p2 (.lst (vSs (left.eraseIdx d)))) := (fr8.wide fun b hb => by rw [List.mem_singleton.mp hb]; simp).trans (.write el8 wr_lst nt_lst (by simp))
      refine ⟨fo, _, _, rfl, rfl, en9, by rw [List.length_map]; omega, ⟨_, c5, left.eraseIdx d, ns ++ [y], rfl, (fr.trans fr9).trans (.write en9 wr_lst nt_lst (by simp)), ?_, ?_, ?_, by rw [List.length_append, hl]; rfl, ?_⟩⟩
      · rw [upd_ne hfp.symm, upd_same]
      · rw [upd_same, vSs_app]
        rfl
      · obtain ⟨a1, b1, h1, h2, e1⟩ := pu8
        exact ⟨a1, b1, h1, h2, by rw [upd_ne hpaf, upd_ne hpa2]; exact e1⟩
      · refine List.Perm.trans ?_ hp
        rw [List.append_assoc]
        refine List.Perm.append_left ns ?_
        exact erase_perm hy
    · rintro σ H6 ⟨c4, c5, left, ns, rfl, fr, el, en, pu6, hl, hp⟩
      have hnd : (ns ++ left).Nodup := hp.nodup_iff.mpr pool_nd
      have frA : Fr T [pa] H H6 := ⟨fun b o hb e n => ?_, ((fr5.nil.trans fr)).live, ((fr5.nil.trans fr)).tabs⟩
      · exact ⟨_, rfl, q H6 fo ns frA nwf en hl (List.nodup_append.mp hnd).1 (fun z hz => pool_ok z (hp.mem_iff.mp (List.mem_append_left _ hz))) pu6⟩
      · refine (fr5.nil.trans fr).keep b o (fun z => ?_) e n
        rcases List.mem_cons.mp z with z | z
        · exact hb (List.mem_singleton.mpr z)
        · rcases List.mem_cons.mp z with z | z
          · rw [z] at e
            exact nw2 o e n
          · rw [List.mem_singleton.mp z] at e
            exact nwf o e n
end
end Tz
end -- W20
section -- W21
set_option maxHeartbeats 4000000
namespace Tz
open PySem PySem.Spec PyProof.Rows L2 TL
theorem reg_more {ch : List Addr} {H : Hp} {q : Addr} {o : HO} (h : H q = none) : Same (Reg ch H) (Reg (q :: ch) (upd H q o)) := fun b u e => by
  obtain ⟨h1, h2, h3⟩ := reg_out e
  have hb := ne_of_none h2 h
  exact reg_in (fun z => (List.mem_cons.mp z).elim hb h1) (by rw [upd_ne hb]; exact h2) h3
/-- a reading made from another one -/
theorem pe_to {X : Cx} {e : Expr} {t t' : TE} (h : PE X e t) (w : ∀ σ H Q, t' σ H Q → t σ H Q) : PE X e t' := ⟨fun pins s σ H Q I q => h.run pins s σ H Q I (w σ H Q q)⟩
theorem ps_to {X : Cx} {st : Stmt} {t t' : TS} (h : PS X st t) (w : ∀ D σ H, t' D σ H → t D σ H) : PS X st t' := ⟨fun pins s σ H D I q => h.run pins s σ H D I (w D σ H q)⟩
def tAnyInt (G : L2.St → Hp → Prop) (D : Int → Prop) : TE := fun σ H Q => G σ H ∧ ∀ c : Int, D c → Q (.int c) H
section
variable {P : Program} {w : World} {K : PySem.W.Frag} {mg : Str → Option Value} {base : Heap} {T : List (Addr × Str)} {CT CB : Addr}
/-! ### _law_purse -/
abbrev sPurse : Stmt := top 59
abbrev nPurse : List Str := ["_law_script", "_law_spot", "_law_cell", "_law_seed", "_law_one"]
theorem scPurse : FnScope nPurse ["_law_script", "_law_spot"] (defScope sPurse) := ⟨rfl, rfl, rfl, by decide +kernel, rfl, by decide +kernel, by decide +kernel⟩
def spPurse (K : PySem.W.Frag) (T : List (Addr × Str)) : Sp := fun vs H Q _ => ∃ (sc : Addr) (ns : List Int) (k : Nat), vs = [.ref sc, .int (k : Nat)] ∧ SqL K H sc (ns.map V.int) ∧ ns.length ≤ 63 ∧ ∀ H' p, Fr T [] H H' → Nw H p → Pu H' p → Q (.ref p) H'
theorem ok_purse {f : Addr} {fd : FuncData} (F : L2.Fun K "_law_purse" "_law_purse" sPurse f fd) (B : Blt mg) : FnOk P w K mg base CX0 1 f fd ["_law_script", "_law_spot"] (spPurse K T) := by
  refine F.ok scPurse (fun vs H Q E h => ?_) (fun cdv A outer s H vs Q E hr h => ?_)
  · obtain ⟨sc, ns, k, rfl, _⟩ := h
    rfl
  · obtain ⟨sc, ns, k, rfl, hs, hl, q⟩ := h
    refine ⟨_, pss_cons (ps_set (i := 2) scPurse.nd rfl (Or.inl rfl) (pe_to (t' := tAnyInt (fun σ H => ∃ (sc : Addr) (ns : List Int) (k : Nat) (r : L2.St), σ = some (.ref sc) :: some (.int (k : Nat)) :: r ∧ SqL K H sc (ns.map V.int)) fun _ => True) (pe_ifExp (pt_cmpR op_lt (pv 1) (pe_callB call_len_seq (by rfl) B.len PySem.boot_len (pa_cons (pv 0) pa_nil)) (nomark _)) (pe_ix ix_list (pv 0) (pv 1) (fun _ _ => rfl)) (pe_op op_mul pe_int (pe_op op_add (pv 1) pe_int))) ?_))
      (pss_cons (ps_set (i := 3) scPurse.nd rfl (Or.inl rfl) (pe_op op_add pe_int (pv 1)))
      (pss_cons (ps_for PassesOwn.never rfl (pi_list (pe_op op_cat (pe_slice sl_list (pv 0) po_none (po_some pe_int)) (pe_lst (pa_cons (pv 2) pa_nil)))) (pg_name (i := 4) scPurse.nd rfl (Or.inl rfl))
        (pss_one (ps_set (i := 3) scPurse.nd rfl (Or.inl rfl) (pe_op op_mod (pe_callTy call_int1 (by rfl) B.int (by decide +kernel) (pa_cons (pe_op op_add (pe_op op_add (pe_op op_mul (pv 3) pe_int) (pe_op op_mod (pe_callTy call_int1 (by rfl) B.int (by decide +kernel) (pa_cons (pv 4) pa_nil)) pe_int)) pe_int) pa_nil)) pe_int))))
      (pss_one (ps_ret (pe_lst (pa_cons (pe_to (t' := tAnyInt (fun σ H => ∃ (x y : Option V) (c : Int) (r : L2.St), σ = x :: y :: some (.int c) :: r) fun c => 0 ≤ c) (pe_ifExp (pt_cmpR op_ge (pe_callB call_abs (by rfl) B.abs (by decide +kernel) (pa_cons (pv 2) pa_nil)) (pe_op op_pow pe_int pe_int) (nomark _)) (pe_callB call_abs (by rfl) B.abs (by decide +kernel) (pa_cons (pv 2) pa_nil)) pe_int) ?_) (pa_cons (pv 3) pa_nil))))))), ?_⟩
    · rintro σ H Q ⟨⟨sc, ns, k, r, rfl, hs⟩, q⟩
      refine ⟨_, rfl, _, rfl, sc, _, rfl, .inl hs, _, _, rfl, rfl, _, rfl, ?_⟩
      by_cases hb : ((k : Nat) : Int) < ((ns.map V.int).length : Int)
      · have hk : k < ns.length := by rw [List.length_map] at hb; omega
        refine iteT' (decide_eq_true hb) ⟨_, rfl, _, rfl, sc, _, _, .int ns[k], rfl, rfl, hs, atI_nat (by rw [List.getElem?_map, List.getElem?_eq_getElem hk]; rfl), q _ trivial⟩
      · exact iteF' (decide_eq_false hb) ⟨_, rfl, _, _, rfl, rfl, _, _, rfl, rfl, .inl ⟨by decide, by decide⟩, q _ trivial⟩
    · rintro σ H Q ⟨⟨x, y, c, r, rfl⟩, q⟩
      refine ⟨_, rfl, _, rfl, _, _, rfl, rfl, ⟨by decide, by decide, by decide⟩, _, _, rfl, rfl, _, rfl, ?_⟩
      by_cases hb : (10 : Int) ^ (18 : Int).toNat ≤ (if c < 0 then -c else c)
      · exact iteT' (decide_eq_true hb) ⟨_, rfl, _, rfl, q _ (by split <;> omega)⟩
      · exact iteF' (decide_eq_false hb) (q _ (by decide))
    have sl := sizeLine_eq
    refine ⟨⟨sc, ns, k, _, rfl, hs⟩, fun cell _ => ?_⟩
    refine ⟨_, rfl, _, _, rfl, rfl, ?_⟩
    refine ⟨_, rfl, 5, rfl, sc, _, rfl, hs, fun c nc => ?_⟩
    rw [show (5 : Int) = ((5 : Nat) : Int) from rfl, cutt]
    have fr1 : Fr T [] H (upd H c (.lst ((ns.map V.int).take 5))) := .new nc
    have ec : (upd H c (.lst ((ns.map V.int).take 5))) c = some (.lst ((ns.map V.int).take 5)) := upd_same
    generalize (upd H c (.lst ((ns.map V.int).take 5))) = H1 at fr1 ec ⊢
    refine ⟨_, rfl, by show 1 ≤ sizeLine; decide, fun c2 nc2 => ?_⟩
    have fr2 : Fr T [] H1 (upd H1 c2 (.lst [.int cell])) := .new nc2
    refine ⟨c, c2, _, _, rfl, rfl, fr2.at0 ec nt_lst, upd_same, by rw [List.length_take]; show _ + 1 ≤ sizeLine; omega, fun p np => ?_⟩
    have fr3 := (fr1.trans fr2).trans (Fr.new (T := T) (W := []) (o := .lst ((ns.map V.int).take 5 ++ [.int cell])) np)
    have ep : (upd (upd H1 c2 (.lst [.int cell])) p (.lst ((ns.map V.int).take 5 ++ [.int cell]))) p = some (.lst ((ns.map V.int).take 5 ++ [.int cell])) := upd_same
    generalize (upd (upd H1 c2 (.lst [.int cell])) p (.lst ((ns.map V.int).take 5 ++ [.int cell]))) = H2 at fr3 ep ⊢
    have eall : (ns.map V.int).take 5 ++ [.int cell] = (ns.take 5 ++ [cell]).map V.int := by rw [List.map_append, List.map_take]; rfl
    rw [eall] at ep
    refine ⟨p, rfl, ⟨_, .inl (.inl ep)⟩, for_it (walk_list (xs := (ns.take 5 ++ [cell]).map V.int)) (fun i σ H' => H' = H2 ∧ ∃ (seed : Int) (c4 : Option V), σ = [some (.ref sc), some (.int (k : Nat)), some (.int cell), some (.int seed), c4] ∧ 0 ≤ seed) ?_ ?_ ?_ ?_⟩
    · exact ⟨rfl, _, none, rfl, by omega⟩
    · rintro i σ H' _ ⟨rfl, _⟩
      exact .inl (.inl ep)
    · rintro i x σ H' H3 hi ⟨rfl, seed, c4, rfl, h0⟩ ⟨rfl, hx⟩
      obtain ⟨z, _, rfl⟩ := map_at hx
      refine ⟨_, rfl, _, _, rfl, rfl, .inr ⟨by decide, by decide⟩, _, rfl, .inl ⟨_, rfl, _, _, rfl, rfl, (show (0 : Int) < 2147483647 by decide), _, _, rfl, rfl, _, _, rfl, rfl, .inl ⟨_, rfl, _, _, rfl, rfl, (show (0 : Int) < 2147483647 by decide), ?_⟩⟩⟩
      exact ⟨rfl, _, _, rfl, Int.emod_nonneg _ (by decide)⟩
    · rintro σ H' ⟨rfl, seed, c4, rfl, h0⟩
      refine ⟨⟨_, _, cell, _, rfl⟩, fun a ha => ⟨_, rfl, by show 2 ≤ sizeLine; decide, fun d nd => ?_⟩⟩
      exact q _ d (fr3.trans (.new nd)) (fr3.nw0 nd) ⟨a, seed, ha, h0, upd_same⟩
abbrev five (k d1 d2 : Nat) : List V := [.int ((k : Nat) - 1), .int (d1 : Nat), .int 0, .int (if ((k : Nat) : Int) - 1 - ((d2 : Nat) : Int) > 0 then ((k : Nat) : Int) - 1 - ((d2 : Nat) : Int) else 0), .int (((k : Nat) : Int) / 2)]
/-! ### _law_joints -/
abbrev sLJ : Stmt := top 63
abbrev nLJ : List Str := ["_law_purse_here", "_law_many", "_law_way_here", "_law_names_here", "_law_found", "_law_k", "_law_ahead"]
theorem scLJ : FnScope nLJ ["_law_purse_here", "_law_many"] (defScope sLJ) := ⟨rfl, rfl, rfl, by decide +kernel, rfl, by decide +kernel, by decide +kernel⟩
def spLJ (K : PySem.W.Frag) (T : List (Addr × Str)) : Sp := fun vs H Q _ => ∃ (pa : Addr) (m : Nat), vs = [.ref pa, .int (m : Nat)] ∧ 1 ≤ m ∧ m ≤ 9 ∧ Pu H pa ∧ ∀ H' p js, Fr T [pa] H H' → Nw H p → Dp K (Reg [pa] H') (.ref p) (.list (dJl js)) → WellJ js → js.length = m → Pu H' pa → Q (.ref p) H'
theorem ok_lj {f : Addr} {fd : FuncData} (F : L2.Fun K "_law_joints" "_law_joints" sLJ f fd) (B : Blt mg) (DD : Def P w K mg base 1 "_law_draw" ["_law_purse_here", "_law_many"] (spDraw T)) (DN : Def P w K mg base 2 "_law_names" ["_law_purse_here", "_law_many"] (spNames K T)) : FnOk P w K mg base CX0 3 f fd ["_law_purse_here", "_law_many"] (spLJ K T) := by
  refine F.ok scLJ (fun vs H Q E h => ?_) (fun cdv A outer s H vs Q E hr h => ?_)
  · obtain ⟨pa, m, rfl, _⟩ := h
    rfl
  · obtain ⟨pa, m, rfl, h1, hm, pu, q⟩ := h
    have hr1 : Room 1 _ := hr.mono (by decide)
    have sl := sizeLine_eq
    refine ⟨_, pss_cons (ps_par (i := 2) (j := 3) (by rfl) scLJ.nd rfl rfl (by decide) rfl rfl (pa_cons (pe_callD DD hr1 (by rfl) (pa_cons (pv 0) (pa_cons pe_int pa_nil))) (pa_cons (pe_callD DN hr (by rfl) (pa_cons (pv 0) (pa_cons (pv 1) pa_nil))) pa_nil)) (by rfl))
      (pss_cons (ps_set (i := 4) scLJ.nd rfl (Or.inl rfl) (pe_lst (pa_cons (pe_tup (pa_cons (pe_ix ix_list (pv 3) pe_int (fun _ _ => rfl)) (pa_cons pe_non pa_nil))) pa_nil)))
      (pss_cons (ps_for PassesOwn.never rfl (pi_range2 (by rfl) B.range (pa_cons pe_int (pa_cons (pv 1) pa_nil))) (pg_name (i := 5) scLJ.nd rfl (Or.inl rfl))
        (pss_cons (ps_set (i := 6) scLJ.nd rfl (Or.inl rfl) (pe_to (t' := fun σ H Q => ∃ (k way : Nat) (x1 x3 x4 x6 : Option V), σ = [some (.ref pa), x1, some (.int (way : Nat)), x3, x4, some (.int (k : Nat)), x6] ∧ way < 5 ∧ 1 ≤ k ∧ k ≤ 9 ∧ Pu H pa ∧ ∀ (a : Nat) H', a < k → Fr T [pa] H H' → Pu H' pa → Q (.int (a : Nat)) H')
          (pe_ix ix_list (pe_lst (pa_cons (pe_op op_sub (pv 5) pe_int) (pa_cons (pe_callD DD hr1 (by rfl) (pa_cons (pv 0) (pa_cons (pv 5) pa_nil))) (pa_cons pe_int (pa_cons
            (pe_callB (call_max2 rfl) (by rfl) B.max (by decide +kernel) (pa_cons pe_int (pa_cons (pe_op op_sub (pe_op op_sub (pv 5) pe_int) (pe_callD DD hr1 (by rfl) (pa_cons (pv 0) (pa_cons pe_int pa_nil)))) pa_nil)))
            (pa_cons (pe_op op_fdiv (pe_callTy call_int1 (by rfl) B.int (by decide +kernel) (pa_cons (pv 5) pa_nil)) pe_int) pa_nil)))))) (pv 2) (fun _ _ => rfl)) ?_))
        (pss_cons (ps_to (t' := fun D σ H => ∃ (k a : Nat) (x1 x2 x3 x4 : Option V), σ = [some (.ref pa), x1, x2, x3, x4, some (.int (k : Nat)), some (.int (a : Nat))] ∧ a < k ∧ 1 ≤ k ∧ k ≤ 9 ∧ Pu H pa ∧ ∀ (a : Nat) H', a < k → Fr T [pa] H H' → Pu H' pa → D.nx [some (.ref pa), x1, x2, x3, x4, some (.int (k : Nat)), some (.int (a : Nat))] H')
          (ps_if (pt_cmpR op_eq (pe_callD DD hr1 (by rfl) (pa_cons (pv 0) (pa_cons pe_int pa_nil))) pe_int (nomark _)) (pss_one (ps_set (i := 6) scLJ.nd rfl (Or.inl rfl) (pe_callD DD hr1 (by rfl) (pa_cons (pv 0) (pa_cons (pv 5) pa_nil))))) pss_nil) ?_)
        (pss_one (ps_expr (pe_bm PySem.F.plainAttrs_list PySem.F.slot_list_append PySem.F.type_list_append mt_append (pv 4) (pa_cons (pe_tup (pa_cons (pe_ix ix_list (pv 3) (pv 5) (fun _ _ => rfl)) (pa_cons (pv 6) pa_nil))) pa_nil)))))))
      (pss_one (ps_ret (pv 4))))), ?_⟩
    · rintro σ H Q ⟨k, way, x1, x3, x4, x6, rfl, hw, hk1, hk9, pu, q⟩
      refine ⟨_, rfl, _, _, rfl, rfl, _, rfl, _, rfl, pa, k, rfl, hk1, by omega, pu, fun H1 d1 hd1 fr1 pu1 => ?_⟩
      refine ⟨_, rfl, _, _, rfl, rfl, _, rfl, pa, 3, rfl, by decide, by decide, pu1, fun H2 d2 hd2 fr2 pu2 => ⟨_, _, rfl, rfl, _, _, rfl, ?_⟩⟩
      refine ⟨_, rfl, .inl ⟨_, rfl, _, _, rfl, rfl, ⟨by decide, by decide⟩, by show 5 ≤ sizeLine; omega, fun p np => ?_⟩⟩
      have fr3 := (fr1.trans fr2).trans (Fr.new (T := T) (W := [pa]) (o := .lst (five k d1 d2)) np)
      have pu3 := (Fr.new (T := T) (W := []) (o := .lst (five k d1 d2)) np).pu pu2
      have fin : ∀ (x : Int), 0 ≤ x → x < k → Q (.int x) (upd H2 p (.lst (five k d1 d2))) := fun x h0 h1 => by
        have := q x.toNat _ (by omega) fr3 pu3
        rw [show ((x.toNat : Nat) : Int) = x by omega] at this
        exact this
      refine ⟨_, rfl, p, five k d1 d2, (way : Nat), ?_⟩
      match way, hw with
      | 0, _ => exact ⟨.int ((k : Nat) - 1), rfl, rfl, .inl (.inl upd_same), atI_nat (j := 0) rfl, fin _ (by omega) (by omega)⟩
      | 1, _ => exact ⟨.int (d1 : Nat), rfl, rfl, .inl (.inl upd_same), atI_nat (j := 1) rfl, fin _ (by omega) (by omega)⟩
      | 2, _ => exact ⟨.int 0, rfl, rfl, .inl (.inl upd_same), atI_nat (j := 2) rfl, fin _ (by omega) (by omega)⟩
      | 3, _ => exact ⟨.int (if ((k : Nat) : Int) - 1 - ((d2 : Nat) : Int) > 0 then ((k : Nat) : Int) - 1 - ((d2 : Nat) : Int) else 0), rfl, rfl, .inl (.inl upd_same), atI_nat (j := 3) rfl, fin _ (by split <;> omega) (by split <;> omega)⟩
      | 4, _ => exact ⟨.int (((k : Nat) : Int) / 2), rfl, rfl, .inl (.inl upd_same), atI_nat (j := 4) rfl, fin _ (by omega) (by omega)⟩
    · rintro D σ H ⟨k, a, x1, x2, x3, x4, rfl, ha, hk1, hk9, pu, q⟩
      refine ⟨_, rfl, pa, 5, rfl, by decide, by decide, pu, fun H1 d1 hd1 fr1 pu1 => ⟨rfl, _, rfl, ?_⟩⟩
      by_cases h0 : (V.int (d1 : Nat)) = .int 0
      · refine iteT' (decide_eq_true h0) ⟨_, rfl, _, rfl, pa, k, rfl, hk1, by omega, pu1, fun H2 d2 hd2 fr2 pu2 => q d2 H2 hd2 (fr1.trans fr2) pu2⟩
      · exact iteF' (decide_eq_false h0) (q a H1 ha fr1 pu1)
    refine ⟨_, rfl, pa, 5, rfl, by decide, by decide, pu, fun H1 way hway fr1 pu1 => ⟨_, rfl, _, rfl, pa, m, rfl, by omega, pu1, fun H2 na ns fr2 nwn en hnl hnd hnok pu2 => ⟨_, _, rfl, ?_⟩⟩⟩
    have fr12 := fr1.trans fr2
    have n0 : 0 < ns.length := by omega
    have nAt : ∀ {k : Nat} (h : k < ns.length), (vSs ns)[k]? = some (.str ns[k]) := fun h => by rw [List.getElem?_map, List.getElem?_eq_getElem h]; rfl
    refine ⟨_, rfl, na, _, 0, _, rfl, rfl, .inl (.inl en), atI_nat (j := 0) (nAt n0), by show 2 ≤ sizeLine; omega, fun q0 nq0 => ⟨by show 1 ≤ sizeLine; omega, fun fo nfo => ?_⟩⟩
    obtain ⟨a0, b0, _, _, epa2⟩ := id pu2
    have hpn : na ≠ pa := by
      obtain ⟨a1, b1, _, _, epa1⟩ := id pu1
      exact (ne_nw epa1 nt_lst nwn).symm
    have lv2 : Lv [pa] H2 := .one epa2 nt_lst
    have frq : Fr T [] H2 (upd H2 q0 (.tup [.str ns[0], .non])) := .new nq0
    have dq : Dp K (Reg [pa] (upd H2 q0 (.tup [.str ns[0], .non]))) (.ref q0) (.tuple [.str ns[0], dO none]) := new_tup lv2 nq0 (.cons (.str _) (.cons .non .nil))
    generalize (upd H2 q0 (.tup [.str ns[0], .non])) = Hq at frq dq nfo ⊢
    have frf : Fr T [] Hq (upd Hq fo (.lst [.ref q0])) := .new nfo
    have efo : (upd Hq fo (.lst [.ref q0])) fo = some (.lst [.ref q0]) := upd_same
    have dq3 := Same.dp (reg_more (o := .lst [.ref q0]) nfo) dq
    have fr23 := frq.trans frf
    have nfoq : fo ≠ na := (ne_of_none (frq.at0 en nt_lst) nfo).symm
    have nfop : fo ≠ pa := (ne_of_none (frq.at0 epa2 nt_lst) nfo).symm
    have nwfo : Nw H fo := (fr12.trans frq.nil).nw0 nfo
    have en3 := fr23.at0 en nt_lst
    have pu3 := fr23.pu pu2
    have fr13 : Fr T [pa] H (upd Hq fo (.lst [.ref q0])) := fr12.trans fr23.nil
    generalize (upd Hq fo (.lst [.ref q0])) = H3 at frf efo dq3 fr23 en3 pu3 fr13 ⊢
    have sub1 : ∀ b ∈ [pa], b ∈ [fo, pa] := fun b hb => by rw [List.mem_singleton.mp hb]; simp
    refine ⟨_, rfl, 1, (m : Nat), rfl, ⟨by omega, by omega, by omega, by omega⟩, for_it (walk_range (lo := 1) (n := ((m : Int) - 1).toNat)) (fun i σ H4 => ∃ c5 c6 fs js, σ = [some (.ref pa), some (.int (m : Nat)), some (.int (way : Nat)), some (.ref na), some (.ref fo), c5, c6] ∧ Fr T [fo, pa] H3 H4 ∧ H4 fo = some (.lst fs) ∧ DpAll K (Reg [fo, pa] H4) fs (dJl js) ∧ Pu H4 pa ∧ js.length = i + 1 ∧ nmsOf js = ns.take (i + 1) ∧ (∀ p, js[0]? = some p → p.2 = none) ∧ (∀ k p, js[k]? = some p → 0 < k → ∃ a, p.2 = some a ∧ a < k)) ?_ ?_ ?_ ?_⟩
    · refine ⟨none, none, [.ref q0], [(ns[0], none)], rfl, .refl, efo, .cons dq3 .nil, pu3, rfl, ?_, fun p hp => by cases hp; rfl, fun k p hk h0 => ?_⟩
      · rw [List.take_one, List.head?_eq_getElem?, List.getElem?_eq_getElem n0]
        rfl
      · match k, hk, h0 with
        | k + 1, hk, _ => cases hk
    · exact fun _ _ _ _ _ => trivial
    · rintro i x σ H4 H5 hi ⟨c5, c6, fs, js, rfl, fr, ef, hfs, pu4, hjl, hnm, hroot, hup⟩ ⟨rfl, hx⟩
      obtain rfl : x = V.int ((i + 1 : Nat) : Int) := hx.trans (congrArg V.int (by omega))
      have him : i + 1 < m := by omega
      refine ⟨i + 1, way, _, _, _, _, rfl, hway, by omega, by omega, pu4, fun a H6 ha fr6 pu6 => ?_⟩
      refine ⟨i + 1, a, _, _, _, _, rfl, ha, by omega, by omega, pu6, fun a2 H7 ha2 fr7 pu7 => ?_⟩
      have fr57 : Fr T [fo, pa] H5 H7 := (fr6.trans fr7).wide sub1
      have fr57p : Fr T [pa] H5 H7 := fr6.trans fr7
      have ef7 := fr57p.keep fo _ (fun z => nfop (List.mem_singleton.mp z)) ef nt_lst
      have en7 : H7 na = some (.lst (vSs ns)) := (fr.trans fr57).keep na _ (fun z => (List.mem_cons.mp z).elim (fun z => nfoq z.symm) fun z => hpn (List.mem_singleton.mp z)) en3 nt_lst
      obtain ⟨a7, b7, h7a, h7b, epa7⟩ := id pu7
      have lv7 : Lv [fo, pa] H7 := Lv.cons (.one epa7 nt_lst) ef7 nt_lst
      have hk : i + 1 < ns.length := by omega
      have hfl : fs.length = i + 1 := by rw [dps_len hfs, List.length_map]; exact hjl
      refine ⟨_, rfl, .inl ⟨rfl, _, .inl (.inl ef7)⟩, _, rfl, _, rfl, na, _, (i + 1 : Nat), _, rfl, rfl, .inl (.inl en7), atI_nat (nAt hk), _, rfl, by show 2 ≤ sizeLine; omega, fun q nq => ?_⟩
      have frQ : Fr T [] H7 (upd H7 q (.tup [.str ns[i + 1], .int (a2 : Nat)])) := .new nq
      have ef8 := frQ.at0 ef7 nt_lst
      have dnew : Dp K (Reg [fo, pa] (upd H7 q (.tup [.str ns[i + 1], .int (a2 : Nat)]))) (.ref q) (.tuple [.str ns[i + 1], dO (some a2)]) := new_tup lv7 nq (.cons (.str _) (.cons (.int _) .nil))
      generalize (upd H7 q (.tup [.str ns[i + 1], .int (a2 : Nat)])) = H8 at frQ ef8 dnew ⊢
      have fr58 := fr57.trans frQ.nil
      have frW : Fr T [fo, pa] H8 (upd H8 fo (.lst (fs ++ [.ref q]))) := .write ef8 wr_lst nt_lst (List.mem_cons_self ..)
      refine ⟨fo, _, _, rfl, rfl, ef8, by omega, ⟨_, _, fs ++ [.ref q], js ++ [(ns[i + 1], some a2)], rfl, (fr.trans fr58).trans frW, upd_same, ?_, ?_, ?_, ?_, ?_, ?_⟩⟩
      · rw [dJl, List.map_append]
        exact dps_snoc (Same.dps ((fr58.trans frW).reg fun b hb => hb) hfs) (Same.dp (frW.reg fun b hb => hb) dnew)
      · obtain ⟨a8, b8, h8a, h8b, e8⟩ := frQ.pu pu7
        exact ⟨a8, b8, h8a, h8b, by rw [upd_ne nfop.symm]; exact e8⟩
      · rw [List.length_append, hjl]
        rfl
      · rw [nmsOf, List.map_append, take_snoc (List.getElem?_eq_getElem hk)]
        exact congrArg (· ++ [ns[i + 1]]) hnm
      · intro p hp
        rw [List.getElem?_append_left (by omega)] at hp
        exact hroot p hp
      · intro k p hp h0
        by_cases hki : k < js.length
        · rw [List.getElem?_append_left hki] at hp
          exact hup k p hp h0
        · have hk2 : k = js.length := by
            have := (List.getElem?_eq_some_iff.mp hp).1
            rw [List.length_append] at this
            have : k < js.length + 1 := this
            omega
          subst hk2
          rw [List.getElem?_append_right (Nat.le_refl _), Nat.sub_self] at hp
          cases hp
          exact ⟨a2, rfl, by omega⟩
    · rintro σ H4 ⟨c5, c6, fs, js, rfl, fr, ef, hfs, pu4, hjl, hnm, hroot, hup⟩
      have hjm : js.length = m := by omega
      have frA : Fr T [pa] H H4 := (((fr13.wide sub1).trans fr)).drop nwfo
      refine ⟨_, rfl, q H4 fo js frA nwfo (.lst (.inl (.inl (reg_in (fun z => nfop (List.mem_singleton.mp z)) ef nt_lst))) (Same.dps (reg_less fun b hb => List.mem_cons_of_mem _ hb) hfs)) ⟨by omega, by omega, fun p hp => ?_, ?_, hroot, hup⟩ hjm pu4⟩
      · refine hnok _ ?_
        have : p.1 ∈ nmsOf js := List.mem_map_of_mem hp
        rw [hnm] at this
        exact List.mem_of_mem_take this
      · rw [hnm]
        exact hnd.sublist (List.take_sublist _ _)
end
end Tz
end -- W21
section -- W22
set_option maxHeartbeats 4000000
namespace Tz
open PySem PySem.Spec PyProof.Rows L2 TL
theorem tl_ext {x y : Str} (h : tl x = tl y) : x = y := by
  cases x
  cases y
  exact congrArg Str.mk (Array.toList_inj.mp h)
theorem tl_app (x y : Str) : tl (x ++ y) = tl x ++ tl y := Array.toList_append
theorem join_one (x : Str) : Txt.join " " [x] = x := tl_ext (tl_join1 _ _)
theorem join_two (x z : Str) : Txt.join " " [x, z] = x ++ " " ++ z := tl_ext (by rw [tl_join2, tl_app, tl_app, List.append_assoc])
theorem sum_le : ∀ {l : List Str}, (∀ x ∈ l, x.length ≤ 17) → (l.map (·.length)).sum ≤ l.length * 17
  | [], _ => Nat.le_refl _
  | x :: l, h => by
    have h1 := h x (List.mem_cons_self ..)
    have h2 := sum_le (l := l) fun y hy => h y (List.mem_cons_of_mem _ hy)
    rw [List.map_cons, List.sum_cons, List.length_cons]
    omega
theorem perm_one : ∀ {a b : List Int}, a.Perm b → a.Pairwise (· ≤ ·) → b.Pairwise (· ≤ ·) → a = b := by
  intro a b h ha hb
  exact h.eq_of_pairwise (fun x y _ _ h1 h2 => Int.le_antisymm h1 h2) ha hb
section
variable {P : Program} {w : World} {K : PySem.W.Frag} {mg : Str → Option Value} {base : Heap} {T : List (Addr × Str)} {CT CB : Addr}
/-! ### _law_line -/
abbrev sLine : Stmt := top 64
abbrev nLine : List Str := ["_law_joints_here", "_law_x", "_law_k"]
theorem scLine : FnScope nLine ["_law_joints_here"] (defScope sLine) := ⟨rfl, rfl, rfl, by decide +kernel, rfl, by decide +kernel, by decide +kernel⟩
/-- a joint as it stands -/
theorem joint_at {R : Hp} {xs : List V} {js : Js} (h : DpAll K R xs (dJl js)) {i : Nat} {v : V} (hv : xs[i]? = some v) : ∃ p q o, js[i]? = some p ∧ v = .ref q ∧ SqT K R q [.str p.1, o] ∧ (p.2 = none → o = .non) ∧ ∀ a, p.2 = some a → o = .int (a : Nat) := by
  obtain ⟨dd, hdd, hdy⟩ := dps_get' h hv
  rw [List.getElem?_map] at hdd
  cases e : js[i]? with
  | none =>
    rw [e] at hdd
    cases hdd
  | some p =>
    rw [e] at hdd
    cases hdd
    obtain ⟨q, ys, rfl, hys, hdys⟩ := dp_tup hdy
    cases hdys with
    | cons h1 h2 =>
      cases h2 with
      | @cons o _ _ _ h2 h3 =>
        cases h3
        rw [dp_str' _ _ h1] at hys
        refine ⟨p, q, o, rfl, rfl, hys, fun e => ?_, fun a e => ?_⟩
        · rw [e] at h2
          cases h2
          rfl
        · rw [e] at h2
          exact dp_int' _ _ h2
def spLine (K : PySem.W.Frag) (T : List (Addr × Str)) : Sp := fun vs H Q _ => ∃ (js : Js) (ch : List Addr) (v : V), vs = [v] ∧ WellJ js ∧ Lv ch H ∧ Dp K (Reg ch H) v (.list (dJl js)) ∧ ∀ H', Fr T [] H H' → Q (.str (lineOf js)) H'
theorem ok_line {f : Addr} {fd : FuncData} (F : L2.Fun K "_law_line" "_law_line" sLine f fd) (B : Blt mg) : FnOk P w K mg base CX0 1 f fd ["_law_joints_here"] (spLine K T) := by
  refine F.ok scLine (fun vs H Q E h => ?_) (fun cdv A outer s H vs Q E hr h => ?_)
  · obtain ⟨js, ch, v, rfl, _⟩ := h
    rfl
  · obtain ⟨js, ch, v, rfl, W, lv, dj, q⟩ := h
    obtain ⟨l, xs, rfl, hs, hd⟩ := dp_lst dj
    refine ⟨_, pss_one (ps_ret (pe_join pe_str (pe_lc (own := [("_law_x", 1), ("_law_k", 2)]) (g := gTup K 2 (gCons (gName 1) (gCons (gName 2) gNil))) (tt := tYes)
        (te := tIf (tTest (tOp (fun x y H Q => y = .non ∧ Q (.bl (decide (x = .non))) H) (tVar 2) (tC .non))) (tVar 1) (tOp (fun x y H Q => ∃ i j, x = .str i ∧ y = .str j ∧ i.length + j.length ≤ sizeLine ∧ Q (.str (i ++ j)) H) (tOp (fun x y H Q => ∃ i j, x = .str i ∧ y = .str j ∧ i.length + j.length ≤ sizeLine ∧ Q (.str (i ++ j)) H) (tVar 1) (tC (.str " "))) (tOp (rIxT K) (tOp (rIxL K) (tVar 0) (tVar 2)) (tC (.int 0)))))
        rfl scLine.nd (pi_list (pv 0)) (blkOk_by (N := nLine) (sc := defScope sLine) (by decide +kernel))
        (fun _ _ _ _ _ => pg_tup rfl (pgs_cons (pg_name (i := 1) scLine.nd rfl (.inl rfl)) (pgs_cons (pg_name (i := 2) scLine.nd rfl (.inl rfl)) pgs_nil))) (fun _ _ _ _ _ => pts_nil)
        (fun _ _ _ _ _ => pe_ifExp (pt_cmpR op_isN (pv 2) pe_non (nomark _)) (pv 1) (pe_op op_add_str (pe_op op_add_str (pv 1) pe_str) (pe_ix ix_tup (pe_ix ix_list (pv 0) (pv 2) (fun _ _ => rfl)) pe_int (fun _ _ => rfl))))))), ?_⟩
    have sl := sizeLine_eq
    have h9 := W.top
    have lx : xs.length = js.length := by rw [dps_len hd, List.length_map]
    have hs0 := reg_same.seq hs
    refine ⟨⟨_, rfl⟩, _, rfl, l, rfl, ⟨_, hs0⟩, fun D nD => lc_it (walk_list (xs := xs)) (fun i H2 => Fr T [D] H H2 ∧ H2 D = some (.lst (vSs ((js.take i).map fun p => Txt.join " " (wordsOf js p))))) ⟨.new nD, upd_same⟩ ?_ ?_ ?_⟩
    · rintro i H2 _ ⟨fr, _⟩
      exact (fr.drop (nw_none nD)).sqL0 hs0
    · rintro i v H2 H3 hi ⟨fr, eD⟩ ⟨rfl, hv⟩
      obtain ⟨p, q0, o, hp, rfl, hq0, hn, ho⟩ := joint_at hd hv
      have fr0 := fr.drop (nw_none nD)
      have hq2 := fr0.sqT0 (Same.seqT reg_same hq0)
      have hpl := part_len W hp
      have hi9 : i < js.length := (List.getElem?_eq_some_iff.mp hp).1
      have fin : ∀ z : Str, z = Txt.join " " (wordsOf js p) → ∃ acc, H3 D = some (.lst acc) ∧ acc.length < sizeLine ∧ (Fr T [D] H (upd H3 D (.lst (acc ++ [.str z]))) ∧ (upd H3 D (.lst (acc ++ [.str z]))) D = some (.lst (vSs ((js.take (i + 1)).map fun p => Txt.join " " (wordsOf js p))))) := fun z hz => by
        refine ⟨_, eD, by rw [List.length_map, List.length_map, List.length_take]; omega, fr.trans (.write eD wr_lst nt_lst (List.mem_singleton.mpr rfl)), ?_⟩
        rw [upd_same, take_snoc hp, List.map_append, vSs_app, hz]
        rfl
      refine ⟨q0, _, rfl, hq2, rfl, _, _, rfl, _, _, rfl, rfl, rfl, _, rfl, rfl, _, rfl, ?_⟩
      cases e : p.2 with
      | none =>
        have ho' := hn e
        subst ho'
        refine iteT' rfl ⟨_, rfl, fin _ ?_⟩
        unfold wordsOf
        rw [e, join_one]
      | some a =>
        have ho' := ho a e
        subst ho'
        have ha : a < js.length := by
          by_cases h0 : 0 < i
          · obtain ⟨b, eb, hb⟩ := W.up i p hp h0
            rw [e] at eb
            cases eb
            omega
          · have : i = 0 := by omega
            subst this
            have := W.root p hp
            rw [e] at this
            cases this
        obtain ⟨v2, hv2⟩ : ∃ v2, xs[a]? = some v2 := ⟨_, List.getElem?_eq_getElem (by omega)⟩
        obtain ⟨p2, q2, o2, hp2, rfl, hq2', _, _⟩ := joint_at hd hv2
        have hn1 := (W.names p (List.mem_of_getElem? hp)).top
        have hn2 := (W.names p2 (List.mem_of_getElem? hp2)).top
        have hsp : (" " : Str).length = 1 := rfl
        have hl2 : (p.1 ++ " " : Str).length = p.1.length + 1 := by
          rw [len_tl, tl_app, List.length_append, ← len_tl, ← len_tl, hsp]
        refine iteF' rfl ⟨_, rfl, _, _, rfl, rfl, by omega, _, rfl, _, rfl, l, _, (a : Nat), _, rfl, rfl, fr0.sqL0 hs0, atI_nat hv2, q2, _, 0, _, rfl, rfl, fr0.sqT0 (Same.seqT reg_same hq2'), atI_nat (j := 0) rfl, _, _, rfl, rfl, by omega, fin _ ?_⟩
        unfold wordsOf
        rw [e]
        have en : (nmsOf js).getD a Str.empty = p2.1 := by
          rw [List.getD_eq_getElem?_getD, nms_at hp2]
          rfl
        show _ = Txt.join " " [p.1, (nmsOf js).getD a Str.empty]
        rw [en]
        exact (join_two _ _).symm
    · rintro H2 ⟨fr, eD⟩
      rw [lx, List.take_of_length_le (Nat.le_refl _)] at eD
      refine ⟨_, D, partsOf js, rfl, rfl, .inl (.inl (.inl eD)), ?_, q H2 (fr.drop (nw_none nD))⟩
      have h1 : ((partsOf js).map (·.length)).sum ≤ (partsOf js).length * 17 := sum_le fun x hx => by
        obtain ⟨p, hp, rfl⟩ := List.mem_map.mp hx
        obtain ⟨k, hk⟩ := List.getElem?_of_mem hp
        exact part_len W hk
      have h2 : (partsOf js).length = js.length := List.length_map _
      have h3 : ("; " : Str).length = 2 := rfl
      rw [h3]
      omega
end
end Tz
end -- W22
section -- W23
set_option maxHeartbeats 4000000
namespace Tz
open PySem PySem.Spec PyProof.Rows L2 TL
section
variable {P : Program} {w : World} {K : PySem.W.Frag} {mg : Str → Option Value} {base : Heap} {T : List (Addr × Str)} {CT CB : Addr}
/-! ### _law_links -/
abbrev sLinks : Stmt := top 65
abbrev nLinks : List Str := ["_law_joints_here", "_law_found", "_law_k", "_law_joint", "_law_row_here"]
theorem scLinks : FnScope nLinks ["_law_joints_here"] (defScope sLinks) := ⟨rfl, rfl, rfl, by decide +kernel, rfl, by decide +kernel, by decide +kernel⟩
def spLinks (K : PySem.W.Frag) (T : List (Addr × Str)) : Sp := fun vs H Q _ => ∃ (js : Js) (ch : List Addr) (v : V), vs = [v] ∧ WellJ js ∧ Lv ch H ∧ Dp K (Reg ch H) v (.list (dJl js)) ∧ ∀ H' r, Fr T [] H H' → Dp K (Reg ch H') r (.list (dL js)) → Q r H'
theorem vIs_int (l : List Nat) : vIs l = (l.map fun k : Nat => (k : Int)).map V.int := by
  rw [List.map_map]
  rfl
theorem rise_le {T : Tb.Tr} {i : Nat} (hi : i ≤ T.n) (x : Nat) : ((T.nbTo i x).map fun k : Nat => (k : Int)).Pairwise (· ≤ ·) := by
  rw [List.pairwise_map]
  exact (T.nbTo_rise hi x).imp fun h => by omega
theorem ok_links {f : Addr} {fd : FuncData} (F : L2.Fun K "_law_links" "_law_links" sLinks f fd) (B : Blt mg) : FnOk P w K mg base CX0 1 f fd ["_law_joints_here"] (spLinks K T) := by
  refine F.ok scLinks (fun vs H Q E h => ?_) (fun cdv A outer s H vs Q E hr h => ?_)
  · obtain ⟨js, ch, v, rfl, _⟩ := h
    rfl
  · obtain ⟨js, ch, v, rfl, W, lv, dj, q⟩ := h
    obtain ⟨l, xs, rfl, hs, hd⟩ := dp_lst dj
    refine ⟨_, pss_cons (ps_setLc (i := 1) (own := [("_law_joint", 3)]) (g := gName 3) (tt := tYes) (te := tLst tNil) rfl scLinks.nd rfl rfl (sw_true rfl rfl rfl (by decide +kernel)) (pi_list (pv 0)) (blkOk_by (N := nLinks) (sc := defScope sLinks) (by decide +kernel))
          (fun _ _ _ _ _ => pg_name (i := 3) scLinks.nd rfl (Or.inl rfl)) (fun _ _ _ _ _ => pts_nil) (fun _ _ _ _ _ => pe_lst pa_nil))
      (pss_cons (ps_for PassesOwn.never rfl (pi_enum (by rfl) B.enum (pa_cons (pv 0) pa_nil)) (pg_tup rfl (pgs_cons (pg_name (i := 2) scLinks.nd rfl (.inl rfl)) (pgs_cons (pg_name (i := 3) scLinks.nd rfl (.inl rfl)) pgs_nil)))
        (pss_one (ps_if (pt_cmpR op_notN (pe_ix ix_tup (pv 3) pe_int (fun _ _ => rfl)) pe_non (nomark _))
          (pss_cons (ps_expr (pe_bm PySem.F.plainAttrs_list PySem.F.slot_list_append PySem.F.type_list_append mt_append (pe_ix ix_list (pv 1) (pv 2) (fun _ _ => rfl)) (pa_cons (pe_ix ix_tup (pv 3) pe_int (fun _ _ => rfl)) pa_nil)))
          (pss_one (ps_expr (pe_bm PySem.F.plainAttrs_list PySem.F.slot_list_append PySem.F.type_list_append mt_append (pe_ix ix_list (pv 1) (pe_ix ix_tup (pv 3) pe_int (fun _ _ => rfl)) (fun _ _ => rfl)) (pa_cons (pv 2) pa_nil))))) pss_nil)))
      (pss_one (ps_ret (pe_lc (own := [("_law_row_here", 4)]) (g := gName 4) (tt := tYes) (te := tCB (rSorted K) (tCons (tVar 4) tNil)) rfl scLinks.nd (pi_list (pv 1)) (blkOk_by (N := nLinks) (sc := defScope sLinks) (by decide +kernel))
          (fun _ _ _ _ _ => pg_name (i := 4) scLinks.nd rfl (Or.inl rfl)) (fun _ _ _ _ _ => pts_nil) (fun _ _ _ _ _ => pe_callB (id := "sorted") cr_sorted (by rfl) B.sorted (by decide +kernel) (pa_cons (pv 4) pa_nil)))))), ?_⟩
    have sl := sizeLine_eq
    have h9 := W.top
    have hn : (trOf js).n = js.length := rfl
    have nx : xs.length = js.length := by rw [dps_len hd, List.length_map]
    have hs0 := reg_same.seq hs
    -- found = [..]
    refine ⟨_, rfl, l, rfl, ⟨xs, hs0⟩, fun D nD => lc_it (walk_list (xs := xs)) (fun i H4 => ∃ rs : List Addr, rs.length = i ∧ rs.Nodup ∧ (∀ r ∈ rs, Nw H r ∧ r ≠ D) ∧ Fr T [D] H H4 ∧ H4 D = some (.lst (rs.map V.ref)) ∧ Rows H4 rs fun _ => [])
      ?_ ?_ ?_ ?_⟩
    · exact ⟨[], rfl, List.nodup_nil, (fun r z => nomatch z), .new nD, upd_same, fun x r z => by simp at z⟩
    · rintro i H4 _ ⟨rs, _, _, _, fr, _, _⟩
      exact (fr.drop (nw_none nD)).sqL0 hs0
    · rintro i x H4 H5 hi ⟨rs, rfl, nd, nr, fr, eD, rw_⟩ ⟨rfl, hx⟩
      refine ⟨rfl, Nat.zero_le _, fun r nrr => ⟨_, by rw [upd_ne (ne_of_none eD nrr)]; exact eD, by rw [List.length_map]; omega, rs ++ [r], by simp, ?_, ?_, ?_, ?_, ?_⟩⟩
      · refine List.nodup_append.mpr ⟨nd, by simp, fun b hb c hc e => ?_⟩
        rw [List.mem_singleton.mp hc] at e
        subst e
        obtain ⟨k, hk⟩ := List.getElem?_of_mem hb
        rw [rw_ k _ hk] at nrr
        cases nrr
      · intro q hq
        rcases List.mem_append.mp hq with hq | hq
        · exact nr q hq
        · rw [List.mem_singleton.mp hq]
          refine ⟨?_, (ne_of_none eD nrr).symm⟩
          exact fr.nw0 nrr
      · exact (fr.trans (.new nrr)).trans (.write (by rw [upd_ne (ne_of_none eD nrr)]; exact eD) wr_lst nt_lst (List.mem_singleton.mpr rfl))
      · rw [upd_same, List.map_append]
        rfl
      · exact Rows.more rw_ (fun q hq => (nr q hq).2) nrr (ne_of_none eD nrr).symm
    rintro H4 ⟨rs, hrl, nd, nr, fr, eD, rw4⟩
    have fr04 : Fr T [] H H4 := fr.drop (nw_none nD)
    have hrs : rs.length = js.length := by rw [hrl, nx]
    have Drs : D ∉ rs := fun z => (nr D z).2 rfl
    refine ⟨_, rfl, l, xs, rfl, fr04.sqL0 hs0, for_it (walk_enum (xs := xs)) (fun i σ H7 => ∃ c2 c3 c4, σ = [some (.ref l), some (.ref D), c2, c3, c4] ∧ Fr T rs H4 H7 ∧ Rows H7 rs ((trOf js).nbTo i)) ?_ ?_ ?_ ?_⟩
    · refine ⟨none, none, none, rfl, .refl, rw4.eq fun z _ => ?_⟩
      exact ((trOf js).nbTo_zero z).symm
    · rintro i σ H7 _ ⟨_, _, _, _, fr7, _⟩
      refine Fr.sqL0 (T := T) (Fr.dropL (T := T) (W1 := rs) (W := []) ?_ fun r hr => (nr r hr).1) hs0
      rw [List.append_nil]
      exact fr04.nil.trans fr7
    · rintro i y σ H7 H8 hi ⟨c2, c3, c4, rfl, fr7, rw7⟩ ⟨Tp, y1, y2, rfl, nT, rfl, f1, f2⟩
      cases f1
      have f2' : xs[i]? = some y2 := f2
      obtain ⟨p, q0, o, hp, rfl, hq0, hno, hso⟩ := joint_at hd f2'
      have hij : i < js.length := (List.getElem?_eq_some_iff.mp hp).1
      have fr47 : Fr T rs H4 (upd H7 Tp (.tup [.int (i : Nat), .ref q0])) := fr7.trans (.new nT)
      have rw9 : Rows (upd H7 Tp (.tup [.int (i : Nat), .ref q0])) rs ((trOf js).nbTo i) := (Fr.new (T := T) (W := []) nT).keepRows rw7 fun q _ z => nomatch z
      refine ⟨Tp, _, rfl, .inl (.inl upd_same), rfl, _, _, rfl, _, _, rfl, rfl, ?_⟩
      generalize (upd H7 Tp (.tup [.int (i : Nat), .ref q0])) = H9 at fr47 rw9 ⊢
      have eD9 : H9 D = some (.lst (rs.map V.ref)) := fr47.keep D _ Drs eD nt_lst
      have sq : ∀ Hx, Fr T rs H4 Hx → SqT K Hx q0 [.str p.1, o] := fun Hx f => by
        have f0 : Fr T [] H Hx := Fr.dropL (W1 := rs) (W := []) (by rw [List.append_nil]; exact fr04.nil.trans f) fun r hr => (nr r hr).1
        exact f0.sqT0 (Same.seqT reg_same hq0)
      refine ⟨_, rfl, q0, _, 1, _, rfl, rfl, sq _ fr47, atI_nat (j := 1) rfl, rfl, _, rfl, ?_⟩
      cases e : p.2 with
      | none =>
        have ho := hno e
        subst ho
        have i0 : i = 0 := by
          by_cases h0 : 0 < i
          · obtain ⟨b, eb, _⟩ := W.up i p hp h0
            rw [e] at eb
            cases eb
          · omega
        subst i0
        refine iteF' rfl ⟨_, _, _, rfl, fr47, rw9.eq fun z _ => ?_⟩
        rw [(trOf js).nbTo_zero]
        exact ((trOf js).nbTo_one z).symm
      | some b =>
        have ho := hso b e
        subst ho
        have i0 : 0 < i := by
          by_cases h0 : 0 < i
          · exact h0
          · have : i = 0 := by omega
            subst this
            have := W.root p hp
            rw [e] at this
            cases this
        obtain ⟨b', eb, hb⟩ := W.up i p hp i0
        rw [e] at eb
        cases eb
        obtain ⟨r1, hr1⟩ : ∃ r, rs[b]? = some r := ⟨_, List.getElem?_eq_getElem (by omega)⟩
        obtain ⟨r2, hr2⟩ : ∃ r, rs[i]? = some r := ⟨_, List.getElem?_eq_getElem (by omega)⟩
        have hm1 := List.mem_of_getElem? hr1
        have hm2 := List.mem_of_getElem? hr2
        have len2 : (vIs ((trOf js).nbTo i i)).length < sizeLine := by
          have := nbTo_len (trOf js) i i
          rw [List.length_map]
          omega
        refine iteT' rfl ⟨_, rfl, _, rfl, D, _, (i : Nat), .ref r2, rfl, rfl, .inl (.inl eD9), atI_nat (at_map hr2), .inl ⟨rfl, _, .inl (.inl (rw9 _ _ hr2))⟩, _, rfl, q0, _, 1, _, rfl, rfl, sq _ fr47, atI_nat (j := 1) rfl, r2, _, _, rfl, rfl, rw9 _ _ hr2, len2, ?_⟩
        have rwA := Rows.put (y := b) rw9 nd hr2
        have frA := fr47.trans (Fr.write (T := T) (W := rs) (o' := .lst (vIs ((trOf js).nbTo i i) ++ [.int (b : Nat)])) (rw9 _ _ hr2) wr_lst nt_lst hm2)
        have eDA : (upd H9 r2 (.lst (vIs ((trOf js).nbTo i i) ++ [.int (b : Nat)]))) D = some (.lst (rs.map V.ref)) := frA.keep D _ Drs eD nt_lst
        have eR := rwA _ _ hr1
        have len1 : (vIs (if b = i then (trOf js).nbTo i b ++ [b] else (trOf js).nbTo i b)).length < sizeLine := by
          have := nbTo_len (trOf js) i b
          rw [if_neg (by omega), List.length_map]
          omega
        refine ⟨_, rfl, _, rfl, q0, _, 1, _, rfl, rfl, sq _ frA, atI_nat (j := 1) rfl, D, _, (b : Nat), .ref r1, rfl, rfl, .inl (.inl eDA), atI_nat (at_map hr1), .inl ⟨rfl, _, .inl (.inl eR)⟩, _, rfl, r1, _, _, rfl, rfl, eR, len1, ⟨_, _, _, rfl, ?_, ?_⟩⟩
        · exact frA.trans (.write eR wr_lst nt_lst hm1)
        · refine (Rows.put (y := i) rwA nd hr1).eq fun z hz => ?_
          rw [(trOf js).nbTo_step i0 hij z, pr_eq hp e hb]
          by_cases h1 : z = i
          · subst h1
            rw [if_pos rfl, if_pos rfl, if_neg (by omega)]
          · rw [if_neg h1, if_neg h1]
    rintro σ H7 ⟨c2, c3, c4, rfl, fr7, rw7⟩
    rw [nx] at rw7
    have eD7 : H7 D = some (.lst (rs.map V.ref)) := fr7.keep D _ Drs eD nt_lst
    have fr07 : Fr T [] H H7 := Fr.dropL (W1 := rs) (W := []) (by rw [List.append_nil]; exact fr04.nil.trans fr7) fun r hr => (nr r hr).1
    -- the sorted rows
    refine ⟨_, rfl, D, rfl, ⟨_, .inl (.inl eD7)⟩, fun D2 nD2 => lc_it (walk_list (xs := rs.map V.ref)) (fun i H8 => ∃ qs : List Addr, qs.length = i ∧ (∀ r ∈ qs, Nw H7 r ∧ r ≠ D2) ∧ Fr T [D2] H7 H8 ∧ H8 D2 = some (.lst (qs.map V.ref)) ∧ Rows H8 qs ((trOf js).nbTo js.length)) ?_ ?_ ?_ ?_⟩
    · exact ⟨[], rfl, (fun r z => nomatch z), .new nD2, upd_same, fun x r z => by simp at z⟩
    · rintro i H8 _ ⟨qs, _, _, fr8, _⟩
      exact .inl (.inl ((fr8.drop (nw_none nD2)).at0 eD7 nt_lst))
    · rintro i x H8 H9 hi ⟨qs, rfl, nq, fr8, eD2, rw8⟩ ⟨rfl, hx⟩
      obtain ⟨r, hr, rfl⟩ := map_at hx
      have hir : qs.length < rs.length := (List.getElem?_eq_some_iff.mp hr).1
      have er := (fr8.drop (nw_none nD2)).at0 (rw7 _ _ hr) nt_lst
      rw [vIs_int] at er
      have hbl := nbTo_len (trOf js) js.length qs.length
      refine ⟨rfl, _, rfl, r, _, rfl, .inl (.inl er), by rw [List.length_map]; omega, fun ns' p hp hsrt np => ?_⟩
      have ens : ns' = ((trOf js).nbTo js.length qs.length).map fun k : Nat => (k : Int) := perm_one hp hsrt (rise_le (Nat.le_refl _) _)
      rw [ens, ← vIs_int]
      have eD2' := (Fr.new (T := T) (W := []) (o := .lst (vIs ((trOf js).nbTo js.length qs.length))) np).at0 eD2 nt_lst
      have npD : p ≠ D2 := (ne_of_none eD2 np).symm
      refine ⟨_, eD2', by rw [List.length_map]; omega, qs ++ [p], by simp, ?_, (fr8.trans (.new np)).trans (.write eD2' wr_lst nt_lst (List.mem_singleton.mpr rfl)), by rw [upd_same, List.map_append]; rfl, ?_⟩
      · intro z hz
        rcases List.mem_append.mp hz with hz | hz
        · exact nq z hz
        · rw [List.mem_singleton.mp hz]
          exact ⟨fr8.nw0 np, npD⟩
      · intro z a hz
        by_cases hl : z < qs.length
        · rw [List.getElem?_append_left hl] at hz
          have hm := List.mem_of_getElem? hz
          rw [upd_ne (nq a hm).2, upd_ne (ne_of_none (rw8 z a hz) np)]
          exact rw8 z a hz
        · have hz2 : z = qs.length := by
            have := (List.getElem?_eq_some_iff.mp hz).1
            rw [List.length_append] at this
            have : z < qs.length + 1 := this
            omega
          subst hz2
          rw [List.getElem?_append_right (Nat.le_refl _), Nat.sub_self] at hz
          cases hz
          rw [upd_ne npD, upd_same]
    · rintro H8 ⟨qs, hql, nq, fr8, eD2, rw8⟩
      have fr80 := fr8.drop (nw_none nD2)
      have frA := fr07.trans fr80
      have lv7 := fr07.lv lv
      have hq2 : qs.length = js.length := by rw [hql, List.length_map, hrs]
      have hdl := rows_dps (K := K) rw8 (ch := ch) fun z hz => lv7.nw (nq z hz).1
      rw [hq2] at hdl
      exact q H8 _ frA (.lst (.inl (.inl (reg_in (lv7.fresh nD2) eD2 nt_lst))) hdl)
end
end Tz
end -- W23
section -- PebMath
set_option autoImplicit false
namespace Tz
open PySem PySem.Spec
theorem pebs_set : ∀ (pose : Pose) (k : Nat) (o o' : Option Str), pose[k]? = some o' → (o'.toList ++ pebs (pose.set k o)).Perm (o.toList ++ pebs pose)
  | [], _, _, _, h => by cases h
  | a :: pose, 0, o, o', h => by
    cases h
    show (a.toList ++ List.filterMap id (o :: pose)).Perm (o.toList ++ List.filterMap id (a :: pose))
    cases o <;> cases a <;> simp
    exact List.Perm.swap _ _ _
  | a :: pose, k + 1, o, o', h => by
    have ih := pebs_set pose k o o' h
    show (o'.toList ++ List.filterMap id (a :: pose.set k o)).Perm (o.toList ++ List.filterMap id (a :: pose))
    cases a with
    | none => simpa using ih
    | some x =>
      show (o'.toList ++ x :: List.filterMap id (pose.set k o)).Perm (o.toList ++ x :: List.filterMap id pose)
      exact (List.perm_middle.trans (ih.cons x)).trans List.perm_middle.symm
theorem goodP_of {pose : Pose} (hl : pose.length ≤ 9) (nd : (pebs pose).Nodup) (ok : ∀ z ∈ pebs pose, NmOk z) : GoodP pose := by
  have hp : pose.Pairwise fun a b => ∀ x, a = some x → ∀ y, b = some y → x ≠ y := by
    have h : List.Pairwise (· ≠ ·) (List.filterMap id pose) := nd
    rw [List.pairwise_filterMap] at h
    exact h
  have key : ∀ (i j : Nat) (z : Str), i < j → pose[i]? = some (some z) → pose[j]? = some (some z) → False := fun i j z hij hi hj => by
    obtain ⟨h1, e1⟩ := List.getElem?_eq_some_iff.mp hi
    obtain ⟨h2, e2⟩ := List.getElem?_eq_some_iff.mp hj
    exact (List.pairwise_iff_getElem.mp hp) i j h1 h2 hij z e1 z e2 rfl
  refine ⟨fun z hz => ok z (List.mem_filterMap.mpr ⟨some z, hz, rfl⟩), fun i j z hi hj => ?_, hl⟩
  rcases Nat.lt_trichotomy i j with h | h | h
  · exact (key i j z h hi hj).elim
  · exact h
  · exact (key j i z h hj hi).elim
theorem good_pebs {pose : Pose} (g : GoodP pose) : (pebs pose).Nodup := by
  show List.Pairwise (· ≠ ·) (List.filterMap id pose)
  rw [List.pairwise_filterMap, List.pairwise_iff_getElem]
  intro i j hi hj hij x hx y hy e
  subst e
  have h1 : pose[i]? = some (some x) := by rw [List.getElem?_eq_getElem hi]; exact congrArg some hx
  have h2 : pose[j]? = some (some x) := by rw [List.getElem?_eq_getElem hj]; exact congrArg some hy
  have := g.nd i j x h1 h2
  omega
end Tz
end -- PebMath
section -- W24
set_option maxHeartbeats 4000000
namespace Tz
open PySem PySem.Spec PyProof.Rows L2 TL
theorem vIs_erase (l : List Nat) (d : Nat) : (vIs l).eraseIdx d = vIs (l.eraseIdx d) := by
  induction l generalizing d with
  | nil => rfl
  | cons a l ih => cases d with
    | zero => rfl
    | succ d => exact congrArg (V.int (a : Int) :: ·) (ih d)
theorem rep_flat (x : V) : ∀ k : Nat, (List.replicate k [x]).flatten = List.replicate k x
  | 0 => rfl
  | k + 1 => by
    rw [List.replicate_succ, List.flatten_cons, rep_flat x k]
    rfl
theorem rgV_nat (m : Nat) : rgV 0 (m : Nat) = vIs (List.range m) := by
  unfold rgV
  rw [show (((m : Nat) : Int) - 0).toNat = m by omega]
  exact List.map_congr_left fun i _ => congrArg V.int (by omega)
theorem pebs_rep (m : Nat) : pebs (List.replicate m none) = [] := by
  show List.filterMap id _ = _
  induction m with
  | zero => rfl
  | succ m ih => exact ih
section
variable {P : Program} {w : World} {K : PySem.W.Frag} {mg : Str → Option Value} {base : Heap} {T : List (Addr × Str)} {CT CB : Addr}
/-! ### _law_standing -/
abbrev sStand : Stmt := top 66
abbrev nStand : List Str := ["_law_purse_here", "_law_many", "_law_gaps", "_law_left", "_law_row_here", "_law_free", "_law_x"]
theorem scStand : FnScope nStand ["_law_purse_here", "_law_many", "_law_gaps"] (defScope sStand) := ⟨rfl, rfl, rfl, by decide +kernel, rfl, by decide +kernel, by decide +kernel⟩
def spStand (K : PySem.W.Frag) (T : List (Addr × Str)) : Sp := fun vs H Q _ => ∃ (ch : List Addr) (pa : Addr) (m g : Nat), vs = [.ref pa, .int (m : Nat), .int (g : Nat)] ∧ g < m ∧ m ≤ 9 ∧ Lv ch H ∧ Pu H pa ∧ ∀ H' p pose, Fr T [pa] H H' → Fz (Reg ch H') p (vNs pose) → GoodP pose → pose.length = m → (pebs pose).length = m - g → Pu H' pa → Q (.ref p) H'
theorem ok_stand {f : Addr} {fd : FuncData} (F : L2.Fun K "_law_standing" "_law_standing" sStand f fd) (B : Blt mg) (DD : Def P w K mg base 1 "_law_draw" ["_law_purse_here", "_law_many"] (spDraw T)) (DN : Def P w K mg base 2 "_law_names" ["_law_purse_here", "_law_many"] (spNames K T)) : FnOk P w K mg base CX0 3 f fd ["_law_purse_here", "_law_many", "_law_gaps"] (spStand K T) := by
  refine F.ok scStand (fun vs H Q E h => ?_) (fun cdv A outer s H vs Q E hr h => ?_)
  · obtain ⟨ch, pa, m, g, rfl, _⟩ := h
    rfl
  · obtain ⟨ch, pa, m, g, rfl, hg, hm, lv, pu, q⟩ := h
    have hr1 : Room 1 _ := hr.mono (by decide)
    refine ⟨_, pss_cons (ps_par (i := 3) (j := 4) (by rfl) scStand.nd rfl rfl (by decide) rfl rfl (pa_cons (pe_callD DN hr (by rfl) (pa_cons (pv 0) (pa_cons (pe_op op_sub (pv 1) (pv 2)) pa_nil))) (pa_cons (pe_op op_rep (pe_lst (pa_cons pe_non pa_nil)) (pv 1)) pa_nil)) (by rfl))
      (pss_cons (ps_set (i := 5) scStand.nd rfl (Or.inl rfl) (pe_listRg rfl (by rfl) B.list (prg_1 (by rfl) B.range (pv 1))))
      (pss_cons (ps_for PassesOwn.never rfl (pi_list (pv 3)) (pg_name (i := 6) scStand.nd rfl (Or.inl rfl))
        (pss_one (ps_asg (pv 6) (pg_sub (pv 4) (pe_bm PySem.F.plainAttrs_list PySem.F.slot_list_pop PySem.F.type_list_pop mt_popAt (pv 5) (pa_cons (pe_callD DD hr1 (by rfl) (pa_cons (pv 0) (pa_cons (pe_callB call_len_seq (by rfl) B.len PySem.boot_len (pa_cons (pv 5) pa_nil)) pa_nil))) pa_nil)) set_list))))
      (pss_one (ps_ret (pe_callTy call_tupleF (by rfl) B.tuple (by decide +kernel) (pa_cons (pv 4) pa_nil)))))), ?_⟩
    have sl := sizeLine_eq
    refine ⟨_, rfl, _, rfl, _, rfl, _, _, rfl, rfl, ?_⟩
    dsimp only
    rw [show ((m : Nat) : Int) - (g : Nat) = ((m - g : Nat) : Int) by omega]
    refine ⟨pa, m - g, rfl, by omega, pu, fun H1 np ns fr1 nwn en hnl hnd hnok pu1 => ?_⟩
    refine ⟨by show 1 ≤ sizeLine; omega, fun c nc => ⟨_, rfl, c, _, _, rfl, rfl, upd_same, by omega, by omega, by rw [Int.toNat_natCast]; show 1 * m ≤ sizeLine; omega, fun rp nrp => ⟨_, _, rfl, ?_⟩⟩⟩
    rw [Int.toNat_natCast, rep_flat, show List.replicate m V.non = vNs (List.replicate m none) from (by rw [vNs, List.map_replicate]; rfl)]
    have fr2 : Fr T [] H1 (upd (upd H1 c (.lst [.non])) rp (.lst (vNs (List.replicate m none)))) := (Fr.new nc).trans (.new nrp)
    have er : (upd (upd H1 c (.lst [.non])) rp (.lst (vNs (List.replicate m none)))) rp = some (.lst (vNs (List.replicate m none))) := upd_same
    have nwr : Nw H1 rp := (Fr.new (T := T) (W := []) nc).nw0 nrp
    generalize (upd (upd H1 c (.lst [.non])) rp (.lst (vNs (List.replicate m none)))) = H2 at fr2 er ⊢
    refine ⟨_, rfl, _, rfl, .of_le (by omega) (by omega) (by omega) (by omega), fun fp nfp => ?_⟩
    rw [rgV_nat]
    have fr3 : Fr T [] H2 (upd H2 fp (.lst (vIs (List.range m)))) := .new nfp
    have ef : (upd H2 fp (.lst (vIs (List.range m)))) fp = some (.lst (vIs (List.range m))) := upd_same
    have er3 := fr3.at0 er nt_lst
    have nwf : Nw H1 fp := fr2.nw0 nfp
    have hrf : rp ≠ fp := ne_of_none er nfp
    generalize (upd H2 fp (.lst (vIs (List.range m)))) = H3 at fr3 ef er3 ⊢
    have fr13 := fr2.trans fr3
    have en3 := fr13.at0 en nt_lst
    obtain ⟨a0, b0, _, _, epa⟩ := id pu1
    have hpr : pa ≠ rp := ne_nw epa nt_lst nwr
    have hpf : pa ≠ fp := ne_nw epa nt_lst nwf
    have hnr : np ≠ rp := ne_nw en nt_lst nwr
    have hnf : np ≠ fp := ne_nw en nt_lst nwf
    have hpn : pa ≠ np := by
      obtain ⟨a1, b1, _, _, epa0⟩ := id pu
      exact ne_nw epa0 nt_lst nwn
    refine ⟨_, rfl, np, rfl, ⟨_, .inl (.inl en3)⟩, for_it (walk_list (xs := vSs ns)) (fun i σ H5 => ∃ c6 free pose, σ = [some (.ref pa), some (.int (m : Nat)), some (.int (g : Nat)), some (.ref np), some (.ref rp), some (.ref fp), c6] ∧ Fr T [pa, rp, fp] H3 H5 ∧ H5 rp = some (.lst (vNs pose)) ∧ H5 fp = some (.lst (vIs free)) ∧ Pu H5 pa ∧ pose.length = m ∧ free.length + i = m ∧ free.Nodup ∧ (∀ k ∈ free, pose[k]? = some none) ∧ (pebs pose).Perm (ns.take i)) ?_ ?_ ?_ ?_⟩
    · refine ⟨none, List.range m, List.replicate m none, rfl, .refl, er3, ef, fr13.pu pu1, List.length_replicate, by rw [List.length_range]; rfl, List.nodup_range, fun k hk => ?_, ?_⟩
      · rw [List.getElem?_replicate, if_pos (List.mem_range.mp hk)]
      · rw [pebs_rep]
        exact .refl _
    · rintro i σ H5 _ ⟨_, _, _, _, fr5, _⟩
      refine .inl (.inl (fr5.keep np _ (fun z => ?_) en3 nt_lst))
      simp only [List.mem_cons, List.not_mem_nil, or_false] at z
      rcases z with z | z | z
      · exact hpn z.symm
      · exact hnr z
      · exact hnf z
    · rintro i x σ H5 H6 hi ⟨c6, free, pose, rfl, fr5, erp, efp, pu5, hpl, hfl, hfn, hfree, hpp⟩ ⟨rfl, hx⟩
      obtain ⟨nm, hnm, rfl⟩ := map_at hx
      have him : i < m - g := by rw [List.length_map] at hi; omega
      refine ⟨_, rfl, _, rfl, _, rfl, .inl ⟨rfl, _, .inl (.inl efp)⟩, _, rfl, _, rfl, fp, _, rfl, .inl (.inl (.inl efp)), pa, (vIs free).length, rfl, by rw [List.length_map]; omega, by rw [List.length_map]; omega, pu5, fun H7 d hd fr7 pu7 => ?_⟩
      rw [List.length_map] at hd
      have efp7 : H7 fp = some (.lst (vIs free)) := fr7.keep fp _ (fun z => hpf (List.mem_singleton.mp z).symm) efp nt_lst
      have erp7 : H7 rp = some (.lst (vNs pose)) := fr7.keep rp _ (fun z => hpr (List.mem_singleton.mp z).symm) erp nt_lst
      obtain ⟨k, hk⟩ : ∃ k, free[d]? = some k := ⟨_, List.getElem?_eq_getElem hd⟩
      have hkv : (vIs free)[d]? = some (.int (k : Nat)) := by rw [List.getElem?_map, hk]; rfl
      have hkm := List.mem_of_getElem? hk
      have hpk := hfree k hkm
      have hkl : k < pose.length := (List.getElem?_eq_some_iff.mp hpk).1
      refine ⟨fp, _, _, d, _, rfl, rfl, efp7, by omega, by omega, by rw [seqIndex_of (by omega) (by rw [List.length_map]; omega)]; rfl, hkv, ?_⟩
      rw [vIs_erase]
      have erp8 : (upd H7 fp (.lst (vIs (free.eraseIdx d)))) rp = some (.lst (vNs pose)) := by rw [upd_ne hrf]; exact erp7
      refine ⟨rp, _, _, k, rfl, rfl, erp8, ixN_nat (by rw [List.length_map]; exact hkl), ⟨_, free.eraseIdx d, pose.set k (some nm), rfl, ?_, ?_, ?_, ?_, by rw [List.length_set]; exact hpl, ?_, ?_, ?_, ?_⟩⟩
      · exact ((fr5.trans (fr7.wide fun b hb => by rw [List.mem_singleton.mp hb]; simp)).trans (.write efp7 wr_lst nt_lst (by simp))).trans (.write erp8 wr_lst nt_lst (by simp))
      · rw [upd_same, show (V.str nm) = vN (some nm) from rfl, vNs_set]
      · rw [upd_ne hrf.symm, upd_same]
      · obtain ⟨a1, b1, h1, h2, e1⟩ := pu7
        exact ⟨a1, b1, h1, h2, by rw [upd_ne hpr, upd_ne hpf]; exact e1⟩
      · have := (erase_perm hk).length_eq
        rw [List.length_cons] at this
        omega
      · exact hfn.sublist (List.eraseIdx_sublist ..)
      · intro j hj
        have hjm : j ∈ free := (List.eraseIdx_sublist ..).mem hj
        have hjk : k ≠ j := fun z => by
          subst z
          have := (erase_perm hk).nodup_iff.mpr hfn
          exact (List.nodup_cons.mp this).1 hj
        rw [List.getElem?_set_ne hjk]
        exact hfree j hjm
      · have := pebs_set pose k (some nm) none hpk
        rw [take_snoc hnm]
        refine List.Perm.trans (this : (pebs (pose.set k (some nm))).Perm (nm :: pebs pose)) ?_
        exact (hpp.cons nm).trans (List.perm_append_singleton nm _).symm
    · rintro σ H5 ⟨c6, free, pose, rfl, fr5, erp, efp, pu5, hpl, hfl, hfn, hfree, hpp⟩
      rw [List.length_map, List.take_of_length_le (Nat.le_refl _)] at hpp
      have frB : Fr T ([rp, fp] ++ [pa]) H1 H5 := (fr13.nil.trans fr5).wide fun b hb => by
        simp only [List.mem_cons, List.not_mem_nil, or_false] at hb
        simp only [List.mem_append, List.mem_cons, List.not_mem_nil, or_false]
        rcases hb with z | z | z
        · exact .inr z
        · exact .inl (.inl z)
        · exact .inl (.inr z)
      have frA : Fr T [pa] H H5 := fr1.trans (frB.dropL fun z hz => by
        simp only [List.mem_cons, List.not_mem_nil, or_false] at hz
        rcases hz with rfl | rfl
        · exact nwr
        · exact nwf)
      refine ⟨_, rfl, rp, _, rfl, .inl (.inl erp), fun p o ho np' => ?_⟩
      have fr6 : Fr T [] H5 (upd H5 p (.frz o (.tup (vNs pose)))) := .new np'
      refine q _ p pose (frA.trans fr6.nil) ⟨o, reg_in ((frA.lv lv).fresh np') upd_same nt_frz, ho⟩ (goodP_of (by omega) (hpp.nodup_iff.mpr hnd) fun z hz => hnok z (hpp.mem_iff.mp hz)) hpl ?_ (fr6.pu pu5)
      rw [hpp.length_eq]
      exact hnl
/-! ### _law_moved -/
abbrev sLMoved : Stmt := top 67
theorem scLMoved : FnScope ["_law_standing_here", "_law_at", "_law_to", "_law_row_here"] ["_law_standing_here", "_law_at", "_law_to"] (defScope sLMoved) := ⟨rfl, rfl, rfl, by decide +kernel, rfl, by decide +kernel, by decide +kernel⟩
theorem ok_lmoved {f : Addr} {fd : FuncData} (F : L2.Fun K "_law_moved" "_law_moved" sLMoved f fd) (B : Blt mg) : FnOk P w K mg base CX0 1 f fd ["_law_standing_here", "_law_at", "_law_to"] (spMoved K T) := by
  refine F.ok scLMoved (fun vs H Q E h => ?_) (fun cdv A outer s H vs Q E hr h => ?_)
  · obtain ⟨ch, a, pose, h, t, rfl, _⟩ := h
    rfl
  · obtain ⟨ch, a, pose, h, t, rfl, lv, hs, hh, ht, q⟩ := h
    refine ⟨_, pss_cons (ps_set (i := 3) scLMoved.nd rfl (Or.inl rfl) (pe_callTy call_list_of (by rfl) B.list (by decide +kernel) (pa_cons (pv 0) pa_nil)))
      (pss_cons (ps_asg (pe_tup (pa_cons (pe_ix ix_list (pv 3) (pv 1) (fun _ _ => rfl)) (pa_cons pe_non pa_nil))) (pg_tup rfl (pgs_cons (pg_sub (pv 3) (pv 2) set_list) (pgs_cons (pg_sub (pv 3) (pv 1) set_list) pgs_nil))))
      (pss_one (ps_ret (pe_callTy call_tupleF (by rfl) B.tuple (by decide +kernel) (pa_cons (pv 3) pa_nil))))), ?_⟩
    refine ⟨_, rfl, a, _, rfl, .inr hs, fun l nl => ?_⟩
    have hlen : (vNs pose).length = pose.length := List.length_map _
    refine ⟨_, rfl, _, rfl, l, _, (h : Nat), _, rfl, rfl, .inl (.inl upd_same), atI_nat (vNs_at hh), by show 2 ≤ sizeLine; decide, fun tp ntp => ⟨tp, _, rfl, .inl (.inl upd_same), rfl, _, _, rfl, _, rfl, _, rfl, l, vNs pose, (t : Nat), t, rfl, rfl, ?_, ixN_nat (by omega),
      _, _, rfl, _, rfl, _, rfl, l, (vNs pose).set t (vN (pose.getD h none)), (h : Nat), h, rfl, rfl, upd_same, ixN_nat (by rw [List.length_set]; omega), rfl, _, rfl, l, _, rfl, .inl (.inl upd_same), fun p o ho np => ?_⟩⟩
    · rw [upd_ne (ne_of_none (show (upd H l (.lst (vNs pose))) l = some _ from upd_same) ntp), upd_same]
    · have e : ((vNs pose).set t (vN (pose.getD h none))).set h .non = vNs (mvd pose h t) := by
        rw [vNs_set, show V.non = vN none from rfl, vNs_set]
        rfl
      rw [e] at np ⊢
      have fr1 : Fr T [l] H (upd H l (.lst (vNs pose))) := .new nl
      have n2 : l ≠ tp := ne_of_none (show (upd H l (.lst (vNs pose))) l = some _ from upd_same) ntp
      have fr2 : Fr T [l] H (upd (upd H l (.lst (vNs pose))) tp (.tup [vN (pose.getD h none), .non])) := fr1.trans (.new ntp)
      have e2 : (upd (upd H l (.lst (vNs pose))) tp (.tup [vN (pose.getD h none), .non])) l = some (.lst (vNs pose)) := by rw [upd_ne n2, upd_same]
      have fr3 := fr2.trans (.write (o' := .lst ((vNs pose).set t (vN (pose.getD h none)))) e2 wr_lst nt_lst (List.mem_singleton.mpr rfl))
      have fr4 := fr3.trans (.write (o := .lst ((vNs pose).set t (vN (pose.getD h none)))) (o' := .lst (vNs (mvd pose h t))) upd_same wr_lst nt_lst (List.mem_singleton.mpr rfl))
      have fr5 := (fr4.drop (nw_none nl)).trans (.new (o := .frz o (.tup (vNs (mvd pose h t)))) np)
      exact q _ p fr5 ⟨o, reg_in (((fr4.drop (nw_none nl)).lv lv).fresh np) upd_same nt_frz, ho⟩
end
end Tz
end -- W24
section -- W25
set_option maxHeartbeats 4000000
namespace Tz
open PySem PySem.Spec PyProof.Rows L2 TL
theorem repr_len {z : Str} (n : NmOk z) : (reprText z).length ≤ 82 := by
  have h0 : ∀ c ∈ ("abcdefghijklmnopqrstuvwxyz" : Str).cps.toList, c < 16 ^ 8 := by decide +kernel
  have h := StrLaws.reprText_len z fun c hc => h0 c (n.low c hc)
  have := n.top
  omega
theorem nm_of {js : Js} (W : WellJ js) {y : Str} (h : y ∈ nmsOf js) : NmOk y := by
  obtain ⟨p, hp, rfl⟩ := List.mem_map.mp h
  exact W.names p hp
theorem two_tup {K : PySem.W.Frag} {T : List (Addr × Str)} {ch : List Addr} {H : Hp} {q1 q : Addr} {ys : List V} {ds : List PyData} {v : V} (lv : Lv ch H) (h1 : H q1 = none) (h2 : (upd H q1 (.tup ys)) q = none) (hd : DpAll K (Reg ch H) ys ds) :
    Fr T [] H (upd (upd H q1 (.tup ys)) q (.tup [v, .ref q1])) ∧ SqT K (Reg ch (upd (upd H q1 (.tup ys)) q (.tup [v, .ref q1]))) q [v, .ref q1] ∧ Dp K (Reg ch (upd (upd H q1 (.tup ys)) q (.tup [v, .ref q1]))) (.ref q1) (.tuple ds) := by
  have f1 : Fr T [] H (upd H q1 (.tup ys)) := .new h1
  have f2 : Fr T [] (upd H q1 (.tup ys)) (upd (upd H q1 (.tup ys)) q (.tup [v, .ref q1])) := .new h2
  exact ⟨f1.trans f2, .inl (.inl (reg_in ((f1.lv lv).fresh h2) upd_same nt_tup)), Same.dp f2.reg0 (new_tup lv h1 hd)⟩
section
variable {P : Program} {w : World} {K : PySem.W.Frag} {mg : Str → Option Value} {base : Heap} {T : List (Addr × Str)} {CT CB : Addr}
/-! ### _law_after -/
abbrev sLAfter : Stmt := top 72
abbrev nLAfter : List Str := ["_law_joints_here", "_law_links_here", "_law_pose", "_law_deed_here", "_law_names_here", "_law_at", "_law_to", "_law_joint"]
theorem scLAfter : FnScope nLAfter ["_law_joints_here", "_law_links_here", "_law_pose", "_law_deed_here"] (defScope sLAfter) := ⟨rfl, rfl, rfl, by decide +kernel, rfl, by decide +kernel, by decide +kernel⟩
/-- what is due for a deed -/
def dueD (js : Js) (pose : Pose) (d : Str × Str) : PyData :=
  if ixOf d.2 (nmsOf js) ∉ (trOf js).nb (ixOf (some d.1) pose) then .tuple [.str "NotNear", .str (reprText d.2)]
  else if pose.getD (ixOf d.2 (nmsOf js)) none ≠ none then .tuple [.str "NotEmpty", .str (reprText d.2)]
  else .tuple [.str "returned", .none]
theorem due_legal {js : Js} {pose : Pose} {d : Str × Str} (h : legalD js pose d = true) : dueD js pose d = .tuple [.str "returned", .none] := by
  unfold legalD legal at h
  rw [Bool.and_eq_true] at h
  unfold dueD
  rw [if_neg (fun z => z (of_decide_eq_true h.1)), if_neg (fun z => z (of_decide_eq_true h.2))]
def spLAfter (K : PySem.W.Frag) (T : List (Addr × Str)) : Sp := fun vs H Q _ => ∃ (js : Js) (ch : List Addr) (vj vl : V) (a dq : Addr) (pose : Pose) (d : Str × Str), vs = [vj, vl, .ref a, .ref dq] ∧ WellJ js ∧ Lv ch H ∧ Dp K (Reg ch H) vj (.list (dJl js)) ∧ Dp K (Reg ch H) vl (.list (dL js)) ∧ Fz H a (vNs pose) ∧ pose.length = js.length ∧
  SqT K H dq [.str d.1, .str d.2] ∧ some d.1 ∈ pose ∧ d.2 ∈ nmsOf js ∧
  (legalD js pose d = true → ∀ H' q p du, Fr T [] H H' → SqT K (Reg ch H') q [.ref p, du] → Fz (Reg ch H') p (vNs (stepD js pose d)) → Dp K (Reg ch H') du (dueD js pose d) → Q (.ref q) H') ∧
  (legalD js pose d = false → ∀ H' q du, Fr T [] H H' → SqT K (Reg ch H') q [.non, du] → Dp K (Reg ch H') du (dueD js pose d) → Q (.ref q) H')
theorem ok_lafter {f : Addr} {fd : FuncData} (F : L2.Fun K "_law_after" "_law_after" sLAfter f fd) (B : Blt mg) (DM : Def P w K mg base 1 "_law_moved" ["_law_standing_here", "_law_at", "_law_to"] (spMoved K T)) : FnOk P w K mg base CX0 2 f fd ["_law_joints_here", "_law_links_here", "_law_pose", "_law_deed_here"] (spLAfter K T) := by
  refine F.ok scLAfter (fun vs H Q E h => ?_) (fun cdv A outer s H vs Q E hr h => ?_)
  · obtain ⟨js, ch, vj, vl, a, dq, pose, d, rfl, _⟩ := h
    rfl
  · obtain ⟨js, ch, vj, vl, a, dq, pose, d, rfl, W, lv, dj, dl, fz, hpl, hdq, hx, hy, q1, q2⟩ := h
    refine ⟨_, pss_cons (ps_setLc (i := 4) (own := [("_law_joint", 7)]) (g := gName 7) (tt := tYes) (te := tOp (rIxT K) (tVar 7) (tC (.int 0))) rfl scLAfter.nd rfl rfl (sw_true rfl rfl rfl (by decide +kernel)) (pi_list (pv 0)) (blkOk_by (N := nLAfter) (sc := defScope sLAfter) (by decide +kernel))
          (fun _ _ _ _ _ => pg_name (i := 7) scLAfter.nd rfl (Or.inl rfl)) (fun _ _ _ _ _ => pts_nil) (fun _ _ _ _ _ => pe_ix ix_tup (pv 7) pe_int (fun _ _ => rfl)))
      (pss_cons (ps_par (i := 5) (j := 6) (by rfl) scLAfter.nd rfl rfl (by decide) rfl rfl (pa_cons (pe_bmT PySem.F.slot_tuple_index PySem.F.type_tuple_index mt_idxT (pv 2) (pa_cons (pe_ix ix_tup (pv 3) pe_int (fun _ _ => rfl)) pa_nil))
          (pa_cons (pe_bm PySem.F.plainAttrs_list PySem.F.slot_list_index PySem.F.type_list_index mt_index (pv 4) (pa_cons (pe_ix ix_tup (pv 3) pe_int (fun _ _ => rfl)) pa_nil)) pa_nil)) (by rfl))
      (pss_cons (ps_if (pt_cmpR op_notIn_seq (pv 6) (pe_ix ix_list (pv 1) (pv 5) (fun _ _ => rfl)) (by rfl)) (pss_one (ps_ret (pe_tup (pa_cons pe_non (pa_cons (pe_tup (pa_cons pe_str (pa_cons (pe_callB cr_reprS (by rfl) B.repr (by decide +kernel) (pa_cons (pe_ix ix_tup (pv 3) pe_int (fun _ _ => rfl)) pa_nil)) pa_nil))) pa_nil))))) pss_nil)
      (pss_cons (ps_if (pt_cmpR op_notN (pe_ix ix_tup (pv 2) (pv 6) (fun _ _ => rfl)) pe_non (nomark _)) (pss_one (ps_ret (pe_tup (pa_cons pe_non (pa_cons (pe_tup (pa_cons pe_str (pa_cons (pe_callB cr_reprS (by rfl) B.repr (by decide +kernel) (pa_cons (pe_ix ix_tup (pv 3) pe_int (fun _ _ => rfl)) pa_nil)) pa_nil))) pa_nil))))) pss_nil)
      (pss_one (ps_ret (pe_tup (pa_cons (pe_callD DM hr (by rfl) (pa_cons (pv 2) (pa_cons (pv 5) (pa_cons (pv 6) pa_nil)))) (pa_cons (pe_tup (pa_cons pe_str (pa_cons pe_non pa_nil))) pa_nil)))))))), ?_⟩
    have sl := sizeLine_eq
    have h9 := W.top
    obtain ⟨l, xs, rfl, hs, hd⟩ := dp_lst dj
    obtain ⟨ll, ls, rfl, hls, hdl⟩ := dp_lst dl
    have lx : xs.length = js.length := by rw [dps_len hd, List.length_map]
    have hs0 := reg_same.seq hs
    refine ⟨_, rfl, l, rfl, ⟨xs, hs0⟩, fun D nD => lc_it (walk_list (xs := xs)) (fun i H2 => Fr T [D] H H2 ∧ H2 D = some (.lst (vSs ((js.take i).map (·.1))))) ⟨.new nD, upd_same⟩ ?_ ?_ ?_⟩
    · rintro i H2 _ ⟨fr, _⟩
      exact (fr.drop (nw_none nD)).sqL0 hs0
    · rintro i v H2 H3 hi ⟨fr, eD⟩ ⟨rfl, hv⟩
      obtain ⟨p, q0, o, hp, rfl, hq0, _, _⟩ := joint_at hd hv
      have fr0 := fr.drop (nw_none nD)
      refine ⟨rfl, _, rfl, q0, _, 0, _, rfl, rfl, fr0.sqT0 (Same.seqT reg_same hq0), atI_nat (j := 0) rfl, _, eD, by rw [List.length_map, List.length_map, List.length_take]; omega, fr.trans (.write eD wr_lst nt_lst (List.mem_singleton.mpr rfl)), ?_⟩
      rw [upd_same, take_snoc hp, List.map_append, vSs_app]
      rfl
    rintro H2 ⟨fr, eD⟩
    rw [lx, List.take_of_length_le (Nat.le_refl _)] at eD
    have fr0 : Fr T [] H H2 := fr.drop (nw_none nD)
    clear fr
    have eD' : H2 D = some (.lst (vSs (nmsOf js))) := eD
    have fz2 : Fz H2 a (vNs pose) := by
      obtain ⟨o, e, d⟩ := fz
      exact ⟨o, fr0.at0 e nt_frz, d⟩
    have hdq2 := fr0.sqT0 hdq
    have lv2 := fr0.lv lv
    obtain ⟨i1, i2, i3⟩ := idx_at (f := vN) eqV_vN hx
    obtain ⟨j1, j2, j3⟩ := idx_at (f := V.str) eqV_str hy
    -- at, to
    refine ⟨_, rfl, ⟨a, _, rfl, fz2⟩, _, rfl, dq, _, 0, _, rfl, rfl, hdq2, atI_nat (j := 0) rfl, a, _, _, _, _, rfl, rfl, fz2.sq, rfl, flat_all _, i1, i2, i3, ?_⟩
    refine ⟨_, rfl, .inl ⟨rfl, _, .inl (.inl eD')⟩, _, rfl, dq, _, 1, _, rfl, rfl, hdq2, atI_nat (j := 1) rfl, D, _, _, _, _, rfl, rfl, .inl (.inl eD'), rfl, flat_S _, j1, j2, j3, _, _, rfl, ?_⟩
    have hh := ixOf_lt hx
    have htl : ixOf d.2 (nmsOf js) < js.length := by have := ixOf_lt hy; rw [nms_len] at this; exact this
    obtain ⟨r, er, hr_⟩ := links_at hdl (show ixOf (some d.1) pose < js.length by omega)
    have hrr : SqL K H2 r (vIs ((trOf js).nb (ixOf (some d.1) pose))) := reg_same.seq (fr0.reg0.seq hr_)
    have hrep := repr_len (nm_of W hy)
    refine ⟨_, rfl, _, rfl, _, rfl, ll, ls, (ixOf (some d.1) pose : Nat), .ref r, rfl, rfl, reg_same.seq (fr0.reg0.seq hls), atI_nat er, r, _, rfl, .inl hrr, rfl, flat_I _, _, rfl, ?_⟩
    have e1 : (if true = true then !inV (V.int (ixOf d.2 (nmsOf js) : Nat)) (vIs ((trOf js).nb (ixOf (some d.1) pose))) else inV (V.int (ixOf d.2 (nmsOf js) : Nat)) (vIs ((trOf js).nb (ixOf (some d.1) pose)))) = !decide (ixOf d.2 (nmsOf js) ∈ (trOf js).nb (ixOf (some d.1) pose)) := by rw [if_pos rfl, inI]
    by_cases hn : ixOf d.2 (nmsOf js) ∈ (trOf js).nb (ixOf (some d.1) pose)
    · refine iteF' (e1.trans (by rw [decide_eq_true hn]; rfl)) ?_
      refine ⟨_, rfl, _, rfl, a, _, (ixOf d.2 (nmsOf js) : Nat), _, rfl, rfl, fz2.sq, atI_nat (vNs_at (by omega)), rfl, _, rfl, ?_⟩
      by_cases hp : pose.getD (ixOf d.2 (nmsOf js)) none = none
      · have hleg : legalD js pose d = true := by
          unfold legalD legal
          rw [decide_eq_true hn, decide_eq_true hp]
          rfl
        refine iteF' (by rw [hp]; rfl) ?_
        refine ⟨_, rfl, _, rfl, _, rfl, ch, a, pose, _, _, rfl, lv2, fz2.sq, hh, by omega, fun H3 p fr3 fzp => ?_⟩
        refine ⟨by show 2 ≤ sizeLine; omega, fun t1 nt1 => ⟨by show 2 ≤ sizeLine; omega, fun t2 nt2 => ?_⟩⟩
        obtain ⟨g1, g2, g3⟩ := two_tup (K := K) (T := T) (v := .ref p) (fr3.lv lv2) nt1 nt2 (.cons (.str "returned") (.cons .non .nil))
        exact q1 hleg _ _ _ _ ((fr0.trans fr3).trans g1) g2 (Same.fz g1.reg0 fzp) (by rw [due_legal hleg]; exact g3)
      · have hleg : legalD js pose d = false := by
          unfold legalD legal
          rw [decide_eq_false hp, Bool.and_false]
        refine iteT' (by cases e : pose.getD (ixOf d.2 (nmsOf js)) none with | none => exact absurd e hp | some z => rfl) ?_
        refine ⟨_, rfl, dq, _, 1, _, rfl, rfl, hdq2, atI_nat (j := 1) rfl, d.2, rfl, by omega, by show 2 ≤ sizeLine; omega, fun t1 nt1 => ⟨by show 2 ≤ sizeLine; omega, fun t2 nt2 => ?_⟩⟩
        obtain ⟨g1, g2, g3⟩ := two_tup (K := K) (T := T) (v := .non) lv2 nt1 nt2 (.cons (.str "NotEmpty") (.cons (.str (reprText d.2)) .nil))
        refine q2 hleg _ _ _ (fr0.trans g1) g2 ?_
        unfold dueD
        rw [if_neg (fun z => z hn), if_pos hp]
        exact g3
    · have hleg : legalD js pose d = false := by
        unfold legalD legal
        rw [decide_eq_false hn, Bool.false_and]
      refine iteT' (e1.trans (by rw [decide_eq_false hn]; rfl)) ?_
      refine ⟨_, rfl, dq, _, 1, _, rfl, rfl, hdq2, atI_nat (j := 1) rfl, d.2, rfl, by omega, by show 2 ≤ sizeLine; omega, fun t1 nt1 => ⟨by show 2 ≤ sizeLine; omega, fun t2 nt2 => ?_⟩⟩
      obtain ⟨g1, g2, g3⟩ := two_tup (K := K) (T := T) (v := .non) lv2 nt1 nt2 (.cons (.str "NotNear") (.cons (.str (reprText d.2)) .nil))
      refine q2 hleg _ _ _ (fr0.trans g1) g2 ?_
      unfold dueD
      rw [if_pos hn]
      exact g3
end
end Tz
end -- W25
section -- W26
set_option maxHeartbeats 4000000
namespace Tz
open PySem PySem.Spec PyProof.Rows L2 TL
section
variable {P : Program} {w : World} {K : PySem.W.Frag} {mg : Str → Option Value} {base : Heap} {T : List (Addr × Str)} {CT CB : Addr}
theorem nb_ne {T : Tb.Tr} (h2 : 2 ≤ T.n) {x : Nat} (hx : x < T.n) : 1 ≤ (T.nb x).length := by
  have : ∃ y, T.Adj x y := by
    by_cases h0 : 0 < x
    · exact ⟨T.pr x, hx, Nat.lt_trans (T.lt x h0 hx) hx, .inl ⟨h0, rfl⟩⟩
    · have h1 := T.lt 1 (by decide) (by omega)
      exact ⟨1, hx, by omega, .inr ⟨by decide, by omega⟩⟩
  obtain ⟨y, hy⟩ := this
  exact List.length_pos_of_mem ((Tb.Tr.mem_nb hx).mpr hy)
/-! ### _law_deed -/
abbrev sDeed : Stmt := top 73
abbrev nDeed : List Str := ["_law_purse_here", "_law_joints_here", "_law_links_here", "_law_pose", "_law_stones", "_law_stone", "_law_x"]
theorem scDeed : FnScope nDeed ["_law_purse_here", "_law_joints_here", "_law_links_here", "_law_pose"] (defScope sDeed) := ⟨rfl, rfl, rfl, by decide +kernel, rfl, by decide +kernel, by decide +kernel⟩
def spDeed (K : PySem.W.Frag) (T : List (Addr × Str)) : Sp := fun vs H Q _ => ∃ (js : Js) (ch : List Addr) (pa a : Addr) (vj vl : V) (pose : Pose), vs = [.ref pa, vj, vl, .ref a] ∧ WellJ js ∧ 2 ≤ js.length ∧ Lv ch H ∧ pa ∈ ch ∧ Dp K (Reg ch H) vj (.list (dJl js)) ∧ Dp K (Reg ch H) vl (.list (dL js)) ∧ Fz (Reg ch H) a (vNs pose) ∧ pose.length = js.length ∧ 1 ≤ (pebs pose).length ∧ Pu H pa ∧
  ∀ H' q (d : Str × Str), Fr T [pa] H H' → SqT K (Reg ch H') q [.str d.1, .str d.2] → some d.1 ∈ pose → d.2 ∈ nmsOf js → Pu H' pa → Q (.ref q) H'
theorem ok_deed {f : Addr} {fd : FuncData} (F : L2.Fun K "_law_deed" "_law_deed" sDeed f fd) (B : Blt mg) (DD : Def P w K mg base 1 "_law_draw" ["_law_purse_here", "_law_many"] (spDraw T)) (DP : Def P w K mg base 2 "_law_pick" ["_law_purse_here", "_law_some"] (spPick K T)) : FnOk P w K mg base CX0 3 f fd ["_law_purse_here", "_law_joints_here", "_law_links_here", "_law_pose"] (spDeed K T) := by
  refine F.ok scDeed (fun vs H Q E h => ?_) (fun cdv A outer s H vs Q E hr h => ?_)
  · obtain ⟨js, ch, pa, a, vj, vl, pose, rfl, _⟩ := h
    rfl
  · obtain ⟨js, ch, pa, a, vj, vl, pose, rfl, W, h2, lv, hpa, dj, dl, fz, hpl, hpe, pu, q⟩ := h
    have hr1 : Room 1 _ := hr.mono (by decide)
    refine ⟨_, pss_cons (ps_setLc (i := 4) (own := [("_law_x", 6)]) (g := gName 6) (tt := tTest (tOp (fun x y H Q => y = .non ∧ Q (.bl (!decide (x = .non))) H) (tVar 6) (tC .non))) rfl scDeed.nd rfl rfl (sw_true rfl rfl rfl (by decide +kernel)) (pi_tup (pv 3)) (blkOk_by (N := nDeed) (sc := defScope sDeed) (by decide +kernel))
          (fun _ _ _ _ _ => pg_name (i := 6) scDeed.nd rfl (Or.inl rfl)) (fun _ _ _ _ _ => pts_one (pt_cmpR op_notN (pv 6) pe_non (nomark _))) (fun _ _ _ _ _ => pv 6))
      (pss_cons (ps_set (i := 5) scDeed.nd rfl (Or.inl rfl) (pe_callD DP hr (by rfl) (pa_cons (pv 0) (pa_cons (pv 4) pa_nil))))
      (pss_cons (ps_if (pt_cmpR op_eq (pe_callD DD hr1 (by rfl) (pa_cons (pv 0) (pa_cons pe_int pa_nil))) pe_int (nomark _)) (pss_one (ps_ret (pe_tup (pa_cons (pv 5) (pa_cons (pe_ix ix_tup (pe_callD DP hr (by rfl) (pa_cons (pv 0) (pa_cons (pv 1) pa_nil))) pe_int (fun _ _ => rfl)) pa_nil))))) pss_nil)
      (pss_one (ps_ret (pe_tup (pa_cons (pv 5) (pa_cons (pe_ix ix_tup (pe_ix ix_list (pv 1) (pe_callD DP hr (by rfl) (pa_cons (pv 0) (pa_cons (pe_ix ix_list (pv 2) (pe_bmT PySem.F.slot_tuple_index PySem.F.type_tuple_index mt_idxT (pv 3) (pa_cons (pv 5) pa_nil)) (fun _ _ => rfl)) pa_nil))) (fun _ _ => rfl)) pe_int (fun _ _ => rfl)) pa_nil))))))), ?_⟩
    have sl := sizeLine_eq
    have h9 := W.top
    have hn : (trOf js).n = js.length := rfl
    obtain ⟨l, xs, rfl, hs, hd⟩ := dp_lst dj
    obtain ⟨ll, ls, rfl, hls, hdl⟩ := dp_lst dl
    have lx : xs.length = js.length := by rw [dps_len hd, List.length_map]
    have sub : ∀ b ∈ [pa], b ∈ ch := fun b hb => by rw [List.mem_singleton.mp hb]; exact hpa
    have fzs : SqT K H a (vNs pose) := (Same.fz reg_same fz).sq
    obtain ⟨a0, b0, _, _, epa⟩ := id pu
    refine ⟨_, rfl, a, rfl, ⟨_, fzs⟩, fun D nD => lc_it (walk_tup (xs := vNs pose)) (fun i H2 => Fr T [D] H H2 ∧ H2 D = some (.lst (vSs (pebs (pose.take i))))) ⟨.new nD, upd_same⟩ ?_ ?_ ?_⟩
    · rintro i H2 _ ⟨fr, _⟩
      exact (fr.drop (nw_none nD)).sqT0 fzs
    · rintro i v H2 H3 hi ⟨fr, eD⟩ ⟨rfl, hv⟩
      obtain ⟨o, ho, rfl⟩ := map_at hv
      have hle : (pebs (pose.take i)).length ≤ 9 := by
        have := List.length_filterMap_le id (pose.take i)
        rw [List.length_take] at this
        show (List.filterMap id (pose.take i)).length ≤ 9
        omega
      refine ⟨rfl, _, rfl, rfl, _, rfl, ?_⟩
      rw [take_snoc ho, pebs, List.filterMap_append]
      cases o with
      | none =>
        refine iteF' rfl ⟨fr, ?_⟩
        rw [eD]
        simp
      | some z =>
        refine iteT' rfl ⟨_, rfl, _, eD, by rw [List.length_map]; omega, fr.trans (.write eD wr_lst nt_lst (List.mem_singleton.mpr rfl)), ?_⟩
        rw [upd_same, vSs_app]
        rfl
    rintro H2 ⟨fr, eD⟩
    rw [List.length_map, List.take_of_length_le (Nat.le_refl _)] at eD
    have fr0 : Fr T [] H H2 := fr.drop (nw_none nD)
    clear fr
    have hDpa : D ≠ pa := (ne_of_none epa nD).symm
    have pl : (pebs pose).length ≤ 9 := by
      have := List.length_filterMap_le id pose
      show (List.filterMap id pose).length ≤ 9
      omega
    refine ⟨_, rfl, _, rfl, pa, D, _, rfl, .inl (.inl (reg_in (fun z => hDpa (List.mem_singleton.mp z)) eD nt_lst)), by rw [List.length_map]; exact hpe, by rw [List.length_map]; omega, fr0.pu pu, fun H3 dx x hx fr3 pu3 => ?_⟩
    obtain ⟨st, hst, rfl⟩ := map_at hx
    have hstp : some st ∈ pose := by
      obtain ⟨o, ho, e⟩ := List.mem_filterMap.mp (List.mem_of_getElem? hst)
      have e' : o = some st := e
      rw [← e']
      exact ho
    refine ⟨_, rfl, pa, 4, rfl, by decide, by decide, pu3, fun H4 d4 hd4 fr4 pu4 => ⟨rfl, _, rfl, ?_⟩⟩
    have frA : Fr T [pa] H H4 := (fr0.nil.trans fr3).trans fr4
    have sA := frA.reg sub
    have fin : ∀ (H5 : Hp) (z : Str) (q : Addr), Fr T [pa] H4 H5 → Pu H5 pa → z ∈ nmsOf js → H5 q = none → Q (.ref q) (upd H5 q (.tup [.str st, .str z])) := fun H5 z t fr5 pu5 hz nt => by
      have f6 : Fr T [] H5 (upd H5 t (.tup [.str st, .str z])) := .new nt
      exact q _ t (st, z) ((frA.trans fr5).trans f6.nil) (.inl (.inl (reg_in (((frA.trans fr5).lv lv).fresh nt) upd_same nt_tup))) hstp hz (f6.pu pu5)
    by_cases h0 : (V.int (d4 : Nat)) = .int 0
    · refine iteT' (decide_eq_true h0) ?_
      refine ⟨_, rfl, _, rfl, _, rfl, pa, l, xs, rfl, (reg_less sub).seq (sA.seq hs), by omega, by omega, pu4, fun H5 k5 x5 hx5 fr5 pu5 => ?_⟩
      obtain ⟨p, q0, o, hp, rfl, hq0, _, _⟩ := joint_at hd hx5
      have hq5 := Same.seqT reg_same (Same.seqT ((frA.trans fr5).reg sub) hq0)
      exact ⟨q0, _, 0, _, rfl, rfl, hq5, atI_nat (j := 0) rfl, by show 2 ≤ sizeLine; omega, fun t nt => fin H5 _ t fr5 pu5 (List.mem_map_of_mem (List.mem_of_getElem? hp)) nt⟩
    · refine iteF' (decide_eq_false h0) ?_
      have hh := ixOf_lt hstp
      obtain ⟨r, er, hr_⟩ := links_at hdl (show ixOf (some st) pose < js.length by omega)
      obtain ⟨i1, i2, i3⟩ := idx_at (f := vN) eqV_vN hstp
      have fz4 : Fz H4 a (vNs pose) := Same.fz reg_same (Same.fz sA fz)
      have hnb := nb_len (trOf js) (ixOf (some st) pose)
      have hnb2 := nb_ne (T := trOf js) h2 (x := ixOf (some st) pose) (by omega)
      refine ⟨_, rfl, _, rfl, _, rfl, _, rfl, _, rfl, ⟨a, _, rfl, fz4⟩, _, rfl, a, _, _, _, _, rfl, rfl, fz4.sq, rfl, flat_all _, i1, i2, i3, ?_⟩
      refine ⟨ll, ls, _, .ref r, rfl, rfl, reg_same.seq (sA.seq hls), atI_nat er, pa, r, _, rfl, (reg_less sub).seq (sA.seq hr_), by rw [List.length_map]; exact hnb2, by rw [List.length_map]; omega, pu4, fun H5 k5 x5 hx5 fr5 pu5 => ?_⟩
      obtain ⟨m, hm, rfl⟩ := map_at hx5
      have hmn : m < js.length := ((Tb.Tr.mem_nb (T := trOf js) (x := ixOf (some st) pose) (by omega)).mp (List.mem_of_getElem? hm)).2.1
      obtain ⟨v2, hv2⟩ : ∃ v2, xs[m]? = some v2 := ⟨_, List.getElem?_eq_getElem (by omega)⟩
      obtain ⟨p, q0, o, hp, rfl, hq0, _, _⟩ := joint_at hd hv2
      have s5 := (frA.trans fr5).reg sub
      exact ⟨l, xs, _, _, rfl, rfl, reg_same.seq (s5.seq hs), atI_nat hv2, q0, _, 0, _, rfl, rfl, Same.seqT reg_same (Same.seqT s5 hq0), atI_nat (j := 0) rfl, by show 2 ≤ sizeLine; omega, fun t nt => fin H5 _ t fr5 pu5 (List.mem_map_of_mem (List.mem_of_getElem? hp)) nt⟩
end
end Tz
end -- W26
section -- W27
set_option maxHeartbeats 4000000
namespace Tz
open PySem PySem.Spec PyProof.Rows L2 TL
theorem run_snoc {js : Js} (d : Str × Str) : ∀ (ds : Mvs) (k : Nat) (pose p : Pose), runFrom js k pose ds = .inr p → runFrom js k pose (ds ++ [d]) = if legalD js p d = true then .inr (stepD js p d) else .inl (k + ds.length)
  | [], k, pose, p, h => by
    cases h
    rfl
  | a :: r, k, pose, p, h => by
    unfold runFrom at h
    rw [List.cons_append]
    unfold runFrom
    by_cases hl : legalD js pose a = true
    · rw [if_pos hl] at h ⊢
      rw [run_snoc d r (k + 1) _ p h, List.length_cons]
      congr 2
      omega
    · rw [if_neg hl] at h
      cases h
theorem ok_snoc {js : Js} {d : Str × Str} : ∀ (ds : Mvs) (k : Nat) (pose p : Pose), runFrom js k pose ds = .inr p → okRun js pose ds → some d.1 ∈ p → d.2 ∈ nmsOf js → okRun js pose (ds ++ [d])
  | [], k, pose, p, h, _, h1, h2 => by
    cases h
    exact ⟨h1, h2, fun _ => trivial⟩
  | a :: r, k, pose, p, h, ho, h1, h2 => by
    unfold runFrom at h
    obtain ⟨o1, o2, o3⟩ := ho
    refine ⟨o1, o2, fun hl => ?_⟩
    rw [if_pos hl] at h
    exact ok_snoc r (k + 1) _ p h (o3 hl) h1 h2
theorem pebs_mvd {pose : Pose} {h t : Nat} {x : Str} (hx : pose[h]? = some (some x)) (ht : pose[t]? = some none) : (pebs (mvd pose h t)).Perm (pebs pose) := by
  have hne : t ≠ h := fun z => by
    subst z
    rw [hx] at ht
    cases ht
  have e : pose.getD h none = some x := by rw [List.getD_eq_getElem?_getD, hx]; rfl
  unfold mvd
  rw [e]
  have h1 := pebs_set pose t (some x) none ht
  have hx2 : (pose.set t (some x))[h]? = some (some x) := by rw [List.getElem?_set_ne hne]; exact hx
  have h2 := pebs_set (pose.set t (some x)) h none (some x) hx2
  have h3 : (x :: pebs ((pose.set t (some x)).set h none)).Perm (pebs (pose.set t (some x))) := h2
  have h4 : (pebs (pose.set t (some x))).Perm (x :: pebs pose) := h1
  exact (h3.trans h4).cons_inv
theorem legal_at {js : Js} {pose : Pose} {d : Str × Str} (hl : pose.length = js.length) (h : legalD js pose d = true) (hy : d.2 ∈ nmsOf js) : pose[ixOf d.2 (nmsOf js)]? = some none := by
  unfold legalD legal at h
  rw [Bool.and_eq_true] at h
  have h2 := of_decide_eq_true h.2
  have htl : ixOf d.2 (nmsOf js) < pose.length := by have := ixOf_lt hy; rw [nms_len] at this; omega
  rw [List.getD_eq_getElem?_getD, List.getElem?_eq_getElem htl] at h2
  rw [List.getElem?_eq_getElem htl]
  exact congrArg some h2
theorem pebs_stepD {js : Js} {pose : Pose} {d : Str × Str} (hl : pose.length = js.length) (h : legalD js pose d = true) (hx : some d.1 ∈ pose) (hy : d.2 ∈ nmsOf js) : (pebs (stepD js pose d)).Perm (pebs pose) := pebs_mvd (ixOf_at hx) (legal_at hl h hy)
section
variable {P : Program} {w : World} {K : PySem.W.Frag} {mg : Str → Option Value} {base : Heap} {T : List (Addr × Str)} {CT CB : Addr}
/-! ### _law_row -/
abbrev sLRow : Stmt := top 74
abbrev nLRow : List Str := ["_law_purse_here", "_law_joints_here", "_law_links_here", "_law_pose", "_law_deeds", "_law_turn", "_law_deed_here", "_law_told_here"]
theorem scLRow : FnScope nLRow ["_law_purse_here", "_law_joints_here", "_law_links_here", "_law_pose"] (defScope sLRow) := ⟨rfl, rfl, rfl, by decide +kernel, rfl, by decide +kernel, by decide +kernel⟩
def spLRow (K : PySem.W.Frag) (T : List (Addr × Str)) : Sp := fun vs H Q _ => ∃ (js : Js) (ch : List Addr) (pa a : Addr) (vj vl : V) (pose : Pose), vs = [.ref pa, vj, vl, .ref a] ∧ WellJ js ∧ 2 ≤ js.length ∧ Lv ch H ∧ pa ∈ ch ∧ Dp K (Reg ch H) vj (.list (dJl js)) ∧ Dp K (Reg ch H) vl (.list (dL js)) ∧ Fz (Reg ch H) a (vNs pose) ∧ pose.length = js.length ∧ 1 ≤ (pebs pose).length ∧ Pu H pa ∧
  ∀ H' q mq x y (deeds : Mvs), Fr T [pa] H H' → SqT K (Reg ch H') q [.ref mq, x, y] → Dp K (Reg ch H') (.ref mq) (dMs deeds) → okRun js pose deeds → deeds.length ≤ 4 → Pu H' pa →
    (∀ p', runFrom js 0 pose deeds = .inr p' → y = .non ∧ ∃ p, x = .ref p ∧ Fz (Reg ch H') p (vNs p')) → (∀ k, runFrom js 0 pose deeds = .inl k → x = .non ∧ y = .int (k : Nat)) → Q (.ref q) H'
theorem ok_lrow {f : Addr} {fd : FuncData} (F : L2.Fun K "_law_row" "_law_row" sLRow f fd) (B : Blt mg) (DD : Def P w K mg base 1 "_law_draw" ["_law_purse_here", "_law_many"] (spDraw T)) (DE : Def P w K mg base 3 "_law_deed" ["_law_purse_here", "_law_joints_here", "_law_links_here", "_law_pose"] (spDeed K T)) (DA : Def P w K mg base 2 "_law_after" ["_law_joints_here", "_law_links_here", "_law_pose", "_law_deed_here"] (spLAfter K T)) :
    FnOk P w K mg base CX0 4 f fd ["_law_purse_here", "_law_joints_here", "_law_links_here", "_law_pose"] (spLRow K T) := by
  refine F.ok scLRow (fun vs H Q E h => ?_) (fun cdv A outer s H vs Q E hr h => ?_)
  · obtain ⟨js, ch, pa, a, vj, vl, pose, rfl, _⟩ := h
    rfl
  · obtain ⟨js, ch, pa, a, vj, vl, pose, rfl, W, h2, lv, hpa, dj, dl, fz, hpl, hpe, pu, q⟩ := h
    have hr1 : Room 1 _ := hr.mono (by decide)
    have hr2 : Room 2 _ := hr.mono (by decide)
    refine ⟨_, pss_cons (ps_set (i := 4) scLRow.nd rfl (Or.inl rfl) (pe_lst pa_nil))
      (pss_cons (ps_for PassesOwn.never rfl (pi_range1 rfl B.range (pa_cons (pe_callD DD hr1 (by rfl) (pa_cons (pv 0) (pa_cons pe_int pa_nil))) pa_nil)) (pg_name (i := 5) scLRow.nd rfl (Or.inl rfl))
        (pss_cons (ps_set (i := 6) scLRow.nd rfl (Or.inl rfl) (pe_callD DE hr (by rfl) (pa_cons (pv 0) (pa_cons (pv 1) (pa_cons (pv 2) (pa_cons (pv 3) pa_nil))))))
        (pss_cons (ps_expr (pe_bm PySem.F.plainAttrs_list PySem.F.slot_list_append PySem.F.type_list_append mt_append (pv 4) (pa_cons (pv 6) pa_nil)))
        (pss_cons (ps_asg (pe_callD DA hr2 (by rfl) (pa_cons (pv 1) (pa_cons (pv 2) (pa_cons (pv 3) (pa_cons (pv 6) pa_nil))))) (pg_tup rfl (pgs_cons (pg_name (i := 3) scLRow.nd rfl (.inl rfl)) (pgs_cons (pg_name (i := 7) scLRow.nd rfl (.inl rfl)) pgs_nil))))
        (pss_one (ps_if (pt_cmpR op_isN (pv 3) pe_non (nomark _)) (pss_one (ps_ret (pe_tup (pa_cons (pe_callTy call_tupleF (by rfl) B.tuple (by decide +kernel) (pa_cons (pv 4) pa_nil)) (pa_cons pe_non (pa_cons (pv 5) pa_nil)))))) pss_nil)))))
      ) (pss_one (ps_ret (pe_tup (pa_cons (pe_callTy call_tupleF (by rfl) B.tuple (by decide +kernel) (pa_cons (pv 4) pa_nil)) (pa_cons (pv 3) (pa_cons pe_non pa_nil))))))), ?_⟩
    have sl := sizeLine_eq
    have h9 := W.top
    obtain ⟨a0, b0, _, _, epa⟩ := id pu
    refine ⟨Nat.zero_le _, fun fo nfo => ?_⟩
    have hfp : fo ≠ pa := (ne_of_none epa nfo).symm
    have nwf : Nw H fo := nw_none nfo
    have f01 : Fr T [] H (upd H fo (.lst [])) := .new nfo
    have lv1 : Lv (fo :: ch) (upd H fo (.lst [])) := lv.new nfo nt_lst
    have s01 : Same (Reg ch H) (Reg (fo :: ch) (upd H fo (.lst []))) := reg_more nfo
    have e1 : (upd H fo (.lst [])) fo = some (.lst []) := upd_same
    have pu1 := f01.pu pu
    generalize (upd H fo (.lst [])) = H1 at f01 lv1 s01 e1 pu1 ⊢
    refine ⟨_, rfl, pa, 5, rfl, by decide, by decide, pu1, fun H2 m hm fr2 pu2 => ⟨(m : Nat), rfl, by omega, by omega, ?_⟩⟩
    have subP : ∀ b ∈ [pa], b ∈ fo :: ch := fun b hb => by rw [List.mem_singleton.mp hb]; exact List.mem_cons_of_mem _ hpa
    have subF : ∀ b ∈ [fo, pa], b ∈ fo :: ch := fun b hb => by
      rcases List.mem_cons.mp hb with z | z
      · rw [z]; exact List.mem_cons_self ..
      · exact subP b z
    have wid : ∀ b ∈ [pa], b ∈ [fo, pa] := fun b hb => List.mem_cons_of_mem _ hb
    have s02 : Same (Reg ch H) (Reg (fo :: ch) H2) := fun b o e => fr2.reg subP b o (s01 b o e)
    have e2 : H2 fo = some (.lst []) := fr2.keep fo _ (fun z => hfp (List.mem_singleton.mp z)) e1 nt_lst
    have lv2 := fr2.lv lv1
    have fr02 : Fr T [pa] H H2 := f01.nil.trans fr2
    have back : ∀ Hx, Fr T [fo, pa] H2 Hx → Fr T [pa] H Hx := fun Hx f => Fr.drop (q := fo) ((fr02.wide wid).trans f) nwf
    have fin : ∀ (Hx : Hp) (ds : List V) (deeds : Mvs) (x y : V), Fr T [fo, pa] H2 Hx → Hx fo = some (.lst ds) → DpAll K (Reg (fo :: ch) Hx) ds (deeds.map dMv) → Pu Hx pa → okRun js pose deeds → deeds.length ≤ 4 →
        (∀ p', runFrom js 0 pose deeds = .inr p' → y = .non ∧ ∃ p, x = .ref p ∧ Fz (Reg ch Hx) p (vNs p')) → (∀ k, runFrom js 0 pose deeds = .inl k → x = .non ∧ y = .int (k : Nat)) →
        ∀ (mq : Addr) (o : Obj), o.dict = none → Hx mq = none → ∀ rq, (upd Hx mq (.frz o (.tup ds))) rq = none → Q (.ref rq) (upd (upd Hx mq (.frz o (.tup ds))) rq (.tup [.ref mq, x, y])) := by
      intro Hx ds deeds x y fx ex dx px ok hl c1 c2 mq o ho nm rq nr
      have g1 : Fr T [] Hx (upd Hx mq (.frz o (.tup ds))) := .new nm
      have g2 : Fr T [] (upd Hx mq (.frz o (.tup ds))) (upd (upd Hx mq (.frz o (.tup ds))) rq (.tup [.ref mq, x, y])) := .new nr
      have lx := (back Hx fx).lv lv
      have dm : Dp K (Reg ch (upd Hx mq (.frz o (.tup ds)))) (.ref mq) (dMs deeds) := .tup (.inl (.inr ⟨o, reg_in (lx.fresh nm) upd_same nt_frz⟩)) (Same.dps g1.reg0 (Same.dps (reg_less fun b hb => List.mem_cons_of_mem _ hb) dx))
      refine q _ rq mq x y deeds ((back Hx fx).trans (g1.trans g2).nil) (.inl (.inl (reg_in ((g1.lv lx).fresh nr) upd_same nt_tup))) (Same.dp g2.reg0 dm) ok hl ((g1.trans g2).pu px) (fun p' hp' => ?_) c2
      obtain ⟨y1, p, x1, fzp⟩ := c1 p' hp'
      exact ⟨y1, p, x1, Same.fz (g1.trans g2).reg0 fzp⟩
    refine for_it (walk_range (lo := 0) (n := m)) (fun i σ H3 => ∃ ai c5 c6 c7 ds deeds p, σ = [some (.ref pa), some vj, some vl, some (.ref ai), some (.ref fo), c5, c6, c7] ∧ Fr T [fo, pa] H2 H3 ∧ H3 fo = some (.lst ds) ∧ DpAll K (Reg (fo :: ch) H3) ds (deeds.map dMv) ∧ Fz (Reg (fo :: ch) H3) ai (vNs p) ∧ Pu H3 pa ∧ deeds.length = i ∧ runFrom js 0 pose deeds = .inr p ∧ okRun js pose deeds ∧ p.length = js.length ∧ 1 ≤ (pebs p).length) ?_ ?_ ?_ ?_
    · exact ⟨a, none, none, none, [], [], pose, rfl, .refl, e2, .nil, Same.fz s02 fz, pu2, rfl, rfl, trivial, hpl, hpe⟩
    · exact fun _ _ _ _ _ => trivial
    · rintro i x σ H3 H4 hi ⟨ai, c5, c6, c7, ds, deeds, p, rfl, f3, e3, d3, fz3, pu3, hdl, hrun, hok, hp1, hp2⟩ ⟨rfl, hx⟩
      obtain rfl : x = V.int (i : Nat) := hx.trans (congrArg V.int (by omega))
      have lv3 := f3.lv lv2
      have s3 : Same (Reg ch H) (Reg (fo :: ch) H4) := fun b o e => f3.reg subF b o (s02 b o e)
      refine ⟨_, rfl, _, rfl, _, rfl, _, rfl, js, fo :: ch, pa, ai, vj, vl, p, rfl, W, h2, lv3, List.mem_cons_of_mem _ hpa, Same.dp s3 dj, Same.dp s3 dl, fz3, hp1, hp2, pu3, fun H5 tq d f5 htq hdx hdy pu5 => ?_⟩
      have e5 : H5 fo = some (.lst ds) := f5.keep fo _ (fun z => hfp (List.mem_singleton.mp z)) e3 nt_lst
      have lds : ds.length = i := by rw [dps_len d3, List.length_map, hdl]
      refine ⟨_, rfl, .inl ⟨rfl, _, .inl (.inl e5)⟩, _, rfl, fo, _, _, rfl, rfl, e5, by omega, ?_⟩
      have f6 : Fr T [fo, pa] H5 (upd H5 fo (.lst (ds ++ [.ref tq]))) := .write e5 wr_lst nt_lst (List.mem_cons_self ..)
      have e6 : (upd H5 fo (.lst (ds ++ [.ref tq]))) fo = some (.lst (ds ++ [.ref tq])) := upd_same
      have pu6 : Pu (upd H5 fo (.lst (ds ++ [.ref tq]))) pa := by
        obtain ⟨a1, b1, h1, h2, e⟩ := pu5
        exact ⟨a1, b1, h1, h2, by rw [upd_ne hfp.symm]; exact e⟩
      generalize (upd H5 fo (.lst (ds ++ [.ref tq]))) = H6 at f6 e6 pu6 ⊢
      have f46 : Fr T [fo, pa] H4 H6 := (f5.wide wid).trans f6
      have s46 := f46.reg subF
      have s56 := f6.reg subF
      have htq6 := s56
      have hq6 : SqT K (Reg (fo :: ch) H6) tq [.str d.1, .str d.2] := Same.seqT s56 htq
      have d6 : DpAll K (Reg (fo :: ch) H6) (ds ++ [.ref tq]) ((deeds ++ [d]).map dMv) := by
        rw [List.map_append]
        exact dps_snoc (Same.dps s46 d3) (.tup hq6 (.cons (.str _) (.cons (.str _) .nil)))
      have s6 : Same (Reg ch H) (Reg (fo :: ch) H6) := fun b o e => s46 b o (s3 b o e)
      have hok' := ok_snoc deeds 0 pose p hrun hok hdx hdy
      have hrun' := run_snoc d deeds 0 pose p hrun
      have hlen : (deeds ++ [d]).length = i + 1 := by rw [List.length_append, hdl]; rfl
      refine ⟨_, rfl, _, rfl, _, rfl, _, rfl, js, fo :: ch, vj, vl, ai, tq, p, d, rfl, W, f46.lv lv3, Same.dp s6 dj, Same.dp s6 dl, Same.fz reg_same (Same.fz s46 fz3), hp1, Same.seqT reg_same hq6, hdx, hdy, fun hl H7 q7 p7 du f7 hq7 fz7 _ => ?_, fun hl H7 q7 du f7 hq7 _ => ?_⟩
      · refine ⟨q7, _, rfl, Same.seqT reg_same hq7, rfl, _, _, rfl, _, _, rfl, rfl, _, rfl, rfl, _, rfl, iteF' rfl ?_⟩
        rw [if_pos hl] at hrun'
        refine ⟨p7, _, _, _, _, deeds ++ [d], stepD js p d, rfl, (f3.trans f46).trans f7.nil, f7.at0 e6 nt_lst, Same.dps f7.reg0 d6, fz7, f7.pu pu6, hlen, hrun', hok', by rw [step_len]; exact hp1, ?_⟩
        rw [(pebs_stepD hp1 hl hdx hdy).length_eq]
        exact hp2
      · rw [if_neg (by rw [hl]; exact Bool.false_ne_true)] at hrun'
        refine ⟨q7, _, rfl, Same.seqT reg_same hq7, rfl, _, _, rfl, _, _, rfl, rfl, _, rfl, rfl, _, rfl, iteT' rfl ?_⟩
        refine ⟨_, rfl, fo, _, rfl, .inl (.inl (f7.at0 e6 nt_lst)), fun mq o ho nmq => ⟨_, rfl, by show 3 ≤ sizeLine; omega, fun rq nrq => ?_⟩⟩
        refine fin H7 _ (deeds ++ [d]) .non _ ((f3.trans f46).trans f7.nil) (f7.at0 e6 nt_lst) (Same.dps f7.reg0 d6) (f7.pu pu6) hok' (by omega) (fun p' hp' => ?_) (fun k hk => ?_) mq o ho nmq rq nrq
        · rw [hrun'] at hp'
          cases hp'
        · rw [hrun'] at hk
          cases hk
          exact ⟨rfl, congrArg V.int (by omega)⟩
    · rintro σ H3 ⟨ai, c5, c6, c7, ds, deeds, p, rfl, f3, e3, d3, fz3, pu3, hdl, hrun, hok, hp1, hp2⟩
      refine ⟨_, rfl, fo, _, rfl, .inl (.inl e3), fun mq o ho nmq => ⟨_, rfl, by show 3 ≤ sizeLine; omega, fun rq nrq => ?_⟩⟩
      refine fin H3 ds deeds _ .non f3 e3 d3 pu3 hok (by omega) (fun p' hp' => ?_) (fun k hk => ?_) mq o ho nmq rq nrq
      · rw [hrun] at hp'
        cases hp'
        exact ⟨rfl, ai, rfl, Same.fz (reg_less fun b hb => List.mem_cons_of_mem _ hb) fz3⟩
      · rw [hrun] at hk
        cases hk
end
end Tz
end -- W27
section -- ShowMath
set_option autoImplicit false
namespace Tz
open PySem PySem.Spec PyProof.Rows L2 TL
theorem textFrom_le : ∀ (ts : List Str) (k : Nat) (acc : Str), (textFrom k acc ts).length ≤ acc.length + piled ts
  | [], k, acc => Nat.le_add_right _ _
  | t :: r, k, acc => by
    have h := textFrom_le r (k + 1) (acc ++ (if k > 0 then ", " else "" : String) ++ t)
    have e : (acc ++ (if k > 0 then ", " else "" : String) ++ t).length = acc.length + (if k > 0 then 2 else 0) + t.length := by
      rw [strLen_append, strLen_append]
      split <;> rfl
    have hp : piled (t :: r) = t.length + 2 + piled r := by
      unfold piled
      rw [List.map_cons, List.sum_cons]
    have d : (if k > 0 then 2 else 0 : Nat) ≤ 2 := by split <;> omega
    show (textFrom (k + 1) _ r).length ≤ _
    omega
theorem listText_le (ts : List Str) : (listText ts).length ≤ piled ts + 2 := by
  have h := textFrom_le ts 0 "["
  have h1 : ("[" : Str).length = 1 := rfl
  have h2 : ("]" : Str).length = 1 := rfl
  unfold listText
  rw [strLen_append]
  show (textFrom 0 "[" ts).length + ("]" : Str).length ≤ _
  omega
theorem tupleText_le (ts : List Str) : (tupleText ts).length ≤ piled ts + 3 := by
  have h1 : ("(" : Str).length = 1 := rfl
  have h2 : (((if ts.length == 1 then ",)" else ")" : String) : Str)).length ≤ 2 := by split <;> decide
  have h3 : (Str.join ", " ts).length ≤ piled ts := by
    cases ts with
    | nil => exact Nat.zero_le _
    | cons t r =>
      have := join_length_add (t :: r) (fun z => nomatch z)
      omega
  unfold tupleText
  rw [strLen_append, strLen_append]
  omega
theorem piled_le (b : Nat) : ∀ ts : List Str, (∀ t ∈ ts, t.length ≤ b) → piled ts ≤ ts.length * (b + 2)
  | [], _ => Nat.zero_le _
  | t :: r, h => by
    have h1 := h t (List.mem_cons_self ..)
    have h2 := piled_le b r fun u hu => h u (List.mem_cons_of_mem _ hu)
    have hp : piled (t :: r) = t.length + 2 + piled r := by
      unfold piled
      rw [List.map_cons, List.sum_cons]
    rw [List.length_cons, Nat.add_mul]
    omega
theorem shownAll_map {α : Type} {g : α → PyData} : ∀ l : List α, PyData.shownAll (l.map g) = l.map fun x => (g x).shown
  | [] => rfl
  | x :: l => by
    show (g x).shown :: PyData.shownAll (l.map g) = _
    rw [shownAll_map l]
    rfl
end Tz
end -- ShowMath
section -- W28
set_option maxHeartbeats 4000000
namespace Tz
open PySem PySem.Spec PyProof.Rows L2 TL
section
variable {P : Program} {w : World} {K : PySem.W.Frag} {mg : Str → Option Value} {base : Heap} {T : List (Addr × Str)} {CT CB : Addr}
structure BoolD (P : Program) (w : World) (K : PySem.W.Frag) (mg : Str → Option Value) (base : Heap) (C : Addr) : Prop where
  ex : ∃ g fd ps, PySem.W.findIn K (.ref C) "__bool__" = some (some (.ref g)) ∧ PySem.W.isFn K (.ref g) = true ∧ FnOk P w K mg base CX0 1 g fd ps spBBool ∧ Binds K fd ps []
structure EqTD (P : Program) (w : World) (K : PySem.W.Frag) (mg : Str → Option Value) (base : Heap) (CT : Addr) : Prop where
  ex : ∃ f fd ps, PySem.W.findIn K (.ref CT) "__eq__" = some (some (.ref f)) ∧ PySem.W.isFn K (.ref f) = true ∧ FnOk P w K mg base CX0 3 f fd ps (spEq (eqTree CT)) ∧ Binds K fd ps []
/-! ### _law_is -/
abbrev sIs : Stmt := top 71
abbrev nIs : List Str := ["_law_game", "_law_wood", "_law_state", "_law_past", "_law_seen"]
theorem scIs : FnScope nIs ["_law_game", "_law_wood", "_law_state", "_law_past"] (defScope sIs) := ⟨rfl, rfl, rfl, by decide +kernel, rfl, by decide +kernel, by decide +kernel⟩
abbrev dSeen (st : StM) (n : Nat) : PyData := .list [dP st.1, dMs st.2, .int (n : Nat), .bool true, .bool true]
/-- the names in a state are short -/
structure StOk (st : StM) : Prop where
  p : ∀ z, some z ∈ st.1 → NmOk z
  lp : st.1.length ≤ 9
  m : ∀ d ∈ st.2, NmOk d.1 ∧ NmOk d.2
  lm : st.2.length ≤ 1000
theorem dP_shown {st : StM} (h : StOk st) : (dP st.1).shown.length ≤ 1000 := by
  show (tupleText (PyData.shownAll (st.1.map dN))).length ≤ _
  rw [shownAll_map]
  have h1 := tupleText_le (st.1.map fun x => (dN x).shown)
  have h2 := piled_le 82 (st.1.map fun x => (dN x).shown) fun t ht => by
    obtain ⟨o, ho, rfl⟩ := List.mem_map.mp ht
    cases o with
    | none => exact (by decide : ("None" : Str).length ≤ 82)
    | some z => exact repr_len (h.p z ho)
  rw [List.length_map] at h2
  have := h.lp
  omega
theorem dMv_shown {d : Str × Str} (h : NmOk d.1 ∧ NmOk d.2) : (dMv d).shown.length ≤ 171 := by
  show (tupleText [reprText d.1, reprText d.2]).length ≤ _
  have h1 := tupleText_le [reprText d.1, reprText d.2]
  have h2 := piled_le 82 [reprText d.1, reprText d.2] fun t ht => by
    rcases List.mem_cons.mp ht with z | z
    · rw [z]; exact repr_len h.1
    · rw [List.mem_singleton.mp z]; exact repr_len h.2
  simp only [List.length_cons, List.length_nil] at h2
  omega
theorem dMs_shown {st : StM} (h : StOk st) : (dMs st.2).shown.length ≤ 180000 := by
  show (tupleText (PyData.shownAll (st.2.map dMv))).length ≤ _
  rw [shownAll_map]
  have h1 := tupleText_le (st.2.map fun x => (dMv x).shown)
  have h2 := piled_le 171 (st.2.map fun x => (dMv x).shown) fun t ht => by
    obtain ⟨d, hd, rfl⟩ := List.mem_map.mp ht
    exact dMv_shown (h.m d hd)
  rw [List.length_map] at h2
  have h3 := h.lm
  have h4 : st.2.length * (171 + 2) ≤ 1000 * 173 := Nat.mul_le_mul h3 (Nat.le_refl _)
  omega
theorem showAll_map {α : Type} {g : α → PyData} (h : ∀ x, (g x).showable = true) : ∀ l : List α, PyData.showableAll (l.map g) = true
  | [] => rfl
  | x :: l => by
    show ((g x).showable && PyData.showableAll (l.map g)) = true
    rw [h x, showAll_map h l]
    rfl
theorem dictAll_map {α : Type} {g : α → PyData} (h : ∀ x, (g x).hasDict = false) : ∀ l : List α, PyData.hasDictAll (l.map g) = false
  | [] => rfl
  | x :: l => by
    show ((g x).hasDict || PyData.hasDictAll (l.map g)) = false
    rw [h x, dictAll_map h l]
    rfl
theorem int_small {n : Nat} (h : n ≤ 100) : ((n : Nat) : Int).natAbs.log2 < 1920 := by
  rw [Int.natAbs_natCast]
  exact Nat.lt_of_le_of_lt (Nat.log2_le_self n) (by omega)
theorem seen_shown {st : StM} (h : StOk st) {n : Nat} (hn : n ≤ 100) : (dSeen st n).shown.length ≤ sizeLine := by
  show (listText [(dP st.1).shown, (dMs st.2).shown, Str.ofString (toString ((n : Nat) : Int)), "True", "True"]).length ≤ _
  have h1 := listText_le [(dP st.1).shown, (dMs st.2).shown, Str.ofString (toString ((n : Nat) : Int)), "True", "True"]
  have h2 := piled_le 180000 [(dP st.1).shown, (dMs st.2).shown, Str.ofString (toString ((n : Nat) : Int)), "True", "True"] fun t ht => by
    have a := dP_shown h
    have b := dMs_shown h
    have c := len_str_of_int ((n : Nat) : Int)
    have e : ("True" : Str).length = 4 := rfl
    simp only [List.mem_cons, List.not_mem_nil, or_false] at ht
    rcases ht with rfl | rfl | rfl | rfl | rfl <;> omega
  have sl := sizeLine_eq
  simp only [List.length_cons, List.length_nil] at h2
  omega
def spIs (K : PySem.W.Frag) (T : List (Addr × Str)) (CT CB : Addr) : Sp := fun vs H Q _ => ∃ (js : Js) (ch : List Addr) (bd pl : Addr) (vb vs' : V) (st : StM) (past : List StM) (xs : List V), vs = [.ref bd, vb, vs', .ref pl] ∧ Lv ch H ∧ BoardAt K CT CB H ch bd vb js st past ∧ StAt K (Reg ch H) vs' st ∧ SqL K H pl xs ∧ xs.length = past.length ∧ past.length ≤ 100 ∧ StOk st ∧ ∀ H', Fr T [] H H' → Q (.bl true) H'
theorem allSt_len {R : Hp} : ∀ {vs : List V} {ss : List StM}, AllSt K R vs ss → vs.length = ss.length
  | _, _, .nil => rfl
  | _, _, .cons _ h => congrArg (· + 1) (allSt_len h)
theorem ok_is {f : Addr} {fd : FuncData} (F : L2.Fun K "_law_is" "_law_is" sIs f fd) (B : Blt mg) (BC : BoardC P w K mg base CB) (BD : BoolD P w K mg base CB) (ED : EqTD P w K mg base CT) : FnG P w K mg base 5 f fd ["_law_game", "_law_wood", "_law_state", "_law_past"] (spIs K T CT CB) := by
  obtain ⟨gB, fdB, psB, hB1, hB2, hB3, hB4⟩ := BD.ex
  obtain ⟨gE, fdE, psE, hE1, hE2, hE3, hE4⟩ := ED.ex
  refine okG F scIs (fun vs H Q E h => ?_) (fun cdv A outer s H vs Q E hr gu h => ?_)
  · obtain ⟨js, ch, bd, pl, vb, vs', st, past, xs, rfl, _⟩ := h
    rfl
  · obtain ⟨js, ch, bd, pl, vb, vs', st, past, xs, rfl, lv, bo, hst, hpl, hxl, hp100, so, q⟩ := h
    have hr2 : Room 2 _ := hr.mono (by decide)
    have hr3 : Room 3 _ := hr.mono (by decide)
    refine ⟨_, pss_cons (ps_set (i := 4) scIs.nd rfl (Or.inl rfl) (pe_lst (pa_cons (pe_propD BC.st BC.f.cl hr2 (pv 0)) (pa_cons (pe_propD BC.mv BC.f.cl hr2 (pv 0)) (pa_cons (pe_propD BC.ch BC.f.cl hr2 (pv 0)) (pa_cons (pe_callTy (call_boolOwn hB1 hB2 hB3 hB4 hr3 pass0) (by rfl) B.bool (by decide +kernel) (pa_cons (pv 0) pa_nil))
          (pa_cons (pe_cmpR (op_eqG (rcG_ins hE3 hE1 hE2 hE4 pass0) hr3) (pe_propD BC.tr BC.f.cl hr2 (pv 0)) (pv 1) (nomark _)) pa_nil)))))))
      (pss_one (ps_ret (pe_cmpR op_eq (pe_callB (cr_repr gu hr.units) (by rfl) B.repr (by decide +kernel) (pa_cons (pv 4) pa_nil)) (pe_callB (cr_repr gu hr.units) (by rfl) B.repr (by decide +kernel) (pa_cons (pe_lst (pa_cons (pe_ix ix_tup (pv 2) pe_int (fun _ _ => rfl)) (pa_cons (pe_ix ix_tup (pv 2) pe_int (fun _ _ => rfl)) (pa_cons (pe_callB call_len_seq (by rfl) B.len PySem.boot_len (pa_cons (pv 3) pa_nil)) (pa_cons pe_bl (pa_cons pe_bl pa_nil)))))) pa_nil)) (nomark _)))), ?_⟩
    have sl := sizeLine_eq
    obtain ⟨dx, v1, q0, vs, eb, ht, ⟨an, p, v2, rfl, hn, hp, hv2⟩, hq0, hvs⟩ := id bo
    obtain ⟨ta, tdx, vj, vl, rfl, eta, _, _⟩ := id ht
    obtain ⟨sa, sp, sv2, rfl, hsn, hsp, hsv⟩ := hst
    have hnH := Same.seqT reg_same hn
    have eta' := reg_same _ _ eta
    refine ⟨_, rfl, bd, dx, _, rfl, eb, bd, dx, _, an, _, _, rfl, eb, bF_n, hnH, ?_⟩
    refine ⟨_, rfl, bd, dx, _, rfl, eb, bd, dx, _, an, _, _, rfl, eb, bF_n, hnH, ?_⟩
    refine ⟨_, rfl, bd, dx, _, rfl, eb, bd, dx, _, q0, vs, rfl, eb, bF_p, Same.seqT reg_same hq0, ?_⟩
    refine ⟨_, rfl, bd, dx, _, rfl, eb, bd, rfl, true, rfl, ?_⟩
    refine ⟨_, rfl, bd, dx, _, rfl, eb, bd, dx, _, _, rfl, eb, bF_b, _, rfl, ⟨ta, ta, tdx, tdx, _, _, rfl, rfl, eta', eta', rfl, tdx, _, _, eta', tF_w⟩, fun H1 x1 => ⟨by show 5 ≤ sizeLine; omega, fun l nl => ?_⟩⟩
    have f1 : Fr T [] H H1 := .of_same x1
    have lv1 := f1.lv lv
    have s1 : Same (Reg ch H) (Reg ch H1) := f1.reg0
    have hvl : vs.length = past.length := allSt_len hvs
    rw [hvl]
    have dpS : ∀ {R : Hp} {p : Addr}, Fz R p (vNs st.1) → Dp K R (.ref p) (dP st.1) := fun h => .tup h.sq (ns_dps _)
    have d1 : DpAll K (Reg ch H1) [.ref p, v2, .int (past.length : Nat), .bl true, .bl true] [dP st.1, dMs st.2, .int (past.length : Nat), .bool true, .bool true] := .cons (dpS (Same.fz s1 hp)) (.cons (Same.dp s1 hv2) (.cons (.int _) (.cons (.bl _) (.cons (.bl _) .nil))))
    have f2 : Fr T [] H1 (upd H1 l (.lst [.ref p, v2, .int (past.length : Nat), .bl true, .bl true])) := .new nl
    have dd1 : Dp K (Reg ch (upd H1 l (.lst [.ref p, v2, .int (past.length : Nat), .bl true, .bl true]))) (.ref l) (dSeen st past.length) := new_lst lv1 nl d1
    generalize (upd H1 l (.lst [.ref p, v2, .int (past.length : Nat), .bl true, .bl true])) = H2 at f2 dd1 ⊢
    have hsh := seen_shown so hp100
    have hshow : (dSeen st past.length).showable = true := by
      have h1 : (dP st.1).showable = true := showAll_map (fun o => by cases o <;> rfl) st.1
      have h2 : (dMs st.2).showable = true := showAll_map (fun _ => rfl) st.2
      have h3 : (PyData.int (past.length : Nat)).showable = true := decide_eq_true (int_small hp100)
      show ((dP st.1).showable && ((dMs st.2).showable && ((PyData.int (past.length : Nat)).showable && true))) = true
      rw [h1, h2, h3]
      rfl
    have hnd : (dSeen st past.length).hasDict = false := by
      have h1 : (dP st.1).hasDict = false := dictAll_map (fun o => by cases o <;> rfl) st.1
      have h2 : (dMs st.2).hasDict = false := dictAll_map (fun _ => rfl) st.2
      show ((dP st.1).hasDict || ((dMs st.2).hasDict || false)) = false
      rw [h1, h2]
      rfl
    have hdep : (dSeen st past.length).depth ≤ 40 := by
      have h1 := dP_depth st.1
      have h2 := dMs_depth st.2
      have h3 : (PyData.int (past.length : Nat)).depth = 0 := rfl
      have h4 : (PyData.bool true).depth = 0 := rfl
      show PyData.depthAll [dP st.1, dMs st.2, .int (past.length : Nat), .bool true, .bool true] + 1 ≤ 40
      simp only [PyData.depthAll]
      omega
    refine ⟨_, rfl, l, _, rfl, dp_in dd1, hshow, hnd, hdep, hsh, ?_⟩
    have f02 := f1.trans f2
    have hsn2 := f02.sqT0 (Same.seqT reg_same hsn)
    refine ⟨_, rfl, sa, _, 0, _, rfl, rfl, hsn2, atI_nat (j := 0) rfl, _, rfl, sa, _, 1, _, rfl, rfl, hsn2, atI_nat (j := 1) rfl, _, rfl, pl, xs, rfl, .inl (f02.sqL0 hpl), by show 5 ≤ sizeLine; omega, fun l2 nl2 => ?_⟩
    rw [hxl]
    have s2 : Same (Reg ch H) (Reg ch H2) := f02.reg0
    have d2 : DpAll K (Reg ch H2) [.ref sp, sv2, .int (past.length : Nat), .bl true, .bl true] [dP st.1, dMs st.2, .int (past.length : Nat), .bool true, .bool true] := .cons (dpS (Same.fz s2 hsp)) (.cons (Same.dp s2 hsv) (.cons (.int _) (.cons (.bl _) (.cons (.bl _) .nil))))
    have f3 : Fr T [] H2 (upd H2 l2 (.lst [.ref sp, sv2, .int (past.length : Nat), .bl true, .bl true])) := .new nl2
    have dd2 : Dp K (Reg ch (upd H2 l2 (.lst [.ref sp, sv2, .int (past.length : Nat), .bl true, .bl true]))) (.ref l2) (dSeen st past.length) := new_lst (f02.lv lv) nl2 d2
    refine ⟨l2, _, rfl, dp_in dd2, hshow, hnd, hdep, hsh, rfl, ?_⟩
    have hq := q _ (f02.trans f3)
    dsimp only
    rw [decide_eq_true rfl]
    exact hq
end
end Tz
end -- W28
section -- W29
set_option maxHeartbeats 4000000
namespace Tz
open PySem PySem.Spec PyProof.Rows L2 TL
section
variable {P : Program} {w : World} {K : PySem.W.Frag} {mg : Str → Option Value} {base : Heap} {T : List (Addr × Str)} {CT CB : Addr}
theorem okS {x qual : Str} {st : Stmt} {f : Addr} {fd : FuncData} {N ps : List Str} {k : Nat} {sp : Sp} (F : L2.Fun K x qual st f fd) (S : FnScope N ps (defScope st)) (len : ∀ vs H Q E, sp vs H Q E → vs.length = ps.length)
    (hbody : ∀ (cdv : Value) (A : Around) (outer : List Env) (s : Shared) (H : Hp) (vs : List V) (Q : VK) (E : XK), L2H.RoomH k (A.deeper (envOfC qual (defScope st) s.heap.objs.size f cdv)) → sp vs H Q E →
      ∃ t, PSs (cxC P w K mg base N qual (defScope st) f cdv A outer s H E) (defBody st) t ∧ t { nx := fun _ H' => Q .non H', rt := Q } (L2.start N vs) H) : FnC P w K mg base (k + 1) f fd ps sp := by
  obtain ⟨oc, od, kV, doc, pm, an, cdv, ct, osl, rfl, lk, hcd⟩ := F.ex
  exact fn_ofC lk hcd S len fun A outer s H vs Q E hr hsp => hbody cdv A outer s H vs Q E hr hsp
/-- the own errors, in the law's order; then the two bases -/
structure XNs (mg : Str → Option Value) (c : Nat → Addr) : Prop where
  at_ : ∀ j, j < 23 → mg (xNames.getD j "") = some (.ref (c j))
structure XIs (K : PySem.W.Frag) (c : Nat → Addr) (D : Addr) (i : Nat) : Prop where
  ex : ExcC K D
  kit : ∀ j, j < 23 → PySem.W.kitOne K (.ref D) (.ref (c j)) = some (xBit i j)
/-! ### _law_sort -/
abbrev sSort : Stmt := top 68
abbrev nSort : List Str := ["_law_e", "_law_words", "_law_flags", "_law_bases", "_law_at"]
theorem scSort : FnScope nSort ["_law_e"] (defScope sSort) := ⟨rfl, rfl, rfl, by decide +kernel, rfl, by decide +kernel, by decide +kernel⟩
def spSort (K : PySem.W.Frag) (T : List (Addr × Str)) (c : Nat → Addr) : Sp := fun vs H Q _ => ∃ (a D : Addr) (d : Option Addr) (i : Nat), vs = [.ref a] ∧ H a = some (ExT (.ref D) d a) ∧ DicAt H d ∧ XIs K c D i ∧ (i = 3 ∨ i = 15 ∨ i = 16 ∨ i = 20) ∧ ∀ H', Fr T [] H H' → Q (.str (xNames.getD i "")) H'
theorem ok_sort {f : Addr} {fd : FuncData} {c : Nat → Addr} (F : L2.Fun K "_law_sort" "_law_sort" sSort f fd) (B : Blt mg) (XN : XNs mg c) : FnC P w K mg base 1 f fd ["_law_e"] (spSort K T c) := by
  refine okS F scSort (fun vs H Q E h => ?_) (fun cdv A outer s H vs Q E hr h => ?_)
  · obtain ⟨a, D, d, i, rfl, _⟩ := h
    rfl
  · obtain ⟨a, D, d, i, rfl, ha, hd, XI, hi, q⟩ := h
    have hN := XN.at_
    refine ⟨_, (pss_cons (ps_set (i := 1) scSort.nd rfl (Or.inl rfl) (pe_lst (pa_cons pe_str (pa_cons pe_str (pa_cons pe_str (pa_cons pe_str (pa_cons pe_str (pa_cons pe_str (pa_cons pe_str pa_nil)))))))))
      (pss_cons (ps_set (i := 1) scSort.nd rfl (Or.inl rfl) (pe_op op_cat (pv 1) (pe_lst (pa_cons pe_str (pa_cons pe_str (pa_cons pe_str (pa_cons pe_str (pa_cons pe_str (pa_cons pe_str pa_nil)))))))))
      (pss_cons (ps_set (i := 1) scSort.nd rfl (Or.inl rfl) (pe_op op_cat (pv 1) (pe_lst (pa_cons pe_str (pa_cons pe_str (pa_cons pe_str (pa_cons pe_str (pa_cons pe_str (pa_cons pe_str (pa_cons pe_str (pa_cons pe_str pa_nil)))))))))))
      (pss_cons (ps_set (i := 2) scSort.nd rfl (Or.inl rfl) (pe_lst (pa_cons (pe_callB cr_isT (by rfl) B.isi (by decide +kernel) (pa_cons (pv 0) (pa_cons (pe_glob (v := .ref (c 0)) rfl (hN 0 (by decide)) rfl) pa_nil))) (pa_cons (pe_callB cr_isT (by rfl) B.isi (by decide +kernel) (pa_cons (pv 0) (pa_cons (pe_glob (v := .ref (c 1)) rfl (hN 1 (by decide)) rfl) pa_nil))) (pa_cons (pe_callB cr_isT (by rfl) B.isi (by decide +kernel) (pa_cons (pv 0) (pa_cons (pe_glob (v := .ref (c 2)) rfl (hN 2 (by decide)) rfl) pa_nil))) pa_nil)))))
      (pss_cons (ps_set (i := 2) scSort.nd rfl (Or.inl rfl) (pe_op op_cat (pv 2) (pe_lst (pa_cons (pe_callB cr_isT (by rfl) B.isi (by decide +kernel) (pa_cons (pv 0) (pa_cons (pe_glob (v := .ref (c 3)) rfl (hN 3 (by decide)) rfl) pa_nil))) (pa_cons (pe_callB cr_isT (by rfl) B.isi (by decide +kernel) (pa_cons (pv 0) (pa_cons (pe_glob (v := .ref (c 4)) rfl (hN 4 (by decide)) rfl) pa_nil))) (pa_cons (pe_callB cr_isT (by rfl) B.isi (by decide +kernel) (pa_cons (pv 0) (pa_cons (pe_glob (v := .ref (c 5)) rfl (hN 5 (by decide)) rfl) pa_nil))) pa_nil))))))
      (pss_cons (ps_set (i := 2) scSort.nd rfl (Or.inl rfl) (pe_op op_cat (pv 2) (pe_lst (pa_cons (pe_callB cr_isT (by rfl) B.isi (by decide +kernel) (pa_cons (pv 0) (pa_cons (pe_glob (v := .ref (c 6)) rfl (hN 6 (by decide)) rfl) pa_nil))) (pa_cons (pe_callB cr_isT (by rfl) B.isi (by decide +kernel) (pa_cons (pv 0) (pa_cons (pe_glob (v := .ref (c 7)) rfl (hN 7 (by decide)) rfl) pa_nil))) (pa_cons (pe_callB cr_isT (by rfl) B.isi (by decide +kernel) (pa_cons (pv 0) (pa_cons (pe_glob (v := .ref (c 8)) rfl (hN 8 (by decide)) rfl) pa_nil))) pa_nil))))))
      (pss_cons (ps_set (i := 2) scSort.nd rfl (Or.inl rfl) (pe_op op_cat (pv 2) (pe_lst (pa_cons (pe_callB cr_isT (by rfl) B.isi (by decide +kernel) (pa_cons (pv 0) (pa_cons (pe_glob (v := .ref (c 9)) rfl (hN 9 (by decide)) rfl) pa_nil))) (pa_cons (pe_callB cr_isT (by rfl) B.isi (by decide +kernel) (pa_cons (pv 0) (pa_cons (pe_glob (v := .ref (c 10)) rfl (hN 10 (by decide)) rfl) pa_nil))) (pa_cons (pe_callB cr_isT (by rfl) B.isi (by decide +kernel) (pa_cons (pv 0) (pa_cons (pe_glob (v := .ref (c 11)) rfl (hN 11 (by decide)) rfl) pa_nil))) pa_nil))))))
      (pss_cons (ps_set (i := 2) scSort.nd rfl (Or.inl rfl) (pe_op op_cat (pv 2) (pe_lst (pa_cons (pe_callB cr_isT (by rfl) B.isi (by decide +kernel) (pa_cons (pv 0) (pa_cons (pe_glob (v := .ref (c 12)) rfl (hN 12 (by decide)) rfl) pa_nil))) (pa_cons (pe_callB cr_isT (by rfl) B.isi (by decide +kernel) (pa_cons (pv 0) (pa_cons (pe_glob (v := .ref (c 13)) rfl (hN 13 (by decide)) rfl) pa_nil))) (pa_cons (pe_callB cr_isT (by rfl) B.isi (by decide +kernel) (pa_cons (pv 0) (pa_cons (pe_glob (v := .ref (c 14)) rfl (hN 14 (by decide)) rfl) pa_nil))) pa_nil))))))
      (pss_cons (ps_set (i := 2) scSort.nd rfl (Or.inl rfl) (pe_op op_cat (pv 2) (pe_lst (pa_cons (pe_callB cr_isT (by rfl) B.isi (by decide +kernel) (pa_cons (pv 0) (pa_cons (pe_glob (v := .ref (c 15)) rfl (hN 15 (by decide)) rfl) pa_nil))) (pa_cons (pe_callB cr_isT (by rfl) B.isi (by decide +kernel) (pa_cons (pv 0) (pa_cons (pe_glob (v := .ref (c 16)) rfl (hN 16 (by decide)) rfl) pa_nil))) (pa_cons (pe_callB cr_isT (by rfl) B.isi (by decide +kernel) (pa_cons (pv 0) (pa_cons (pe_glob (v := .ref (c 17)) rfl (hN 17 (by decide)) rfl) pa_nil))) pa_nil))))))
      (pss_cons (ps_set (i := 2) scSort.nd rfl (Or.inl rfl) (pe_op op_cat (pv 2) (pe_lst (pa_cons (pe_callB cr_isT (by rfl) B.isi (by decide +kernel) (pa_cons (pv 0) (pa_cons (pe_glob (v := .ref (c 18)) rfl (hN 18 (by decide)) rfl) pa_nil))) (pa_cons (pe_callB cr_isT (by rfl) B.isi (by decide +kernel) (pa_cons (pv 0) (pa_cons (pe_glob (v := .ref (c 19)) rfl (hN 19 (by decide)) rfl) pa_nil))) (pa_cons (pe_callB cr_isT (by rfl) B.isi (by decide +kernel) (pa_cons (pv 0) (pa_cons (pe_glob (v := .ref (c 20)) rfl (hN 20 (by decide)) rfl) pa_nil))) pa_nil))))))
      (pss_cons (ps_set (i := 3) scSort.nd rfl (Or.inl rfl) (pe_lst (pa_cons (pe_callB cr_isT (by rfl) B.isi (by decide +kernel) (pa_cons (pv 0) (pa_cons (pe_glob (v := .ref (c 21)) rfl (hN 21 (by decide)) rfl) pa_nil))) (pa_cons (pe_callB cr_isT (by rfl) B.isi (by decide +kernel) (pa_cons (pv 0) (pa_cons (pe_glob (v := .ref (c 22)) rfl (hN 22 (by decide)) rfl) pa_nil))) pa_nil))))
      (pss_cons (ps_if (PW.pt (pw_or (pt_cmpR op_ne (pe_bm PySem.F.plainAttrs_list PySem.F.slot_list_count PySem.F.type_list_count mt_cntF (pv 2) (pa_cons pe_bl pa_nil)) pe_int (nomark _)) (pw_or1 (pt_cmpR op_ne (pe_bm PySem.F.plainAttrs_list PySem.F.slot_list_count PySem.F.type_list_count mt_cntF (pv 3) (pa_cons pe_bl pa_nil)) pe_int (nomark _))))) (pss_one (ps_ret pe_str)) pss_nil)
      (pss_cons (ps_set (i := 4) scSort.nd rfl (Or.inl rfl) (pe_bm PySem.F.plainAttrs_list PySem.F.slot_list_index PySem.F.type_list_index mt_index (pv 2) (pa_cons pe_bl pa_nil)))
      (pss_one (ps_ret (pe_ifExp (pt_cmpR op_eq (pe_bm PySem.F.plainAttrs_list PySem.F.slot_list_index PySem.F.type_list_index mt_index (pv 3) (pa_cons pe_bl pa_nil)) (pe_ifExp (pt_cmpR op_lt (pv 4) pe_int (nomark _)) pe_int pe_int) (nomark _)) (pe_ix ix_list (pv 1) (pv 4) (fun _ _ => rfl)) pe_str)))))))))))))))), ?_⟩
    have sl := sizeLine_eq
    have nx : NT (ExT (.ref D) d a) := fun _ z => nomatch z
    have dic : ∀ {H1 : Hp}, Fr T [] H H1 → DicAt H1 d := fun f => by
      rcases hd with h | ⟨dd, fs, h1, h2⟩
      · exact .inl h
      · exact .inr ⟨dd, fs, h1, f.at0 h2 (fun _ z => nomatch z)⟩
    refine ⟨by show 7 ≤ sizeLine; omega, fun w1 nw1 => ?_⟩
    have g1 : Fr T [] H (upd H w1 (.lst [V.str "InvalidText", V.str "InvalidNumber", V.str "InvalidName", V.str "InvalidIndex", V.str "InvalidClaim", V.str "UnknownName", V.str "NotATree"])) := .new nw1
    have ew1 : (upd H w1 (.lst [V.str "InvalidText", V.str "InvalidNumber", V.str "InvalidName", V.str "InvalidIndex", V.str "InvalidClaim", V.str "UnknownName", V.str "NotATree"])) w1 = some (.lst [V.str "InvalidText", V.str "InvalidNumber", V.str "InvalidName", V.str "InvalidIndex", V.str "InvalidClaim", V.str "UnknownName", V.str "NotATree"]) := upd_same
    have f1 : Fr T [] H (upd H w1 (.lst [V.str "InvalidText", V.str "InvalidNumber", V.str "InvalidName", V.str "InvalidIndex", V.str "InvalidClaim", V.str "UnknownName", V.str "NotATree"])) := g1
    generalize (upd H w1 (.lst [V.str "InvalidText", V.str "InvalidNumber", V.str "InvalidName", V.str "InvalidIndex", V.str "InvalidClaim", V.str "UnknownName", V.str "NotATree"])) = H1 at g1 ew1 f1  ⊢
    refine ⟨_, rfl, by show 6 ≤ sizeLine; omega, fun t1 nt1 => ?_⟩
    have g2 : Fr T [] H1 (upd H1 t1 (.lst [V.str "NotABoard", V.str "NotALane", V.str "InvalidStanding", V.str "InvalidCrowd", V.str "InvalidParked", V.str "InvalidLog"])) := .new nt1
    have et1 : (upd H1 t1 (.lst [V.str "NotABoard", V.str "NotALane", V.str "InvalidStanding", V.str "InvalidCrowd", V.str "InvalidParked", V.str "InvalidLog"])) t1 = some (.lst [V.str "NotABoard", V.str "NotALane", V.str "InvalidStanding", V.str "InvalidCrowd", V.str "InvalidParked", V.str "InvalidLog"]) := upd_same
    have ew1_2 := g2.at0 ew1 nt_lst
    have f2 : Fr T [] H (upd H1 t1 (.lst [V.str "NotABoard", V.str "NotALane", V.str "InvalidStanding", V.str "InvalidCrowd", V.str "InvalidParked", V.str "InvalidLog"])) := f1.trans g2
    generalize (upd H1 t1 (.lst [V.str "NotABoard", V.str "NotALane", V.str "InvalidStanding", V.str "InvalidCrowd", V.str "InvalidParked", V.str "InvalidLog"])) = H2 at g2 et1 f2 ew1_2 ⊢
    refine ⟨w1, t1, _, _, rfl, rfl, ew1_2, et1, by show _ ≤ sizeLine; simp only [List.length_cons, List.length_nil, List.length_append]; omega, fun w2 nw2 => ?_⟩
    have g3 : Fr T [] H2 (upd H2 w2 (.lst ([V.str "InvalidText", V.str "InvalidNumber", V.str "InvalidName", V.str "InvalidIndex", V.str "InvalidClaim", V.str "UnknownName", V.str "NotATree"] ++ [V.str "NotABoard", V.str "NotALane", V.str "InvalidStanding", V.str "InvalidCrowd", V.str "InvalidParked", V.str "InvalidLog"]))) := .new nw2
    have ew2 : (upd H2 w2 (.lst ([V.str "InvalidText", V.str "InvalidNumber", V.str "InvalidName", V.str "InvalidIndex", V.str "InvalidClaim", V.str "UnknownName", V.str "NotATree"] ++ [V.str "NotABoard", V.str "NotALane", V.str "InvalidStanding", V.str "InvalidCrowd", V.str "InvalidParked", V.str "InvalidLog"]))) w2 = some (.lst ([V.str "InvalidText", V.str "InvalidNumber", V.str "InvalidName", V.str "InvalidIndex", V.str "InvalidClaim", V.str "UnknownName", V.str "NotATree"] ++ [V.str "NotABoard", V.str "NotALane", V.str "InvalidStanding", V.str "InvalidCrowd", V.str "InvalidParked", V.str "InvalidLog"])) := upd_same
    have ew1_2_3 := g3.at0 ew1_2 nt_lst
    have et1_3 := g3.at0 et1 nt_lst
    have f3 : Fr T [] H (upd H2 w2 (.lst ([V.str "InvalidText", V.str "InvalidNumber", V.str "InvalidName", V.str "InvalidIndex", V.str "InvalidClaim", V.str "UnknownName", V.str "NotATree"] ++ [V.str "NotABoard", V.str "NotALane", V.str "InvalidStanding", V.str "InvalidCrowd", V.str "InvalidParked", V.str "InvalidLog"]))) := f2.trans g3
    generalize (upd H2 w2 (.lst ([V.str "InvalidText", V.str "InvalidNumber", V.str "InvalidName", V.str "InvalidIndex", V.str "InvalidClaim", V.str "UnknownName", V.str "NotATree"] ++ [V.str "NotABoard", V.str "NotALane", V.str "InvalidStanding", V.str "InvalidCrowd", V.str "InvalidParked", V.str "InvalidLog"]))) = H3 at g3 ew2 f3 ew1_2_3 et1_3 ⊢
    refine ⟨_, rfl, by show 8 ≤ sizeLine; omega, fun t2 nt2 => ?_⟩
    have g4 : Fr T [] H3 (upd H3 t2 (.lst [V.str "Unmatched", V.str "NotAnEnd", V.str "NotNear", V.str "NotEmpty", V.str "TooMany", V.str "Broken", V.str "InUse", V.str "NothingToUndo"])) := .new nt2
    have et2 : (upd H3 t2 (.lst [V.str "Unmatched", V.str "NotAnEnd", V.str "NotNear", V.str "NotEmpty", V.str "TooMany", V.str "Broken", V.str "InUse", V.str "NothingToUndo"])) t2 = some (.lst [V.str "Unmatched", V.str "NotAnEnd", V.str "NotNear", V.str "NotEmpty", V.str "TooMany", V.str "Broken", V.str "InUse", V.str "NothingToUndo"]) := upd_same
    have ew1_2_3_4 := g4.at0 ew1_2_3 nt_lst
    have et1_3_4 := g4.at0 et1_3 nt_lst
    have ew2_4 := g4.at0 ew2 nt_lst
    have f4 : Fr T [] H (upd H3 t2 (.lst [V.str "Unmatched", V.str "NotAnEnd", V.str "NotNear", V.str "NotEmpty", V.str "TooMany", V.str "Broken", V.str "InUse", V.str "NothingToUndo"])) := f3.trans g4
    generalize (upd H3 t2 (.lst [V.str "Unmatched", V.str "NotAnEnd", V.str "NotNear", V.str "NotEmpty", V.str "TooMany", V.str "Broken", V.str "InUse", V.str "NothingToUndo"])) = H4 at g4 et2 f4 ew1_2_3_4 et1_3_4 ew2_4 ⊢
    refine ⟨w2, t2, _, _, rfl, rfl, ew2_4, et2, by show _ ≤ sizeLine; simp only [List.length_cons, List.length_nil, List.length_append]; omega, fun w3 nw3 => ?_⟩
    have g5 : Fr T [] H4 (upd H4 w3 (.lst (([V.str "InvalidText", V.str "InvalidNumber", V.str "InvalidName", V.str "InvalidIndex", V.str "InvalidClaim", V.str "UnknownName", V.str "NotATree"] ++ [V.str "NotABoard", V.str "NotALane", V.str "InvalidStanding", V.str "InvalidCrowd", V.str "InvalidParked", V.str "InvalidLog"]) ++ [V.str "Unmatched", V.str "NotAnEnd", V.str "NotNear", V.str "NotEmpty", V.str "TooMany", V.str "Broken", V.str "InUse", V.str "NothingToUndo"]))) := .new nw3
    have ew3 : (upd H4 w3 (.lst (([V.str "InvalidText", V.str "InvalidNumber", V.str "InvalidName", V.str "InvalidIndex", V.str "InvalidClaim", V.str "UnknownName", V.str "NotATree"] ++ [V.str "NotABoard", V.str "NotALane", V.str "InvalidStanding", V.str "InvalidCrowd", V.str "InvalidParked", V.str "InvalidLog"]) ++ [V.str "Unmatched", V.str "NotAnEnd", V.str "NotNear", V.str "NotEmpty", V.str "TooMany", V.str "Broken", V.str "InUse", V.str "NothingToUndo"]))) w3 = some (.lst (([V.str "InvalidText", V.str "InvalidNumber", V.str "InvalidName", V.str "InvalidIndex", V.str "InvalidClaim", V.str "UnknownName", V.str "NotATree"] ++ [V.str "NotABoard", V.str "NotALane", V.str "InvalidStanding", V.str "InvalidCrowd", V.str "InvalidParked", V.str "InvalidLog"]) ++ [V.str "Unmatched", V.str "NotAnEnd", V.str "NotNear", V.str "NotEmpty", V.str "TooMany", V.str "Broken", V.str "InUse", V.str "NothingToUndo"])) := upd_same
    have ew1_2_3_4_5 := g5.at0 ew1_2_3_4 nt_lst
    have et1_3_4_5 := g5.at0 et1_3_4 nt_lst
    have ew2_4_5 := g5.at0 ew2_4 nt_lst
    have et2_5 := g5.at0 et2 nt_lst
    have f5 : Fr T [] H (upd H4 w3 (.lst (([V.str "InvalidText", V.str "InvalidNumber", V.str "InvalidName", V.str "InvalidIndex", V.str "InvalidClaim", V.str "UnknownName", V.str "NotATree"] ++ [V.str "NotABoard", V.str "NotALane", V.str "InvalidStanding", V.str "InvalidCrowd", V.str "InvalidParked", V.str "InvalidLog"]) ++ [V.str "Unmatched", V.str "NotAnEnd", V.str "NotNear", V.str "NotEmpty", V.str "TooMany", V.str "Broken", V.str "InUse", V.str "NothingToUndo"]))) := f4.trans g5
    generalize (upd H4 w3 (.lst (([V.str "InvalidText", V.str "InvalidNumber", V.str "InvalidName", V.str "InvalidIndex", V.str "InvalidClaim", V.str "UnknownName", V.str "NotATree"] ++ [V.str "NotABoard", V.str "NotALane", V.str "InvalidStanding", V.str "InvalidCrowd", V.str "InvalidParked", V.str "InvalidLog"]) ++ [V.str "Unmatched", V.str "NotAnEnd", V.str "NotNear", V.str "NotEmpty", V.str "TooMany", V.str "Broken", V.str "InUse", V.str "NothingToUndo"]))) = H5 at g5 ew3 f5 ew1_2_3_4_5 et1_3_4_5 ew2_4_5 et2_5 ⊢
    refine ⟨_, rfl, a, D, d, c 0, xBit i 0, rfl, f5.at0 ha nx, dic f5, XI.ex, XI.kit 0 (by decide), _, rfl, a, D, d, c 1, xBit i 1, rfl, f5.at0 ha nx, dic f5, XI.ex, XI.kit 1 (by decide), _, rfl, a, D, d, c 2, xBit i 2, rfl, f5.at0 ha nx, dic f5, XI.ex, XI.kit 2 (by decide), by show 3 ≤ sizeLine; omega, fun b1 nb1 => ?_⟩
    have g6 : Fr T [] H5 (upd H5 b1 (.lst [V.bl (xBit i 0), V.bl (xBit i 1), V.bl (xBit i 2)])) := .new nb1
    have eb1 : (upd H5 b1 (.lst [V.bl (xBit i 0), V.bl (xBit i 1), V.bl (xBit i 2)])) b1 = some (.lst [V.bl (xBit i 0), V.bl (xBit i 1), V.bl (xBit i 2)]) := upd_same
    have ew3_6 := g6.at0 ew3 nt_lst
    have f6 : Fr T [] H (upd H5 b1 (.lst [V.bl (xBit i 0), V.bl (xBit i 1), V.bl (xBit i 2)])) := f5.trans g6
    generalize (upd H5 b1 (.lst [V.bl (xBit i 0), V.bl (xBit i 1), V.bl (xBit i 2)])) = H6 at g6 eb1 f6 ew3_6 ⊢
    refine ⟨_, rfl, _, rfl, a, D, d, c 3, xBit i 3, rfl, f6.at0 ha nx, dic f6, XI.ex, XI.kit 3 (by decide), _, rfl, a, D, d, c 4, xBit i 4, rfl, f6.at0 ha nx, dic f6, XI.ex, XI.kit 4 (by decide), _, rfl, a, D, d, c 5, xBit i 5, rfl, f6.at0 ha nx, dic f6, XI.ex, XI.kit 5 (by decide), by show 3 ≤ sizeLine; omega, fun t3 nt3 => ?_⟩
    have g7 : Fr T [] H6 (upd H6 t3 (.lst [V.bl (xBit i 3), V.bl (xBit i 4), V.bl (xBit i 5)])) := .new nt3
    have et3 : (upd H6 t3 (.lst [V.bl (xBit i 3), V.bl (xBit i 4), V.bl (xBit i 5)])) t3 = some (.lst [V.bl (xBit i 3), V.bl (xBit i 4), V.bl (xBit i 5)]) := upd_same
    have ew3_6_7 := g7.at0 ew3_6 nt_lst
    have eb1_7 := g7.at0 eb1 nt_lst
    have f7 : Fr T [] H (upd H6 t3 (.lst [V.bl (xBit i 3), V.bl (xBit i 4), V.bl (xBit i 5)])) := f6.trans g7
    generalize (upd H6 t3 (.lst [V.bl (xBit i 3), V.bl (xBit i 4), V.bl (xBit i 5)])) = H7 at g7 et3 f7 ew3_6_7 eb1_7 ⊢
    refine ⟨b1, t3, _, _, rfl, rfl, eb1_7, et3, by show _ ≤ sizeLine; simp only [List.length_cons, List.length_nil, List.length_append]; omega, fun b2 nb2 => ?_⟩
    have g8 : Fr T [] H7 (upd H7 b2 (.lst ([V.bl (xBit i 0), V.bl (xBit i 1), V.bl (xBit i 2)] ++ [V.bl (xBit i 3), V.bl (xBit i 4), V.bl (xBit i 5)]))) := .new nb2
    have eb2 : (upd H7 b2 (.lst ([V.bl (xBit i 0), V.bl (xBit i 1), V.bl (xBit i 2)] ++ [V.bl (xBit i 3), V.bl (xBit i 4), V.bl (xBit i 5)]))) b2 = some (.lst ([V.bl (xBit i 0), V.bl (xBit i 1), V.bl (xBit i 2)] ++ [V.bl (xBit i 3), V.bl (xBit i 4), V.bl (xBit i 5)])) := upd_same
    have ew3_6_7_8 := g8.at0 ew3_6_7 nt_lst
    have eb1_7_8 := g8.at0 eb1_7 nt_lst
    have et3_8 := g8.at0 et3 nt_lst
    have f8 : Fr T [] H (upd H7 b2 (.lst ([V.bl (xBit i 0), V.bl (xBit i 1), V.bl (xBit i 2)] ++ [V.bl (xBit i 3), V.bl (xBit i 4), V.bl (xBit i 5)]))) := f7.trans g8
    generalize (upd H7 b2 (.lst ([V.bl (xBit i 0), V.bl (xBit i 1), V.bl (xBit i 2)] ++ [V.bl (xBit i 3), V.bl (xBit i 4), V.bl (xBit i 5)]))) = H8 at g8 eb2 f8 ew3_6_7_8 eb1_7_8 et3_8 ⊢
    refine ⟨_, rfl, _, rfl, a, D, d, c 6, xBit i 6, rfl, f8.at0 ha nx, dic f8, XI.ex, XI.kit 6 (by decide), _, rfl, a, D, d, c 7, xBit i 7, rfl, f8.at0 ha nx, dic f8, XI.ex, XI.kit 7 (by decide), _, rfl, a, D, d, c 8, xBit i 8, rfl, f8.at0 ha nx, dic f8, XI.ex, XI.kit 8 (by decide), by show 3 ≤ sizeLine; omega, fun t4 nt4 => ?_⟩
    have g9 : Fr T [] H8 (upd H8 t4 (.lst [V.bl (xBit i 6), V.bl (xBit i 7), V.bl (xBit i 8)])) := .new nt4
    have et4 : (upd H8 t4 (.lst [V.bl (xBit i 6), V.bl (xBit i 7), V.bl (xBit i 8)])) t4 = some (.lst [V.bl (xBit i 6), V.bl (xBit i 7), V.bl (xBit i 8)]) := upd_same
    have ew3_6_7_8_9 := g9.at0 ew3_6_7_8 nt_lst
    have eb2_9 := g9.at0 eb2 nt_lst
    have f9 : Fr T [] H (upd H8 t4 (.lst [V.bl (xBit i 6), V.bl (xBit i 7), V.bl (xBit i 8)])) := f8.trans g9
    generalize (upd H8 t4 (.lst [V.bl (xBit i 6), V.bl (xBit i 7), V.bl (xBit i 8)])) = H9 at g9 et4 f9 ew3_6_7_8_9 eb2_9 ⊢
    refine ⟨b2, t4, _, _, rfl, rfl, eb2_9, et4, by show _ ≤ sizeLine; simp only [List.length_cons, List.length_nil, List.length_append]; omega, fun b3 nb3 => ?_⟩
    have g10 : Fr T [] H9 (upd H9 b3 (.lst (([V.bl (xBit i 0), V.bl (xBit i 1), V.bl (xBit i 2)] ++ [V.bl (xBit i 3), V.bl (xBit i 4), V.bl (xBit i 5)]) ++ [V.bl (xBit i 6), V.bl (xBit i 7), V.bl (xBit i 8)]))) := .new nb3
    have eb3 : (upd H9 b3 (.lst (([V.bl (xBit i 0), V.bl (xBit i 1), V.bl (xBit i 2)] ++ [V.bl (xBit i 3), V.bl (xBit i 4), V.bl (xBit i 5)]) ++ [V.bl (xBit i 6), V.bl (xBit i 7), V.bl (xBit i 8)]))) b3 = some (.lst (([V.bl (xBit i 0), V.bl (xBit i 1), V.bl (xBit i 2)] ++ [V.bl (xBit i 3), V.bl (xBit i 4), V.bl (xBit i 5)]) ++ [V.bl (xBit i 6), V.bl (xBit i 7), V.bl (xBit i 8)])) := upd_same
    have ew3_6_7_8_9_10 := g10.at0 ew3_6_7_8_9 nt_lst
    have eb2_9_10 := g10.at0 eb2_9 nt_lst
    have et4_10 := g10.at0 et4 nt_lst
    have f10 : Fr T [] H (upd H9 b3 (.lst (([V.bl (xBit i 0), V.bl (xBit i 1), V.bl (xBit i 2)] ++ [V.bl (xBit i 3), V.bl (xBit i 4), V.bl (xBit i 5)]) ++ [V.bl (xBit i 6), V.bl (xBit i 7), V.bl (xBit i 8)]))) := f9.trans g10
    generalize (upd H9 b3 (.lst (([V.bl (xBit i 0), V.bl (xBit i 1), V.bl (xBit i 2)] ++ [V.bl (xBit i 3), V.bl (xBit i 4), V.bl (xBit i 5)]) ++ [V.bl (xBit i 6), V.bl (xBit i 7), V.bl (xBit i 8)]))) = H10 at g10 eb3 f10 ew3_6_7_8_9_10 eb2_9_10 et4_10 ⊢
    refine ⟨_, rfl, _, rfl, a, D, d, c 9, xBit i 9, rfl, f10.at0 ha nx, dic f10, XI.ex, XI.kit 9 (by decide), _, rfl, a, D, d, c 10, xBit i 10, rfl, f10.at0 ha nx, dic f10, XI.ex, XI.kit 10 (by decide), _, rfl, a, D, d, c 11, xBit i 11, rfl, f10.at0 ha nx, dic f10, XI.ex, XI.kit 11 (by decide), by show 3 ≤ sizeLine; omega, fun t5 nt5 => ?_⟩
    have g11 : Fr T [] H10 (upd H10 t5 (.lst [V.bl (xBit i 9), V.bl (xBit i 10), V.bl (xBit i 11)])) := .new nt5
    have et5 : (upd H10 t5 (.lst [V.bl (xBit i 9), V.bl (xBit i 10), V.bl (xBit i 11)])) t5 = some (.lst [V.bl (xBit i 9), V.bl (xBit i 10), V.bl (xBit i 11)]) := upd_same
    have ew3_6_7_8_9_10_11 := g11.at0 ew3_6_7_8_9_10 nt_lst
    have eb3_11 := g11.at0 eb3 nt_lst
    have f11 : Fr T [] H (upd H10 t5 (.lst [V.bl (xBit i 9), V.bl (xBit i 10), V.bl (xBit i 11)])) := f10.trans g11
    generalize (upd H10 t5 (.lst [V.bl (xBit i 9), V.bl (xBit i 10), V.bl (xBit i 11)])) = H11 at g11 et5 f11 ew3_6_7_8_9_10_11 eb3_11 ⊢
    refine ⟨b3, t5, _, _, rfl, rfl, eb3_11, et5, by show _ ≤ sizeLine; simp only [List.length_cons, List.length_nil, List.length_append]; omega, fun b4 nb4 => ?_⟩
    have g12 : Fr T [] H11 (upd H11 b4 (.lst ((([V.bl (xBit i 0), V.bl (xBit i 1), V.bl (xBit i 2)] ++ [V.bl (xBit i 3), V.bl (xBit i 4), V.bl (xBit i 5)]) ++ [V.bl (xBit i 6), V.bl (xBit i 7), V.bl (xBit i 8)]) ++ [V.bl (xBit i 9), V.bl (xBit i 10), V.bl (xBit i 11)]))) := .new nb4
    have eb4 : (upd H11 b4 (.lst ((([V.bl (xBit i 0), V.bl (xBit i 1), V.bl (xBit i 2)] ++ [V.bl (xBit i 3), V.bl (xBit i 4), V.bl (xBit i 5)]) ++ [V.bl (xBit i 6), V.bl (xBit i 7), V.bl (xBit i 8)]) ++ [V.bl (xBit i 9), V.bl (xBit i 10), V.bl (xBit i 11)]))) b4 = some (.lst ((([V.bl (xBit i 0), V.bl (xBit i 1), V.bl (xBit i 2)] ++ [V.bl (xBit i 3), V.bl (xBit i 4), V.bl (xBit i 5)]) ++ [V.bl (xBit i 6), V.bl (xBit i 7), V.bl (xBit i 8)]) ++ [V.bl (xBit i 9), V.bl (xBit i 10), V.bl (xBit i 11)])) := upd_same
    have ew3_6_7_8_9_10_11_12 := g12.at0 ew3_6_7_8_9_10_11 nt_lst
    have eb3_11_12 := g12.at0 eb3_11 nt_lst
    have et5_12 := g12.at0 et5 nt_lst
    have f12 : Fr T [] H (upd H11 b4 (.lst ((([V.bl (xBit i 0), V.bl (xBit i 1), V.bl (xBit i 2)] ++ [V.bl (xBit i 3), V.bl (xBit i 4), V.bl (xBit i 5)]) ++ [V.bl (xBit i 6), V.bl (xBit i 7), V.bl (xBit i 8)]) ++ [V.bl (xBit i 9), V.bl (xBit i 10), V.bl (xBit i 11)]))) := f11.trans g12
    generalize (upd H11 b4 (.lst ((([V.bl (xBit i 0), V.bl (xBit i 1), V.bl (xBit i 2)] ++ [V.bl (xBit i 3), V.bl (xBit i 4), V.bl (xBit i 5)]) ++ [V.bl (xBit i 6), V.bl (xBit i 7), V.bl (xBit i 8)]) ++ [V.bl (xBit i 9), V.bl (xBit i 10), V.bl (xBit i 11)]))) = H12 at g12 eb4 f12 ew3_6_7_8_9_10_11_12 eb3_11_12 et5_12 ⊢
    refine ⟨_, rfl, _, rfl, a, D, d, c 12, xBit i 12, rfl, f12.at0 ha nx, dic f12, XI.ex, XI.kit 12 (by decide), _, rfl, a, D, d, c 13, xBit i 13, rfl, f12.at0 ha nx, dic f12, XI.ex, XI.kit 13 (by decide), _, rfl, a, D, d, c 14, xBit i 14, rfl, f12.at0 ha nx, dic f12, XI.ex, XI.kit 14 (by decide), by show 3 ≤ sizeLine; omega, fun t6 nt6 => ?_⟩
    have g13 : Fr T [] H12 (upd H12 t6 (.lst [V.bl (xBit i 12), V.bl (xBit i 13), V.bl (xBit i 14)])) := .new nt6
    have et6 : (upd H12 t6 (.lst [V.bl (xBit i 12), V.bl (xBit i 13), V.bl (xBit i 14)])) t6 = some (.lst [V.bl (xBit i 12), V.bl (xBit i 13), V.bl (xBit i 14)]) := upd_same
    have ew3_6_7_8_9_10_11_12_13 := g13.at0 ew3_6_7_8_9_10_11_12 nt_lst
    have eb4_13 := g13.at0 eb4 nt_lst
    have f13 : Fr T [] H (upd H12 t6 (.lst [V.bl (xBit i 12), V.bl (xBit i 13), V.bl (xBit i 14)])) := f12.trans g13
    generalize (upd H12 t6 (.lst [V.bl (xBit i 12), V.bl (xBit i 13), V.bl (xBit i 14)])) = H13 at g13 et6 f13 ew3_6_7_8_9_10_11_12_13 eb4_13 ⊢
    refine ⟨b4, t6, _, _, rfl, rfl, eb4_13, et6, by show _ ≤ sizeLine; simp only [List.length_cons, List.length_nil, List.length_append]; omega, fun b5 nb5 => ?_⟩
    have g14 : Fr T [] H13 (upd H13 b5 (.lst (((([V.bl (xBit i 0), V.bl (xBit i 1), V.bl (xBit i 2)] ++ [V.bl (xBit i 3), V.bl (xBit i 4), V.bl (xBit i 5)]) ++ [V.bl (xBit i 6), V.bl (xBit i 7), V.bl (xBit i 8)]) ++ [V.bl (xBit i 9), V.bl (xBit i 10), V.bl (xBit i 11)]) ++ [V.bl (xBit i 12), V.bl (xBit i 13), V.bl (xBit i 14)]))) := .new nb5
    have eb5 : (upd H13 b5 (.lst (((([V.bl (xBit i 0), V.bl (xBit i 1), V.bl (xBit i 2)] ++ [V.bl (xBit i 3), V.bl (xBit i 4), V.bl (xBit i 5)]) ++ [V.bl (xBit i 6), V.bl (xBit i 7), V.bl (xBit i 8)]) ++ [V.bl (xBit i 9), V.bl (xBit i 10), V.bl (xBit i 11)]) ++ [V.bl (xBit i 12), V.bl (xBit i 13), V.bl (xBit i 14)]))) b5 = some (.lst (((([V.bl (xBit i 0), V.bl (xBit i 1), V.bl (xBit i 2)] ++ [V.bl (xBit i 3), V.bl (xBit i 4), V.bl (xBit i 5)]) ++ [V.bl (xBit i 6), V.bl (xBit i 7), V.bl (xBit i 8)]) ++ [V.bl (xBit i 9), V.bl (xBit i 10), V.bl (xBit i 11)]) ++ [V.bl (xBit i 12), V.bl (xBit i 13), V.bl (xBit i 14)])) := upd_same
    have ew3_6_7_8_9_10_11_12_13_14 := g14.at0 ew3_6_7_8_9_10_11_12_13 nt_lst
    have eb4_13_14 := g14.at0 eb4_13 nt_lst
    have et6_14 := g14.at0 et6 nt_lst
    have f14 : Fr T [] H (upd H13 b5 (.lst (((([V.bl (xBit i 0), V.bl (xBit i 1), V.bl (xBit i 2)] ++ [V.bl (xBit i 3), V.bl (xBit i 4), V.bl (xBit i 5)]) ++ [V.bl (xBit i 6), V.bl (xBit i 7), V.bl (xBit i 8)]) ++ [V.bl (xBit i 9), V.bl (xBit i 10), V.bl (xBit i 11)]) ++ [V.bl (xBit i 12), V.bl (xBit i 13), V.bl (xBit i 14)]))) := f13.trans g14
    generalize (upd H13 b5 (.lst (((([V.bl (xBit i 0), V.bl (xBit i 1), V.bl (xBit i 2)] ++ [V.bl (xBit i 3), V.bl (xBit i 4), V.bl (xBit i 5)]) ++ [V.bl (xBit i 6), V.bl (xBit i 7), V.bl (xBit i 8)]) ++ [V.bl (xBit i 9), V.bl (xBit i 10), V.bl (xBit i 11)]) ++ [V.bl (xBit i 12), V.bl (xBit i 13), V.bl (xBit i 14)]))) = H14 at g14 eb5 f14 ew3_6_7_8_9_10_11_12_13_14 eb4_13_14 et6_14 ⊢
    refine ⟨_, rfl, _, rfl, a, D, d, c 15, xBit i 15, rfl, f14.at0 ha nx, dic f14, XI.ex, XI.kit 15 (by decide), _, rfl, a, D, d, c 16, xBit i 16, rfl, f14.at0 ha nx, dic f14, XI.ex, XI.kit 16 (by decide), _, rfl, a, D, d, c 17, xBit i 17, rfl, f14.at0 ha nx, dic f14, XI.ex, XI.kit 17 (by decide), by show 3 ≤ sizeLine; omega, fun t7 nt7 => ?_⟩
    have g15 : Fr T [] H14 (upd H14 t7 (.lst [V.bl (xBit i 15), V.bl (xBit i 16), V.bl (xBit i 17)])) := .new nt7
    have et7 : (upd H14 t7 (.lst [V.bl (xBit i 15), V.bl (xBit i 16), V.bl (xBit i 17)])) t7 = some (.lst [V.bl (xBit i 15), V.bl (xBit i 16), V.bl (xBit i 17)]) := upd_same
    have ew3_6_7_8_9_10_11_12_13_14_15 := g15.at0 ew3_6_7_8_9_10_11_12_13_14 nt_lst
    have eb5_15 := g15.at0 eb5 nt_lst
    have f15 : Fr T [] H (upd H14 t7 (.lst [V.bl (xBit i 15), V.bl (xBit i 16), V.bl (xBit i 17)])) := f14.trans g15
    generalize (upd H14 t7 (.lst [V.bl (xBit i 15), V.bl (xBit i 16), V.bl (xBit i 17)])) = H15 at g15 et7 f15 ew3_6_7_8_9_10_11_12_13_14_15 eb5_15 ⊢
    refine ⟨b5, t7, _, _, rfl, rfl, eb5_15, et7, by show _ ≤ sizeLine; simp only [List.length_cons, List.length_nil, List.length_append]; omega, fun b6 nb6 => ?_⟩
    have g16 : Fr T [] H15 (upd H15 b6 (.lst ((((([V.bl (xBit i 0), V.bl (xBit i 1), V.bl (xBit i 2)] ++ [V.bl (xBit i 3), V.bl (xBit i 4), V.bl (xBit i 5)]) ++ [V.bl (xBit i 6), V.bl (xBit i 7), V.bl (xBit i 8)]) ++ [V.bl (xBit i 9), V.bl (xBit i 10), V.bl (xBit i 11)]) ++ [V.bl (xBit i 12), V.bl (xBit i 13), V.bl (xBit i 14)]) ++ [V.bl (xBit i 15), V.bl (xBit i 16), V.bl (xBit i 17)]))) := .new nb6
    have eb6 : (upd H15 b6 (.lst ((((([V.bl (xBit i 0), V.bl (xBit i 1), V.bl (xBit i 2)] ++ [V.bl (xBit i 3), V.bl (xBit i 4), V.bl (xBit i 5)]) ++ [V.bl (xBit i 6), V.bl (xBit i 7), V.bl (xBit i 8)]) ++ [V.bl (xBit i 9), V.bl (xBit i 10), V.bl (xBit i 11)]) ++ [V.bl (xBit i 12), V.bl (xBit i 13), V.bl (xBit i 14)]) ++ [V.bl (xBit i 15), V.bl (xBit i 16), V.bl (xBit i 17)]))) b6 = some (.lst ((((([V.bl (xBit i 0), V.bl (xBit i 1), V.bl (xBit i 2)] ++ [V.bl (xBit i 3), V.bl (xBit i 4), V.bl (xBit i 5)]) ++ [V.bl (xBit i 6), V.bl (xBit i 7), V.bl (xBit i 8)]) ++ [V.bl (xBit i 9), V.bl (xBit i 10), V.bl (xBit i 11)]) ++ [V.bl (xBit i 12), V.bl (xBit i 13), V.bl (xBit i 14)]) ++ [V.bl (xBit i 15), V.bl (xBit i 16), V.bl (xBit i 17)])) := upd_same
    have ew3_6_7_8_9_10_11_12_13_14_15_16 := g16.at0 ew3_6_7_8_9_10_11_12_13_14_15 nt_lst
    have eb5_15_16 := g16.at0 eb5_15 nt_lst
    have et7_16 := g16.at0 et7 nt_lst
    have f16 : Fr T [] H (upd H15 b6 (.lst ((((([V.bl (xBit i 0), V.bl (xBit i 1), V.bl (xBit i 2)] ++ [V.bl (xBit i 3), V.bl (xBit i 4), V.bl (xBit i 5)]) ++ [V.bl (xBit i 6), V.bl (xBit i 7), V.bl (xBit i 8)]) ++ [V.bl (xBit i 9), V.bl (xBit i 10), V.bl (xBit i 11)]) ++ [V.bl (xBit i 12), V.bl (xBit i 13), V.bl (xBit i 14)]) ++ [V.bl (xBit i 15), V.bl (xBit i 16), V.bl (xBit i 17)]))) := f15.trans g16
    generalize (upd H15 b6 (.lst ((((([V.bl (xBit i 0), V.bl (xBit i 1), V.bl (xBit i 2)] ++ [V.bl (xBit i 3), V.bl (xBit i 4), V.bl (xBit i 5)]) ++ [V.bl (xBit i 6), V.bl (xBit i 7), V.bl (xBit i 8)]) ++ [V.bl (xBit i 9), V.bl (xBit i 10), V.bl (xBit i 11)]) ++ [V.bl (xBit i 12), V.bl (xBit i 13), V.bl (xBit i 14)]) ++ [V.bl (xBit i 15), V.bl (xBit i 16), V.bl (xBit i 17)]))) = H16 at g16 eb6 f16 ew3_6_7_8_9_10_11_12_13_14_15_16 eb5_15_16 et7_16 ⊢
    refine ⟨_, rfl, _, rfl, a, D, d, c 18, xBit i 18, rfl, f16.at0 ha nx, dic f16, XI.ex, XI.kit 18 (by decide), _, rfl, a, D, d, c 19, xBit i 19, rfl, f16.at0 ha nx, dic f16, XI.ex, XI.kit 19 (by decide), _, rfl, a, D, d, c 20, xBit i 20, rfl, f16.at0 ha nx, dic f16, XI.ex, XI.kit 20 (by decide), by show 3 ≤ sizeLine; omega, fun t8 nt8 => ?_⟩
    have g17 : Fr T [] H16 (upd H16 t8 (.lst [V.bl (xBit i 18), V.bl (xBit i 19), V.bl (xBit i 20)])) := .new nt8
    have et8 : (upd H16 t8 (.lst [V.bl (xBit i 18), V.bl (xBit i 19), V.bl (xBit i 20)])) t8 = some (.lst [V.bl (xBit i 18), V.bl (xBit i 19), V.bl (xBit i 20)]) := upd_same
    have ew3_6_7_8_9_10_11_12_13_14_15_16_17 := g17.at0 ew3_6_7_8_9_10_11_12_13_14_15_16 nt_lst
    have eb6_17 := g17.at0 eb6 nt_lst
    have f17 : Fr T [] H (upd H16 t8 (.lst [V.bl (xBit i 18), V.bl (xBit i 19), V.bl (xBit i 20)])) := f16.trans g17
    generalize (upd H16 t8 (.lst [V.bl (xBit i 18), V.bl (xBit i 19), V.bl (xBit i 20)])) = H17 at g17 et8 f17 ew3_6_7_8_9_10_11_12_13_14_15_16_17 eb6_17 ⊢
    refine ⟨b6, t8, _, _, rfl, rfl, eb6_17, et8, by show _ ≤ sizeLine; simp only [List.length_cons, List.length_nil, List.length_append]; omega, fun b7 nb7 => ?_⟩
    have g18 : Fr T [] H17 (upd H17 b7 (.lst (((((([V.bl (xBit i 0), V.bl (xBit i 1), V.bl (xBit i 2)] ++ [V.bl (xBit i 3), V.bl (xBit i 4), V.bl (xBit i 5)]) ++ [V.bl (xBit i 6), V.bl (xBit i 7), V.bl (xBit i 8)]) ++ [V.bl (xBit i 9), V.bl (xBit i 10), V.bl (xBit i 11)]) ++ [V.bl (xBit i 12), V.bl (xBit i 13), V.bl (xBit i 14)]) ++ [V.bl (xBit i 15), V.bl (xBit i 16), V.bl (xBit i 17)]) ++ [V.bl (xBit i 18), V.bl (xBit i 19), V.bl (xBit i 20)]))) := .new nb7
    have eb7 : (upd H17 b7 (.lst (((((([V.bl (xBit i 0), V.bl (xBit i 1), V.bl (xBit i 2)] ++ [V.bl (xBit i 3), V.bl (xBit i 4), V.bl (xBit i 5)]) ++ [V.bl (xBit i 6), V.bl (xBit i 7), V.bl (xBit i 8)]) ++ [V.bl (xBit i 9), V.bl (xBit i 10), V.bl (xBit i 11)]) ++ [V.bl (xBit i 12), V.bl (xBit i 13), V.bl (xBit i 14)]) ++ [V.bl (xBit i 15), V.bl (xBit i 16), V.bl (xBit i 17)]) ++ [V.bl (xBit i 18), V.bl (xBit i 19), V.bl (xBit i 20)]))) b7 = some (.lst (((((([V.bl (xBit i 0), V.bl (xBit i 1), V.bl (xBit i 2)] ++ [V.bl (xBit i 3), V.bl (xBit i 4), V.bl (xBit i 5)]) ++ [V.bl (xBit i 6), V.bl (xBit i 7), V.bl (xBit i 8)]) ++ [V.bl (xBit i 9), V.bl (xBit i 10), V.bl (xBit i 11)]) ++ [V.bl (xBit i 12), V.bl (xBit i 13), V.bl (xBit i 14)]) ++ [V.bl (xBit i 15), V.bl (xBit i 16), V.bl (xBit i 17)]) ++ [V.bl (xBit i 18), V.bl (xBit i 19), V.bl (xBit i 20)])) := upd_same
    have ew3_6_7_8_9_10_11_12_13_14_15_16_17_18 := g18.at0 ew3_6_7_8_9_10_11_12_13_14_15_16_17 nt_lst
    have eb6_17_18 := g18.at0 eb6_17 nt_lst
    have et8_18 := g18.at0 et8 nt_lst
    have f18 : Fr T [] H (upd H17 b7 (.lst (((((([V.bl (xBit i 0), V.bl (xBit i 1), V.bl (xBit i 2)] ++ [V.bl (xBit i 3), V.bl (xBit i 4), V.bl (xBit i 5)]) ++ [V.bl (xBit i 6), V.bl (xBit i 7), V.bl (xBit i 8)]) ++ [V.bl (xBit i 9), V.bl (xBit i 10), V.bl (xBit i 11)]) ++ [V.bl (xBit i 12), V.bl (xBit i 13), V.bl (xBit i 14)]) ++ [V.bl (xBit i 15), V.bl (xBit i 16), V.bl (xBit i 17)]) ++ [V.bl (xBit i 18), V.bl (xBit i 19), V.bl (xBit i 20)]))) := f17.trans g18
    generalize (upd H17 b7 (.lst (((((([V.bl (xBit i 0), V.bl (xBit i 1), V.bl (xBit i 2)] ++ [V.bl (xBit i 3), V.bl (xBit i 4), V.bl (xBit i 5)]) ++ [V.bl (xBit i 6), V.bl (xBit i 7), V.bl (xBit i 8)]) ++ [V.bl (xBit i 9), V.bl (xBit i 10), V.bl (xBit i 11)]) ++ [V.bl (xBit i 12), V.bl (xBit i 13), V.bl (xBit i 14)]) ++ [V.bl (xBit i 15), V.bl (xBit i 16), V.bl (xBit i 17)]) ++ [V.bl (xBit i 18), V.bl (xBit i 19), V.bl (xBit i 20)]))) = H18 at g18 eb7 f18 ew3_6_7_8_9_10_11_12_13_14_15_16_17_18 eb6_17_18 et8_18 ⊢
    refine ⟨_, rfl, a, D, d, c 21, xBit i 21, rfl, f18.at0 ha nx, dic f18, XI.ex, XI.kit 21 (by decide), _, rfl, a, D, d, c 22, xBit i 22, rfl, f18.at0 ha nx, dic f18, XI.ex, XI.kit 22 (by decide), by show 2 ≤ sizeLine; omega, fun z1 nz1 => ?_⟩
    have g19 : Fr T [] H18 (upd H18 z1 (.lst [V.bl (xBit i 21), V.bl (xBit i 22)])) := .new nz1
    have ez1 : (upd H18 z1 (.lst [V.bl (xBit i 21), V.bl (xBit i 22)])) z1 = some (.lst [V.bl (xBit i 21), V.bl (xBit i 22)]) := upd_same
    have ew3_6_7_8_9_10_11_12_13_14_15_16_17_18_19 := g19.at0 ew3_6_7_8_9_10_11_12_13_14_15_16_17_18 nt_lst
    have eb7_19 := g19.at0 eb7 nt_lst
    have f19 : Fr T [] H (upd H18 z1 (.lst [V.bl (xBit i 21), V.bl (xBit i 22)])) := f18.trans g19
    generalize (upd H18 z1 (.lst [V.bl (xBit i 21), V.bl (xBit i 22)])) = H19 at g19 ez1 f19 ew3_6_7_8_9_10_11_12_13_14_15_16_17_18_19 eb7_19 ⊢
    have hq := q H19 f19
    have ew := ew3_6_7_8_9_10_11_12_13_14_15_16_17_18_19
    have eb := eb7_19
    have ez := ez1
    rcases hi with rfl | rfl | rfl | rfl
    · refine ⟨_, rfl, .inl ⟨rfl, _, .inl (.inl eb)⟩, b7, _, .bl true, rfl, rfl, .inl (.inl eb), rfl, rfl, rfl, _, rfl, ?_⟩
      refine iteF' rfl ?_
      refine ⟨_, rfl, .inl ⟨rfl, _, .inl (.inl ez)⟩, z1, _, .bl true, rfl, rfl, .inl (.inl ez), rfl, rfl, rfl, _, rfl, iteF' rfl ?_⟩
      refine ⟨_, rfl, .inl ⟨rfl, _, .inl (.inl eb)⟩, b7, _, .bl true, 3, .bl true, rfl, rfl, .inl (.inl eb), rfl, rfl, rfl, rfl, (fun m z hm hz => by
        match m, hm, hz with
        | 0, _, hz => cases hz; rfl
        | 1, _, hz => cases hz; rfl
        | 2, _, hz => cases hz; rfl
        | m + 3, hm, _ => omega), ?_⟩
      refine ⟨_, rfl, .inl ⟨rfl, _, .inl (.inl ez)⟩, z1, _, .bl true, 0, .bl true, rfl, rfl, .inl (.inl ez), rfl, rfl, rfl, rfl, (fun m z hm hz => by
        match m, hm, hz with

        | m + 0, hm, _ => omega), ?_⟩
      refine ⟨_, rfl, _, _, rfl, rfl, _, rfl, iteT' rfl ⟨rfl, _, rfl, iteT' rfl ?_⟩⟩
      exact ⟨_, rfl, _, rfl, w3, _, _, _, rfl, rfl, .inl (.inl ew), atI_nat (j := 3) rfl, hq⟩
    · refine ⟨_, rfl, .inl ⟨rfl, _, .inl (.inl eb)⟩, b7, _, .bl true, rfl, rfl, .inl (.inl eb), rfl, rfl, rfl, _, rfl, ?_⟩
      refine iteF' rfl ?_
      refine ⟨_, rfl, .inl ⟨rfl, _, .inl (.inl ez)⟩, z1, _, .bl true, rfl, rfl, .inl (.inl ez), rfl, rfl, rfl, _, rfl, iteF' rfl ?_⟩
      refine ⟨_, rfl, .inl ⟨rfl, _, .inl (.inl eb)⟩, b7, _, .bl true, 15, .bl true, rfl, rfl, .inl (.inl eb), rfl, rfl, rfl, rfl, (fun m z hm hz => by
        match m, hm, hz with
        | 0, _, hz => cases hz; rfl
        | 1, _, hz => cases hz; rfl
        | 2, _, hz => cases hz; rfl
        | 3, _, hz => cases hz; rfl
        | 4, _, hz => cases hz; rfl
        | 5, _, hz => cases hz; rfl
        | 6, _, hz => cases hz; rfl
        | 7, _, hz => cases hz; rfl
        | 8, _, hz => cases hz; rfl
        | 9, _, hz => cases hz; rfl
        | 10, _, hz => cases hz; rfl
        | 11, _, hz => cases hz; rfl
        | 12, _, hz => cases hz; rfl
        | 13, _, hz => cases hz; rfl
        | 14, _, hz => cases hz; rfl
        | m + 15, hm, _ => omega), ?_⟩
      refine ⟨_, rfl, .inl ⟨rfl, _, .inl (.inl ez)⟩, z1, _, .bl true, 1, .bl true, rfl, rfl, .inl (.inl ez), rfl, rfl, rfl, rfl, (fun m z hm hz => by
        match m, hm, hz with
        | 0, _, hz => cases hz; rfl
        | m + 1, hm, _ => omega), ?_⟩
      refine ⟨_, rfl, _, _, rfl, rfl, _, rfl, iteF' rfl ⟨rfl, _, rfl, iteT' rfl ?_⟩⟩
      exact ⟨_, rfl, _, rfl, w3, _, _, _, rfl, rfl, .inl (.inl ew), atI_nat (j := 15) rfl, hq⟩
    · refine ⟨_, rfl, .inl ⟨rfl, _, .inl (.inl eb)⟩, b7, _, .bl true, rfl, rfl, .inl (.inl eb), rfl, rfl, rfl, _, rfl, ?_⟩
      refine iteF' rfl ?_
      refine ⟨_, rfl, .inl ⟨rfl, _, .inl (.inl ez)⟩, z1, _, .bl true, rfl, rfl, .inl (.inl ez), rfl, rfl, rfl, _, rfl, iteF' rfl ?_⟩
      refine ⟨_, rfl, .inl ⟨rfl, _, .inl (.inl eb)⟩, b7, _, .bl true, 16, .bl true, rfl, rfl, .inl (.inl eb), rfl, rfl, rfl, rfl, (fun m z hm hz => by
        match m, hm, hz with
        | 0, _, hz => cases hz; rfl
        | 1, _, hz => cases hz; rfl
        | 2, _, hz => cases hz; rfl
        | 3, _, hz => cases hz; rfl
        | 4, _, hz => cases hz; rfl
        | 5, _, hz => cases hz; rfl
        | 6, _, hz => cases hz; rfl
        | 7, _, hz => cases hz; rfl
        | 8, _, hz => cases hz; rfl
        | 9, _, hz => cases hz; rfl
        | 10, _, hz => cases hz; rfl
        | 11, _, hz => cases hz; rfl
        | 12, _, hz => cases hz; rfl
        | 13, _, hz => cases hz; rfl
        | 14, _, hz => cases hz; rfl
        | 15, _, hz => cases hz; rfl
        | m + 16, hm, _ => omega), ?_⟩
      refine ⟨_, rfl, .inl ⟨rfl, _, .inl (.inl ez)⟩, z1, _, .bl true, 1, .bl true, rfl, rfl, .inl (.inl ez), rfl, rfl, rfl, rfl, (fun m z hm hz => by
        match m, hm, hz with
        | 0, _, hz => cases hz; rfl
        | m + 1, hm, _ => omega), ?_⟩
      refine ⟨_, rfl, _, _, rfl, rfl, _, rfl, iteF' rfl ⟨rfl, _, rfl, iteT' rfl ?_⟩⟩
      exact ⟨_, rfl, _, rfl, w3, _, _, _, rfl, rfl, .inl (.inl ew), atI_nat (j := 16) rfl, hq⟩
    · refine ⟨_, rfl, .inl ⟨rfl, _, .inl (.inl eb)⟩, b7, _, .bl true, rfl, rfl, .inl (.inl eb), rfl, rfl, rfl, _, rfl, ?_⟩
      refine iteF' rfl ?_
      refine ⟨_, rfl, .inl ⟨rfl, _, .inl (.inl ez)⟩, z1, _, .bl true, rfl, rfl, .inl (.inl ez), rfl, rfl, rfl, _, rfl, iteF' rfl ?_⟩
      refine ⟨_, rfl, .inl ⟨rfl, _, .inl (.inl eb)⟩, b7, _, .bl true, 20, .bl true, rfl, rfl, .inl (.inl eb), rfl, rfl, rfl, rfl, (fun m z hm hz => by
        match m, hm, hz with
        | 0, _, hz => cases hz; rfl
        | 1, _, hz => cases hz; rfl
        | 2, _, hz => cases hz; rfl
        | 3, _, hz => cases hz; rfl
        | 4, _, hz => cases hz; rfl
        | 5, _, hz => cases hz; rfl
        | 6, _, hz => cases hz; rfl
        | 7, _, hz => cases hz; rfl
        | 8, _, hz => cases hz; rfl
        | 9, _, hz => cases hz; rfl
        | 10, _, hz => cases hz; rfl
        | 11, _, hz => cases hz; rfl
        | 12, _, hz => cases hz; rfl
        | 13, _, hz => cases hz; rfl
        | 14, _, hz => cases hz; rfl
        | 15, _, hz => cases hz; rfl
        | 16, _, hz => cases hz; rfl
        | 17, _, hz => cases hz; rfl
        | 18, _, hz => cases hz; rfl
        | 19, _, hz => cases hz; rfl
        | m + 20, hm, _ => omega), ?_⟩
      refine ⟨_, rfl, .inl ⟨rfl, _, .inl (.inl ez)⟩, z1, _, .bl true, 1, .bl true, rfl, rfl, .inl (.inl ez), rfl, rfl, rfl, rfl, (fun m z hm hz => by
        match m, hm, hz with
        | 0, _, hz => cases hz; rfl
        | m + 1, hm, _ => omega), ?_⟩
      refine ⟨_, rfl, _, _, rfl, rfl, _, rfl, iteF' rfl ⟨rfl, _, rfl, iteT' rfl ?_⟩⟩
      exact ⟨_, rfl, _, rfl, w3, _, _, _, rfl, rfl, .inl (.inl ew), atI_nat (j := 20) rfl, hq⟩
end
end Tz
end -- W29
section -- W30
set_option maxHeartbeats 4000000
namespace Tz
open PySem PySem.Spec PyProof.Rows L2 TL
/-! ### what is never run -/
theorem ps_nev {X : Cx} {st : Stmt} : PS X st (fun _ _ _ => False) := ⟨fun _ _ _ _ _ _ h => h.elim⟩
theorem pss_nev {X : Cx} {st : List Stmt} : PSs X st (fun _ _ _ => False) := ⟨fun _ _ _ _ _ _ h => h.elim⟩
theorem pe_nev {X : Cx} {e : Expr} : PE X e (fun _ _ _ => False) := ⟨fun _ _ _ _ _ _ h => h.elim⟩
section
variable {P : Program} {w : World} {K : PySem.W.Frag} {mg : Str → Option Value} {base : Heap} {T : List (Addr × Str)} {CT CB : Addr}
/-! ### _law_attribute -/
abbrev sAttr : Stmt := top 69
abbrev nAttr : List Str := ["_law_e", "_law_word_here", "_law_lined"]
theorem scAttr : FnScope nAttr ["_law_e", "_law_word_here"] (defScope sAttr) := ⟨rfl, rfl, rfl, by decide +kernel, rfl, by decide +kernel, by decide +kernel⟩
/-- the attribute told of an exception of the i-th class, whose dict is d -/
inductive AttrAt (K : PySem.W.Frag) (H : Hp) (D : Addr) : Nat → Option Addr → Str → Prop
  | none {d : Option Addr} : AttrAt K H D 20 d ""
  | near {dd : Addr} {y : Str} : H dd = some (.xd [("place", .str y)]) → XfC K D → PySem.W.findIn K (.ref D) "place" = some none → (reprText y).length ≤ sizeLine → AttrAt K H D 15 (some dd) (reprText y)
  | full {dd : Addr} {y : Str} : H dd = some (.xd [("place", .str y)]) → XfC K D → PySem.W.findIn K (.ref D) "place" = some none → (reprText y).length ≤ sizeLine → AttrAt K H D 16 (some dd) (reprText y)
  | index {dd : Addr} {k : Nat} : H dd = some (.xd [("given", .int (k : Nat))]) → XfC K D → PySem.W.findIn K (.ref D) "given" = some none → k ≤ 1000 → AttrAt K H D 3 (some dd) (toString ((k : Nat) : Int))
def spAttr (K : PySem.W.Frag) (T : List (Addr × Str)) : Sp := fun vs H Q _ => ∃ (a D : Addr) (d : Option Addr) (i : Nat) (z : Str), vs = [.ref a, .str (xNames.getD i "")] ∧ H a = some (ExT (.ref D) d a) ∧ AttrAt K H D i d z ∧ ∀ H', Fr T [] H H' → Q (.str z) H'
theorem ok_attr {f : Addr} {fd : FuncData} (F : L2.Fun K "_law_attribute" "_law_attribute" sAttr f fd) (B : Blt mg) : FnC P w K mg base 1 f fd ["_law_e", "_law_word_here"] (spAttr K T) := by
  refine okS F scAttr (fun vs H Q E h => ?_) (fun cdv A outer s H vs Q E hr h => ?_)
  · obtain ⟨a, D, d, i, z, rfl, _⟩ := h
    rfl
  · obtain ⟨a, D, d, i, z, rfl, ha, hz, q⟩ := h
    refine ⟨_, pss_cons (ps_if (pt_cmpR op_in_seq (pv 1) (pe_lst (pa_cons pe_str (pa_cons pe_str (pa_cons pe_str pa_nil)))) (by rfl)) (pss_one (ps_ret pe_str)) pss_nil)
      (pss_cons (ps_if (pt_cmpR op_eq (pv 1) pe_str (nomark _)) pss_nev pss_nil)
      (pss_cons (ps_if (pt_cmpR op_eq (pv 1) pe_str (nomark _)) pss_nev pss_nil)
      (pss_cons (ps_if (pt_cmpR op_in_seq (pv 1) (pe_lst (pa_cons pe_str (pa_cons pe_str (pa_cons pe_str pa_nil)))) (by rfl)) (pss_one (ps_ret (pe_callB cr_reprS (by rfl) B.repr (by decide +kernel) (pa_cons (pe_xt (pv 0)) pa_nil)))) pss_nil)
      (pss_cons (ps_set (i := 2) scAttr.nd rfl (Or.inl rfl) (pe_lst (pa_cons pe_str (pa_cons pe_str (pa_cons pe_str (pa_cons pe_str (pa_cons pe_str pa_nil)))))))
      (pss_one (ps_ret (pe_ifExp (pt_cmpR op_in_seq (pv 1) (pv 2) (by rfl)) pe_nev (pe_callB SkE.call_repr_int (by rfl) B.repr (by decide +kernel) (pa_cons (pe_xt (pv 0)) pa_nil))))))))), ?_⟩
    have sl := sizeLine_eq
    have nx : NT (ExT (.ref D) d a) := fun _ z => nomatch z
    have nxd : ∀ {fs : List (Str × V)}, NT (.xd fs) := fun _ z => nomatch z
    cases hz with
    | none =>
      refine ⟨_, rfl, by show 3 ≤ sizeLine; omega, fun l nl => ⟨l, _, rfl, .inl (.inl (.inl upd_same)), rfl, rfl, _, rfl, iteT' (by decide +kernel) (q _ (.new nl))⟩⟩
    | @near dd y e1 xf no hy =>
      refine ⟨_, rfl, by show 3 ≤ sizeLine; omega, fun l nl => ⟨l, _, rfl, .inl (.inl (.inl upd_same)), rfl, rfl, _, rfl, iteF' (by decide +kernel) ?_⟩⟩
      have f1 : Fr T [] H (upd H l (.lst [V.str "other", V.str "NothingToUndo", V.str "Unmatched"])) := .new nl
      generalize (upd H l (.lst [V.str "other", V.str "NothingToUndo", V.str "Unmatched"])) = H1 at f1 ⊢
      refine ⟨_, rfl, rfl, _, rfl, iteF' (by decide +kernel) ⟨_, rfl, rfl, _, rfl, iteF' (by decide +kernel) ?_⟩⟩
      refine ⟨_, rfl, by show 3 ≤ sizeLine; omega, fun l2 nl2 => ⟨l2, _, rfl, .inl (.inl (.inl upd_same)), rfl, rfl, _, rfl, iteT' (by decide +kernel) ?_⟩⟩
      have f2 : Fr T [] H (upd H1 l2 (.lst [V.str "NotAnEnd", V.str "NotNear", V.str "NotEmpty"])) := f1.trans (.new nl2)
      generalize (upd H1 l2 (.lst [V.str "NotAnEnd", V.str "NotNear", V.str "NotEmpty"])) = H2 at f2 ⊢
      exact ⟨_, rfl, a, D, dd, _, .str y, rfl, f2.at0 ha nx, xf, no, f2.at0 e1 nxd, rfl, y, rfl, hy, q _ f2⟩
    | @full dd y e1 xf no hy =>
      refine ⟨_, rfl, by show 3 ≤ sizeLine; omega, fun l nl => ⟨l, _, rfl, .inl (.inl (.inl upd_same)), rfl, rfl, _, rfl, iteF' (by decide +kernel) ?_⟩⟩
      have f1 : Fr T [] H (upd H l (.lst [V.str "other", V.str "NothingToUndo", V.str "Unmatched"])) := .new nl
      generalize (upd H l (.lst [V.str "other", V.str "NothingToUndo", V.str "Unmatched"])) = H1 at f1 ⊢
      refine ⟨_, rfl, rfl, _, rfl, iteF' (by decide +kernel) ⟨_, rfl, rfl, _, rfl, iteF' (by decide +kernel) ?_⟩⟩
      refine ⟨_, rfl, by show 3 ≤ sizeLine; omega, fun l2 nl2 => ⟨l2, _, rfl, .inl (.inl (.inl upd_same)), rfl, rfl, _, rfl, iteT' (by decide +kernel) ?_⟩⟩
      have f2 : Fr T [] H (upd H1 l2 (.lst [V.str "NotAnEnd", V.str "NotNear", V.str "NotEmpty"])) := f1.trans (.new nl2)
      generalize (upd H1 l2 (.lst [V.str "NotAnEnd", V.str "NotNear", V.str "NotEmpty"])) = H2 at f2 ⊢
      exact ⟨_, rfl, a, D, dd, _, .str y, rfl, f2.at0 ha nx, xf, no, f2.at0 e1 nxd, rfl, y, rfl, hy, q _ f2⟩
    | @index dd k e1 xf no hk =>
      refine ⟨_, rfl, by show 3 ≤ sizeLine; omega, fun l nl => ⟨l, _, rfl, .inl (.inl (.inl upd_same)), rfl, rfl, _, rfl, iteF' (by decide +kernel) ?_⟩⟩
      have f1 : Fr T [] H (upd H l (.lst [V.str "other", V.str "NothingToUndo", V.str "Unmatched"])) := .new nl
      generalize (upd H l (.lst [V.str "other", V.str "NothingToUndo", V.str "Unmatched"])) = H1 at f1 ⊢
      refine ⟨_, rfl, rfl, _, rfl, iteF' (by decide +kernel) ⟨_, rfl, rfl, _, rfl, iteF' (by decide +kernel) ?_⟩⟩
      refine ⟨_, rfl, by show 3 ≤ sizeLine; omega, fun l2 nl2 => ⟨l2, _, rfl, .inl (.inl (.inl upd_same)), rfl, rfl, _, rfl, iteF' (by decide +kernel) ?_⟩⟩
      have f2 : Fr T [] H (upd H1 l2 (.lst [V.str "NotAnEnd", V.str "NotNear", V.str "NotEmpty"])) := f1.trans (.new nl2)
      generalize (upd H1 l2 (.lst [V.str "NotAnEnd", V.str "NotNear", V.str "NotEmpty"])) = H2 at f2 ⊢
      refine ⟨by show 5 ≤ sizeLine; omega, fun l3 nl3 => ?_⟩
      have f3 := f2.trans (Fr.new (T := T) (W := []) (o := .lst [V.str "InvalidStanding", V.str "InvalidCrowd", V.str "InvalidParked", V.str "InvalidLog", V.str "InUse"]) nl3)
      have e3 : (upd H2 l3 (.lst [V.str "InvalidStanding", V.str "InvalidCrowd", V.str "InvalidParked", V.str "InvalidLog", V.str "InUse"])) l3 = some (.lst [V.str "InvalidStanding", V.str "InvalidCrowd", V.str "InvalidParked", V.str "InvalidLog", V.str "InUse"]) := upd_same
      generalize (upd H2 l3 (.lst [V.str "InvalidStanding", V.str "InvalidCrowd", V.str "InvalidParked", V.str "InvalidLog", V.str "InUse"])) = H3 at f3 e3 ⊢
      refine ⟨_, rfl, _, rfl, l3, _, rfl, .inl (.inl (.inl e3)), rfl, rfl, _, rfl, iteF' (by decide +kernel) ?_⟩
      refine ⟨_, rfl, a, D, dd, _, .int (k : Nat), rfl, f3.at0 ha nx, xf, no, f3.at0 e1 nxd, rfl, _, rfl, ?_, q _ f3⟩
      rw [Int.natAbs_natCast]
      exact Nat.lt_of_le_of_lt (Nat.log2_le_self k) (by omega)
end
end Tz
end -- W30
section -- W31
set_option maxHeartbeats 4000000
namespace Tz
open PySem PySem.Spec PyProof.Rows L2 TL
/-- a def that may be called wherever an exception is handled, by its name -/
structure DefC (P : Program) (w : World) (K : PySem.W.Frag) (mg : Str → Option Value) (base : Heap) (k : Nat) (x : Str) (ps : List Str) (sp : Sp) : Prop where
  ex : ∃ f fd, FnC P w K mg base k f fd ps sp ∧ mg x = some (.ref f) ∧ PySem.W.keepIn K (.ref f) = true ∧ Binds K fd ps []
section
variable {X : Cx} {k : Nat} {x : Str} {ps : List Str} {sp : Sp} {p pos : Pos} {e : Expr} {es : List Expr} {t : TA}
theorem pe_callDC (D : DefC X.prog X.w X.K X.mg X.base k x ps sp) (hr : L2H.RoomH k X.A) (hg : Gl X x) (ha : PA X (e :: es) t) (hdb : (x == ("__debug__" : Str)) = false := by decide)
    (he : starEach (e :: es) X.env = (false, eval e X.env) :: starEach es X.env := by rfl) (hpl : (backTo pos (starEach es X.env)).any (·.1) = false := by rfl) : PE X (.Call (.Name x p) (e :: es) [] pos) (tCallS sp (fun _ _ _ _ => False) t) := by
  obtain ⟨f, fd, F, hm, hk, hb⟩ := D.ex
  exact pe_callC F hr hg hm hk hb ha hdb he hpl
end
/-- a reading with a stronger end -/
theorem pe_weak {X : Cx} {e : Expr} {t : TE} (h : PE X e t) : PE X e (fun σ H Q => ∃ Q' : VK, t σ H Q' ∧ ∀ v H', Q' v H' → Q v H') :=
  ⟨fun pins s σ H Q I ⟨Q', h1, h2⟩ => thn (h.run pins s σ H Q' I h1) fun u s1 ⟨x, H1, I1, r1, q1⟩ => ⟨x, H1, I1, r1, h2 _ _ q1⟩⟩
theorem attr_fr {K : PySem.W.Frag} {T : List (Addr × Str)} {H H' : Hp} {D : Addr} {i : Nat} {d : Option Addr} {z : Str} (f : Fr T [] H H') (h : AttrAt K H D i d z) : AttrAt K H' D i d z := by
  cases h with
  | none => exact .none
  | near e a b c => exact .near (f.at0 e fun _ z => nomatch z) a b c
  | full e a b c => exact .full (f.at0 e fun _ z => nomatch z) a b c
  | index e a b c => exact .index (f.at0 e fun _ z => nomatch z) a b c
/-! ### _law_told -/
abbrev sTold : Stmt := top 70
abbrev nTold : List Str := ["_law_job", "_law_gave", "_law_e", "_law_word_here"]
theorem scTold : FnScope nTold ["_law_job"] (defScope sTold) := ⟨rfl, rfl, rfl, by decide +kernel, rfl, by decide +kernel, by decide +kernel⟩
/-- what is told of an exception: its word and attribute -/
def EchT (K : PySem.W.Frag) (T : List (Addr × Str)) (c : Nat → Addr) (cW cN : Value) (Q : VK) : XK := fun cls d H => ∃ (D : Addr) (i : Nat) (z : Str), cls = .ref D ∧ DicAt H d ∧ XIs K c D i ∧ (i = 3 ∨ i = 15 ∨ i = 16 ∨ i = 20) ∧ AttrAt K H D i d z ∧ PySem.W.exmAny K cls [cW, cN] = some true ∧
  ∀ H' r, Fr T [] H H' → (∀ ch, Lv ch H → Dp K (Reg ch H') r (.tuple [.str (xNames.getD i ""), .str z])) → Q r H'
def TTold (K : PySem.W.Frag) (T : List (Addr × Str)) (c : Nat → Addr) (cW cN : Value) : (XK → Hp → VK → Prop) → Hp → VK → Prop := fun tl H Q =>
  tl (EchT K T c cW cN Q) H fun v H' => ∀ r, H' r = none → Q (.ref r) (upd H' r (.tup [.str "returned", v]))
theorem told_gives {X : Cx} {T : List (Addr × Str)} {c : Nat → Addr} {cW cN : Value} {g : Addr} {cdg : Value} {q : Str} (hW : X.mg "WrongValue" = some cW) (hN : X.mg "NoAnswer" = some cN) (hr : Room 3 X.A)
    (DS : DefC X.prog X.w X.K X.mg X.base 1 "_law_sort" ["_law_e"] (spSort X.K T c)) (DA : DefC X.prog X.w X.K X.mg X.base 1 "_law_attribute" ["_law_e", "_law_word_here"] (spAttr X.K T)) :
    LamX.GivesTo X nTold "_law_told" (defScope sTold) g cdg (defBody sTold) "_law_job" q (TTold X.K T c cW cN) := by
  intro f c' s H Q tl act hc h
  have hr' : L2H.RoomH 1 (X.A.deeper (envOfC "_law_told" (defScope sTold) s.heap.objs.size g cdg)) := L2H.roomH_of ((Room.deeper (k := 2) hr _).mono (by decide))
  refine ⟨_, pss_cons (ps_try_tup (X := (cxOf C8.CX0 X.prog X.w X.K X.mg X.base nTold "_law_told" (defScope sTold) g cdg X.A X.stack s H C8.E0).nox) (c1 := cW) (c2 := cN) (i := 2)
      (tb := fun W D σ H => ∃ Ech : XK, (∀ cls d σ' H', Ech cls d H' → W cls d σ' H') ∧ σ[0]? = some (some (.ref f)) ∧ H c' = some (LamX.CodeO c' q) ∧ ∃ Q' : VK, tl Ech H Q' ∧ ∀ v H', Q' v H' → D.nx (σ.set 1 (some v)) H')
      rfl rfl scTold.nd rfl rfl ⟨rfl, by decide, hW⟩ ⟨rfl, by decide, hN⟩ (fun W pn xe tk _ => ?_) (fun a cls d pn => pss_cons (ps_set (i := 3) scTold.nd rfl (Or.inl rfl) (pe_callDC DS ⟨hr'.dp, hr'.un⟩ (by rfl) (pa_cons (pv 2) pa_nil)))
        (pss_one (ps_ret (pe_tup (pa_cons (pv 3) (pa_cons (pe_callDC DA ⟨hr'.dp, hr'.un⟩ (by rfl) (pa_cons (pv 2) (pa_cons (pv 3) pa_nil))) pa_nil)))))))
    (pss_one (ps_ret (pe_tup (pa_cons pe_str (pa_cons (pv 1) pa_nil))))), ?_⟩
  · refine ⟨fun pins s' σ H' D I h' => ?_⟩
    obtain ⟨Ech, hW, h1, h2, Q', h3, h4⟩ := h'
    exact (pss_one (ps_set (i := 1) scTold.nd rfl (Or.inl rfl) (pe_weak (act W pn xe Ech _ _ tk hW)))).run pins s' σ H' D I ⟨Q', ⟨h1, h2, h3⟩, h4⟩
  · have sl := sizeLine_eq
    refine ⟨EchT X.K T c cW cN Q, fun cls d σ' H' he => ?_, rfl, hc, _, h, fun v H' hv => ⟨_, rfl, by show 2 ≤ sizeLine; omega, fun r nr => hv r nr⟩⟩
    obtain ⟨D, i, z, rfl, hd, xi, hi, hz, hex, hq⟩ := he
    refine ⟨hex, fun a na hl => ?_⟩
    obtain ⟨x0, x1, x2, x3, rfl⟩ : ∃ x0 x1 x2 x3, σ' = [x0, x1, x2, x3] := by
      match σ', hl with
      | [x0, x1, x2, x3], _ => exact ⟨x0, x1, x2, x3, rfl⟩
    have nx : NT (ExT (.ref D) d a) := fun _ z => nomatch z
    have nxd : ∀ {fs : List (Str × V)}, NT (.xd fs) := fun _ z => nomatch z
    have f1 : Fr T [] H' (upd H' a (ExT (.ref D) d a)) := .new na
    have ha : (upd H' a (ExT (.ref D) d a)) a = some (ExT (.ref D) d a) := upd_same
    generalize (upd H' a (ExT (.ref D) d a)) = H1 at f1 ha ⊢
    have hd1 : DicAt H1 d := by
      rcases hd with h | ⟨dd, fs, h1, h2⟩
      · exact .inl h
      · exact .inr ⟨dd, fs, h1, f1.at0 h2 nxd⟩
    refine ⟨_, rfl, a, D, d, i, rfl, ha, hd1, xi, hi, fun H2 f2 => ?_⟩
    have f12 := f1.trans f2
    refine ⟨_, rfl, _, rfl, _, rfl, a, D, d, i, z, rfl, f2.at0 ha nx, attr_fr f12 hz, fun H3 f3 => ?_⟩
    have f13 := f12.trans f3
    refine ⟨by show 2 ≤ sizeLine; omega, fun r nr => hq _ _ (f13.trans (.new nr)) fun ch lv => new_tup (f13.lv lv) nr (.cons (.str _) (.cons (.str _) .nil))⟩
end Tz
end -- W31
section -- MoveMath
set_option maxHeartbeats 4000000
namespace Tz
open PySem PySem.Spec PyProof.Rows L2 TL
/-! ### a legal move keeps each pebble's signs -/
theorem mem_fill {pose : Pose} {k : Nat} : k ∈ fillOf pose ↔ ∃ x, pose[k]? = some (some x) := ⟨fun h => ⟨_, fill_at h⟩, fun ⟨_, h⟩ => fill_mem h⟩
theorem mem_pebs {pose : Pose} {x : Str} : x ∈ pebs pose ↔ some x ∈ pose := by
  unfold pebs
  rw [List.mem_filterMap]
  exact ⟨fun ⟨o, h, e⟩ => by rw [← (show o = some x from e)]; exact h, fun h => ⟨_, h, rfl⟩⟩
theorem good_step {js : Js} {pose : Pose} {d : Str × Str} (g : GoodP pose) (hl : pose.length = js.length) (h : legalD js pose d = true) (hx : some d.1 ∈ pose) (hy : d.2 ∈ nmsOf js) : GoodP (stepD js pose d) := by
  have pm := pebs_stepD hl h hx hy
  exact goodP_of (by rw [step_len]; exact g.top) (pm.symm.nodup (good_pebs g)) fun z hz => g.names z (mem_pebs.mp (pm.mem_iff.mp hz))
section
variable {js : Js} {pose : Pose} {h t : Nat} {y : Str}
theorem mvd_h (hh : h < pose.length) : (mvd pose h t)[h]? = some none := by
  unfold mvd
  rw [List.getElem?_set_self (by rw [List.length_set]; exact hh)]
theorem mvd_t (hy : pose[h]? = some (some y)) (ht : t < pose.length) (hne : t ≠ h) : (mvd pose h t)[t]? = some (some y) := by
  unfold mvd
  rw [List.getElem?_set_ne hne.symm, List.getElem?_set_self ht, List.getD_eq_getElem?_getD, hy]
  rfl
theorem mvd_o {k : Nat} (h1 : k ≠ h) (h2 : k ≠ t) : (mvd pose h t)[k]? = pose[k]? := by
  unfold mvd
  rw [List.getElem?_set_ne h1.symm, List.getElem?_set_ne h2.symm]
theorem shift_of {n : Nat} (hn : n = pose.length) (hy : pose[h]? = some (some y)) (ht : pose[t]? = some none) : Tb.Shift n (inF (fillOf pose)) (inF (fillOf (mvd pose h t))) h t := by
  have hh := (List.getElem?_eq_some_iff.mp hy).1
  have htl := (List.getElem?_eq_some_iff.mp ht).1
  have hne : t ≠ h := fun z => by
    rw [z, hy] at ht
    cases ht
  subst hn
  refine ⟨hh, htl, hne.symm, decide_eq_true (mem_fill.mpr ⟨y, hy⟩), decide_eq_false fun z => ?_, decide_eq_false fun z => ?_, decide_eq_true (mem_fill.mpr ⟨y, mvd_t hy htl hne⟩), fun k h1 h2 => ?_⟩
  · obtain ⟨x, e⟩ := mem_fill.mp z
    rw [ht] at e
    cases e
  · obtain ⟨x, e⟩ := mem_fill.mp z
    rw [mvd_h hh] at e
    cases e
  · refine decide_eq_decide.mpr ?_
    rw [mem_fill, mem_fill, mvd_o h1 h2]
end
theorem fill_len (pose : Pose) : (fillOf pose).length = (pebs pose).length := by
  rw [pebs_all, List.length_map]
theorem sg_step {js : Js} {pose : Pose} {d : Str × Str} {L : List (List Nat)} (g : GoodP pose) (hl : pose.length = js.length) (h : legalD js pose d = true) (hx : some d.1 ∈ pose) (hy : d.2 ∈ nmsOf js)
    (hL : (trOf js).IsLong (js.length - (pebs pose).length) L) {x : Str} (hxx : some x ∈ pose) : SG (trOf js) L (stepD js pose d) x = SG (trOf js) L pose x := by
  have ht := legal_at hl h hy
  have hh := ixOf_at hx
  have hhl := (List.getElem?_eq_some_iff.mp hh).1
  have htl := (List.getElem?_eq_some_iff.mp ht).1
  have hne : ixOf d.2 (nmsOf js) ≠ ixOf (some d.1) pose := fun z => by
    rw [z, hh] at ht
    cases ht
  have sh := shift_of (n := js.length) hl.symm hh ht
  have g' := good_step g hl h hx hy
  have adj : (trOf js).Adj (ixOf (some d.1) pose) (ixOf d.2 (nmsOf js)) := by
    unfold legalD legal at h
    rw [Bool.and_eq_true] at h
    exact (Tb.Tr.mem_nb (T := trOf js) (show ixOf (some d.1) pose < js.length by omega)).mp (of_decide_eq_true h.1)
  have hho : Tb.holes js.length (inF (fillOf pose)) (fun _ => True) = js.length - (pebs pose).length := by
    rw [holes_of (fill_nd pose) fun k hk => by rw [← hl]; exact fill_lt hk, fill_len]
  have key : ∀ k k', pose[k]? = some (some x) → (stepD js pose d)[k']? = some (some x) → ∀ l ∈ L, (trOf js).sg l (inF (fillOf (stepD js pose d))) k' = (trOf js).sg l (inF (fillOf pose)) k := by
    intro k k' hk hk' l hlL
    obtain ⟨lane, hle⟩ := long_lane hL l hlL
    obtain ⟨m1, m2⟩ := Tb.sg_move (T := trOf js) (F := inF (fillOf pose)) lane sh adj (by show Tb.holes js.length _ _ ≤ _; rw [hho]; exact hle)
    by_cases e1 : k = ixOf (some d.1) pose
    · subst e1
      rw [hh] at hk
      have ex : d.1 = x := by cases hk; rfl
      have e2 : k' = ixOf d.2 (nmsOf js) := g'.nd _ _ _ hk' (by rw [← ex]; exact mvd_t hh htl hne)
      rw [e2]
      exact m2.symm
    · have e2 : k ≠ ixOf d.2 (nmsOf js) := fun z => by
        rw [z, ht] at hk
        cases hk
      have e3 : k' = k := g'.nd _ _ _ hk' (by show (mvd _ _ _)[k]? = _; rw [mvd_o e1 e2]; exact hk)
      rw [e3]
      refine (m1 k ?_ e1 e2 (decide_eq_true (mem_fill.mpr ⟨x, hk⟩))).symm
      have := (List.getElem?_eq_some_iff.mp hk).1
      show k < js.length
      omega
  have hm' : some x ∈ stepD js pose d := mem_pebs.mp ((pebs_stepD hl h hx hy).mem_iff.mpr (mem_pebs.mpr hxx))
  have hk := key _ _ (ixOf_at hxx) (ixOf_at hm')
  show PyData.tuple (L.map fun l => dSg ((trOf js).sg l (inF (fillOf (stepD js pose d))) _)) = PyData.tuple (L.map fun l => dSg ((trOf js).sg l (inF (fillOf pose)) _))
  refine congrArg PyData.tuple (List.map_congr_left fun l hl => ?_)
  rw [hk l hl]
theorem all_cong {α : Type} {f g : α → Bool} : ∀ {l : List α}, (∀ x ∈ l, f x = g x) → l.all f = l.all g
  | [], _ => rfl
  | x :: l, h => by
    rw [List.all_cons, List.all_cons, h x (List.mem_cons_self ..), all_cong fun y hy => h y (List.mem_cons_of_mem _ hy)]
/-! ### the law's own book -/
structure SOk (js : Js) (pose : Pose) (m : Nat) (st : StM) : Prop where
  ln : st.1.length = js.length
  pm : (pebs st.1).Perm (pebs pose)
  gp : GoodP st.1
  mv : ∀ d ∈ st.2, NmOk d.1 ∧ NmOk d.2
  lm : st.2.length ≤ m
  sg : ∀ L, (trOf js).IsLong (js.length - (pebs pose).length) L → ∀ x ∈ pebs pose, SG (trOf js) L st.1 x = SG (trOf js) L pose x
section
variable {js : Js} {pose : Pose} {m n : Nat} {st : StM}
theorem SOk.start (g : GoodP pose) (hl : pose.length = js.length) : SOk js pose 0 (pose, []) := ⟨hl, List.Perm.refl _, g, (fun _ z => nomatch z), Nat.le_refl _, fun _ _ _ _ => rfl⟩
theorem SOk.mono (h : SOk js pose m st) (hm : m ≤ n) : SOk js pose n st := ⟨h.ln, h.pm, h.gp, h.mv, Nat.le_trans h.lm hm, h.sg⟩
theorem SOk.step {d : Str × Str} (W : WellJ js) (h : SOk js pose m st) (hd : legalD js st.1 d = true) (hx : some d.1 ∈ st.1) (hy : d.2 ∈ nmsOf js) : SOk js pose (m + 1) (stepD js st.1 d, st.2 ++ [d]) := by
  have pm := pebs_stepD h.ln hd hx hy
  refine ⟨by show (stepD _ _ _).length = _; rw [step_len]; exact h.ln, pm.trans h.pm, good_step h.gp h.ln hd hx hy, fun e he => ?_, ?_, fun L hL x hx' => ?_⟩
  · rcases List.mem_append.mp he with z | z
    · exact h.mv e z
    · rw [List.mem_singleton.mp z]
      exact ⟨h.gp.names _ hx, nm_of W hy⟩
  · show (st.2 ++ [d]).length ≤ _
    rw [List.length_append]
    have := h.lm
    show st.2.length + 1 ≤ m + 1
    omega
  · rw [← h.sg L hL x hx']
    exact sg_step h.gp h.ln hd hx hy (by rw [h.pm.length_eq]; exact hL) (mem_pebs.mp (h.pm.mem_iff.mpr hx'))
theorem SOk.run (W : WellJ js) : ∀ (ds : Mvs) (k : Nat) (p p' : Pose) (ms : Mvs) (m : Nat), SOk js pose m (p, ms) → okRun js p ds → runFrom js k p ds = .inr p' → SOk js pose (m + ds.length) (p', ms ++ ds)
  | [], k, p, p', ms, m, h, _, hr => by
    cases hr
    rw [List.append_nil]
    exact h
  | d :: r, k, p, p', ms, m, h, ho, hr => by
    unfold runFrom at hr
    obtain ⟨o1, o2, o3⟩ := ho
    by_cases hl : legalD js p d = true
    · rw [if_pos hl] at hr
      have h1 := SOk.run W r (k + 1) _ p' (ms ++ [d]) (m + 1) (h.step W hl o1 o2) (o3 hl) hr
      rw [List.append_assoc] at h1
      rw [List.length_cons, show m + (r.length + 1) = m + 1 + r.length by omega]
      exact h1
    · rw [if_neg hl] at hr
      cases hr
theorem SOk.ok (h : SOk js pose m st) (hm : m ≤ 1000) : StOk st := ⟨h.gp.names, h.gp.top, h.mv, Nat.le_trans h.lm hm⟩
theorem SOk.cmp (h : SOk js pose m st) {L : List (List Nat)} (hL : (trOf js).IsLong (js.length - (pebs pose).length) L) (goal : Pose) : cmpS (trOf js) L st.1 goal = cmpS (trOf js) L pose goal := by
  unfold cmpS
  rw [h.pm.all_eq]
  exact all_cong fun x hx => by rw [h.sg L hL x hx]
theorem pebs_rev (p : Pose) : (pebs p.reverse).Perm (pebs p) := by
  show (List.filterMap id p.reverse).Perm _
  rw [List.filterMap_reverse]
  exact List.reverse_perm _
theorem good_rev {p : Pose} (g : GoodP p) : GoodP p.reverse := goodP_of (by rw [List.length_reverse]; exact g.top) ((pebs_rev p).symm.nodup (good_pebs g)) fun z hz => g.names z (mem_pebs.mp ((pebs_rev p).mem_iff.mp hz))
theorem SOk.here (W : WellJ js) (h : SOk js pose m st) : Both js st.1 st.1.reverse := ⟨W, h.gp, good_rev h.gp, h.ln, by rw [List.length_reverse]; exact h.ln, pebs_rev _⟩
theorem SOk.there (W : WellJ js) (g : GoodP pose) (hl : pose.length = js.length) (h : SOk js pose m st) : Both js pose st.1.reverse := ⟨W, g, good_rev h.gp, hl, by rw [List.length_reverse]; exact h.ln, (pebs_rev _).trans h.pm⟩
end
end Tz
end -- MoveMath
section -- W32
set_option maxHeartbeats 4000000
namespace Tz
open PySem PySem.Spec PyProof.Rows L2 TL
/-! ### methods and classes, by their names -/
structure MthK (P : Program) (w : World) (K : PySem.W.Frag) (mg : Str → Option Value) (base : Heap) (CX : CXT) (C : Addr) (k : Nat) (m : Str) (ps ks : List Str) (gV : List V → List V → List V) (sp : Sp) : Prop where
  ex : ∃ f fd g, Meth K C m f ∧ FnOk P w K mg base CX k f fd ps sp ∧ KBn K fd ps 1 ks g gV
structure MkD (P : Program) (w : World) (K : PySem.W.Frag) (mg : Str → Option Value) (base : Heap) (C : Addr) (k : Nat) (x : Str) (ps : List Str) (sp : Sp) : Prop where
  ex : ∃ f fd, Mk K C f ∧ FnOk P w K mg base CX0 k f fd ps sp ∧ mg x = some (.ref C) ∧ Binds K fd ps []
structure MkK (P : Program) (w : World) (K : PySem.W.Frag) (mg : Str → Option Value) (base : Heap) (C : Addr) (k : Nat) (x : Str) (ps ks : List Str) (gV : List V → List V → List V) (sp : Sp) : Prop where
  ex : ∃ f fd g, Mk K C f ∧ FnOk P w K mg base CX0 k f fd ps sp ∧ mg x = some (.ref C) ∧ KBn K fd ps 1 ks g gV
section
variable {X : Cx} {CX : CXT} {C : Addr} {k : Nat} {x m : Str} {ps ks : List Str} {gV : List V → List V → List V} {sp : Sp} {E : XK} {o e : Expr} {es : List Expr} {ta : TE} {t tk : TA} {kws : List Keyword} {p apos pos : Pos}
theorem pe_meth0X {pl : Sem Bool} (D : Mth X.prog X.w X.K X.mg X.base CX C k m ps sp) (c : Cls X.K C) (hr : Room k X.A) (hx : Passes CX X E) (ho : PE X o ta)
    (ht : eval (.Call (.Attribute o m apos) [] [] pos) X.env = (do
      let ov ← eval o X.env
      standAt apos.atName
      let (f, first) ← holding [ov] (getMethod ov m pl)
      callWith pos f first (backTo pos (starEach [] X.env)) (backToKw pos (keywordEach [] X.env))) := by rfl) : PE X (.Call (.Attribute o m apos) [] [] pos) (tMeth C m sp [] E ta tNil) := by
  obtain ⟨f, fd, hm, F, hb⟩ := D.ex
  exact pe_meth0 ho c hm F hr hb .nil hx ht
theorem pe_methKX {pl : Sem Bool} (D : MthK X.prog X.w X.K X.mg X.base CX C k m ps ks gV sp) (c : Cls X.K C) (hr : Room k X.A) (hx : Passes CX X E) (ho : PE X o ta) (hkw : PK X kws tk)
    (hall : (backToKw pos (keywordEach kws X.env)).all (·.1.isSome) = true := by rfl) (hks : (backToKw pos (keywordEach kws X.env)).filterMap (·.1) = ks := by rfl)
    (hpl : ((backTo pos (starEach [] X.env)).any (·.1) || (backToKw pos (keywordEach kws X.env)).any (·.1.isNone)) = false := by rfl)
    (ht : eval (.Call (.Attribute o m apos) [] kws pos) X.env = (do
      let ov ← eval o X.env
      standAt apos.atName
      let (f, first) ← holding [ov] (getMethod ov m pl)
      callWith pos f first (backTo pos (starEach [] X.env)) (backToKw pos (keywordEach kws X.env))) := by rfl) :
    PE X (.Call (.Attribute o m apos) [] kws pos) (tMethKw C m ks.length sp gV E ta tk) := by
  obtain ⟨f, fd, g, hm, F, hb⟩ := D.ex
  exact pe_methKw ho c hm F hr hb hx hkw hall hks hpl ht
theorem pe_makeD (D : MkD X.prog X.w X.K X.mg X.base C k x ps sp) (hr : Room (k + 1) X.A) (hg : Gl X x) (ha : PA X (e :: es) t) (hdb : (x == ("__debug__" : Str)) = false := by decide)
    (he : starEach (e :: es) X.env = (false, eval e X.env) :: starEach es X.env := by rfl) (hpl : (backTo pos (starEach es X.env)).any (·.1) = false := by rfl) : PE X (.Call (.Name x p) (e :: es) [] pos) (tMake C sp [] (fun _ _ _ => False) t) := by
  obtain ⟨f, fd, M, F, hm, hb⟩ := D.ex
  exact pe_make M F hr hg hm hb .nil pass0 ha hdb he hpl
theorem pe_makeKD (D : MkK X.prog X.w X.K X.mg X.base C k x ps ks gV sp) (hr : Room (k + 1) X.A) (hg : Gl X x) (hkw : PK X kws tk) (hall : (backToKw pos (keywordEach kws X.env)).all (·.1.isSome) = true := by rfl) (hks : (backToKw pos (keywordEach kws X.env)).filterMap (·.1) = ks := by rfl)
    (hdb : (x == ("__debug__" : Str)) = false := by decide) (hpl : ((backTo pos (starEach [] X.env)).any (·.1) || (backToKw pos (keywordEach kws X.env)).any (·.1.isNone)) = false := by rfl) :
    PE X (.Call (.Name x p) [] kws pos) (tMakeK C 0 ks.length sp gV (fun _ _ _ => False) tNil tk) := by
  obtain ⟨f, fd, g, M, F, hm, hb⟩ := D.ex
  exact pe_makeK0 M F hr hg hm hb pass0 hkw hall hks hdb hpl
/-- what may raise is called where it does not -/
theorem pass_no {X : Cx} : Passes (L2.CX X.prog X.w) X (fun _ _ _ => False) := fun _ _ _ _ _ _ _ h => by
  obtain ⟨_, _, _, _, _, _, _, _, _, _, _, _, z⟩ := h
  exact z.elim
theorem pass_lam {X : Cx} {A : Around} {outer : List Env} {s : Shared} {H : Hp} {E : XK} {scope : Scope} {f c' : Addr} : Passes (L2.CX X.prog X.w) (LamX.lamCx X A outer s H E scope f c') E :=
  passes_call (X := LamX.lamCx X A outer s H E scope f c') (W := fun cls d _ H => E cls d H) (takes_of rfl rfl rfl rfl) fun _ _ _ _ h => h
end
/-- _law_told, as it stands -/
structure ToldD (P : Program) (w : World) (K : PySem.W.Frag) (mg : Str → Option Value) (base : Heap) (T : List (Addr × Str)) (c : Nat → Addr) (cW cN : Value) : Prop where
  fn : ∃ g fd, L2.Fun K "_law_told" "_law_told" sTold g fd ∧ mg "_law_told" = some (.ref g) ∧ Binds K fd ["_law_job"] []
  hW : mg "WrongValue" = some cW
  hN : mg "NoAnswer" = some cN
  ds : DefC P w K mg base 1 "_law_sort" ["_law_e"] (spSort K T c)
  da : DefC P w K mg base 1 "_law_attribute" ["_law_e", "_law_word_here"] (spAttr K T)
theorem pe_told {X : Cx} {T : List (Addr × Str)} {c : Nat → Addr} {cW cN : Value} {cd tb : Addr} {k : Nat} {params : Arguments} {body : Expr} {scope : Scope} {t : XK → TE} {p lpos pos : Pos} (D : ToldD X.prog X.w X.K X.mg X.base T c cW cN) (hg : Gl X "_law_told")
    (TB : LamX.TabB X.base X.mg cd tb) (hcode : X.env.code = .ref cd) (hmT : (tb, X.env.qual ++ "<lambda>") ∈ T) (hu : ∀ p ∈ T, p.1 = tb → p.2 = X.env.qual ++ "<lambda>") (hr : Room (k + 3) X.A) (L : LamX.LamS X.env.scope scope) (hdef : defaultsOf params X.env = ([], []))
    (hbind : ∀ (q : Str) (cl : List (Str × Addr)) (pm cv ctv : Value), bindArgs (PySem.W.kla_fn "<lambda>" q params body scope cl pm cv ctv) ⟨[], []⟩ = pure [])
    (hbody : ∀ (A : Around) (outer : List Env) (s : Shared) (H : Hp) (E : XK) (f c' : Addr), Room k (A.deeper (LamX.lamEnv X scope s.heap.objs.size f c')) → PE (LamX.lamCx X A outer s H E scope f c') body (t E)) :
    PE X (.Call (.Name "_law_told" p) [.Lambda params body scope lpos] [] pos) (LamX.tLam T (TTold X.K T c cW cN) t) := by
  obtain ⟨g, fd, FT, hm, hb⟩ := D.fn
  obtain ⟨oc, od, kV, doc, pm, an, cdv, ct, osl, rfl, lk, hcd⟩ := FT.ex
  exact LamX.pe_lamcall hg hm FT.kp lk hcd hb scTold rfl (.inl rfl) (told_gives D.hW D.hN (hr.mono (by omega)) D.ds D.da) TB hcode hmT hu (hr.mono (by omega)) L hdef hbind hbody
/-! ### the parts of _law_right -/
abbrev sRight : Stmt := top 75
abbrev nRight : List Str := ["_law_purse_here", "_law_many", "_law_joints_here", "_law_wood", "_law_links_here", "_law_pose", "_law_state", "_law_past", "_law_turn", "_law_way_here", "_law_due", "_law_later", "_law_bad", "_law_goal_here", "_law_deed_here", "_law_deeds", "_law_game"]
theorem scRight : FnScope nRight ["_law_purse_here"] (defScope sRight) := ⟨rfl, rfl, rfl, by decide +kernel, rfl, by decide +kernel, by decide +kernel⟩
def inFor : Stmt → List Stmt
  | .For _ _ b _ _ => b
  | _ => []
def inIf : Stmt → List Stmt
  | .If _ a _ _ => a
  | _ => []
def inElse : Stmt → List Stmt
  | .If _ _ b _ => b
  | _ => []
def nth (l : List Stmt) (i : Nat) : Stmt := l.getD i (.Pass ⟨0, 0, 0, 0⟩)
def brIf : Stmt := nth (inFor (nth (defBody sRight) 5)) 1
def brU : List Stmt := inIf brIf
def brL : List Stmt := inIf (nth (inElse brIf) 0)
def brM : List Stmt := inElse (nth (inElse brIf) 0)
abbrev XR (P : Program) (w : World) (K : PySem.W.Frag) (mg : Str → Option Value) (base : Heap) (f cd : Addr) (A : Around) (outer : List Env) (s : Shared) (H : Hp) (E : XK) : Cx := (cxOf CX0 P w K mg base nRight "_law_right" (defScope sRight) f (.ref cd) A outer s H E).nox
end Tz
end -- W32
section -- W33
set_option maxHeartbeats 4000000
namespace Tz
open PySem PySem.Spec PyProof.Rows L2 TL
/-- all that _law_right calls -/
structure RF (P : Program) (w : World) (K : PySem.W.Frag) (mg : Str → Option Value) (base : Heap) (T : List (Addr × Str)) (c : Nat → Addr) (CT CB CN CE CI CU cd tb : Addr) (cW cN : Value) : Prop where
  B : Blt mg
  TB : LamX.TabB base mg cd tb
  hmT : (tb, ("_law_right" : Str) ++ ".<locals>." ++ "<lambda>") ∈ T
  hu : ∀ p ∈ T, p.1 = tb → p.2 = ("_law_right" : Str) ++ ".<locals>." ++ "<lambda>"
  told : ToldD P w K mg base T c cW cN
  draw : Def P w K mg base 1 "_law_draw" ["_law_purse_here", "_law_many"] (spDraw T)
  joints : Def P w K mg base 3 "_law_joints" ["_law_purse_here", "_law_many"] (spLJ K T)
  line : Def P w K mg base 1 "_law_line" ["_law_joints_here"] (spLine K T)
  links : Def P w K mg base 1 "_law_links" ["_law_joints_here"] (spLinks K T)
  stand : Def P w K mg base 3 "_law_standing" ["_law_purse_here", "_law_many", "_law_gaps"] (spStand K T)
  row : Def P w K mg base 4 "_law_row" ["_law_purse_here", "_law_joints_here", "_law_links_here", "_law_pose"] (spLRow K T)
  deed : Def P w K mg base 3 "_law_deed" ["_law_purse_here", "_law_joints_here", "_law_links_here", "_law_pose"] (spDeed K T)
  after : Def P w K mg base 2 "_law_after" ["_law_joints_here", "_law_links_here", "_law_pose", "_law_deed_here"] (spLAfter K T)
  is_ : DefG P w K mg base 5 "_law_is" ["_law_game", "_law_wood", "_law_state", "_law_past"] (spIs K T CT CB)
  comes : Def P w K mg base 8 "comes" ["tree", "standing", "goal"] (spComes K T CT)
  tree : MkD P w K mg base CT 3 "Tree" ["self", "text"] (spTInit K T CT)
  board : MkD P w K mg base CB 4 "Board" ["self", "tree", "standing"] (spBInit K T CT CB)
  boardK : MkK P w K mg base CB 4 "Board" ["self", "tree", "standing"] ["standing", "tree"] (fun vs zs => vs ++ zs.reverse) (spBInit K T CT CB)
  bc : BoardC P w K mg base CB
  eqB : EqDef K CB
  undo : Mth P w K mg base (L2.CX P w) CB 1 "undo" ["self"] (spUndo K T CT CB CU)
  lead : MthK P w K mg base (L2.CX P w) CB 4 "lead" ["self", "moves"] ["moves"] (fun vs zs => vs ++ zs) (spLead K T CT CB CI)
  move : MthK P w K mg base (L2.CX P w) CB 4 "move" ["self", "pebble", "place"] ["place", "pebble"] (fun vs zs => vs ++ zs.reverse) (spMove K T CT CB CN CE)
  can : MthK P w K mg base CX0 CB 8 "can_become" ["self", "goal"] ["goal"] (fun vs zs => vs ++ zs) (spCan K T CT CB)
  xi : XIs K c CI 3 ∧ XfC K CI ∧ PySem.W.findIn K (.ref CI) "given" = some none ∧ PySem.W.exmAny K (.ref CI) [cW, cN] = some true
  xn : XIs K c CN 15 ∧ XfC K CN ∧ PySem.W.findIn K (.ref CN) "place" = some none ∧ PySem.W.exmAny K (.ref CN) [cW, cN] = some true
  xe : XIs K c CE 16 ∧ XfC K CE ∧ PySem.W.findIn K (.ref CE) "place" = some none ∧ PySem.W.exmAny K (.ref CE) [cW, cN] = some true
  xu : XIs K c CU 20 ∧ PySem.W.exmAny K (.ref CU) [cW, cN] = some true
section
variable {P : Program} {w : World} {K : PySem.W.Frag} {mg : Str → Option Value} {base : Heap} {T : List (Addr × Str)} {c : Nat → Addr} {CT CB CN CE CI CU cd tb : Addr} {cW cN : Value}
/-- what stays the same through a case -/
structure Stat (K : PySem.W.Frag) (T : List (Addr × Str)) (CT : Addr) (js : Js) (pose : Pose) (pa bd pp : Addr) (vj vb vl : V) (H : Hp) : Prop where
  lv : Lv [bd, pa] H
  tabs : LamX.Tabs T H
  pu : Pu H pa
  dj : Dp K (Reg [bd, pa] H) vj (.list (dJl js))
  dl : Dp K (Reg [bd, pa] H) vl (.list (dL js))
  tr : TreeAt K CT (Reg [bd, pa] H) vb js
  fp : Fz (Reg [bd, pa] H) pp (vNs pose)
/-- the law's book and the board, after n turns -/
structure Dyn (K : PySem.W.Frag) (CT CB : Addr) (js : Js) (pose : Pose) (pa bd : Addr) (vb : V) (n : Nat) (st : StM) (past : List StM) (vst : V) (pl : Addr) (H : Hp) : Prop where
  bo : BoardAt K CT CB H [bd, pa] bd vb js st past
  hs : StAt K (Reg [bd, pa] H) vst st
  hp : ∃ xs, Reg [bd, pa] H pl = some (.lst xs) ∧ AllSt K (Reg [bd, pa] H) xs past
  ok : SOk js pose (4 * n) st
  oks : ∀ s ∈ past, SOk js pose (4 * n) s
  len : past.length ≤ n
/-- the case's own numbers -/
structure Nums (js : Js) (pose : Pose) (pa bd : Addr) : Prop where
  W : WellJ js
  h2 : 2 ≤ js.length
  g : GoodP pose
  hl : pose.length = js.length
  h1 : 1 ≤ (pebs pose).length
  ne : pa ≠ bd
section
variable {js : Js} {pose : Pose} {pa bd pp pl : Addr} {vj vb vl vst : V} {n : Nat} {st : StM} {past : List StM} {W : List Addr} {H H' : Hp}
theorem Stat.fr (f : Fr T W H H') (h : ∀ b ∈ W, b ∈ [bd, pa]) (p : Pu H' pa) (S : Stat K T CT js pose pa bd pp vj vb vl H) : Stat K T CT js pose pa bd pp vj vb vl H' :=
  ⟨f.lv S.lv, f.tabs S.tabs, p, Same.dp (f.reg h) S.dj, Same.dp (f.reg h) S.dl, Same.tree (f.reg h) S.tr, Same.fz (f.reg h) S.fp⟩
theorem Stat.fr0 (f : Fr T [] H H') (S : Stat K T CT js pose pa bd pp vj vb vl H) : Stat K T CT js pose pa bd pp vj vb vl H' := S.fr f (fun _ z => nomatch z) (f.pu S.pu)
theorem Stat.frP (f : Fr T [pa] H H') (p : Pu H' pa) (S : Stat K T CT js pose pa bd pp vj vb vl H) : Stat K T CT js pose pa bd pp vj vb vl H' := S.fr f (fun b hb => by rw [List.mem_singleton.mp hb]; exact List.mem_cons_of_mem _ (List.mem_cons_self ..)) p
theorem Stat.frB (ne : pa ≠ bd) (f : Fr T [bd] H H') (S : Stat K T CT js pose pa bd pp vj vb vl H) : Stat K T CT js pose pa bd pp vj vb vl H' := S.fr f (fun b hb => by rw [List.mem_singleton.mp hb]; exact List.mem_cons_self ..) (by
  obtain ⟨a, b, h1, h2, e⟩ := S.pu
  exact ⟨a, b, h1, h2, f.keep pa _ (fun z => ne (List.mem_singleton.mp z)) e nt_lst⟩)
theorem Dyn.fr (f : Fr T W H H') (h : ∀ b ∈ W, b ∈ [bd, pa]) (nb : bd ∉ W) (D : Dyn K CT CB js pose pa bd vb n st past vst pl H) : Dyn K CT CB js pose pa bd vb n st past vst pl H' := by
  obtain ⟨xs, h1, h2⟩ := D.hp
  exact ⟨f.board h nb D.bo, same_st (f.reg h) D.hs, ⟨xs, f.reg h _ _ h1, same_sts (f.reg h) h2⟩, D.ok, D.oks, D.len⟩
theorem Dyn.fr0 (f : Fr T [] H H') (D : Dyn K CT CB js pose pa bd vb n st past vst pl H) : Dyn K CT CB js pose pa bd vb n st past vst pl H' := D.fr f (fun _ z => nomatch z) (fun z => nomatch z)
theorem Dyn.frP (ne : pa ≠ bd) (f : Fr T [pa] H H') (D : Dyn K CT CB js pose pa bd vb n st past vst pl H) : Dyn K CT CB js pose pa bd vb n st past vst pl H' := D.fr f (fun b hb => by rw [List.mem_singleton.mp hb]; exact List.mem_cons_of_mem _ (List.mem_cons_self ..)) fun z => ne (List.mem_singleton.mp z).symm
theorem Dyn.book (f : Fr T W H H') (h : ∀ b ∈ W, b ∈ [bd, pa]) (D : Dyn K CT CB js pose pa bd vb n st past vst pl H) : StAt K (Reg [bd, pa] H') vst st ∧ ∃ xs, Reg [bd, pa] H' pl = some (.lst xs) ∧ AllSt K (Reg [bd, pa] H') xs past := by
  obtain ⟨xs, h1, h2⟩ := D.hp
  exact ⟨same_st (f.reg h) D.hs, xs, f.reg h _ _ h1, same_sts (f.reg h) h2⟩
theorem Dyn.dpP (D : Dyn K CT CB js pose pa bd vb n st past vst pl H) : Dp K H (.ref pl) (.list (past.map dSt)) := by
  obtain ⟨xs, h1, h2⟩ := D.hp
  exact .lst (.inl (.inl (reg_same _ _ h1))) (dps_in h2.dps)
theorem Dyn.next (D : Dyn K CT CB js pose pa bd vb n st past vst pl H) : Dyn K CT CB js pose pa bd vb (n + 1) st past vst pl H := ⟨D.bo, D.hs, D.hp, D.ok.mono (by omega), fun s hs => (D.oks s hs).mono (by omega), by have := D.len; omega⟩
end
/-- a branch: the book and the board are led on alike -/
def tBr (K : PySem.W.Frag) (T : List (Addr × Str)) (CT CB : Addr) : TS := fun D σ H => ∃ (js : Js) (pose : Pose) (pa bd pp pl : Addr) (vj vb vl vst : V) (n : Nat) (st : StM) (past : List StM) (m t y : V) (x10 x11 x12 x13 x14 x15 : Option V),
  σ = [some (.ref pa), some m, some vj, some vb, some vl, some (.ref pp), some vst, some (.ref pl), some t, some y, x10, x11, x12, x13, x14, x15, some (.ref bd)] ∧ Nums js pose pa bd ∧ n ≤ 18 ∧ Stat K T CT js pose pa bd pp vj vb vl H ∧ Dyn K CT CB js pose pa bd vb n st past vst pl H ∧
  ∀ (H' : Hp) (pl' : Addr) (vst' : V) (st' : StM) (past' : List StM) (x10 x11 x12 x13 x14 x15 : Option V), Fr T [bd, pa] H H' → Stat K T CT js pose pa bd pp vj vb vl H' → Dyn K CT CB js pose pa bd vb (n + 1) st' past' vst' pl' H' →
    D.nx [some (.ref pa), some m, some vj, some vb, some vl, some (.ref pp), some vst', some (.ref pl'), some t, some y, x10, x11, x12, x13, x14, x15, some (.ref bd)] H'
theorem past_plain (past : List StM) : (PyData.list (past.map dSt)).plain = true := plain_map dSt_plain past
theorem past_depth (past : List StM) : (PyData.list (past.map dSt)).depth ≤ 60 := by
  have := depth_map dSt_depth past
  simp only [PyData.depth]
  omega
theorem pss_to {X : Cx} {st : List Stmt} {t t' : TS} (h : PSs X st t) (w : ∀ D σ H, t' D σ H → t D σ H) : PSs X st t' := ⟨fun pins s σ H D I q => h.run pins s σ H D I (w D σ H q)⟩
theorem nil_or_snoc {α : Type} (l : List α) : l = [] ∨ ∃ p s, l = p ++ [s] := by
  by_cases h : l = []
  · exact .inl h
  · exact .inr ⟨_, _, (List.dropLast_concat_getLast h).symm⟩
theorem two_depth (a b : Str) : (PyData.tuple [.str a, .str b]).depth ≤ 60 := by simp [PyData.depth, PyData.depthAll]
theorem ret_depth : (PyData.tuple [.str "returned", .none]).depth ≤ 60 := by simp [PyData.depth, PyData.depthAll]
theorem due_eq {d : PyData} (h : d.plain = true) : (!PyData.eqv d d) = false := by rw [SeqAt.eqv_refl_plain _ h]; rfl
theorem br_undo {f : Addr} {A : Around} {outer : List Env} {s : Shared} {H : Hp} {E : XK} (R : RF P w K mg base T c CT CB CN CE CI CU cd tb cW cN) (hr : Room 8 (XR P w K mg base f cd A outer s H E).A) : PSs (XR P w K mg base f cd A outer s H E) brU (tBr K T CT CB) := by
  have hu64 : (XR P w K mg base f cd A outer s H E).A.units + 64 < cLine := by have := hr.un; omega
  refine pss_to (pss_cons (ps_set (i := 10) scRight.nd rfl (Or.inl rfl) (pe_ifExp (pt_cmpR (op_neP hu64) (pv 7) (pe_lst pa_nil) (nomark _)) (pe_tup (pa_cons pe_str (pa_cons pe_non pa_nil))) (pe_tup (pa_cons pe_str (pa_cons pe_str pa_nil)))))
    (pss_cons (ps_if (pt_cmpR (op_neP hu64) (pe_told (k := 1) R.told (by rfl) R.TB rfl R.hmT R.hu (hr.mono (by decide)) (show LamX.LamS (defScope sRight) _ from LamX.lamS_by (by decide +kernel)) rfl (fun _ _ _ _ _ => rfl) (fun A outer s H E f c' hr => pe_meth0X R.undo R.bc.f.cl hr pass_lam (pv 16))) (pv 10) (nomark _)) (pss_one (ps_ret pe_bl)) pss_nil)
    (pss_one (ps_asg (pe_ifExp (pt_cmpR (op_neP hu64) (pv 7) (pe_lst pa_nil) (nomark _)) (pe_tup (pa_cons (pe_ix ix_list (pv 7) (pe_un un_neg pe_int) (fun _ _ => rfl)) (pa_cons (pe_slice sl_list (pv 7) po_none (po_some (pe_un un_neg pe_int))) pa_nil))) (pe_tup (pa_cons (pv 6) (pa_cons (pv 7) pa_nil))))
      (pg_tup rfl (pgs_cons (pg_name (i := 6) scRight.nd rfl (.inl rfl)) (pgs_cons (pg_name (i := 7) scRight.nd rfl (.inl rfl)) pgs_nil))))))) ?_
  rintro D σ H0 ⟨js, pose, pa, bd, pp, pl, vj, vb, vl, vst, n, st, past, m, t, y, x10, x11, x12, x13, x14, x15, rfl, N, hn, S, Dy, q⟩
  have sl := sizeLine_eq
  have hbd : bd ∈ [bd, pa] := List.mem_cons_self ..
  rcases nil_or_snoc past with rfl | ⟨past', st', rfl⟩
  · refine ⟨_, rfl, Nat.zero_le _, fun l0 nl0 => ⟨_, _, (Dy.fr0 (T := T) (.new nl0)).dpP, .lst (.inl (.inl upd_same)) .nil, past_plain _, rfl, past_depth _, _, rfl, iteF' rfl ?_⟩⟩
    have f1 : Fr T [] H0 (upd H0 l0 (.lst [])) := .new nl0
    generalize (upd H0 l0 (.lst [])) = H1 at f1 ⊢
    refine ⟨by show 2 ≤ sizeLine; omega, fun du ndu => ?_⟩
    have f2 : Fr T [] H0 (upd H1 du (.tup [.str "NothingToUndo", .str ""])) := f1.trans (.new ndu)
    have d2 : Dp K (Reg [bd, pa] (upd H1 du (.tup [.str "NothingToUndo", .str ""]))) (.ref du) (.tuple [.str "NothingToUndo", .str ""]) := new_tup (f1.lv S.lv) ndu (.cons (.str _) (.cons (.str _) .nil))
    generalize (upd H1 du (.tup [.str "NothingToUndo", .str ""])) = H2 at f2 d2 ⊢
    refine ⟨f2.tabs S.tabs, fun H3 e3 t3 => ?_⟩
    have f3 : Fr T [] H2 H3 := .of_ext e3 t3
    have f03 := f2.trans f3
    have bo3 := f03.board0 Dy.bo
    obtain ⟨dx, v1, q0, vs, eb, hb2, hb3, hb4, hb5⟩ := id bo3
    refine ⟨_, rfl, bd, dx, _, rfl, eb, bF_no (by decide) (by decide) (by decide), js, [bd, pa], bd, vb, st, [], rfl, f03.lv S.lv, hbd, bo3, (fun p' s' e => ?_), fun _ H4 f4 => ?_⟩
    · exact absurd e (by simp)
    · refine ⟨CU, 20, "", rfl, .inl rfl, R.xu.1, .inr (.inr (.inr rfl)), .none, R.xu.2, fun H5 r f5 hr5 => ?_⟩
      have f25 := (f3.trans f4).trans f5
      refine ⟨_, rfl, .tuple [.str "NothingToUndo", .str ""], _, dp_in (hr5 [bd, pa] ((f03.trans f4).lv S.lv)), dp_in (Same.dp f25.reg0 d2), rfl, rfl, two_depth _ _, _, rfl, iteF' (due_eq rfl) ?_⟩
      have f05 := f2.trans f25
      refine ⟨_, rfl, Nat.zero_le _, fun l1 nl1 => ⟨_, _, (Dy.fr0 (T := T) (f05.trans (.new nl1))).dpP, .lst (.inl (.inl upd_same)) .nil, past_plain _, rfl, past_depth _, _, rfl, iteF' rfl ?_⟩⟩
      have f6 : Fr T [] H0 (upd H5 l1 (.lst [])) := f05.trans (.new nl1)
      generalize (upd H5 l1 (.lst [])) = H6 at f6 ⊢
      refine ⟨_, rfl, _, rfl, by show 2 ≤ sizeLine; omega, fun tp ntp => ?_⟩
      have f7 : Fr T [] H0 (upd H6 tp (.tup [vst, .ref pl])) := f6.trans (.new ntp)
      exact ⟨tp, _, rfl, .inl (.inl upd_same), rfl, _, _, rfl, _, _, rfl, rfl, q _ _ _ _ _ _ _ _ _ _ _ f7.nil (S.fr0 f7) (Dy.fr0 f7).next⟩
  · have nep : PyData.eqv (.list ((past' ++ [st']).map dSt)) (.list []) = false := by cases past' <;> rfl
    refine ⟨_, rfl, Nat.zero_le _, fun l0 nl0 => ⟨_, _, (Dy.fr0 (T := T) (.new nl0)).dpP, .lst (.inl (.inl upd_same)) .nil, past_plain _, rfl, past_depth _, _, rfl, iteT' (by rw [nep]; rfl) ?_⟩⟩
    have f1 : Fr T [] H0 (upd H0 l0 (.lst [])) := .new nl0
    generalize (upd H0 l0 (.lst [])) = H1 at f1 ⊢
    refine ⟨by show 2 ≤ sizeLine; omega, fun du ndu => ?_⟩
    have f2 : Fr T [] H0 (upd H1 du (.tup [.str "returned", .non])) := f1.trans (.new ndu)
    have d2 : Dp K (Reg [bd, pa] (upd H1 du (.tup [.str "returned", .non]))) (.ref du) (.tuple [.str "returned", .none]) := new_tup (f1.lv S.lv) ndu (.cons (.str _) (.cons .non .nil))
    generalize (upd H1 du (.tup [.str "returned", .non])) = H2 at f2 d2 ⊢
    refine ⟨f2.tabs S.tabs, fun H3 e3 t3 => ?_⟩
    have f3 : Fr T [] H2 H3 := .of_ext e3 t3
    have f03 := f2.trans f3
    have bo3 := f03.board0 Dy.bo
    obtain ⟨dx, v1, q0, vs, eb, hb2, hb3, hb4, hb5⟩ := id bo3
    refine ⟨_, rfl, bd, dx, _, rfl, eb, bF_no (by decide) (by decide) (by decide), js, [bd, pa], bd, vb, st, past' ++ [st'], rfl, f03.lv S.lv, hbd, bo3, (fun p' s' e H4 f4 bo4 => ?_), fun e => absurd e (by simp)⟩
    obtain ⟨rfl, e2⟩ := List.append_inj' e rfl
    cases e2
    intro r nr
    have f5 : Fr T [bd] H3 (upd H4 r (.tup [.str "returned", .non])) := f4.trans (.new nr)
    have bo5 := (Fr.new (T := T) (W := []) (o := .tup [.str "returned", .non]) nr).board0 bo4
    have dr5 : Dp K (Reg [bd, pa] (upd H4 r (.tup [.str "returned", .non]))) (.ref r) (.tuple [.str "returned", .none]) := new_tup ((f03.nil.trans f4).lv S.lv) nr (.cons (.str _) (.cons .non .nil))
    generalize (upd H4 r (.tup [.str "returned", .non])) = H5 at f5 bo5 dr5 ⊢
    have sub : ∀ b ∈ [bd], b ∈ [bd, pa] := fun b hb => by rw [List.mem_singleton.mp hb]; exact hbd
    have f25 : Fr T [bd] H2 H5 := f3.nil.trans f5
    have f05 : Fr T [bd] H0 H5 := f03.nil.trans f5
    refine ⟨_, rfl, _, _, dp_in dr5, dp_in (Same.dp (f25.reg sub) d2), rfl, rfl, ret_depth, _, rfl, iteF' (due_eq rfl) ?_⟩
    have S5 := S.frB N.ne f05
    obtain ⟨hs5, xs, hx1, hx2⟩ := Dy.book f05 sub
    refine ⟨_, rfl, Nat.zero_le _, fun l1 nl1 => ⟨_, _, .lst (.inl (.inl (same_new nl1 _ _ (reg_same _ _ hx1)))) (Same.dps (same_new nl1) (dps_in hx2.dps)), .lst (.inl (.inl upd_same)) .nil, past_plain _, rfl, past_depth _, _, rfl, iteT' (by rw [nep]; rfl) ?_⟩⟩
    have f6 : Fr T [] H5 (upd H5 l1 (.lst [])) := .new nl1
    generalize (upd H5 l1 (.lst [])) = H6 at f6 ⊢
    obtain ⟨ws, u, rfl, hws, hu⟩ := hx2.unsnoc
    have hl6 : SqL K H6 pl (ws ++ [u]) := f6.sqL0 (.inl (.inl (reg_same _ _ hx1)))
    refine ⟨_, rfl, 1, rfl, pl, _, -1, u, rfl, rfl, hl6, atI_last _ _, ?_⟩
    refine ⟨_, rfl, 1, rfl, -1, rfl, pl, _, rfl, hl6, fun l2 nl2 => ?_⟩
    rw [cutm]
    have f7 : Fr T [] H5 (upd H6 l2 (.lst ws)) := f6.trans (.new nl2)
    have hl7 : Reg [bd, pa] (upd H6 l2 (.lst ws)) l2 = some (.lst ws) := reg_in ((f6.lv S5.lv).fresh nl2) upd_same nt_lst
    generalize (upd H6 l2 (.lst ws)) = H7 at f7 hl7 ⊢
    refine ⟨by show 2 ≤ sizeLine; omega, fun tp ntp => ?_⟩
    have f78 : Fr T [] H7 (upd H7 tp (.tup [u, .ref l2])) := .new ntp
    have f58 := f7.trans f78
    have f08 : Fr T [bd] H0 (upd H7 tp (.tup [u, .ref l2])) := f05.trans f58.nil
    refine ⟨tp, _, rfl, .inl (.inl upd_same), rfl, _, _, rfl, _, _, rfl, rfl, q _ _ _ _ _ _ _ _ _ _ _ (f08.wide sub) (S5.fr0 f58) (Dyn.next ⟨f58.board0 bo5, same_st f58.reg0 hu, ⟨ws, f78.reg0 _ _ hl7, same_sts f58.reg0 hws⟩, Dy.oks _ (List.mem_append_right _ (List.mem_singleton.mpr rfl)), fun s hs => Dy.oks s (List.mem_append_left _ hs), ?_⟩)⟩
    have := Dy.len
    rw [List.length_append] at this
    omega
end
end Tz
end -- W33
section -- W34
set_option maxHeartbeats 4000000
namespace Tz
open PySem PySem.Spec PyProof.Rows L2 TL
section
variable {P : Program} {w : World} {K : PySem.W.Frag} {mg : Str → Option Value} {base : Heap} {T : List (Addr × Str)} {c : Nat → Addr} {CT CB CN CE CI CU cd tb : Addr} {cW cN : Value}
/-- the law's book with one more state: the new state and the past are laid -/
theorem book_new {js : Js} {pose : Pose} {pa bd pl p sa ts l2 : Addr} {vb v2 : V} {n : Nat} {st st' : StM} {past : List StM} {vst : V} {H0 H : Hp} {xs : List V} (T : List (Addr × Str)) (D0 : Dyn K CT CB js pose pa bd vb n st past vst pl H0) (lv : Lv [bd, pa] H)
    (bo : BoardAt K CT CB H [bd, pa] bd vb js st' (past ++ [st])) (hp : Fz (Reg [bd, pa] H) p (vNs st'.1)) (h2 : Dp K (Reg [bd, pa] H) v2 (dMs st'.2)) (ok : SOk js pose (4 * (n + 1)) st') (hx2 : AllSt K (Reg [bd, pa] H) xs past) (hs1 : StAt K (Reg [bd, pa] H) (.ref sa) st)
    (hts : Reg [bd, pa] H ts = some (.tup [.ref p, v2])) (nl : H l2 = none) : Dyn K CT CB js pose pa bd vb (n + 1) st' (past ++ [st]) (.ref ts) l2 (upd H l2 (.lst (xs ++ [.ref sa]))) := by
  have f2 : Fr T [] H (upd H l2 (.lst (xs ++ [.ref sa]))) := .new nl
  refine ⟨f2.board0 bo, ⟨ts, p, v2, rfl, .inl (.inl (f2.reg0 _ _ hts)), Same.fz f2.reg0 hp, Same.dp f2.reg0 h2⟩, ⟨_, reg_in (lv.fresh nl) upd_same nt_lst, (same_sts f2.reg0 hx2).snoc (same_st f2.reg0 hs1)⟩, ok, fun s hs => ?_, ?_⟩
  · rcases List.mem_append.mp hs with z | z
    · exact (D0.oks s z).mono (by omega)
    · rw [List.mem_singleton.mp z]
      exact D0.ok.mono (by omega)
  · rw [List.length_append]
    have := D0.len
    show past.length + 1 ≤ n + 1
    omega
theorem br_move {f : Addr} {A : Around} {outer : List Env} {s : Shared} {H : Hp} {E : XK} (R : RF P w K mg base T c CT CB CN CE CI CU cd tb cW cN) (hr : Room 8 (XR P w K mg base f cd A outer s H E).A) : PSs (XR P w K mg base f cd A outer s H E) brM (tBr K T CT CB) := by
  have hu64 : (XR P w K mg base f cd A outer s H E).A.units + 64 < cLine := by have := hr.un; omega
  refine pss_to (pss_cons (ps_set (i := 14) scRight.nd rfl (Or.inr rfl) (pe_callD R.deed (hr.mono (by decide)) (by rfl) (pa_cons (pv 0) (pa_cons (pv 2) (pa_cons (pv 4) (pa_cons (pe_ix ix_tup (pv 6) pe_int (fun _ _ => rfl)) pa_nil))))))
    (pss_cons (ps_asg (pe_callD R.after (hr.mono (by decide)) (by rfl) (pa_cons (pv 2) (pa_cons (pv 4) (pa_cons (pe_ix ix_tup (pv 6) pe_int (fun _ _ => rfl)) (pa_cons (pv 14) pa_nil))))) (pg_tup rfl (pgs_cons (pg_name (i := 11) scRight.nd rfl (.inl rfl)) (pgs_cons (pg_name (i := 10) scRight.nd rfl (.inl rfl)) pgs_nil))))
    (pss_cons (ps_if (pt_cmpR (op_neP hu64) (pe_told (k := 4) R.told (by rfl) R.TB rfl R.hmT R.hu (hr.mono (by decide)) (show LamX.LamS (defScope sRight) _ from LamX.lamS_by (by decide +kernel)) rfl (fun _ _ _ _ _ => rfl)
      (fun A outer s H E f c' hr => pe_methKX R.move R.bc.f.cl hr pass_lam (pv 16) (pk_cons (pe_ix (show IxR _ (rIxT K) from ix_tup) (pv 14) pe_int (fun _ _ => rfl)) (pk_cons (pe_ix (show IxR _ (rIxT K) from ix_tup) (pv 14) pe_int (fun _ _ => rfl)) pk_nil)))) (pv 10) (nomark _)) (pss_one (ps_ret pe_bl)) pss_nil)
    (pss_one (ps_if (pt_cmpR op_notN (pv 11) pe_non (nomark _)) (pss_one (ps_par (i := 6) (j := 7) (by rfl) scRight.nd rfl rfl (by decide) rfl rfl (pa_cons (pe_tup (pa_cons (pv 11) (pa_cons (pe_op op_catA (pe_ix ix_tup (pv 6) pe_int (fun _ _ => rfl)) (pe_tup (pa_cons (pv 14) pa_nil))) pa_nil))) (pa_cons (pe_op op_cat (pv 7) (pe_lst (pa_cons (pv 6) pa_nil))) pa_nil)) (by rfl))) pss_nil))))) ?_
  rintro D σ H0 ⟨js, pose, pa, bd, pp, pl, vj, vb, vl, vst, n, st, past, m, t, y, x10, x11, x12, x13, x14, x15, rfl, N, hn, S, Dy, q⟩
  have sl := sizeLine_eq
  have hbd : bd ∈ [bd, pa] := List.mem_cons_self ..
  have hpa : pa ∈ [bd, pa] := List.mem_cons_of_mem _ (List.mem_cons_self ..)
  have subB : ∀ b ∈ [bd], b ∈ [bd, pa] := fun b hb => by rw [List.mem_singleton.mp hb]; exact hbd
  have subP : ∀ b ∈ [pa], b ∈ [bd, pa] := fun b hb => by rw [List.mem_singleton.mp hb]; exact hpa
  obtain ⟨sa, sp, sv2, rfl, hsa, hsp, hsv⟩ := id Dy.hs
  refine ⟨_, rfl, _, rfl, _, rfl, _, rfl, sa, _, 0, _, rfl, rfl, Same.seqT reg_same hsa, atI_nat (j := 0) rfl, js, [bd, pa], pa, sp, vj, vl, st.1, rfl, N.W, N.h2, S.lv, hpa, S.dj, S.dl, hsp, Dy.ok.ln, by rw [Dy.ok.pm.length_eq]; exact N.h1, S.pu, fun H1 dq d f1 hdq hdx hdy pu1 => ?_⟩
  have S1 := S.frP f1 pu1
  have D1 := Dy.frP N.ne f1
  have hsa1 := Same.seqT (f1.reg subP) hsa
  have hsp1 := Same.fz (f1.reg subP) hsp
  have hsv1 := Same.dp (f1.reg subP) hsv
  refine ⟨_, rfl, _, rfl, _, rfl, sa, _, 0, _, rfl, rfl, Same.seqT reg_same hsa1, atI_nat (j := 0) rfl, _, rfl, js, [bd, pa], vj, vl, sp, dq, st.1, d, rfl, N.W, S1.lv, S1.dj, S1.dl, Same.fz reg_same hsp1, Dy.ok.ln, Same.seqT reg_same hdq, hdx, hdy, fun leg H2 aq p2 du f2 haq fz2 hdu => ?_, fun nl H2 aq du f2 haq hdu => ?_⟩
  · refine ⟨aq, _, rfl, Same.seqT reg_same haq, rfl, _, _, rfl, _, _, rfl, rfl, ?_⟩
    have S2 := S1.fr0 f2
    refine ⟨S2.tabs, fun H3 e3 t3 => ?_⟩
    have f3 : Fr T [] H2 H3 := .of_ext e3 t3
    have f13 := f2.trans f3
    have D3 := D1.fr0 f13
    obtain ⟨dx, v1, q0, vs, eb, hb2, hb3, hb4, hb5⟩ := id D3.bo
    have hdq3 : SqT K H3 dq [.str d.1, .str d.2] := f13.sqT0 (Same.seqT reg_same hdq)
    refine ⟨_, rfl, bd, dx, _, rfl, eb, bF_no (by decide) (by decide) (by decide), _, rfl, dq, _, 1, _, rfl, rfl, hdq3, atI_nat (j := 1) rfl, _, rfl, dq, _, 0, _, rfl, rfl, hdq3, atI_nat (j := 0) rfl, rfl, js, [bd, pa], bd, vb, st, past, d.1, d.2, rfl, N.W, f13.lv S1.lv, hbd, D3.bo, by have := Dy.len; omega, by have := Dy.ok.lm; omega, Dy.ok.ln, hdx, hdy, (fun _ H4 f4 bo4 => ?_), (fun nn => ?_), (fun _ ne => ?_)⟩
    · intro r nr
      have f5 : Fr T [bd] H3 (upd H4 r (.tup [.str "returned", .non])) := f4.trans (.new nr)
      have bo5 := (Fr.new (T := T) (W := []) (o := .tup [.str "returned", .non]) nr).board0 bo4
      have dr5 : Dp K (Reg [bd, pa] (upd H4 r (.tup [.str "returned", .non]))) (.ref r) (.tuple [.str "returned", .none]) := new_tup ((f13.nil.trans f4).lv S1.lv) nr (.cons (.str _) (.cons .non .nil))
      generalize (upd H4 r (.tup [.str "returned", .non])) = H5 at f5 bo5 dr5 ⊢
      have f25 : Fr T [bd] H2 H5 := f3.nil.trans f5
      have f15 : Fr T [bd] H1 H5 := f2.nil.trans f25
      have S5 := S1.frB N.ne f15
      rw [due_legal leg] at hdu
      refine ⟨_, rfl, _, _, dp_in dr5, dp_in (Same.dp (f25.reg subB) hdu), rfl, rfl, ret_depth, _, rfl, iteF' (due_eq rfl) ?_⟩
      refine ⟨_, rfl, rfl, _, rfl, iteT' rfl ?_⟩
      obtain ⟨hs5, xs, hx1, hx2⟩ := D1.book f15 subB
      obtain ⟨mq, ms, rfl, hmq, hms⟩ := dp_tup hsv1
      have lms : ms.length = st.2.length := by rw [dps_len hms]; exact List.length_map _
      have hsa5 := Same.seqT (f15.reg subB) hsa1
      have lm := Dy.ok.lm
      have lxs : xs.length ≤ 18 := by have := Dy.len; rw [hx2.len]; omega
      refine ⟨_, rfl, _, rfl, sa, _, 1, _, rfl, rfl, Same.seqT reg_same hsa5, atI_nat (j := 1) rfl, _, rfl, by show 1 ≤ sizeLine; omega, fun t1 nt1 => ?_⟩
      have f6 : Fr T [] H5 (upd H5 t1 (.tup [.ref dq])) := .new nt1
      have ht1 : Reg [bd, pa] (upd H5 t1 (.tup [.ref dq])) t1 = some (.tup [.ref dq]) := reg_in (S5.lv.fresh nt1) upd_same nt_tup
      generalize (upd H5 t1 (.tup [.ref dq])) = H6 at f6 ht1 ⊢
      have f16 := f15.trans f6.nil
      have hmq6 := Same.seqT (f16.reg subB) hmq
      have hms6 := Same.dps (f16.reg subB) hms
      have hdq6 := Same.seqT (f16.reg subB) hdq
      have hdd6 : Dp K (Reg [bd, pa] H6) (.ref dq) (dMv d) := .tup hdq6 (.cons (.str _) (.cons (.str _) .nil))
      have key : ∀ (H7 : Hp) (mv : Addr), Fr T [] H6 H7 → Dp K (Reg [bd, pa] H7) (.ref mv) (dMs (st.2 ++ [d])) → ∀ (ts : Addr), H7 ts = none → ∀ l1, (upd H7 ts (.tup [.ref p2, .ref mv])) l1 = none → ∀ l2, (upd (upd H7 ts (.tup [.ref p2, .ref mv])) l1 (.lst [.ref sa])) l2 = none → D.nx [some (.ref pa), some m, some vj, some vb, some vl, some (.ref pp), some (.ref ts), some (.ref l2), some t, some y, some du, some (.ref p2), x12, x13, some (.ref dq), x15, some (.ref bd)] (upd (upd (upd H7 ts (.tup [.ref p2, .ref mv])) l1 (.lst [.ref sa])) l2 (.lst (xs ++ [.ref sa]))) := by
        intro H7 mv f7 hmv ts nts l1 nl1 l2 nl2
        have f58 : Fr T [] H5 (upd (upd H7 ts (.tup [.ref p2, .ref mv])) l1 (.lst [.ref sa])) := ((f6.trans f7).trans (.new nts)).trans (.new nl1)
        have f78 : Fr T [] H7 (upd (upd H7 ts (.tup [.ref p2, .ref mv])) l1 (.lst [.ref sa])) := (Fr.new nts).trans (.new nl1)
        have hts : Reg [bd, pa] (upd (upd H7 ts (.tup [.ref p2, .ref mv])) l1 (.lst [.ref sa])) ts = some (.tup [.ref p2, .ref mv]) := (Fr.new (T := T) (W := []) nl1).reg0 _ _ (reg_in (((f6.trans f7).lv S5.lv).fresh nts) upd_same nt_tup)
        generalize (upd (upd H7 ts (.tup [.ref p2, .ref mv])) l1 (.lst [.ref sa])) = H8 at f58 f78 hts nl2 ⊢
        have f08 : Fr T [bd] H1 H8 := f15.trans f58.nil
        have f28 : Fr T [bd] H2 H8 := f25.trans f58.nil
        have S8 := S1.frB N.ne f08
        refine q _ l2 (.ref ts) (stepD js st.1 d, st.2 ++ [d]) (past ++ [st]) _ _ _ _ _ _ ((f1.wide subP).trans ((f08.wide subB).trans (.new nl2))) (S8.fr0 (.new nl2)) ?_
        refine book_new (p := p2) (v2 := .ref mv) (vst := .ref sa) T D1 S8.lv (f58.board0 bo5) (Same.fz (f28.reg subB) fz2) (Same.dp f78.reg0 hmv) ((Dy.ok.step N.W leg hdx hdy).mono (by omega)) (same_sts f58.reg0 hx2) (same_st f58.reg0 hs5) hts nl2
      have ne1 : ([V.ref dq] : List V) ≠ [] := fun z => nomatch z
      have pl7 : ∀ {H7 : Hp} {ts l1 : Addr} {o1 o2 : HO}, Fr T [] H6 H7 → H7 ts = none → (upd H7 ts o1) l1 = none → (upd (upd H7 ts o1) l1 o2) pl = some (.lst xs) := fun f7 nts nl1 => ((f6.trans f7).trans ((Fr.new nts).trans (.new nl1))).at0 (reg_same _ _ hx1) nt_lst
      refine ⟨mq, t1, ms, [.ref dq], rfl, rfl, Same.seqT reg_same hmq6, .inl (.inl (reg_same _ _ ht1)), by show ms.length + 1 ≤ sizeLine; omega, fun e => ?_, fun _ e => ?_, fun _ _ t2 nt2 => ?_⟩
      · subst e
        have e0 : st.2 = [] := List.length_eq_zero_iff.mp lms.symm
        have hmv : Dp K (Reg [bd, pa] H6) (.ref t1) (dMs (st.2 ++ [d])) := by
          rw [e0]
          exact .tup (.inl (.inl ht1)) (.cons hdd6 .nil)
        exact ⟨by show 2 ≤ sizeLine; omega, fun ts nts => ⟨_, rfl, _, rfl, by show 1 ≤ sizeLine; omega, fun l1 nl1 => ⟨pl, l1, xs, [.ref sa], rfl, rfl, pl7 .refl nts nl1, upd_same, by show xs.length + 1 ≤ sizeLine; omega, fun l2 nl2 => ⟨_, _, rfl, key _ t1 .refl hmv ts nts l1 nl1 l2 nl2⟩⟩⟩⟩
      · exact absurd e ne1
      · have f7 : Fr T [] H6 (upd H6 t2 (.tup (ms ++ [.ref dq]))) := .new nt2
        have hmv : Dp K (Reg [bd, pa] (upd H6 t2 (.tup (ms ++ [.ref dq])))) (.ref t2) (dMs (st.2 ++ [d])) := new_tup ((f6.lv S5.lv)) nt2 (by
          rw [List.map_append]
          exact dps_snoc hms6 hdd6)
        exact ⟨by show 2 ≤ sizeLine; omega, fun ts nts => ⟨_, rfl, _, rfl, by show 1 ≤ sizeLine; omega, fun l1 nl1 => ⟨pl, l1, xs, [.ref sa], rfl, rfl, pl7 f7 nts nl1, upd_same, by show xs.length + 1 ≤ sizeLine; omega, fun l2 nl2 => ⟨_, _, rfl, key _ t2 f7 hmv ts nts l1 nl1 l2 nl2⟩⟩⟩⟩
    · unfold legalD legal at leg
      rw [Bool.and_eq_true] at leg
      exact absurd (of_decide_eq_true leg.1) nn
    · unfold legalD legal at leg
      rw [Bool.and_eq_true] at leg
      exact absurd (of_decide_eq_true leg.2) ne
  · refine ⟨aq, _, rfl, Same.seqT reg_same haq, rfl, _, _, rfl, _, _, rfl, rfl, ?_⟩
    have S2 := S1.fr0 f2
    refine ⟨S2.tabs, fun H3 e3 t3 => ?_⟩
    have f3 : Fr T [] H2 H3 := .of_ext e3 t3
    have f13 := f2.trans f3
    have D3 := D1.fr0 f13
    obtain ⟨dx, v1, q0, vs, eb, hb2, hb3, hb4, hb5⟩ := id D3.bo
    have hdq3 : SqT K H3 dq [.str d.1, .str d.2] := f13.sqT0 (Same.seqT reg_same hdq)
    refine ⟨_, rfl, bd, dx, _, rfl, eb, bF_no (by decide) (by decide) (by decide), _, rfl, dq, _, 1, _, rfl, rfl, hdq3, atI_nat (j := 1) rfl, _, rfl, dq, _, 0, _, rfl, rfl, hdq3, atI_nat (j := 0) rfl, rfl, js, [bd, pa], bd, vb, st, past, d.1, d.2, rfl, N.W, f13.lv S1.lv, hbd, D3.bo, by have := Dy.len; omega, by have := Dy.ok.lm; omega, Dy.ok.ln, hdx, hdy, (fun leg => ?_), (fun nn H4 dd f4 ed => ?_), (fun yn ne H4 dd f4 ed => ?_)⟩
    · exact absurd (show legalD js st.1 d = true from leg) (by rw [nl]; exact Bool.false_ne_true)
    · have hlen : (reprText d.2).length ≤ sizeLine := by have := repr_len (nm_of N.W hdy); omega
      refine ⟨CN, 15, reprText d.2, rfl, .inr ⟨dd, _, rfl, ed⟩, R.xn.1, .inr (.inl rfl), .near ed R.xn.2.1 R.xn.2.2.1 hlen, R.xn.2.2.2, fun H5 r f5 hr5 => ?_⟩
      have f25 := (f3.trans f4).trans f5
      have f15 := f2.trans f25
      have ed5 : dueD js st.1 d = .tuple [.str "NotNear", .str (reprText d.2)] := by
        unfold dueD
        rw [if_pos nn]
      rw [ed5] at hdu
      refine ⟨_, rfl, .tuple [.str "NotNear", .str (reprText d.2)], _, dp_in (hr5 [bd, pa] ((f13.trans f4).lv S1.lv)), dp_in (Same.dp f25.reg0 hdu), rfl, rfl, two_depth _ _, _, rfl, iteF' (due_eq rfl) ?_⟩
      refine ⟨_, rfl, rfl, _, rfl, iteF' rfl ?_⟩
      exact q _ pl (.ref sa) st past _ _ _ _ _ _ ((f1.wide subP).trans f15.nil) (S1.fr0 f15) (D1.fr0 f15).next
    · have hlen : (reprText d.2).length ≤ sizeLine := by have := repr_len (nm_of N.W hdy); omega
      refine ⟨CE, 16, reprText d.2, rfl, .inr ⟨dd, _, rfl, ed⟩, R.xe.1, .inr (.inr (.inl rfl)), .full ed R.xe.2.1 R.xe.2.2.1 hlen, R.xe.2.2.2, fun H5 r f5 hr5 => ?_⟩
      have f25 := (f3.trans f4).trans f5
      have f15 := f2.trans f25
      have ed5 : dueD js st.1 d = .tuple [.str "NotEmpty", .str (reprText d.2)] := by
        unfold dueD
        rw [if_neg (fun z => z yn), if_pos ne]
      rw [ed5] at hdu
      refine ⟨_, rfl, .tuple [.str "NotEmpty", .str (reprText d.2)], _, dp_in (hr5 [bd, pa] ((f13.trans f4).lv S1.lv)), dp_in (Same.dp f25.reg0 hdu), rfl, rfl, two_depth _ _, _, rfl, iteF' (due_eq rfl) ?_⟩
      refine ⟨_, rfl, rfl, _, rfl, iteF' rfl ?_⟩
      exact q _ pl (.ref sa) st past _ _ _ _ _ _ ((f1.wide subP).trans f15.nil) (S1.fr0 f15) (D1.fr0 f15).next
end
end Tz
end -- W34
section -- W35
set_option maxHeartbeats 4000000
namespace Tz
open PySem PySem.Spec PyProof.Rows L2 TL
theorem run_lt {js : Js} : ∀ (ds : Mvs) (i : Nat) (p : Pose) (k : Nat), runFrom js i p ds = .inl k → k < i + ds.length
  | [], i, p, k, h => by cases h
  | d :: r, i, p, k, h => by
    unfold runFrom at h
    by_cases hl : legalD js p d = true
    · rw [if_pos hl] at h
      have := run_lt r (i + 1) _ k h
      rw [List.length_cons]
      omega
    · rw [if_neg hl] at h
      cases h
      rw [List.length_cons]
      omega
section
variable {P : Program} {w : World} {K : PySem.W.Frag} {mg : Str → Option Value} {base : Heap} {T : List (Addr × Str)} {c : Nat → Addr} {CT CB CN CE CI CU cd tb : Addr} {cW cN : Value}
theorem br_lead {f : Addr} {A : Around} {outer : List Env} {s : Shared} {H : Hp} {E : XK} (R : RF P w K mg base T c CT CB CN CE CI CU cd tb cW cN) (hr : Room 8 (XR P w K mg base f cd A outer s H E).A) : PSs (XR P w K mg base f cd A outer s H E) brL (tBr K T CT CB) := by
  have hu64 : (XR P w K mg base f cd A outer s H E).A.units + 64 < cLine := by have := hr.un; omega
  refine pss_to (pss_cons (ps_asg (pe_callD R.row (hr.mono (by decide)) (by rfl) (pa_cons (pv 0) (pa_cons (pv 2) (pa_cons (pv 4) (pa_cons (pe_ix ix_tup (pv 6) pe_int (fun _ _ => rfl)) pa_nil))))) (pg_tup rfl (pgs_cons (pg_name (i := 15) scRight.nd rfl (.inr rfl)) (pgs_cons (pg_name (i := 11) scRight.nd rfl (.inl rfl)) (pgs_cons (pg_name (i := 12) scRight.nd rfl (.inl rfl)) pgs_nil)))))
    (pss_cons (ps_set (i := 10) scRight.nd rfl (Or.inl rfl) (pe_ifExp (pt_cmpR op_notN (pv 11) pe_non (nomark _)) (pe_tup (pa_cons pe_str (pa_cons pe_non pa_nil))) (pe_tup (pa_cons pe_str (pa_cons (pe_callB SkE.call_repr_int (by rfl) R.B.repr (by decide +kernel) (pa_cons (pv 12) pa_nil)) pa_nil)))))
    (pss_cons (ps_if (pt_cmpR (op_neP hu64) (pe_told (k := 4) R.told (by rfl) R.TB rfl R.hmT R.hu (hr.mono (by decide)) (show LamX.LamS (defScope sRight) _ from LamX.lamS_by (by decide +kernel)) rfl (fun _ _ _ _ _ => rfl)
      (fun A outer s H E f c' hr => pe_methKX R.lead R.bc.f.cl hr pass_lam (pv 16) (pk_cons (pv 15) pk_nil))) (pv 10) (nomark _)) (pss_one (ps_ret pe_bl)) pss_nil)
    (pss_one (ps_if (pt_cmpR op_notN (pv 11) pe_non (nomark _)) (pss_one (ps_par (i := 6) (j := 7) (by rfl) scRight.nd rfl rfl (by decide) rfl rfl (pa_cons (pe_tup (pa_cons (pv 11) (pa_cons (pe_op op_catA (pe_ix ix_tup (pv 6) pe_int (fun _ _ => rfl)) (pv 15)) pa_nil))) (pa_cons (pe_op op_cat (pv 7) (pe_lst (pa_cons (pv 6) pa_nil))) pa_nil)) (by rfl))) pss_nil))))) ?_
  rintro D σ H0 ⟨js, pose, pa, bd, pp, pl, vj, vb, vl, vst, n, st, past, m, t, y, x10, x11, x12, x13, x14, x15, rfl, N, hn, S, Dy, q⟩
  have sl := sizeLine_eq
  have hbd : bd ∈ [bd, pa] := List.mem_cons_self ..
  have hpa : pa ∈ [bd, pa] := List.mem_cons_of_mem _ (List.mem_cons_self ..)
  have subB : ∀ b ∈ [bd], b ∈ [bd, pa] := fun b hb => by rw [List.mem_singleton.mp hb]; exact hbd
  have subP : ∀ b ∈ [pa], b ∈ [bd, pa] := fun b hb => by rw [List.mem_singleton.mp hb]; exact hpa
  obtain ⟨sa, sp, sv2, rfl, hsa, hsp, hsv⟩ := id Dy.hs
  refine ⟨_, rfl, _, rfl, _, rfl, _, rfl, sa, _, 0, _, rfl, rfl, Same.seqT reg_same hsa, atI_nat (j := 0) rfl, js, [bd, pa], pa, sp, vj, vl, st.1, rfl, N.W, N.h2, S.lv, hpa, S.dj, S.dl, hsp, Dy.ok.ln, by rw [Dy.ok.pm.length_eq]; exact N.h1, S.pu, fun H1 rq mq x yb deeds f1 hrq hmq hok hdl pu1 c1 c2 => ?_⟩
  have S1 := S.frP f1 pu1
  have D1 := Dy.frP N.ne f1
  have hsa1 := Same.seqT (f1.reg subP) hsa
  have hsp1 := Same.fz (f1.reg subP) hsp
  have hsv1 := Same.dp (f1.reg subP) hsv
  refine ⟨rq, _, rfl, Same.seqT reg_same hrq, rfl, _, _, rfl, _, _, rfl, _, _, rfl, rfl, ?_⟩
  cases hrun : runFrom js 0 st.1 deeds with
  | inr p' =>
    obtain ⟨rfl, p2, rfl, fz2⟩ := c1 p' hrun
    refine ⟨_, rfl, rfl, _, rfl, iteT' rfl ⟨by show 2 ≤ sizeLine; omega, fun du ndu => ?_⟩⟩
    have f2 : Fr T [] H1 (upd H1 du (.tup [.str "returned", .non])) := .new ndu
    have hdu : Dp K (Reg [bd, pa] (upd H1 du (.tup [.str "returned", .non]))) (.ref du) (.tuple [.str "returned", .none]) := new_tup S1.lv ndu (.cons (.str _) (.cons .non .nil))
    generalize (upd H1 du (.tup [.str "returned", .non])) = H2 at f2 hdu ⊢
    have S2 := S1.fr0 f2
    refine ⟨S2.tabs, fun H3 e3 t3 => ?_⟩
    have f3 : Fr T [] H2 H3 := .of_ext e3 t3
    have f13 := f2.trans f3
    have D3 := D1.fr0 f13
    obtain ⟨dx, v1, q0, vs, eb, hb2, hb3, hb4, hb5⟩ := id D3.bo
    refine ⟨_, rfl, bd, dx, _, rfl, eb, bF_no (by decide) (by decide) (by decide), _, rfl, rfl, js, [bd, pa], bd, mq, vb, st, past, deeds, rfl, N.W, f13.lv S1.lv, hbd, D3.bo, by have := Dy.len; omega, by have := Dy.ok.lm; omega, Dy.ok.ln, Same.dp f13.reg0 hmq, by omega, hok, (fun pose' e H4 f4 bo4 => ?_), (fun k e => ?_)⟩
    · rw [hrun] at e
      cases e
      intro r nr
      have f5 : Fr T [bd] H3 (upd H4 r (.tup [.str "returned", .non])) := f4.trans (.new nr)
      have bo5 := (Fr.new (T := T) (W := []) (o := .tup [.str "returned", .non]) nr).board0 bo4
      have dr5 : Dp K (Reg [bd, pa] (upd H4 r (.tup [.str "returned", .non]))) (.ref r) (.tuple [.str "returned", .none]) := new_tup ((f13.nil.trans f4).lv S1.lv) nr (.cons (.str _) (.cons .non .nil))
      generalize (upd H4 r (.tup [.str "returned", .non])) = H5 at f5 bo5 dr5 ⊢
      have f25 : Fr T [bd] H2 H5 := f3.nil.trans f5
      have f15 : Fr T [bd] H1 H5 := f2.nil.trans f25
      have S5 := S1.frB N.ne f15
      refine ⟨_, rfl, _, _, dp_in dr5, dp_in (Same.dp (f25.reg subB) hdu), rfl, rfl, ret_depth, _, rfl, iteF' (due_eq rfl) ?_⟩
      refine ⟨_, rfl, rfl, _, rfl, iteT' rfl ?_⟩
      obtain ⟨hs5, xs, hx1, hx2⟩ := D1.book f15 subB
      obtain ⟨sm, ms, rfl, hsm, hms⟩ := dp_tup hsv1
      obtain ⟨_, ds, eq, hds, hdd⟩ := dp_tup hmq
      cases eq
      have lms : ms.length = st.2.length := by rw [dps_len hms]; exact List.length_map _
      have lds : ds.length = deeds.length := by rw [dps_len hdd]; exact List.length_map _
      have hsa5 := Same.seqT (f15.reg subB) hsa1
      have hsm5 := Same.seqT (f15.reg subB) hsm
      have hds5 := Same.seqT (f15.reg subB) hds
      have dall : DpAll K (Reg [bd, pa] H5) (ms ++ ds) ((st.2 ++ deeds).map dMv) := by
        rw [List.map_append]
        exact dps_app (Same.dps (f15.reg subB) hms) (Same.dps (f15.reg subB) hdd)
      have lm := Dy.ok.lm
      have lxs : xs.length ≤ 18 := by have := Dy.len; rw [hx2.len]; omega
      have ok' : SOk js pose (4 * (n + 1)) (p', st.2 ++ deeds) := (SOk.run N.W deeds 0 st.1 p' st.2 (4 * n) Dy.ok hok hrun).mono (by omega)
      have key : ∀ (H7 : Hp) (mv : Addr), Fr T [] H5 H7 → Dp K (Reg [bd, pa] H7) (.ref mv) (dMs (st.2 ++ deeds)) → ∀ (ts : Addr), H7 ts = none → ∀ l1, (upd H7 ts (.tup [.ref p2, .ref mv])) l1 = none → ∀ l2, (upd (upd H7 ts (.tup [.ref p2, .ref mv])) l1 (.lst [.ref sa])) l2 = none → D.nx [some (.ref pa), some m, some vj, some vb, some vl, some (.ref pp), some (.ref ts), some (.ref l2), some t, some y, some (.ref du), some (.ref p2), some .non, x13, x14, some (.ref mq), some (.ref bd)] (upd (upd (upd H7 ts (.tup [.ref p2, .ref mv])) l1 (.lst [.ref sa])) l2 (.lst (xs ++ [.ref sa]))) := by
        intro H7 mv f7 hmv ts nts l1 nl1 l2 nl2
        have f58 : Fr T [] H5 (upd (upd H7 ts (.tup [.ref p2, .ref mv])) l1 (.lst [.ref sa])) := (f7.trans (.new nts)).trans (.new nl1)
        have f78 : Fr T [] H7 (upd (upd H7 ts (.tup [.ref p2, .ref mv])) l1 (.lst [.ref sa])) := (Fr.new nts).trans (.new nl1)
        have hts : Reg [bd, pa] (upd (upd H7 ts (.tup [.ref p2, .ref mv])) l1 (.lst [.ref sa])) ts = some (.tup [.ref p2, .ref mv]) := (Fr.new (T := T) (W := []) nl1).reg0 _ _ (reg_in ((f7.lv S5.lv).fresh nts) upd_same nt_tup)
        generalize (upd (upd H7 ts (.tup [.ref p2, .ref mv])) l1 (.lst [.ref sa])) = H8 at f58 f78 hts nl2 ⊢
        have f08 : Fr T [bd] H1 H8 := f15.trans f58.nil
        have S8 := S1.frB N.ne f08
        refine q _ l2 (.ref ts) (p', st.2 ++ deeds) (past ++ [st]) _ _ _ _ _ _ ((f1.wide subP).trans ((f08.wide subB).trans (.new nl2))) (S8.fr0 (.new nl2)) ?_
        exact book_new (p := p2) (v2 := .ref mv) (vst := .ref sa) T D1 S8.lv (f58.board0 bo5) (Same.fz (f08.reg subB) fz2) (Same.dp f78.reg0 hmv) ok' (same_sts f58.reg0 hx2) (same_st f58.reg0 hs5) hts nl2
      have pl7 : ∀ {H7 : Hp} {ts l1 : Addr} {o1 o2 : HO}, Fr T [] H5 H7 → H7 ts = none → (upd H7 ts o1) l1 = none → (upd (upd H7 ts o1) l1 o2) pl = some (.lst xs) := fun f7 nts nl1 => (f7.trans ((Fr.new nts).trans (.new nl1))).at0 (reg_same _ _ hx1) nt_lst
      refine ⟨_, rfl, _, rfl, sa, _, 1, _, rfl, rfl, Same.seqT reg_same hsa5, atI_nat (j := 1) rfl, _, rfl, sm, mq, ms, ds, rfl, rfl, Same.seqT reg_same hsm5, Same.seqT reg_same hds5, by omega, fun e => ?_, fun _ e => ?_, fun _ _ t2 nt2 => ?_⟩
      · subst e
        have hmv : Dp K (Reg [bd, pa] H5) (.ref mq) (dMs (st.2 ++ deeds)) := .tup hds5 dall
        exact ⟨by show 2 ≤ sizeLine; omega, fun ts nts => ⟨_, rfl, _, rfl, by show 1 ≤ sizeLine; omega, fun l1 nl1 => ⟨pl, l1, xs, [.ref sa], rfl, rfl, pl7 .refl nts nl1, upd_same, by show xs.length + 1 ≤ sizeLine; omega, fun l2 nl2 => ⟨_, _, rfl, key _ mq .refl hmv ts nts l1 nl1 l2 nl2⟩⟩⟩⟩
      · subst e
        rw [List.append_nil] at dall
        have hmv : Dp K (Reg [bd, pa] H5) (.ref sm) (dMs (st.2 ++ deeds)) := .tup hsm5 dall
        exact ⟨by show 2 ≤ sizeLine; omega, fun ts nts => ⟨_, rfl, _, rfl, by show 1 ≤ sizeLine; omega, fun l1 nl1 => ⟨pl, l1, xs, [.ref sa], rfl, rfl, pl7 .refl nts nl1, upd_same, by show xs.length + 1 ≤ sizeLine; omega, fun l2 nl2 => ⟨_, _, rfl, key _ sm .refl hmv ts nts l1 nl1 l2 nl2⟩⟩⟩⟩
      · have f7 : Fr T [] H5 (upd H5 t2 (.tup (ms ++ ds))) := .new nt2
        have hmv : Dp K (Reg [bd, pa] (upd H5 t2 (.tup (ms ++ ds)))) (.ref t2) (dMs (st.2 ++ deeds)) := new_tup S5.lv nt2 dall
        exact ⟨by show 2 ≤ sizeLine; omega, fun ts nts => ⟨_, rfl, _, rfl, by show 1 ≤ sizeLine; omega, fun l1 nl1 => ⟨pl, l1, xs, [.ref sa], rfl, rfl, pl7 f7 nts nl1, upd_same, by show xs.length + 1 ≤ sizeLine; omega, fun l2 nl2 => ⟨_, _, rfl, key _ t2 f7 hmv ts nts l1 nl1 l2 nl2⟩⟩⟩⟩
    · rw [hrun] at e
      cases e
  | inl k =>
    obtain ⟨rfl, rfl⟩ := c2 k hrun
    have hk := run_lt deeds 0 st.1 k hrun
    refine ⟨_, rfl, rfl, _, rfl, iteF' rfl ⟨_, rfl, _, rfl, ?_, by show 2 ≤ sizeLine; omega, fun du ndu => ?_⟩⟩
    · rw [Int.natAbs_natCast]
      exact Nat.lt_of_le_of_lt (Nat.log2_le_self k) (by omega)
    have f2 : Fr T [] H1 (upd H1 du (.tup [.str "InvalidIndex", .str (toString ((k : Nat) : Int))])) := .new ndu
    have hdu : Dp K (Reg [bd, pa] (upd H1 du (.tup [.str "InvalidIndex", .str (toString ((k : Nat) : Int))]))) (.ref du) (.tuple [.str "InvalidIndex", .str (toString ((k : Nat) : Int))]) := new_tup S1.lv ndu (.cons (.str _) (.cons (.str _) .nil))
    generalize (upd H1 du (.tup [.str "InvalidIndex", .str (toString ((k : Nat) : Int))])) = H2 at f2 hdu ⊢
    have S2 := S1.fr0 f2
    refine ⟨S2.tabs, fun H3 e3 t3 => ?_⟩
    have f3 : Fr T [] H2 H3 := .of_ext e3 t3
    have f13 := f2.trans f3
    have D3 := D1.fr0 f13
    obtain ⟨dx, v1, q0, vs, eb, hb2, hb3, hb4, hb5⟩ := id D3.bo
    refine ⟨_, rfl, bd, dx, _, rfl, eb, bF_no (by decide) (by decide) (by decide), _, rfl, rfl, js, [bd, pa], bd, mq, vb, st, past, deeds, rfl, N.W, f13.lv S1.lv, hbd, D3.bo, by have := Dy.len; omega, by have := Dy.ok.lm; omega, Dy.ok.ln, Same.dp f13.reg0 hmq, by omega, hok, (fun pose' e => ?_), (fun k' e H4 dd f4 ed => ?_)⟩
    · rw [hrun] at e
      cases e
    · rw [hrun] at e
      cases e
      refine ⟨CI, 3, _, rfl, .inr ⟨dd, _, rfl, ed⟩, R.xi.1, .inl rfl, .index ed R.xi.2.1 R.xi.2.2.1 (by omega), R.xi.2.2.2, fun H5 r f5 hr5 => ?_⟩
      have f25 := (f3.trans f4).trans f5
      have f15 := f2.trans f25
      refine ⟨_, rfl, .tuple [.str "InvalidIndex", .str (toString ((k : Nat) : Int))], _, dp_in (hr5 [bd, pa] ((f13.trans f4).lv S1.lv)), dp_in (Same.dp f25.reg0 hdu), rfl, rfl, two_depth _ _, _, rfl, iteF' (due_eq rfl) ?_⟩
      refine ⟨_, rfl, rfl, _, rfl, iteF' rfl ?_⟩
      exact q _ pl (.ref sa) st past _ _ _ _ _ _ ((f1.wide subP).trans f15.nil) (S1.fr0 f15) (D1.fr0 f15).next
end
end Tz
end -- W35
section -- W36
set_option maxHeartbeats 4000000
namespace Tz
open PySem PySem.Spec PyProof.Rows L2 TL
section
variable {P : Program} {w : World} {K : PySem.W.Frag} {mg : Str → Option Value} {base : Heap} {T : List (Addr × Str)} {c : Nat → Addr} {CT CB CN CE CI CU cd tb : Addr} {cW cN : Value}
theorem made {C x dx : Addr} {ch : List Addr} {H : Hp} (lv : Lv ch H) (nx : H x = none) (nd : H dx = none) (ne : dx ≠ x) :
    Fr T [] H (upd (upd H dx (.own x)) x (.ins C dx [])) ∧ Lv (x :: ch) (upd (upd H dx (.own x)) x (.ins C dx [])) ∧ Same (Reg ch H) (Reg (x :: ch) (upd (upd H dx (.own x)) x (.ins C dx []))) := by
  have n1 : (upd H dx (.own x)) x = none := by rw [upd_ne ne.symm]; exact nx
  have f1 : Fr T [] H (upd H dx (.own x)) := .new nd
  have f2 : Fr T [] (upd H dx (.own x)) (upd (upd H dx (.own x)) x (.ins C dx [])) := .new n1
  exact ⟨f1.trans f2, Lv.cons ((f1.trans f2).lv lv) upd_same nt_ins, fun b o e => reg_more n1 b o (f1.reg0 b o e)⟩
theorem br_all {f : Addr} {A : Around} {outer : List Env} {s : Shared} {H : Hp} {E : XK} (R : RF P w K mg base T c CT CB CN CE CI CU cd tb cW cN) (hr : Room 8 (XR P w K mg base f cd A outer s H E).A) :
    PS (XR P w K mg base f cd A outer s H E) brIf (fun D σ H => (∃ w : Nat, σ[9]? = some (some (.int (w : Nat)))) ∧ tBr K T CT CB D σ H) := by
  refine ps_to (ps_if (pt_cmpR op_eq (pv 9) pe_int (nomark _)) (br_undo R hr) (pss_one (ps_if (pt_cmpR op_eq (pv 9) pe_int (nomark _)) (br_lead R hr) (br_move R hr)))) ?_
  rintro D σ H ⟨⟨w, hw⟩, h⟩
  refine ⟨_, hw, rfl, _, rfl, ?_⟩
  cases h1 : decide (V.int ((w : Nat) : Int) = V.int 0) with
  | true => exact h
  | false =>
    refine ⟨_, hw, rfl, _, rfl, ?_⟩
    cases h2 : decide (V.int ((w : Nat) : Int) = V.int 1) with
    | true => exact h
    | false => exact h
theorem vNs_rev (p : Pose) : vNs p.reverse = (vNs p).reverse := List.map_reverse
def spRight (T : List (Addr × Str)) : Sp := fun vs H Q _ => ∃ pa : Addr, vs = [.ref pa] ∧ Pu H pa ∧ LamX.Tabs T H ∧ ∀ H', Fr T [pa] H H' → Q (.bl true) H'
theorem ok_right {f : Addr} {fd : FuncData} (F : L2.Fun K "_law_right" "_law_right" sRight f fd) (hc : fd.code = .ref cd) (R : RF P w K mg base T c CT CB CN CE CI CU cd tb cW cN) : FnG P w K mg base 9 f fd ["_law_purse_here"] (spRight T) := by
  refine okGC F hc scRight (fun vs H Q E h => ?_) (fun A outer s H vs Q E hr gu h => ?_)
  · obtain ⟨pa, rfl, _⟩ := h
    rfl
  · obtain ⟨pa, rfl, pu, tabs, q⟩ := h
    have hr1 : Room 1 _ := hr.mono (by decide)
    have hr3 : Room 3 _ := hr.mono (by decide)
    have hr5 : Room 5 _ := hr.mono (by decide)
    have hu2 : (A.deeper (envOfC "_law_right" (defScope sRight) s.heap.objs.size f (.ref cd))).units + 2 < cLine := by have := hr.un; omega
    refine ⟨_, pss_cons (ps_set (i := 1) scRight.nd rfl (Or.inl rfl) (pe_op op_add pe_int (pe_callD R.draw hr1 (by rfl) (pa_cons (pv 0) (pa_cons pe_int pa_nil)))))
      (pss_cons (ps_set (i := 2) scRight.nd rfl (Or.inl rfl) (pe_callD R.joints hr3 (by rfl) (pa_cons (pv 0) (pa_cons (pv 1) pa_nil))))
      (pss_cons (ps_par (i := 3) (j := 4) (by rfl) scRight.nd rfl rfl (by decide) rfl rfl (pa_cons (pe_makeD R.tree (hr.mono (by decide)) (by rfl) (pa_cons (pe_callD R.line hr1 (by rfl) (pa_cons (pv 2) pa_nil)) pa_nil)) (pa_cons (pe_callD R.links hr1 (by rfl) (pa_cons (pv 2) pa_nil)) pa_nil)) (by rfl))
      (pss_cons (ps_set (i := 5) scRight.nd rfl (Or.inl rfl) (pe_callD R.stand hr3 (by rfl) (pa_cons (pv 0) (pa_cons (pv 1) (pa_cons (pe_op op_add pe_int (pe_callD R.draw hr1 (by rfl) (pa_cons (pv 0) (pa_cons (pe_op op_sub (pv 1) pe_int) pa_nil)))) pa_nil)))))
      (pss_cons (ps_asg (pe_tup (pa_cons (pe_makeKD R.boardK hr5 (by rfl) (pk_cons (pv 5) (pk_cons (pv 3) pk_nil))) (pa_cons (pe_tup (pa_cons (pv 5) (pa_cons (pe_tup pa_nil) pa_nil))) (pa_cons (pe_lst pa_nil) pa_nil)))) (pg_tup rfl (pgs_cons (pg_name (i := 16) scRight.nd rfl (.inr rfl)) (pgs_cons (pg_name (i := 6) scRight.nd rfl (.inl rfl)) (pgs_cons (pg_name (i := 7) scRight.nd rfl (.inl rfl)) pgs_nil)))))
      (pss_cons (ps_for PassesOwn.never rfl (pi_range1 rfl R.B.range (pa_cons pe_int pa_nil)) (pg_name (i := 8) scRight.nd rfl (Or.inl rfl))
        (pss_cons (ps_set (i := 9) scRight.nd rfl (Or.inl rfl) (pe_callD R.draw hr1 (by rfl) (pa_cons (pv 0) (pa_cons pe_int pa_nil))))
        (pss_cons (br_all R hr)
        (pss_cons (ps_set (i := 13) scRight.nd rfl (Or.inl rfl) (pe_revT (pe_ix ix_tup (pv 6) pe_int (fun _ _ => rfl))))
        (pss_one (ps_if (PW.pt (pw_or (pt_not (pt_val (pe_callDG R.is_ hr5 gu (by rfl) (pa_cons (pv 16) (pa_cons (pv 3) (pa_cons (pv 6) (pa_cons (pv 7) pa_nil))))))) (pw_or1 (pt_cmpR op_ne (pe_methKX R.can R.bc.f.cl hr pass0 (pv 16) (pk_cons (pv 13) pk_nil)) (pe_callD R.comes hr (by rfl) (pa_cons (pv 3) (pa_cons (pv 5) (pa_cons (pv 13) pa_nil)))) (nomark _))))) (pss_one (ps_ret pe_bl)) pss_nil))))))
      (pss_cons (ps_for PassesOwn.never rfl (pi_range1 rfl R.B.range (pa_cons (pe_callB call_len_seq (by rfl) R.B.len PySem.boot_len (pa_cons (pv 7) pa_nil)) pa_nil)) (pg_name (i := 8) scRight.nd rfl (Or.inl rfl))
        (pss_cons (ps_if (PW.pt (pw_or (pt_cmpR op_notN (pe_meth0X R.undo R.bc.f.cl hr1 pass_no (pv 16)) pe_non (nomark _)) (pw_or1 (pt_not (pt_val (pe_callDG R.is_ hr5 gu (by rfl) (pa_cons (pv 16) (pa_cons (pv 3) (pa_cons (pe_ix ix_list (pv 7) (pe_un un_neg pe_int) (fun _ _ => rfl)) (pa_cons (pe_slice sl_list (pv 7) po_none (po_some (pe_un un_neg pe_int))) pa_nil)))))))))) (pss_one (ps_ret pe_bl)) pss_nil)
        (pss_one (ps_set (i := 7) scRight.nd rfl (Or.inl rfl) (pe_slice sl_list (pv 7) po_none (po_some (pe_un un_neg pe_int)))))))
      (pss_one (ps_ret (pe_and (pe_cmpR (op_eqO R.eqB hu2) (pv 16) (pv 16) (nomark _)) (pe_and (pe_not (pe_cmpR (op_eqO R.eqB hu2) (pv 16) (pe_makeD R.board hr5 (by rfl) (pa_cons (pv 3) (pa_cons (pv 5) pa_nil))) (nomark _))) (pe_one (pe_cmpR (op_neO R.eqB hu2) (pv 16) (pe_makeD R.board hr5 (by rfl) (pa_cons (pv 3) (pa_cons (pv 5) pa_nil))) (nomark _))))))))))))), ?_⟩
    have sl := sizeLine_eq
    have lv0 : Lv [pa] H := by
      obtain ⟨a, b, _, _, e⟩ := pu
      exact .one e nt_lst
    refine ⟨_, rfl, pa, 8, rfl, by decide, by decide, pu, fun H1 d1 hd1 f1 pu1 => ⟨_, _, rfl, rfl, ?_⟩⟩
    have em : (2 : Int) + ((d1 : Nat) : Int) = ((d1 + 2 : Nat) : Int) := by omega
    refine ⟨_, rfl, _, rfl, pa, d1 + 2, (by show [V.ref pa, V.int (2 + ((d1 : Nat) : Int))] = _; rw [em]), by omega, by omega, pu1, fun H2 pj js f2 nwj dj W ljs pu2 => ?_⟩
    have f02 := f1.trans f2
    have lv2 := f02.lv lv0
    refine ⟨_, rfl, js, [pa], _, rfl, W, lv2, dj, fun H3 f3 tr tdx ntr ntdx tne => ?_⟩
    have lv3 := f3.lv lv2
    obtain ⟨g3, _, _⟩ := made (T := T) (C := CT) lv3 ntr ntdx tne
    refine ⟨js, [pa], tr, tdx, rfl, W, g3.lv lv3, upd_same, lv3.fresh ntr, fun H4 f4 tree4 => ⟨rfl, ?_⟩⟩
    have f34 : Fr T [] H3 H4 := Fr.drop (q := tr) (g3.nil.trans f4) (nw_none ntr)
    have f24 := f3.trans f34
    refine ⟨_, rfl, js, [pa], _, rfl, W, f24.lv lv2, Same.dp f24.reg0 dj, fun H5 vl f5 dl5 => ⟨_, _, rfl, ?_⟩⟩
    have f25 := f24.trans f5
    have pu5 := f25.pu pu2
    have lv5 := f25.lv lv2
    have dj5 := Same.dp f25.reg0 dj
    have tree5 := Same.tree f5.reg0 tree4
    have em1 : (2 : Int) + ((d1 : Nat) : Int) - 1 = ((d1 + 1 : Nat) : Int) := by omega
    refine ⟨_, rfl, _, rfl, _, rfl, _, rfl, _, _, rfl, rfl, pa, d1 + 1, (by show [V.ref pa, V.int (2 + ((d1 : Nat) : Int) - 1)] = _; rw [em1]), by omega, by omega, pu5, fun H6 d2 hd2 f6 pu6 => ⟨_, _, rfl, rfl, ?_⟩⟩
    have eg : (1 : Int) + ((d2 : Nat) : Int) = ((d2 + 1 : Nat) : Int) := by omega
    have f26 := f25.nil.trans f6
    have lv6 := f26.lv lv2
    refine ⟨[pa], pa, d1 + 2, d2 + 1, (by show [V.ref pa, V.int (2 + ((d1 : Nat) : Int)), V.int (1 + ((d2 : Nat) : Int))] = _; rw [em, eg]), by omega, by omega, lv6, pu6, fun H7 pp pose f7 fz7 gp lp lpe pu7 => ?_⟩
    have f57 := f6.trans f7
    have f07 : Fr T [pa] H H7 := (f02.trans f25.nil).trans f57
    have lv7 := f07.lv lv0
    have subp : ∀ b ∈ [pa], b ∈ [pa] := fun _ h => h
    have dj7 := Same.dp (f57.reg subp) dj5
    have dl7 := Same.dp (f57.reg subp) dl5
    have tree7 := Same.tree (f57.reg subp) tree5
    refine ⟨_, rfl, _, rfl, rfl, rfl, fun bd bdx nbd nbdx bne => ?_⟩
    obtain ⟨g8, lv8, sm8⟩ := made (T := T) (C := CB) lv7 nbd nbdx bne
    have hbd : bd ∈ [bd, pa] := List.mem_cons_self ..
    have hne : pa ≠ bd := fun z => lv7.fresh nbd (by rw [z]; exact List.mem_singleton.mpr rfl)
    have N : Nums js pose pa bd := ⟨W, by omega, gp, by omega, by omega, hne⟩
    refine ⟨js, [bd, pa], bd, bdx, pp, _, pose, rfl, W, lv8, upd_same, hbd, Same.tree sm8 tree7, Same.fz sm8 fz7, gp, N.hl, fun H8 f8 bo8 => ⟨rfl, ?_⟩⟩
    have subB : ∀ b ∈ [bd], b ∈ [bd, pa] := fun b hb => by rw [List.mem_singleton.mp hb]; exact hbd
    have subP : ∀ b ∈ [pa], b ∈ [bd, pa] := fun b hb => by rw [List.mem_singleton.mp hb]; exact List.mem_cons_of_mem _ (List.mem_cons_self ..)
    have sm78 : Same (Reg [pa] H7) (Reg [bd, pa] H8) := fun b o e => f8.reg subB b o (sm8 b o e)
    have f08 : Fr T [bd, pa] H H8 := (f07.wide subP).trans ((g8.nil.trans f8).wide subB)
    have nwb : Nw H bd := f07.nw0 nbd
    have pu8 : Pu H8 pa := by
      obtain ⟨a, b, h1, h2, e⟩ := g8.pu pu7
      exact ⟨a, b, h1, h2, f8.keep pa _ (fun z => hne (List.mem_singleton.mp z)) e nt_lst⟩
    have S8 : Stat K T CT js pose pa bd pp (.ref pj) (.ref tr) vl H8 := ⟨f8.lv lv8, f08.tabs tabs, pu8, Same.dp sm78 dj7, Same.dp sm78 dl7, Same.tree sm78 tree7, Same.fz sm78 fz7⟩
    refine ⟨_, rfl, Nat.zero_le _, fun t1 nt1 => ⟨by show 2 ≤ sizeLine; omega, fun t2 nt2 => ⟨Nat.zero_le _, fun l1 nl1 => ⟨by show 3 ≤ sizeLine; omega, fun t3 nt3 => ⟨t3, _, rfl, .inl (.inl upd_same), rfl, _, _, rfl, _, _, rfl, _, _, rfl, rfl, ?_⟩⟩⟩⟩⟩
    have n2 := nt2
    have f89 : Fr T [] H8 (upd (upd (upd (upd H8 t1 (.tup [])) t2 (.tup [.ref pp, .ref t1])) l1 (.lst [])) t3 (.tup [.ref bd, .ref t2, .ref l1])) := (((Fr.new nt1).trans (.new nt2)).trans (.new nl1)).trans (.new nt3)
    have a1 : Reg [bd, pa] (upd (upd (upd (upd H8 t1 (.tup [])) t2 (.tup [.ref pp, .ref t1])) l1 (.lst [])) t3 (.tup [.ref bd, .ref t2, .ref l1])) t1 = some (.tup []) := (((Fr.new (T := T) (W := []) nt2).trans (.new nl1)).trans (.new nt3)).reg0 _ _ (reg_in (S8.lv.fresh nt1) upd_same nt_tup)
    have a2 : Reg [bd, pa] (upd (upd (upd (upd H8 t1 (.tup [])) t2 (.tup [.ref pp, .ref t1])) l1 (.lst [])) t3 (.tup [.ref bd, .ref t2, .ref l1])) t2 = some (.tup [.ref pp, .ref t1]) := ((Fr.new (T := T) (W := []) nl1).trans (.new nt3)).reg0 _ _ (reg_in (((Fr.new (T := T) (W := []) nt1).lv S8.lv).fresh nt2) upd_same nt_tup)
    have a3 : Reg [bd, pa] (upd (upd (upd (upd H8 t1 (.tup [])) t2 (.tup [.ref pp, .ref t1])) l1 (.lst [])) t3 (.tup [.ref bd, .ref t2, .ref l1])) l1 = some (.lst []) := (Fr.new (T := T) (W := []) nt3).reg0 _ _ (reg_in ((((Fr.new (T := T) (W := []) nt1).trans (.new nt2)).lv S8.lv).fresh nl1) upd_same nt_lst)
    generalize (upd (upd (upd (upd H8 t1 (.tup [])) t2 (.tup [.ref pp, .ref t1])) l1 (.lst [])) t3 (.tup [.ref bd, .ref t2, .ref l1])) = H9 at f89 a1 a2 a3 ⊢
    have S9 := S8.fr0 f89
    have D9 : Dyn K CT CB js pose pa bd (.ref tr) 0 (pose, []) [] (.ref t2) l1 H9 := ⟨f89.board0 bo8, ⟨t2, pp, .ref t1, rfl, .inl (.inl a2), S9.fp, .tup (.inl (.inl a1)) .nil⟩, ⟨[], a3, .nil⟩, .start gp N.hl, (fun _ z => nomatch z), Nat.le_refl _⟩
    have f09 : Fr T [bd, pa] H H9 := f08.trans f89.nil
    refine ⟨18, rfl, by decide, by decide, for_it (walk_range (lo := 0) (n := 18)) (fun i σ Hx => ∃ (st : StM) (past : List StM) (vst : V) (pl : Addr) (x8 x9 x10 x11 x12 x13 x14 x15 : Option V), σ = [some (.ref pa), some (.int (2 + ((d1 : Nat) : Int))), some (.ref pj), some (.ref tr), some vl, some (.ref pp), some vst, some (.ref pl), x8, x9, x10, x11, x12, x13, x14, x15, some (.ref bd)] ∧ Stat K T CT js pose pa bd pp (.ref pj) (.ref tr) vl Hx ∧ Dyn K CT CB js pose pa bd (.ref tr) i st past vst pl Hx ∧ Fr T [bd, pa] H Hx) ?_ ?_ ?_ ?_⟩
    · exact ⟨_, _, _, _, none, none, none, none, none, none, none, none, rfl, S9, D9, f09⟩
    · exact fun _ _ _ _ _ => trivial
    · rintro i x σ Hx Hy hi ⟨st, past, vst, pl, x8, x9, x10, x11, x12, x13, x14, x15, rfl, Sx, Dx, fx⟩ ⟨rfl, hx⟩
      refine ⟨_, rfl, pa, 6, rfl, by decide, by decide, Sx.pu, fun H2 wy hw fa pua => ?_⟩
      refine ⟨⟨wy, rfl⟩, js, pose, pa, bd, pp, pl, _, _, _, vst, i, st, past, _, _, _, _, _, _, _, _, _, rfl, N, by omega, Sx.frP fa pua, Dx.frP hne fa, fun H3 pl3 vst3 st3 past3 y10 y11 y12 y13 y14 y15 fb S3 D3 => ?_⟩
      obtain ⟨sa, sp, sv2, rfl, hsa, hsp, hsv⟩ := id D3.hs
      refine ⟨_, rfl, sa, _, 0, _, rfl, rfl, Same.seqT reg_same hsa, atI_nat (j := 0) rfl, sp, vNs st3.1, rfl, (Same.fz reg_same hsp).sq, fun gq ngq => ?_⟩
      have fc : Fr T [] H3 (upd H3 gq (.tup (vNs st3.1).reverse)) := .new ngq
      have hgq : SqT K (upd H3 gq (.tup (vNs st3.1).reverse)) gq (vNs st3.1.reverse) := by
        rw [vNs_rev]
        exact .inl (.inl upd_same)
      generalize (upd H3 gq (.tup (vNs st3.1).reverse)) = H4 at fc hgq ⊢
      have S4 := S3.fr0 fc
      have D4 := D3.fr0 fc
      obtain ⟨xs, hx1, hx2⟩ := D4.hp
      refine ⟨_, rfl, _, rfl, _, rfl, _, rfl, js, [bd, pa], bd, pl3, .ref tr, .ref sa, st3, past3, xs, rfl, S4.lv, D4.bo, D4.hs, .inl (.inl (reg_same _ _ hx1)), by rw [hx2.len], by have := D4.len; omega, D4.ok.ok (by omega), fun H5 fd' => ⟨true, rfl, iteF' rfl ?_⟩⟩
      have S5 := S4.fr0 fd'
      have D5 := D4.fr0 fd'
      obtain ⟨dx, v1, q0, vs, eb, hb2, hb3, hb4, hb5⟩ := id D5.bo
      refine ⟨_, rfl, bd, dx, _, rfl, eb, bF_no (by decide) (by decide) (by decide), _, rfl, rfl, js, [bd, pa], bd, gq, _, st3, past3, st3.1.reverse, rfl, D5.ok.here W, S5.lv, S5.tabs, D5.bo, fd'.sqT0 hgq, fun H6 L fe isL => ?_⟩
      have S6 := S5.fr0 fe
      have D6 := D5.fr0 fe
      have fde := fd'.trans fe
      refine ⟨_, rfl, _, rfl, _, rfl, js, [bd, pa], _, pp, gq, pose, st3.1.reverse, rfl, D6.ok.there W gp N.hl, S6.lv, S6.tabs, S6.tr, (Same.fz reg_same S6.fp).sq, fde.sqT0 hgq, fun H7' L' ff isL' => ?_⟩
      have eL : L = L' := by
        rw [D6.ok.pm.length_eq] at isL
        exact isL.one isL'
      subst eL
      rw [D6.ok.cmp isL' st3.1.reverse]
      refine ⟨rfl, _, rfl, iteF' (by rw [decide_eq_true rfl]; rfl) ?_⟩
      exact ⟨st3, past3, .ref sa, pl3, _, _, _, _, _, _, _, _, rfl, S6.fr0 ff, D6.fr0 ff, (((fx.trans (fa.wide subP)).trans fb).trans (fc.trans (fde.trans ff)).nil)⟩
    · rintro σ Hx ⟨st, past, vst, pl, x8, x9, x10, x11, x12, x13, x14, x15, rfl, Sx, Dx, fx⟩
      obtain ⟨xs, hx1, hx2⟩ := id Dx.hp
      have lxs := hx2.len
      have lpa := Dx.len
      refine ⟨_, rfl, pl, xs, rfl, .inl (.inl (.inl (reg_same _ _ hx1))), (xs.length : Nat), rfl, by omega, by omega, ?_⟩
      refine for_it (walk_range (lo := 0) (n := xs.length)) (fun i σ Hy => ∃ (st : StM) (past : List StM) (pl : Addr) (xs' : List V) (x6 x8 x9 x10 x11 x12 x13 x14 x15 : Option V), σ = [some (.ref pa), some (.int (2 + ((d1 : Nat) : Int))), some (.ref pj), some (.ref tr), some vl, some (.ref pp), x6, some (.ref pl), x8, x9, x10, x11, x12, x13, x14, x15, some (.ref bd)] ∧ Stat K T CT js pose pa bd pp (.ref pj) (.ref tr) vl Hy ∧ BoardAt K CT CB Hy [bd, pa] bd (.ref tr) js st past ∧
        Reg [bd, pa] Hy pl = some (.lst xs') ∧ AllSt K (Reg [bd, pa] Hy) xs' past ∧ (∀ s ∈ past, SOk js pose 72 s) ∧ past.length + i = xs.length ∧ Fr T [bd, pa] H Hy) ?_ ?_ ?_ ?_
      · exact ⟨st, past, pl, xs, _, x8, x9, x10, x11, x12, x13, x14, x15, rfl, Sx, Dx.bo, hx1, hx2, (fun s hs => (Dx.oks s hs).mono (by omega)), by omega, fx⟩
      · exact fun _ _ _ _ _ => trivial
      · rintro i x σ Hy Hz hi ⟨st, past, pl, xs', x6, x8, x9, x10, x11, x12, x13, x14, x15, rfl, Sy, bo, hy1, hy2, oks, hlen, fy⟩ ⟨rfl, hx⟩
        rcases nil_or_snoc past with rfl | ⟨past', st', rfl⟩
        · exfalso
          have : 0 + i = xs.length := hlen
          omega
        obtain ⟨ws, u, rfl, hws, hu⟩ := hy2.unsnoc
        obtain ⟨dx, v1, q0, vs, eb, hb2, hb3, hb4, hb5⟩ := id bo
        refine ⟨_, rfl, bd, dx, _, rfl, eb, bF_no (by decide) (by decide) (by decide), js, [bd, pa], bd, .ref tr, st, past' ++ [st'], rfl, Sy.lv, hbd, bo, (fun p' s' e H2 fa bo2 => ?_), fun e => absurd e (by simp)⟩
        obtain ⟨rfl, e2⟩ := List.append_inj' e rfl
        cases e2
        have S2 := Sy.frB hne fa
        have hl2 : Reg [bd, pa] H2 pl = some (.lst (ws ++ [u])) := fa.reg subB _ _ hy1
        have hl2' : SqL K H2 pl (ws ++ [u]) := .inl (.inl (reg_same _ _ hl2))
        have hu2' := same_st (fa.reg subB) hu
        have hws2 := same_sts (fa.reg subB) hws
        rw [List.length_append] at hlen
        have hlen' : past'.length + 1 + i = xs.length := hlen
        have lws := hws2.len
        refine ⟨rfl, _, rfl, iteF' rfl ?_⟩
        refine ⟨_, rfl, _, rfl, _, rfl, 1, rfl, pl, _, -1, u, rfl, rfl, hl2', atI_last _ _, _, rfl, 1, rfl, -1, rfl, pl, _, rfl, hl2', fun l2 nl2 => ?_⟩
        rw [cutm]
        have f3 : Fr T [] H2 (upd H2 l2 (.lst ws)) := .new nl2
        have el2 : SqL K (upd H2 l2 (.lst ws)) l2 ws := .inl (.inl upd_same)
        generalize (upd H2 l2 (.lst ws)) = H3 at f3 el2 ⊢
        have S3 := S2.fr0 f3
        refine ⟨js, [bd, pa], bd, l2, .ref tr, u, st', past', ws, rfl, S3.lv, f3.board0 bo2, same_st f3.reg0 hu2', el2, lws, by omega, (oks st' (List.mem_append_right _ (List.mem_singleton.mpr rfl))).ok (by omega), fun H4 f4 => ⟨true, rfl, iteF' rfl ?_⟩⟩
        have f24 := f3.trans f4
        refine ⟨_, rfl, 1, rfl, -1, rfl, pl, _, rfl, f24.sqL0 hl2', fun l3 nl3 => ?_⟩
        rw [cutm]
        have f5 : Fr T [] H2 (upd H4 l3 (.lst ws)) := f24.trans (.new nl3)
        exact ⟨st', past', l3, ws, x6, _, x9, x10, x11, x12, x13, x14, x15, rfl, S2.fr0 f5, f5.board0 bo2, reg_in ((f24.lv S2.lv).fresh nl3) upd_same nt_lst, same_sts f5.reg0 hws2, (fun s hs => oks s (List.mem_append_left _ hs)), by omega, (fy.trans (fa.wide subB)).trans f5.nil⟩
      · rintro σ Hy ⟨st, past, pl, xs', x6, x8, x9, x10, x11, x12, x13, x14, x15, rfl, Sy, bo, hy1, hy2, oks, hlen, fy⟩
        obtain ⟨dx, v1, q0, vs, eb, hb2, hb3, hb4, hb5⟩ := id bo
        refine ⟨_, rfl, _, rfl, bd, bd, dx, dx, _, _, rfl, rfl, eb, eb, _, rfl, iteT' (decide_eq_true rfl) ?_⟩
        refine ⟨_, rfl, _, rfl, _, rfl, fun b2 b2x nb2 nb2x ne2 => ?_⟩
        obtain ⟨g1, lv1, sm1⟩ := made (T := T) (C := CB) Sy.lv nb2 nb2x ne2
        refine ⟨js, [b2, bd, pa], b2, b2x, pp, _, pose, rfl, W, lv1, upd_same, List.mem_cons_self .., Same.tree sm1 Sy.tr, Same.fz sm1 Sy.fp, gp, N.hl, fun H2 fa bo2 => ⟨rfl, ?_⟩⟩
        have fy2 : Fr T [] Hy H2 := Fr.drop (q := b2) (g1.nil.trans fa) (nw_none nb2)
        have nb : bd ≠ b2 := ne_of_none eb nb2
        obtain ⟨dx2, _, _, _, eb2, _, _, _, _⟩ := bo2
        refine ⟨bd, b2, dx, dx2, _, _, rfl, rfl, fy2.at0 eb nt_ins, eb2, _, rfl, _, rfl, iteT' (by rw [decide_eq_false nb]; rfl) ?_⟩
        have S2 := Sy.fr0 fy2
        refine ⟨_, rfl, _, rfl, _, rfl, fun b3 b3x nb3 nb3x ne3 => ?_⟩
        obtain ⟨g2, lv2', sm2⟩ := made (T := T) (C := CB) S2.lv nb3 nb3x ne3
        refine ⟨js, [b3, bd, pa], b3, b3x, pp, _, pose, rfl, W, lv2', upd_same, List.mem_cons_self .., Same.tree sm2 S2.tr, Same.fz sm2 S2.fp, gp, N.hl, fun H3 fb bo3 => ⟨rfl, ?_⟩⟩
        have f23 : Fr T [] H2 H3 := Fr.drop (q := b3) (g2.nil.trans fb) (nw_none nb3)
        have nb' : bd ≠ b3 := ne_of_none (fy2.at0 eb nt_ins) nb3
        obtain ⟨dx3, _, _, _, eb3, _, _, _, _⟩ := bo3
        refine ⟨bd, b3, dx, dx3, _, _, rfl, rfl, nb', (fy2.trans f23).at0 eb nt_ins, eb3, q H3 ?_⟩
        exact Fr.drop (q := bd) (fy.trans (fy2.trans f23).nil) nwb
end
end Tz
end -- W36
section -- W37
set_option maxHeartbeats 4000000
namespace Tz
open PySem PySem.Spec PyProof.Rows L2 TL
section
variable {P : Program} {w : World} {K : PySem.W.Frag} {mg : Str → Option Value} {base : Heap} {T : List (Addr × Str)}
abbrev sLaw : Stmt := top 76
abbrev nLaw : List Str := ["_law_script", "_law_spot"]
theorem scLaw : FnScope nLaw ["_law_script"] (defScope sLaw) := ⟨rfl, rfl, rfl, by decide +kernel, rfl, by decide +kernel, by decide +kernel⟩
def spLaw (K : PySem.W.Frag) (T : List (Addr × Str)) : Sp := fun vs H Q _ => ∃ (sc : Addr) (ns : List Int), vs = [.ref sc] ∧ SqL K H sc (ns.map V.int) ∧ ns.length ≤ 63 ∧ LamX.Tabs T H ∧ ∀ H', Q (.bl true) H'
theorem ok_law {f : Addr} {fd : FuncData} (F : L2.Fun K "law" "law" sLaw f fd) (B : Blt mg) (DP : Def P w K mg base 1 "_law_purse" ["_law_script", "_law_spot"] (spPurse K T)) (DR : DefG P w K mg base 9 "_law_right" ["_law_purse_here"] (spRight T)) : FnG P w K mg base 10 f fd ["_law_script"] (spLaw K T) := by
  refine okG F scLaw (fun vs H Q E h => ?_) (fun cdv A outer s H vs Q E hr gu h => ?_)
  · obtain ⟨sc, ns, rfl, _⟩ := h
    rfl
  · obtain ⟨sc, ns, rfl, hsc, hn, tabs, q⟩ := h
    refine ⟨_, pss_one (ps_ret (pe_callB (cr_all rfl) (by rfl) B.all (by decide +kernel) (pa_cons (pe_lc (own := [("_law_spot", 1)]) (g := gName 1) (tt := tYes) (te := tCall (spRight T) [] (fun _ _ _ => False) (tCons (tCall (spPurse K T) [] (fun _ _ _ => False) (tCons (tVar 0) (tCons (tVar 1) tNil))) tNil)) rfl scLaw.nd
      (pi_range1 rfl B.range (pa_cons (pe_callB (call_max2 rfl) (by rfl) B.max (by decide +kernel) (pa_cons pe_int (pa_cons (pe_callB (call_min2 rfl) (by rfl) B.min (by decide +kernel) (pa_cons (pe_callB call_len_seq (by rfl) B.len PySem.boot_len (pa_cons (pv 0) pa_nil)) (pa_cons pe_int pa_nil))) pa_nil))) pa_nil))
      (blkOk_by (N := nLaw) (sc := defScope sLaw) (by decide +kernel)) (fun _ _ _ _ _ => pg_name (i := 1) scLaw.nd rfl (Or.inl rfl)) (fun _ _ _ _ _ => pts_nil)
      (fun _ _ _ _ _ => pe_callDG DR hr gu (by rfl) (pa_cons (pe_callD DP (hr.mono (by decide)) (by rfl) (pa_cons (pv 0) (pa_cons (pv 1) pa_nil))) pa_nil))) pa_nil))), ?_⟩
    have sl := sizeLine_eq
    obtain ⟨m, hm, hm4⟩ : ∃ m : Nat, (if (if (4 : Int) < (ns.map V.int).length then (4 : Int) else (ns.map V.int).length) > 2 then (if (4 : Int) < (ns.map V.int).length then (4 : Int) else (ns.map V.int).length) else 2) = ((m : Nat) : Int) ∧ m ≤ 4 := by
      refine ⟨(if (if (4 : Int) < (ns.map V.int).length then (4 : Int) else (ns.map V.int).length) > 2 then (if (4 : Int) < (ns.map V.int).length then (4 : Int) else (ns.map V.int).length) else 2).toNat, ?_, ?_⟩ <;> (split <;> split <;> omega)
    refine ⟨_, rfl, sc, _, rfl, .inl hsc, _, _, rfl, _, _, rfl, ((m : Nat) : Int), congrArg (fun z => [V.int z]) hm, by omega, by omega, fun D nD => lc_it (walk_range (lo := 0) (n := m)) (fun i H2 => Fr T [D] H H2 ∧ H2 D = some (.lst ((List.replicate i true).map V.bl))) ⟨.new nD, by rw [upd_same]; rfl⟩ (fun _ _ _ _ => trivial) ?_ ?_⟩
    · rintro i x H2 H3 hi ⟨fr, eD⟩ ⟨rfl, hx⟩
      obtain rfl : x = V.int (i : Nat) := hx.trans (congrArg V.int (by omega))
      have f02 := fr.drop (nw_none nD)
      refine ⟨rfl, _, rfl, _, rfl, sc, ns, i, rfl, f02.sqL0 hsc, hn, fun H4 pu f4 nw4 p4 => ?_⟩
      have e4 := f4.at0 eD nt_lst
      have hne : D ≠ pu := ne_nw eD nt_lst nw4
      refine ⟨pu, rfl, p4, (f02.trans f4).tabs tabs, fun H5 f5 => ?_⟩
      have e5 := f5.keep D _ (fun z => hne (List.mem_singleton.mp z)) e4 nt_lst
      have f25 : Fr T [] _ H5 := Fr.drop (q := pu) (f4.nil.trans f5) nw4
      refine ⟨_, e5, by rw [List.length_map, List.length_replicate]; omega, (fr.trans f25.nil).trans (Fr.write e5 wr_lst (fun _ z => nomatch z) (List.mem_singleton.mpr rfl)), ?_⟩
      rw [upd_same, List.replicate_succ', List.map_append]
      rfl
    · rintro H2 ⟨fr, eD⟩
      refine ⟨D, _, rfl, .inl (.inl eD), ?_⟩
      have e : (List.replicate m true).all id = true := by simp
      rw [e]
      exact q H2
end
end Tz
end -- W37
section -- EndG
set_option maxHeartbeats 4000000
/-! The end of the law's row for a def that wants no repr to be under way (FnG). -/
namespace Tz
open PySem PySem.Spec PyProof.Rows L2
/-- what is tracked at first: the tables of code objects, the script -/
def firstH (ts : List Addr) (a : Addr) (sc : Option HO) : Hp := fun b => if b ∈ ts then some (.tbl #[]) else if b = a then sc else none
section
variable {P : Program} {w : World} {K : PySem.W.Frag} {mg mb : Str → Option Value} {ts : List Addr} {a : Addr} {sc : Option HO} {s : Shared} {vs : List Value} {ns : List Int}
theorem firstH_t {b : Addr} (h : b ∈ ts) : firstH ts a sc b = some (.tbl #[]) := if_pos h
theorem firstH_n {b : Addr} (h : b ∉ ts) (h2 : b ≠ a) : firstH ts a sc b = none := (if_neg h).trans (if_neg h2)
theorem firstH_a (h : a ∉ ts) : firstH ts a sc a = sc := (if_neg h).trans (if_pos rfl)
/-- what neither is a list nor an empty record stands untracked -/
theorem firstH_free (ha : s.heap.get? a = some { cls := .type "list", data := .seq vs.toArray }) (ht : ∀ b ∈ ts, s.heap.get? b = some { cls := .none, data := .fields #[] }) {b : Addr} {o : Obj} (e : s.heap.get? b = some o) (n1 : ∀ l n, o.data ≠ .seq l n) (n2 : o.data ≠ .fields #[]) : firstH ts a sc b = none := by
  refine firstH_n (fun z => ?_) fun z => ?_
  · rw [ht b z] at e
    exact n2 (congrArg Obj.data (Option.some.inj e)).symm
  · subst z
    rw [ha] at e
    exact n1 _ _ (congrArg Obj.data (Option.some.inj e)).symm
theorem firstH_ok (ha : s.heap.get? a = some { cls := .type "list", data := .seq vs.toArray }) (ht : ∀ b ∈ ts, s.heap.get? b = some { cls := .none, data := .fields #[] }) (hi : IntsAre vs ns) (hl : ns.length ≤ sizeLine) (hs : ∀ o, sc = some o → o = .frz { cls := .type "list", data := .seq vs.toArray } (.lst (ns.map V.int))) :
    HOk P w (firstH ts a sc) s.heap := fun b o e => by
  by_cases hb : b ∈ ts
  · rw [firstH_t hb] at e
    cases e
    exact ht b hb
  · by_cases h2 : b = a
    · subst h2
      rw [firstH_a hb] at e
      rw [hs o e]
      exact ⟨ha, by rw [List.length_map]; exact hl, vs, _, vals_ints hi, ha⟩
    · rw [firstH_n hb h2] at e
      cases e
end
theorem law_callG {P : Program} {w : World} {K : PySem.W.Frag} {mg mb : Str → Option Value} {k : Nat} {fa a : Addr} {cs : List (Addr × Addr)} {fd : FuncData} {x : Str} {sp : Sp} {s : Shared} {vs : List Value} {ns : List Int}
    (KX : K.In s.heap) (hns : s.heap.Ns mainGlobals mg) (hb : s.heap.Ns builtinsNs mb) (hbb : ∀ x : Str, x ≠ "__name__" → mb x = bootBuiltins x) (hlim : s.heap.NoLimit) (hg : s.gens = #[])
    (hT : ∀ p ∈ cs, s.heap.get? p.2 = some { cls := .none, data := .fields #[] }) (nT : ∀ p ∈ cs, K.lookup p.2 = none) (C : ∀ p ∈ cs, PySem.W.CodeHd s.heap p.1 p.2)
    (hbm : ∃ (bm : Addr) (ob : Obj), mg "__builtins__" = some (.ref bm) ∧ bm ≠ builtinsNs ∧ s.heap.get? bm = some ob ∧ ob.cls = .type "module" ∧ ob.dict = some builtinsNs ∧ ob.data = .plain)
    (ha : s.heap.get? a = some { cls := .type "list", data := .seq vs.toArray }) (hi : IntsAre vs ns) (hl : ns.length ≤ sizeLine) (hr : Room k callerA)
    (F : ∀ base : Heap, K.In base → base.Ns mainGlobals mg → (∀ p ∈ cs, LamX.TabB base mg p.1 p.2) → FnG P w K mg base k fa fd [x] sp) (hbind : ∀ (s : Shared) (u : Value), BindsTo s fd ⟨[u], []⟩ [(x, u)])
    (hsp : ∀ H : Hp, (∀ p ∈ cs, H p.2 = some (.tbl #[])) → SqL K H a (ns.map V.int) → sp [.ref a] H (fun v _ => v = .bl true) fun _ _ _ => False) :
    codeAny (model P w) callerA (.call (.ref fa) ⟨[.ref a], []⟩) (fun r s' => r = .ok (.ret (.bool true)) ∧ OldK s.heap s'.heap ∧ s'.os = s.os ∧ AllBare s'.gens) s := by
  obtain ⟨ts, ets⟩ : ∃ ts, ts = cs.map (·.2) := ⟨_, rfl⟩
  have mem : ∀ p ∈ cs, p.2 ∈ ts := fun p hp => by rw [ets]; exact List.mem_map_of_mem hp
  have of_mem : ∀ {b}, b ∈ ts → ∃ p ∈ cs, p.2 = b := fun {b} h => by
    rw [ets] at h
    exact List.mem_map.mp h
  have ht : ∀ b ∈ ts, s.heap.get? b = some { cls := .none, data := .fields #[] } := fun b hb => by
    obtain ⟨p, hp, rfl⟩ := of_mem hb
    exact hT p hp
  have aT : a ∉ ts := fun z => by
    have e := (ht a z).symm.trans ha
    cases e
  -- the script: tracked as a list kept still, or an object of the written part
  obtain ⟨sc, hsc, hSq, hKa⟩ : ∃ sc : Option HO, (∀ o, sc = some o → o = .frz { cls := .type "list", data := .seq vs.toArray } (.lst (ns.map V.int))) ∧ SqL K (firstH ts a sc) a (ns.map V.int) ∧ (sc ≠ none → K.lookup a = none) := by
    cases e : K.lookup a with
    | none => exact ⟨some (.frz { cls := .type "list", data := .seq vs.toArray } (.lst (ns.map V.int))), fun o z => (Option.some.inj z).symm, .inl (.inr ⟨_, firstH_a aT⟩), fun _ => rfl⟩
    | some o =>
      have e2 := (KX a o e).symm.trans ha
      cases e2
      exact ⟨none, (fun _ z => nomatch z), .inr ⟨_, vs.toArray, _, e, rfl, rfl, rfl, by rw [List.size_toArray, hi.length]; exact hl, by simpa using vals_ints hi⟩, fun z => absurd rfl z⟩
  have fr := fun {b : Addr} {o : Obj} => firstH_free (sc := sc) ha ht (b := b) (o := o)
  have keptK : ∀ b o, K.lookup b = some o → firstH ts a sc b = none := fun b o e => by
    by_cases hb : b ∈ ts
    · obtain ⟨p, hp, rfl⟩ := of_mem hb
      rw [nT p hp] at e
      cases e
    · by_cases h2 : b = a
      · rw [h2, firstH_a aT]
        cases q : sc with
        | none => rfl
        | some u =>
          rw [h2, hKa (by rw [q]; exact fun z => nomatch z)] at e
          cases e
      · exact firstH_n hb h2
  have nsB : ∀ {b : Addr} {m : Str → Option Value}, s.heap.Ns b m → (hidT s.heap (firstH ts a sc)).Ns b m := fun {b m} ⟨o, es, ep, e, d, r⟩ => ⟨o, es, ep, hidT_get e (fr e (fun _ _ z => by rw [d] at z; cases z) fun z => by rw [d] at z; cases z), d, r⟩
  have kb : K.In (hidT s.heap (firstH ts a sc)) := fun b o e => hidT_get (KX b o e) (keptK b o e)
  have md : L2.Mod K mg (hidT s.heap (firstH ts a sc)) := ⟨kb, nsB hns, ⟨mb, nsB hb, hbb⟩, by
    obtain ⟨mc, q1, q2⟩ := hlim
    exact ⟨mc, nsB q1, q2⟩⟩
  have tb : ∀ p ∈ cs, LamX.TabB (hidT s.heap (firstH ts a sc)) mg p.1 p.2 := fun p hp => by
    obtain ⟨bm, ob, b1, b2, b3, b4, b5, b6⟩ := hbm
    obtain ⟨og, es, ep, eg, dg, _⟩ := hns
    refine ⟨?_, ⟨bm, ob, b1, b2, fun z => ?_, fun z => ?_, hidT_get b3 (fr b3 (fun _ _ z => by rw [b6] at z; cases z) fun z => by rw [b6] at z; cases z), b4, b5, b6⟩, fun z => ?_⟩
    · obtain ⟨o, us, file, tf, flags, tg, inF, text, tt, e1, r1, r2, r3, rs⟩ := C p hp
      refine ⟨o, us, file, tf, flags, tg, inF, text, tt, hidT_get e1 (fr e1 (fun _ _ z => by rw [r2] at z; cases z) fun z => ?_), r1, r2, r3, rs⟩
      rw [r2] at z
      cases z
      simp at r3
    · rw [z, eg] at b3
      cases b3
      rw [dg] at b6
      cases b6
    · rw [z, hT p hp] at b3
      cases b3
      cases b6
    · rw [z, hT p hp] at eg
      cases eg
      cases dg
  have e0 : Env0 P w K mg (hidT s.heap (firstH ts a sc)) callerA [] s (firstH ts a sc) := ⟨rfl, md, fun b o e => of_hidT e, Nat.le_of_eq (hidT_size _ _), trivial, (fun b z => nomatch (show b ∈ ([] : List Addr) from z)), firstH_ok ha ht hi hl hsc, .of_eq hg⟩
  refine codeAny_mono ((F _ kb (nsB hns) tb).run callerA [] s (firstH ts a sc) ⟨[.ref a], []⟩ [.ref a] [.ref a] _ _ hr rfl e0 (hbind s (.ref a)) (.cons rfl .nil) (hsp _ (fun p hp => firstH_t (mem p hp)) hSq)) fun r s' hq => ?_
  match r, hq with
  | .error _, hq => exact (show False from hq).elim
  | .ok .next, hq => exact (show False from hq).elim
  | .ok .brk, hq => exact (show False from hq).elim
  | .ok .cont, hq => exact (show False from hq).elim
  | .ok (.ret u), hq =>
    obtain ⟨v, H', os, bare, un, hok', ru, ev⟩ := hq
    cases (show v = .bl true from ev)
    obtain rfl : u = Value.bool true := ru
    -- what is no table stands as it stood
    have still : ∀ b o, b ∉ ts → s.heap.get? b = some o → s'.heap.get? b = some o := fun b o nb e => by
      cases q : firstH ts a sc b with
      | none => exact un.keep b o e q (fun z => nomatch (show b ∈ ([] : List Addr) from z)) (by simp)
      | some u =>
        have hba : b = a := Classical.byContradiction fun z => by
          rw [firstH_n nb z] at q
          cases q
        subst hba
        rw [firstH_a aT] at q
        have q2 := un.frzs b { cls := .type "list", data := .seq vs.toArray } (.lst (ns.map V.int)) (by rw [firstH_a aT, q, hsc u q])
        obtain ⟨e1, _⟩ := hok' b _ q2
        rw [ha] at e
        cases e
        exact e1
    have grown : ∀ p ∈ cs, ∃ more : Array Value, s'.heap.get? p.2 = some { cls := .none, data := .fields more } := fun p hp => by
      obtain ⟨more, z⟩ := un.tbls p.2 #[] (firstH_t (mem p hp))
      exact ⟨_, hok' p.2 _ z⟩
    refine ⟨rfl, ⟨fun b o e => ?_, fun b o e => ?_⟩, os, bare⟩
    · by_cases hbt : b ∈ ts
      · obtain ⟨p, hp, rfl⟩ := of_mem hbt
        obtain ⟨more, hm⟩ := grown p hp
        rw [hT p hp] at e
        cases e
        exact .inr (.inl ⟨((C p hp).tab (hT p hp)).isCodeTable, rfl, #[], more, rfl, by rw [Array.empty_append]; exact hm⟩)
      · exact .inl (still b o hbt e)
    · by_cases hbt : b ∈ ts
      · obtain ⟨p, hp, rfl⟩ := of_mem hbt
        obtain ⟨more, hm⟩ := grown p hp
        exact ⟨_, hm⟩
      · exact ⟨o, still b o hbt e⟩
end Tz
end -- EndG
section -- Facts
set_option maxHeartbeats 4000000
namespace Tz
open PySem PySem.Spec PyProof.Rows L2 TL
theorem exB_at {K : PySem.W.Frag} (h : exB K = true) (i : Nat) {b : Bool} (e : (exL K)[i]? = some b) : b = true := List.all_eq_true.mp h b (List.mem_of_getElem? e)
theorem vals_rev : ∀ {xs : List V} {us : List Value}, Vals xs us → Vals xs.reverse us.reverse
  | _, _, .nil => .nil
  | _, _, .cons r t => by
    rw [List.reverse_cons, List.reverse_cons]
    exact (vals_rev t).append (.cons r .nil)
section
variable {K : PySem.W.Frag} {x qual : Str} {params : Arguments} {body : List Stmt} {scope : Scope} {f : Addr} {fd : FuncData} {ps : List Str}
theorem kbn_of (F : FunD K x qual params body scope [] [] f fd) (n : Nat) (ks : List Str) (g : List Value → List Value → List Value) (gV : List V → List V → List V) (rel : ∀ {vs : List V} {us : List Value} {zs : List V} {ws : List Value}, Vals vs us → Vals zs ws → Vals (gV vs zs) (g us ws))
    (h : ∀ (kV doc pm : Value) (an : Option Addr) (cdv ct : Value) (us ws : List Value), us.length = n → ws.length = ks.length → bindArgs (PySem.W.fnOf x qual params body scope .none kV doc pm an cdv ct) ⟨us, ks.zip ws⟩ = pure (ps.zip (g us ws))) : KBn K fd ps n ks g gV := by
  obtain ⟨oc, od, dV, kV, doc, pm, an, cdv, ct, osl, rfl, lk, hcd, hD, hK⟩ := F.ex
  rcases hD with ⟨_, rfl⟩ | ⟨e, _⟩
  · exact ⟨fun s us ws _ l1 l2 => .of_eq (h kV doc pm an cdv ct us ws l1 l2), rel⟩
  · exact absurd rfl e
theorem code_of {p : He.Defn} {dvs : List V} {kws : List (Str × V)} (F : FunD K x qual params body scope dvs kws (He.fAd K p) fd) : fd.code = .ref (He.cT K p).1 := by
  obtain ⟨oc, od, dV, kV, doc, pm, an, cdv, ct, osl, rfl, lk, hcd, hD, hK⟩ := F.ex
  obtain ⟨cc, rfl⟩ := He.codeIn_ref hcd
  have e := He.codeOf_eq (p := p) lk rfl
  show Value.ref cc = .ref (He.codeOf K p)
  rw [e]
end
theorem isB_ok {K : PySem.W.Frag} {mg : Str → Option Value} {x : Str} (hm : mg x = some (.ref (gA K x))) (h : isB K x = true) : IsF K mg x (gA K x) := by
  obtain ⟨h1, h⟩ := He.ba h
  obtain ⟨h2, h⟩ := He.ba h
  obtain ⟨h3, h⟩ := He.ba h
  obtain ⟨h4, h5⟩ := He.ba h
  exact ⟨hm, He.eqO_ok h1, He.eqO_ok h2, of_decide_eq_true h3, of_decide_eq_true h4, of_decide_eq_true h5⟩
theorem eqDefB_ok {K : PySem.W.Frag} {x : Str} (h : eqDefB K x = true) : EqDef K (gA K x) := by
  obtain ⟨h1, h⟩ := He.ba h
  obtain ⟨h2, h3⟩ := He.ba h
  exact ⟨of_decide_eq_true h1, He.eqO_ok h2, He.eqO_ok h3⟩
theorem undoB_ok {K : PySem.W.Frag} {mg : Str → Option Value} (hm : mg "NothingToUndo" = some (.ref (gA K "NothingToUndo"))) (h : undoB K = true) : ExcU K mg "NothingToUndo" (gA K "NothingToUndo") := by
  obtain ⟨h1, h⟩ := He.ba h
  obtain ⟨h2, h⟩ := He.ba h
  obtain ⟨h3, h4⟩ := He.ba h
  exact ⟨h1, hm, h2, of_decide_eq_true h3, of_decide_eq_true h4⟩
theorem kitB_ok {K : PySem.W.Frag} {x : Str} {i : Nat} (h1 : excCB K (gA K x) = true) (h : kitB K x i = true) : XIs K (cA K) (gA K x) i :=
  ⟨excCB_ok h1, fun j hj => of_decide_eq_true (List.all_eq_true.mp h j (List.mem_range.mpr hj))⟩
section
variable {P : Program} {w : World} {K : PySem.W.Frag} {h base : Heap} {mg : Str → Option Value}
/-- the tables of code objects -/
def tbls (K : PySem.W.Frag) : List (Addr × Addr) := tfL.map (He.cT K)
def tabT (K : PySem.W.Frag) : List (Addr × Str) := [((He.cT K ("_law_right", none)).2, ("_law_right" : Str) ++ ".<locals>." ++ "<lambda>"), ((He.cT K ("all_lanes", none)).2, ("all_lanes" : Str) ++ ".<locals>." ++ "<lambda>")]
theorem facts (X : K.In h) (G : h.Ns mainGlobals mg) (c : SaysP faL fnL tfL exB psL h K) (TB : ∀ p ∈ tbls K, LamX.TabB base mg p.1 p.2) {fd : FuncData} (FD0 : FunD K "law" "law" (defArgs (top 76)) (defBody (top 76)) (defScope (top 76)) [] [] (gA K "law") fd) :
    FnG P w K mg base 10 (gA K "law") fd ["_law_script"] (spLaw K (tabT K)) := by
  have B : Blt mg := ⟨He.free_ok X G (c.d.fact 0 (f := .free "len") rfl), He.free_ok X G (c.d.fact 1 (f := .free "isinstance") rfl), He.free_ok X G (c.d.fact 2 (f := .free "str") rfl), He.free_ok X G (c.d.fact 3 (f := .free "all") rfl), He.free_ok X G (c.d.fact 4 (f := .free "enumerate") rfl), He.free_ok X G (c.d.fact 5 (f := .free "range") rfl), He.free_ok X G (c.d.fact 6 (f := .free "tuple") rfl), He.free_ok X G (c.d.fact 7 (f := .free "sorted") rfl), He.free_ok X G (c.d.fact 8 (f := .free "int") rfl), He.free_ok X G (c.d.fact 9 (f := .free "abs") rfl), He.free_ok X G (c.d.fact 10 (f := .free "divmod") rfl), He.free_ok X G (c.d.fact 11 (f := .free "max") rfl), He.free_ok X G (c.d.fact 12 (f := .free "min") rfl), He.free_ok X G (c.d.fact 13 (f := .free "list") rfl), He.free_ok X G (c.d.fact 14 (f := .free "bool") rfl), He.free_ok X G (c.d.fact 15 (f := .free "repr") rfl)⟩
  have hL : ∃ t, mg "LETTERS" = some (.str "abcdefghijklmnopqrstuvwxyz" t) := He.str_ok X G (c.d.fact 81 (f := .str "LETTERS" "abcdefghijklmnopqrstuvwxyz") rfl)
  have hM : ∃ t, mg "MOST_PLACES" = some (.int 40 t) := He.int_ok X G (c.d.fact 80 (f := .int "MOST_PLACES" 40) rfl)
  have TF : TreeF K (gA K "Tree") := ⟨He.cls_ok (c.d.fact 82 (f := .cls "Tree") rfl), He.noat_ok (c.d.fact 84 (f := .noat "Tree" "written") rfl), He.noat_ok (c.d.fact 85 (f := .noat "Tree" "joints") rfl), He.noat_ok (c.d.fact 86 (f := .noat "Tree" "links") rfl)⟩
  have BF : BoardF K (gA K "Board") := ⟨He.cls_ok (c.d.fact 83 (f := .cls "Board") rfl), He.noat_ok (c.d.fact 87 (f := .noat "Board" "base") rfl), He.noat_ok (c.d.fact 88 (f := .noat "Board" "now") rfl), He.noat_ok (c.d.fact 89 (f := .noat "Board" "past") rfl)⟩
  have IT : IsF K mg "Tree" (gA K "Tree") := isB_ok (He.glo_ok X G (c.d.fact 55 (f := .glo "Tree") rfl)) (exB_at c.more 12 rfl)
  have pText : Prp P w K mg base (gA K "Tree") 1 "text" (spTText (gA K "Tree")) := by
    obtain ⟨fd, FD⟩ := c.def_ 4 (d := pr "Tree" 31 1 "text" "Tree.text") rfl (exB_at c.more 10 rfl)
    exact ⟨_, _, fd, propB_ok (exB_at c.more 4 rfl), ok_ttext (fun_ofD FD) TF, FD.bindsN (fun _ _ _ _ _ _ us hl => match us, hl with | [_], _ => rfl)⟩
  have pPlaces : Prp P w K mg base (gA K "Tree") 1 "places" (spTPlaces K (tabT K) (gA K "Tree")) := by
    obtain ⟨fd, FD⟩ := c.def_ 5 (d := pr "Tree" 31 2 "places" "Tree.places") rfl (exB_at c.more 11 rfl)
    exact ⟨_, _, fd, propB_ok (exB_at c.more 5 rfl), ok_tplaces (fun_ofD FD) B TF, FD.bindsN (fun _ _ _ _ _ _ us hl => match us, hl with | [_], _ => rfl)⟩
  have TC : TreeC P w K mg base (tabT K) (gA K "Tree") := ⟨TF, IT, pPlaces⟩
  have dIsName : Def P w K mg base 1 "is_name" ["value"] (spIsName (tabT K)) := by
    obtain ⟨fd, FD⟩ := c.d.def_ 0 (d := gl "is_name" 28) rfl
    exact ⟨_, fd, ok_isname (fun_ofD FD) B hL, (He.glo_ok X G (c.d.fact 16 (f := .glo "is_name") rfl)), FD.kp, FD.bindsN (fun _ _ _ _ _ _ us hl => match us, hl with | [_], _ => rfl)⟩
  have dJoints : Def P w K mg base 2 "joints_of" ["text"] (spJoints K (tabT K)) := by
    obtain ⟨fd, FD⟩ := c.d.def_ 1 (d := gl "joints_of" 29) rfl
    exact ⟨_, fd, ok_joints (fun_ofD FD) B hM dIsName, (He.glo_ok X G (c.d.fact 17 (f := .glo "joints_of") rfl)), FD.kp, FD.bindsN (fun _ _ _ _ _ _ us hl => match us, hl with | [_], _ => rfl)⟩
  have mTree : MkD P w K mg base (gA K "Tree") 3 "Tree" ["self", "text"] (spTInit K (tabT K) (gA K "Tree")) := by
    obtain ⟨fd, FD⟩ := c.d.def_ 39 (d := me "Tree" 31 0 "__init__" "Tree.__init__") rfl
    exact ⟨_, fd, He.mkr_ok (c.d.fact 90 (f := .mkr "Tree") rfl), ok_tinit (fun_ofD FD) B TF dJoints, (He.glo_ok X G (c.d.fact 55 (f := .glo "Tree") rfl)), FD.bindsN (fun _ _ _ _ _ _ us hl => match us, hl with | [_, _], _ => rfl)⟩
  have eTree : EqTD P w K mg base (gA K "Tree") := by
    obtain ⟨fd, FD⟩ := c.d.def_ 40 (d := me "Tree" 31 10 "__eq__" "Tree.__eq__") rfl
    exact ⟨_, fd, _, (He.meth_ok (c.d.fact 92 (f := .meth "Tree" "__eq__") rfl)).at_, (He.meth_ok (c.d.fact 92 (f := .meth "Tree" "__eq__") rfl)).fn, ok_teq (fun_ofD FD) B TF IT pText, FD.bindsN (fun _ _ _ _ _ _ us hl => match us, hl with | [_, _], _ => rfl)⟩
  have dCheckTree : Def P w K mg base 1 "check_tree" ["tree"] (spCheckTree (gA K "Tree")) := by
    obtain ⟨fd, FD⟩ := c.d.def_ 2 (d := gl "check_tree" 33) rfl
    exact ⟨_, fd, ok_checktree (fun_ofD FD) B TF IT, (He.glo_ok X G (c.d.fact 18 (f := .glo "check_tree") rfl)), FD.kp, FD.bindsN (fun _ _ _ _ _ _ us hl => match us, hl with | [_], _ => rfl)⟩
  have dIndexOf : Def P w K mg base 3 "index_of" ["tree", "place"] (spIndexOf K (tabT K) (gA K "Tree")) := by
    obtain ⟨fd, FD⟩ := c.d.def_ 3 (d := gl "index_of" 34) rfl
    exact ⟨_, fd, ok_indexof (fun_ofD FD) B TC, (He.glo_ok X G (c.d.fact 19 (f := .glo "index_of") rfl)), FD.kp, FD.bindsN (fun _ _ _ _ _ _ us hl => match us, hl with | [_, _], _ => rfl)⟩
  have dCheckSt : DefV P w K mg base 3 "check_standing" ["tree", "standing", "may_repeat"] [.bl false] (spCheckSt K (tabT K) (gA K "Tree")) := by
    obtain ⟨fd, FD⟩ := c.d.def_ 38 (d := ⟨("check_standing", none), "check_standing", "check_standing", defArgs (top 35), defBody (top 35), defScope (top 35), [.bl false], []⟩) rfl
    obtain ⟨ds, hv, hb⟩ := FunD.binds1 (ps := ["tree", "standing", "may_repeat"]) FD 2 0 (fun z => nomatch z) rfl (fun _ _ _ _ _ _ _ us its h1 h2 => match us, its, h1, h2 with | [_, _], [_], _, _ => ⟨_, rfl, rfl⟩)
    exact ⟨_, fd, ds, ok_checkst FD B TC dIsName, (He.glo_ok X G (c.d.fact 54 (f := .glo "check_standing") rfl)), FD.kp, hb, hv⟩
  have dCheckPeb : Def P w K mg base 1 "check_pebble" ["standing", "pebble"] (spCheckPeb K) := by
    obtain ⟨fd, FD⟩ := c.d.def_ 7 (d := gl "check_pebble" 39) rfl
    exact ⟨_, fd, ok_checkpeb (fun_ofD FD) B, (He.glo_ok X G (c.d.fact 23 (f := .glo "check_pebble") rfl)), FD.kp, FD.bindsN (fun _ _ _ _ _ _ us hl => match us, hl with | [_, _], _ => rfl)⟩
  have dFilled : Def P w K mg base 1 "filled_in" ["standing"] (spFilled K (tabT K)) := by
    obtain ⟨fd, FD⟩ := c.d.def_ 14 (d := gl "filled_in" 48) rfl
    exact ⟨_, fd, ok_filled (fun_ofD FD) B, (He.glo_ok X G (c.d.fact 30 (f := .glo "filled_in") rfl)), FD.kp, FD.bindsN (fun _ _ _ _ _ _ us hl => match us, hl with | [_], _ => rfl)⟩
  have dPebs : Def P w K mg base 1 "pebbles_of" ["standing"] (spPebs K (tabT K)) := by
    obtain ⟨fd, FD⟩ := c.d.def_ 4 (d := gl "pebbles_of" 36) rfl
    exact ⟨_, fd, ok_pebs (fun_ofD FD) B, (He.glo_ok X G (c.d.fact 20 (f := .glo "pebbles_of") rfl)), FD.kp, FD.bindsN (fun _ _ _ _ _ _ us hl => match us, hl with | [_], _ => rfl)⟩
  have dMatched : Def P w K mg base 2 "check_matched" ["standing", "goal"] (spMatched K (tabT K)) := by
    obtain ⟨fd, FD⟩ := c.d.def_ 5 (d := gl "check_matched" 37) rfl
    exact ⟨_, fd, ok_matched (fun_ofD FD) dPebs, (He.glo_ok X G (c.d.fact 21 (f := .glo "check_matched") rfl)), FD.kp, FD.bindsN (fun _ _ _ _ _ _ us hl => match us, hl with | [_, _], _ => rfl)⟩
  have dBoth : Def P w K mg base 4 "check_both" ["tree", "standing", "goal"] (spBoth K (tabT K) (gA K "Tree")) := by
    obtain ⟨fd, FD⟩ := c.d.def_ 6 (d := gl "check_both" 38) rfl
    exact ⟨_, fd, ok_both (fun_ofD FD) dCheckSt dMatched, (He.glo_ok X G (c.d.fact 22 (f := .glo "check_both") rfl)), FD.kp, FD.bindsN (fun _ _ _ _ _ _ us hl => match us, hl with | [_, _, _], _ => rfl)⟩
  have dMoved : Def P w K mg base 1 "moved" ["standing", "here", "there"] (spMoved K (tabT K)) := by
    obtain ⟨fd, FD⟩ := c.d.def_ 18 (d := gl "moved" 54) rfl
    exact ⟨_, fd, ok_moved (fun_ofD FD) B, (He.glo_ok X G (c.d.fact 34 (f := .glo "moved") rfl)), FD.kp, FD.bindsN (fun _ _ _ _ _ _ us hl => match us, hl with | [_, _, _], _ => rfl)⟩
  have dAfter : Def P w K mg base 3 "after" ["tree", "standing", "move"] (spAfter K (tabT K) (gA K "Tree")) := by
    obtain ⟨fd, FD⟩ := c.d.def_ 19 (d := gl "after" 55) rfl
    exact ⟨_, fd, ok_after (fun_ofD FD) B TC dMoved, (He.glo_ok X G (c.d.fact 35 (f := .glo "after") rfl)), FD.kp, FD.bindsN (fun _ _ _ _ _ _ us hl => match us, hl with | [_, _, _], _ => rfl)⟩
  have dLaneFrom : Def P w K mg base 1 "lane_from" ["tree", "start", "later"] (spLaneFrom K (tabT K) (gA K "Tree")) := by
    obtain ⟨fd, FD⟩ := c.d.def_ 8 (d := gl "lane_from" 41) rfl
    exact ⟨_, fd, ok_lanefrom (fun_ofD FD) B TC, (He.glo_ok X G (c.d.fact 24 (f := .glo "lane_from") rfl)), FD.kp, FD.bindsN (fun _ _ _ _ _ _ us hl => match us, hl with | [_, _, _], _ => rfl)⟩
  have tne : (He.cT K ("_law_right", none)).2 ≠ (He.cT K ("all_lanes", none)).2 := of_decide_eq_true (exB_at c.more 39 rfl)
  have hu1 : ∀ p ∈ tabT K, p.1 = (He.cT K ("_law_right", none)).2 → p.2 = ("_law_right" : Str) ++ ".<locals>." ++ "<lambda>" := fun p hp e => by
    rcases List.mem_cons.mp hp with z | z
    · rw [z]
    · rw [List.mem_singleton.mp z] at e
      exact absurd e.symm tne
  have hu2 : ∀ p ∈ tabT K, p.1 = (He.cT K ("all_lanes", none)).2 → p.2 = ("all_lanes" : Str) ++ ".<locals>." ++ "<lambda>" := fun p hp e => by
    rcases List.mem_cons.mp hp with z | z
    · rw [z] at e
      exact absurd e tne
    · rw [List.mem_singleton.mp z]
  have tb1 := TB (He.cT K ("_law_right", none)) (List.mem_cons_self ..)
  have tb2 := TB (He.cT K ("all_lanes", none)) (List.mem_cons_of_mem _ (List.mem_cons_self ..))
  have dLanes : Def P w K mg base 4 "all_lanes" ["tree"] (spLanes K (tabT K) (gA K "Tree")) := by
    obtain ⟨fd, FD⟩ := c.d.def_ 9 (d := gl "all_lanes" 42) rfl
    exact ⟨_, fd, ok_lanes (fun_ofD FD) (code_of FD) tb2 (List.mem_cons_of_mem _ (List.mem_cons_self ..)) hu2 B TC dLaneFrom, (He.glo_ok X G (c.d.fact 25 (f := .glo "all_lanes") rfl)), FD.kp, FD.bindsN (fun _ _ _ _ _ _ us hl => match us, hl with | [_], _ => rfl)⟩
  have dLong : Def P w K mg base 5 "lanes_with" ["tree", "holes"] (spLong K (tabT K) (gA K "Tree")) := by
    obtain ⟨fd, FD⟩ := c.d.def_ 10 (d := gl "lanes_with" 43) rfl
    exact ⟨_, fd, ok_long (fun_ofD FD) B dLanes, (He.glo_ok X G (c.d.fact 26 (f := .glo "lanes_with") rfl)), FD.kp, FD.bindsN (fun _ _ _ _ _ _ us hl => match us, hl with | [_, _], _ => rfl)⟩
  have dSide : Def P w K mg base 1 "side_of" ["tree", "lane"] (spSide K (tabT K) (gA K "Tree")) := by
    obtain ⟨fd, FD⟩ := c.d.def_ 11 (d := gl "side_of" 45) rfl
    exact ⟨_, fd, ok_side (fun_ofD FD) B TC, (He.glo_ok X G (c.d.fact 27 (f := .glo "side_of") rfl)), FD.kp, FD.bindsN (fun _ _ _ _ _ _ us hl => match us, hl with | [_, _], _ => rfl)⟩
  have dBef : Def P w K mg base 2 "before_of" ["tree", "filled", "lane"] (spBef K (tabT K) (gA K "Tree")) := by
    obtain ⟨fd, FD⟩ := c.d.def_ 12 (d := gl "before_of" 46) rfl
    exact ⟨_, fd, ok_bef (fun_ofD FD) B dSide, (He.glo_ok X G (c.d.fact 28 (f := .glo "before_of") rfl)), FD.kp, FD.bindsN (fun _ _ _ _ _ _ us hl => match us, hl with | [_, _, _], _ => rfl)⟩
  have dSigns : Def P w K mg base 3 "signs_for" ["tree", "filled", "lane"] (spSigns K (tabT K) (gA K "Tree")) := by
    obtain ⟨fd, FD⟩ := c.d.def_ 13 (d := gl "signs_for" 47) rfl
    exact ⟨_, fd, ok_signs (fun_ofD FD) B dBef, (He.glo_ok X G (c.d.fact 29 (f := .glo "signs_for") rfl)), FD.kp, FD.bindsN (fun _ _ _ _ _ _ us hl => match us, hl with | [_, _, _], _ => rfl)⟩
  have dAll : Def P w K mg base 6 "all_signs" ["tree", "filled"] (spAll K (tabT K) (gA K "Tree")) := by
    obtain ⟨fd, FD⟩ := c.d.def_ 15 (d := gl "all_signs" 49) rfl
    exact ⟨_, fd, ok_all (fun_ofD FD) B TC dSigns dLong, (He.glo_ok X G (c.d.fact 31 (f := .glo "all_signs") rfl)), FD.kp, FD.bindsN (fun _ _ _ _ _ _ us hl => match us, hl with | [_, _], _ => rfl)⟩
  have dByP : Def P w K mg base 7 "signs_by_pebble" ["tree", "standing"] (spByP K (tabT K) (gA K "Tree")) := by
    obtain ⟨fd, FD⟩ := c.d.def_ 16 (d := gl "signs_by_pebble" 50) rfl
    exact ⟨_, fd, ok_byP (fun_ofD FD) B dFilled dAll, (He.glo_ok X G (c.d.fact 32 (f := .glo "signs_by_pebble") rfl)), FD.kp, FD.bindsN (fun _ _ _ _ _ _ us hl => match us, hl with | [_, _], _ => rfl)⟩
  have dComes : Def P w K mg base 8 "comes" ["tree", "standing", "goal"] (spComes K (tabT K) (gA K "Tree")) := by
    obtain ⟨fd, FD⟩ := c.d.def_ 17 (d := gl "comes" 52) rfl
    exact ⟨_, fd, ok_comes (fun_ofD FD) dCheckTree dBoth dByP, (He.glo_ok X G (c.d.fact 33 (f := .glo "comes") rfl)), FD.kp, FD.bindsN (fun _ _ _ _ _ _ us hl => match us, hl with | [_, _, _], _ => rfl)⟩
  have pTree : Prp P w K mg base (gA K "Board") 1 "tree" (spBTree (gA K "Board")) := by
    obtain ⟨fd, FD⟩ := c.def_ 0 (d := pr "Board" 57 1 "tree" "Board.tree") rfl (exB_at c.more 6 rfl)
    exact ⟨_, _, fd, propB_ok (exB_at c.more 0 rfl), ok_btree (fun_ofD FD) BF, FD.bindsN (fun _ _ _ _ _ _ us hl => match us, hl with | [_], _ => rfl)⟩
  have pSt : Prp P w K mg base (gA K "Board") 1 "standing" (spBSt K (gA K "Board")) := by
    obtain ⟨fd, FD⟩ := c.def_ 1 (d := pr "Board" 57 2 "standing" "Board.standing") rfl (exB_at c.more 7 rfl)
    exact ⟨_, _, fd, propB_ok (exB_at c.more 1 rfl), ok_bst (fun_ofD FD) BF, FD.bindsN (fun _ _ _ _ _ _ us hl => match us, hl with | [_], _ => rfl)⟩
  have pMv : Prp P w K mg base (gA K "Board") 1 "moves" (spBMv K (gA K "Board")) := by
    obtain ⟨fd, FD⟩ := c.def_ 2 (d := pr "Board" 57 3 "moves" "Board.moves") rfl (exB_at c.more 8 rfl)
    exact ⟨_, _, fd, propB_ok (exB_at c.more 2 rfl), ok_bmv (fun_ofD FD) BF, FD.bindsN (fun _ _ _ _ _ _ us hl => match us, hl with | [_], _ => rfl)⟩
  have pCh : Prp P w K mg base (gA K "Board") 1 "changes" (spBCh K (gA K "Board")) := by
    obtain ⟨fd, FD⟩ := c.def_ 3 (d := pr "Board" 57 4 "changes" "Board.changes") rfl (exB_at c.more 9 rfl)
    exact ⟨_, _, fd, propB_ok (exB_at c.more 3 rfl), ok_bch (fun_ofD FD) B BF, FD.bindsN (fun _ _ _ _ _ _ us hl => match us, hl with | [_], _ => rfl)⟩
  have BC : BoardC P w K mg base (gA K "Board") := ⟨BF, pTree, pSt, pMv, pCh⟩
  have BD : BoolD P w K mg base (gA K "Board") := by
    obtain ⟨fd, FD⟩ := c.d.def_ 42 (d := me "Board" 57 5 "__bool__" "Board.__bool__") rfl
    exact ⟨_, fd, _, (He.meth_ok (c.d.fact 93 (f := .meth "Board" "__bool__") rfl)).at_, (He.meth_ok (c.d.fact 93 (f := .meth "Board" "__bool__") rfl)).fn, ok_bbool (fun_ofD FD), FD.bindsN (fun _ _ _ _ _ _ us hl => match us, hl with | [_], _ => rfl)⟩
  have mBoard : MkD P w K mg base (gA K "Board") 4 "Board" ["self", "tree", "standing"] (spBInit K (tabT K) (gA K "Tree") (gA K "Board")) := by
    obtain ⟨fd, FD⟩ := c.d.def_ 41 (d := me "Board" 57 0 "__init__" "Board.__init__") rfl
    exact ⟨_, fd, He.mkr_ok (c.d.fact 91 (f := .mkr "Board") rfl), ok_binit (fun_ofD FD) BF dCheckTree dCheckSt, (He.glo_ok X G (c.d.fact 56 (f := .glo "Board") rfl)), FD.bindsN (fun _ _ _ _ _ _ us hl => match us, hl with | [_, _, _], _ => rfl)⟩
  have mBoardK : MkK P w K mg base (gA K "Board") 4 "Board" ["self", "tree", "standing"] ["standing", "tree"] (fun vs zs => vs ++ zs.reverse) (spBInit K (tabT K) (gA K "Tree") (gA K "Board")) := by
    obtain ⟨fd, FD⟩ := c.d.def_ 41 (d := me "Board" 57 0 "__init__" "Board.__init__") rfl
    exact ⟨_, fd, _, He.mkr_ok (c.d.fact 91 (f := .mkr "Board") rfl), ok_binit (fun_ofD FD) BF dCheckTree dCheckSt, (He.glo_ok X G (c.d.fact 56 (f := .glo "Board") rfl)), (kbn_of FD 1 _ (fun us ws => us ++ ws.reverse) _ (fun r1 r2 => r1.append (vals_rev r2)) (fun _ _ _ _ _ _ us ws h1 h2 => match us, ws, h1, h2 with | [_], [_, _], _, _ => rfl))⟩
  have mBecome : Mth P w K mg base CX0 (gA K "Board") 1 "become" ["self", "standing", "moves"] (spBecome K (tabT K) (gA K "Tree") (gA K "Board")) := by
    obtain ⟨fd, FD⟩ := c.d.def_ 43 (d := me "Board" 57 6 "become" "Board.become") rfl
    exact ⟨_, fd, (He.meth_ok (c.d.fact 94 (f := .meth "Board" "become") rfl)), ok_become (fun_ofD FD) BF, FD.bindsN (fun _ _ _ _ _ _ us hl => match us, hl with | [_, _, _], _ => rfl)⟩
  have xNear : ExcF P w K mg base "NotNear" (gA K "NotNear") "place" := by
    obtain ⟨fd, FD⟩ := c.d.def_ 48 (d := me "NotNear" 19 0 "__init__" "NotNear.__init__") rfl
    have ox := oexB_ok (exB_at c.more 14 rfl)
    exact ⟨⟨_, "ArithmeticError.__new__", "ArithmeticError.__init__", aeBase, _, fd, _, base_AE, ox, He.eqO_ok (exB_at c.more 37 rfl), beq_iff_eq.mp (exB_at c.more 34 rfl), ok_xnear (fun_ofD FD) base_AE ox (He.noat_ok (c.d.fact 100 (f := .noat "NotNear" "place") rfl)), FD.bindsN (fun _ _ _ _ _ _ us hl => match us, hl with | [_, _], _ => rfl)⟩, (He.glo_ok X G (c.d.fact 72 (f := .glo "NotNear") rfl))⟩
  have xEmpty : ExcF P w K mg base "NotEmpty" (gA K "NotEmpty") "place" := by
    obtain ⟨fd, FD⟩ := c.d.def_ 49 (d := me "NotEmpty" 20 0 "__init__" "NotEmpty.__init__") rfl
    have ox := oexB_ok (exB_at c.more 15 rfl)
    exact ⟨⟨_, "ArithmeticError.__new__", "ArithmeticError.__init__", aeBase, _, fd, _, base_AE, ox, He.eqO_ok (exB_at c.more 38 rfl), beq_iff_eq.mp (exB_at c.more 35 rfl), ok_xempty (fun_ofD FD) base_AE ox (He.noat_ok (c.d.fact 101 (f := .noat "NotEmpty" "place") rfl)), FD.bindsN (fun _ _ _ _ _ _ us hl => match us, hl with | [_, _], _ => rfl)⟩, (He.glo_ok X G (c.d.fact 73 (f := .glo "NotEmpty") rfl))⟩
  have xIndex : ExcF P w K mg base "InvalidIndex" (gA K "InvalidIndex") "given" := by
    obtain ⟨fd, FD⟩ := c.d.def_ 50 (d := me "InvalidIndex" 7 0 "__init__" "InvalidIndex.__init__") rfl
    have ox := oexB_ok (exB_at c.more 16 rfl)
    exact ⟨⟨_, "ValueError.__new__", "ValueError.__init__", He.veBase, _, fd, _, base_VE, ox, He.eqO_ok (exB_at c.more 36 rfl), beq_iff_eq.mp (exB_at c.more 33 rfl), ok_xindex (fun_ofD FD) base_VE ox (He.noat_ok (c.d.fact 99 (f := .noat "InvalidIndex" "given") rfl)), FD.bindsN (fun _ _ _ _ _ _ us hl => match us, hl with | [_, _], _ => rfl)⟩, (He.glo_ok X G (c.d.fact 60 (f := .glo "InvalidIndex") rfl))⟩
  have mMove : MthK P w K mg base (L2.CX P w) (gA K "Board") 4 "move" ["self", "pebble", "place"] ["place", "pebble"] (fun vs zs => vs ++ zs.reverse) (spMove K (tabT K) (gA K "Tree") (gA K "Board") (gA K "NotNear") (gA K "NotEmpty")) := by
    obtain ⟨fd, FD⟩ := c.d.def_ 44 (d := me "Board" 57 7 "move" "Board.move") rfl
    exact ⟨_, fd, _, (He.meth_ok (c.d.fact 95 (f := .meth "Board" "move") rfl)), ok_move (fun_ofD FD) TC BC dCheckPeb dIndexOf dMoved mBecome xNear xEmpty, (kbn_of FD 1 _ (fun us ws => us ++ ws.reverse) _ (fun r1 r2 => r1.append (vals_rev r2)) (fun _ _ _ _ _ _ us ws h1 h2 => match us, ws, h1, h2 with | [_], [_, _], _, _ => rfl))⟩
  have mLead : MthK P w K mg base (L2.CX P w) (gA K "Board") 4 "lead" ["self", "moves"] ["moves"] (fun vs zs => vs ++ zs) (spLead K (tabT K) (gA K "Tree") (gA K "Board") (gA K "InvalidIndex")) := by
    obtain ⟨fd, FD⟩ := c.d.def_ 45 (d := me "Board" 57 8 "lead" "Board.lead") rfl
    exact ⟨_, fd, _, (He.meth_ok (c.d.fact 96 (f := .meth "Board" "lead") rfl)), ok_lead (fun_ofD FD) B BC dAfter mBecome xIndex, (kbn_of FD 1 _ (fun us ws => us ++ ws) _ (fun r1 r2 => r1.append r2) (fun _ _ _ _ _ _ us ws h1 h2 => match us, ws, h1, h2 with | [_], [_], _, _ => rfl))⟩
  have mCan : MthK P w K mg base CX0 (gA K "Board") 8 "can_become" ["self", "goal"] ["goal"] (fun vs zs => vs ++ zs) (spCan K (tabT K) (gA K "Tree") (gA K "Board")) := by
    obtain ⟨fd, FD⟩ := c.d.def_ 46 (d := me "Board" 57 9 "can_become" "Board.can_become") rfl
    exact ⟨_, fd, _, (He.meth_ok (c.d.fact 97 (f := .meth "Board" "can_become") rfl)), ok_can (fun_ofD FD) BC dBoth dByP, (kbn_of FD 1 _ (fun us ws => us ++ ws) _ (fun r1 r2 => r1.append r2) (fun _ _ _ _ _ _ us ws h1 h2 => match us, ws, h1, h2 with | [_], [_], _, _ => rfl))⟩
  have XU := undoB_ok (mg := mg) (He.glo_ok X G (c.d.fact 77 (f := .glo "NothingToUndo") rfl)) (exB_at c.more 17 rfl)
  have mUndo : Mth P w K mg base (L2.CX P w) (gA K "Board") 1 "undo" ["self"] (spUndo K (tabT K) (gA K "Tree") (gA K "Board") (gA K "NothingToUndo")) := by
    obtain ⟨fd, FD⟩ := c.d.def_ 47 (d := me "Board" 57 10 "undo" "Board.undo") rfl
    exact ⟨_, fd, (He.meth_ok (c.d.fact 98 (f := .meth "Board" "undo") rfl)), ok_undo (fun_ofD FD) BF XU, FD.bindsN (fun _ _ _ _ _ _ us hl => match us, hl with | [_], _ => rfl)⟩
  have dPurse : Def P w K mg base 1 "_law_purse" ["_law_script", "_law_spot"] (spPurse K (tabT K)) := by
    obtain ⟨fd, FD⟩ := c.d.def_ 20 (d := gl "_law_purse" 59) rfl
    exact ⟨_, fd, ok_purse (fun_ofD FD) B, (He.glo_ok X G (c.d.fact 36 (f := .glo "_law_purse") rfl)), FD.kp, FD.bindsN (fun _ _ _ _ _ _ us hl => match us, hl with | [_, _], _ => rfl)⟩
  have dDraw : Def P w K mg base 1 "_law_draw" ["_law_purse_here", "_law_many"] (spDraw (tabT K)) := by
    obtain ⟨fd, FD⟩ := c.d.def_ 21 (d := gl "_law_draw" 60) rfl
    exact ⟨_, fd, ok_draw (fun_ofD FD) B, (He.glo_ok X G (c.d.fact 37 (f := .glo "_law_draw") rfl)), FD.kp, FD.bindsN (fun _ _ _ _ _ _ us hl => match us, hl with | [_, _], _ => rfl)⟩
  have dPick : Def P w K mg base 2 "_law_pick" ["_law_purse_here", "_law_some"] (spPick K (tabT K)) := by
    obtain ⟨fd, FD⟩ := c.d.def_ 22 (d := gl "_law_pick" 61) rfl
    exact ⟨_, fd, ok_pick (fun_ofD FD) B dDraw, (He.glo_ok X G (c.d.fact 38 (f := .glo "_law_pick") rfl)), FD.kp, FD.bindsN (fun _ _ _ _ _ _ us hl => match us, hl with | [_, _], _ => rfl)⟩
  have dNames : Def P w K mg base 2 "_law_names" ["_law_purse_here", "_law_many"] (spNames K (tabT K)) := by
    obtain ⟨fd, FD⟩ := c.d.def_ 23 (d := gl "_law_names" 62) rfl
    exact ⟨_, fd, ok_names (fun_ofD FD) B dDraw, (He.glo_ok X G (c.d.fact 39 (f := .glo "_law_names") rfl)), FD.kp, FD.bindsN (fun _ _ _ _ _ _ us hl => match us, hl with | [_, _], _ => rfl)⟩
  have dLJ : Def P w K mg base 3 "_law_joints" ["_law_purse_here", "_law_many"] (spLJ K (tabT K)) := by
    obtain ⟨fd, FD⟩ := c.d.def_ 24 (d := gl "_law_joints" 63) rfl
    exact ⟨_, fd, ok_lj (fun_ofD FD) B dDraw dNames, (He.glo_ok X G (c.d.fact 40 (f := .glo "_law_joints") rfl)), FD.kp, FD.bindsN (fun _ _ _ _ _ _ us hl => match us, hl with | [_, _], _ => rfl)⟩
  have dLine : Def P w K mg base 1 "_law_line" ["_law_joints_here"] (spLine K (tabT K)) := by
    obtain ⟨fd, FD⟩ := c.d.def_ 25 (d := gl "_law_line" 64) rfl
    exact ⟨_, fd, ok_line (fun_ofD FD) B, (He.glo_ok X G (c.d.fact 41 (f := .glo "_law_line") rfl)), FD.kp, FD.bindsN (fun _ _ _ _ _ _ us hl => match us, hl with | [_], _ => rfl)⟩
  have dLinks : Def P w K mg base 1 "_law_links" ["_law_joints_here"] (spLinks K (tabT K)) := by
    obtain ⟨fd, FD⟩ := c.d.def_ 26 (d := gl "_law_links" 65) rfl
    exact ⟨_, fd, ok_links (fun_ofD FD) B, (He.glo_ok X G (c.d.fact 42 (f := .glo "_law_links") rfl)), FD.kp, FD.bindsN (fun _ _ _ _ _ _ us hl => match us, hl with | [_], _ => rfl)⟩
  have dStand : Def P w K mg base 3 "_law_standing" ["_law_purse_here", "_law_many", "_law_gaps"] (spStand K (tabT K)) := by
    obtain ⟨fd, FD⟩ := c.d.def_ 27 (d := gl "_law_standing" 66) rfl
    exact ⟨_, fd, ok_stand (fun_ofD FD) B dDraw dNames, (He.glo_ok X G (c.d.fact 43 (f := .glo "_law_standing") rfl)), FD.kp, FD.bindsN (fun _ _ _ _ _ _ us hl => match us, hl with | [_, _, _], _ => rfl)⟩
  have dLMoved : Def P w K mg base 1 "_law_moved" ["_law_standing_here", "_law_at", "_law_to"] (spMoved K (tabT K)) := by
    obtain ⟨fd, FD⟩ := c.d.def_ 28 (d := gl "_law_moved" 67) rfl
    exact ⟨_, fd, ok_lmoved (fun_ofD FD) B, (He.glo_ok X G (c.d.fact 44 (f := .glo "_law_moved") rfl)), FD.kp, FD.bindsN (fun _ _ _ _ _ _ us hl => match us, hl with | [_, _, _], _ => rfl)⟩
  have dLAfter : Def P w K mg base 2 "_law_after" ["_law_joints_here", "_law_links_here", "_law_pose", "_law_deed_here"] (spLAfter K (tabT K)) := by
    obtain ⟨fd, FD⟩ := c.d.def_ 33 (d := gl "_law_after" 72) rfl
    exact ⟨_, fd, ok_lafter (fun_ofD FD) B dLMoved, (He.glo_ok X G (c.d.fact 49 (f := .glo "_law_after") rfl)), FD.kp, FD.bindsN (fun _ _ _ _ _ _ us hl => match us, hl with | [_, _, _, _], _ => rfl)⟩
  have dDeed : Def P w K mg base 3 "_law_deed" ["_law_purse_here", "_law_joints_here", "_law_links_here", "_law_pose"] (spDeed K (tabT K)) := by
    obtain ⟨fd, FD⟩ := c.d.def_ 34 (d := gl "_law_deed" 73) rfl
    exact ⟨_, fd, ok_deed (fun_ofD FD) B dDraw dPick, (He.glo_ok X G (c.d.fact 50 (f := .glo "_law_deed") rfl)), FD.kp, FD.bindsN (fun _ _ _ _ _ _ us hl => match us, hl with | [_, _, _, _], _ => rfl)⟩
  have dRow : Def P w K mg base 4 "_law_row" ["_law_purse_here", "_law_joints_here", "_law_links_here", "_law_pose"] (spLRow K (tabT K)) := by
    obtain ⟨fd, FD⟩ := c.d.def_ 35 (d := gl "_law_row" 74) rfl
    exact ⟨_, fd, ok_lrow (fun_ofD FD) B dDraw dDeed dLAfter, (He.glo_ok X G (c.d.fact 51 (f := .glo "_law_row") rfl)), FD.kp, FD.bindsN (fun _ _ _ _ _ _ us hl => match us, hl with | [_, _, _, _], _ => rfl)⟩
  have dIs : DefG P w K mg base 5 "_law_is" ["_law_game", "_law_wood", "_law_state", "_law_past"] (spIs K (tabT K) (gA K "Tree") (gA K "Board")) := by
    obtain ⟨fd, FD⟩ := c.d.def_ 32 (d := gl "_law_is" 71) rfl
    exact ⟨_, fd, ok_is (fun_ofD FD) B BC BD eTree, (He.glo_ok X G (c.d.fact 48 (f := .glo "_law_is") rfl)), FD.kp, FD.bindsN (fun _ _ _ _ _ _ us hl => match us, hl with | [_, _, _, _], _ => rfl)⟩
  have XN : XNs mg (cA K) := ⟨fun j hj => by
    match j, hj with
    | 0, _ => exact (He.glo_ok X G (c.d.fact 57 (f := .glo "InvalidText") rfl))
    | 1, _ => exact (He.glo_ok X G (c.d.fact 58 (f := .glo "InvalidNumber") rfl))
    | 2, _ => exact (He.glo_ok X G (c.d.fact 59 (f := .glo "InvalidName") rfl))
    | 3, _ => exact (He.glo_ok X G (c.d.fact 60 (f := .glo "InvalidIndex") rfl))
    | 4, _ => exact (He.glo_ok X G (c.d.fact 61 (f := .glo "InvalidClaim") rfl))
    | 5, _ => exact (He.glo_ok X G (c.d.fact 62 (f := .glo "UnknownName") rfl))
    | 6, _ => exact (He.glo_ok X G (c.d.fact 63 (f := .glo "NotATree") rfl))
    | 7, _ => exact (He.glo_ok X G (c.d.fact 64 (f := .glo "NotABoard") rfl))
    | 8, _ => exact (He.glo_ok X G (c.d.fact 65 (f := .glo "NotALane") rfl))
    | 9, _ => exact (He.glo_ok X G (c.d.fact 66 (f := .glo "InvalidStanding") rfl))
    | 10, _ => exact (He.glo_ok X G (c.d.fact 67 (f := .glo "InvalidCrowd") rfl))
    | 11, _ => exact (He.glo_ok X G (c.d.fact 68 (f := .glo "InvalidParked") rfl))
    | 12, _ => exact (He.glo_ok X G (c.d.fact 69 (f := .glo "InvalidLog") rfl))
    | 13, _ => exact (He.glo_ok X G (c.d.fact 70 (f := .glo "Unmatched") rfl))
    | 14, _ => exact (He.glo_ok X G (c.d.fact 71 (f := .glo "NotAnEnd") rfl))
    | 15, _ => exact (He.glo_ok X G (c.d.fact 72 (f := .glo "NotNear") rfl))
    | 16, _ => exact (He.glo_ok X G (c.d.fact 73 (f := .glo "NotEmpty") rfl))
    | 17, _ => exact (He.glo_ok X G (c.d.fact 74 (f := .glo "TooMany") rfl))
    | 18, _ => exact (He.glo_ok X G (c.d.fact 75 (f := .glo "Broken") rfl))
    | 19, _ => exact (He.glo_ok X G (c.d.fact 76 (f := .glo "InUse") rfl))
    | 20, _ => exact (He.glo_ok X G (c.d.fact 77 (f := .glo "NothingToUndo") rfl))
    | 21, _ => exact (He.glo_ok X G (c.d.fact 78 (f := .glo "WrongValue") rfl))
    | 22, _ => exact (He.glo_ok X G (c.d.fact 79 (f := .glo "NoAnswer") rfl))
    | j + 23, hj => exact absurd hj (by omega)⟩
  have dSort : DefC P w K mg base 1 "_law_sort" ["_law_e"] (spSort K (tabT K) (cA K)) := by
    obtain ⟨fd, FD⟩ := c.d.def_ 29 (d := gl "_law_sort" 68) rfl
    exact ⟨_, fd, ok_sort (fun_ofD FD) B XN, (He.glo_ok X G (c.d.fact 45 (f := .glo "_law_sort") rfl)), FD.kp, FD.bindsN (fun _ _ _ _ _ _ us hl => match us, hl with | [_], _ => rfl)⟩
  have dAttr : DefC P w K mg base 1 "_law_attribute" ["_law_e", "_law_word_here"] (spAttr K (tabT K)) := by
    obtain ⟨fd, FD⟩ := c.d.def_ 30 (d := gl "_law_attribute" 69) rfl
    exact ⟨_, fd, ok_attr (fun_ofD FD) B, (He.glo_ok X G (c.d.fact 46 (f := .glo "_law_attribute") rfl)), FD.kp, FD.bindsN (fun _ _ _ _ _ _ us hl => match us, hl with | [_, _], _ => rfl)⟩
  have dTold : ToldD P w K mg base (tabT K) (cA K) (.ref (gA K "WrongValue")) (.ref (gA K "NoAnswer")) := by
    obtain ⟨fd, FD⟩ := c.d.def_ 31 (d := gl "_law_told" 70) rfl
    exact ⟨⟨_, fd, fun_ofD FD, (He.glo_ok X G (c.d.fact 47 (f := .glo "_law_told") rfl)), FD.bindsN (fun _ _ _ _ _ _ us hl => match us, hl with | [_], _ => rfl)⟩, (He.glo_ok X G (c.d.fact 78 (f := .glo "WrongValue") rfl)), (He.glo_ok X G (c.d.fact 79 (f := .glo "NoAnswer") rfl)), dSort, dAttr⟩
  have RR : RF P w K mg base (tabT K) (cA K) (gA K "Tree") (gA K "Board") (gA K "NotNear") (gA K "NotEmpty") (gA K "InvalidIndex") (gA K "NothingToUndo") (He.cT K ("_law_right", none)).1 (He.cT K ("_law_right", none)).2 (.ref (gA K "WrongValue")) (.ref (gA K "NoAnswer")) :=
    ⟨B, tb1, List.mem_cons_self .., hu1, dTold, dDraw, dLJ, dLine, dLinks, dStand, dRow, dDeed, dLAfter, dIs, dComes, mTree, mBoard, mBoardK, BC, eqDefB_ok (exB_at c.more 13 rfl), mUndo, mLead, mMove, mCan, ⟨kitB_ok (exB_at c.more 18 rfl) (exB_at c.more 22 rfl), L2.xfB_ok (exB_at c.more 26 rfl), He.noat_ok (c.d.fact 99 (f := .noat "InvalidIndex" "given") rfl), of_decide_eq_true (exB_at c.more 29 rfl)⟩, ⟨kitB_ok (exB_at c.more 19 rfl) (exB_at c.more 23 rfl), L2.xfB_ok (exB_at c.more 27 rfl), He.noat_ok (c.d.fact 100 (f := .noat "NotNear" "place") rfl), of_decide_eq_true (exB_at c.more 30 rfl)⟩, ⟨kitB_ok (exB_at c.more 20 rfl) (exB_at c.more 24 rfl), L2.xfB_ok (exB_at c.more 28 rfl), He.noat_ok (c.d.fact 101 (f := .noat "NotEmpty" "place") rfl), of_decide_eq_true (exB_at c.more 31 rfl)⟩, ⟨kitB_ok (exB_at c.more 21 rfl) (exB_at c.more 25 rfl), of_decide_eq_true (exB_at c.more 32 rfl)⟩⟩
  have dRight : DefG P w K mg base 9 "_law_right" ["_law_purse_here"] (spRight (tabT K)) := by
    obtain ⟨fd, FD⟩ := c.d.def_ 36 (d := gl "_law_right" 75) rfl
    exact ⟨_, fd, ok_right (fun_ofD FD) (code_of FD) RR, (He.glo_ok X G (c.d.fact 52 (f := .glo "_law_right") rfl)), FD.kp, FD.bindsN (fun _ _ _ _ _ _ us hl => match us, hl with | [_], _ => rfl)⟩
  exact ok_law (fun_ofD FD0) B dPurse dRight
end
end Tz
end -- Facts
set_option maxHeartbeats 0
namespace Tz
open PySem PySem.Spec PyProof.Rows L2 TL
theorem tabs_first {K : PySem.W.Frag} {H : Hp} (h : ∀ p ∈ tbls K, H p.2 = some (.tbl #[])) : LamX.Tabs (tabT K) H := fun p hp => by
  rcases List.mem_cons.mp hp with z | z
  · rw [z]
    exact LamX.TabS.nil (h (He.cT K ("_law_right", none)) (List.mem_cons_self ..))
  · rw [List.mem_singleton.mp z]
    exact LamX.TabS.nil (h (He.cT K ("all_lanes", none)) (List.mem_cons_of_mem _ (List.mem_cons_self ..)))
end Tz
open PySem PySem.W PySem.Calls PyProof.Rows
theorem PySem.Challenge.cw_treepebbles_k41_whole_boards_through_cha_holds : PySem.Challenge.rw_treepebbles_k41_whole_boards_through_cha.Holds := by
  w_on; o_law
  refine HandSHeadRun.head_any (r := OpenLaw.row PySem.Challenge.rw_treepebbles_k41_whole_boards_through_cha) (q := view (OpenLaw.row PySem.Challenge.rw_treepebbles_k41_whole_boards_through_cha).prog [76]) (H := Tz.hkP) (ob := Tz.obP) (M := 9000) (loose := Tz.hdN) (d := HandSHeadRun.topDef (OpenLaw.row PySem.Challenge.rw_treepebbles_k41_whole_boards_through_cha).prog 76) (kwd := []) Tz.obP_eq
    (by kernel_rfl) (fun s => by kernel_rfl) Tz.runP (by kernel_rfl) (by kernel_rfl) (by kernel_rfl) (by rfl) (by first | assumption | decide +kernel) (by decide +kernel) ⟨rfl, rfl, rfl, rfl, rfl, by decide +kernel⟩ ?hw ?hc
  case hw => w_witness2
  case hc =>
    refine Att.attach_callB (n := 63) rfl (by kernel_rfl) fun w s₀ s₁ mg mb fa o pm cd doc a vs ns G Y ho hd hcd hmg0 hobj hints hlen hbits hg => ?_
    obtain ⟨K, KX, c⟩ := Y
    have hmg : mg ("law" : PySem.Str) = some (.ref fa) := by
      have e : (HandSHeadRun.topDef (OpenLaw.row PySem.Challenge.rw_treepebbles_k41_whole_boards_through_cha).prog 76).name = ("law" : PySem.Str) := by kernel_rfl
      rw [← e]
      exact hmg0
    obtain ⟨fd, FD⟩ := c.d.def_ 37 (d := Tz.gl "law" 76) rfl
    have e := hmg.symm.trans (He.glo_ok KX G.T.g (c.d.fact 53 (f := .glo "law") rfl))
    cases e
    have b := L2.FunD.bindsA (ps := ["_law_script"]) FD fun _ _ _ _ _ _ us hl => match us, hl with | [_], _ => rfl
    refine Tz.law_callG (cs := Tz.tbls K) (x := "_law_script") (k := 10) (fd := fd) (sp := Tz.spLaw K (Tz.tabT K)) KX G.T.g G.T.b G.T.builtins G.T.nolimit hg (fun p hp => ?_) (fun p hp => ?_) (fun p hp => ?_) G.T.bmain hobj hints (Nat.le_trans hlen (by decide)) ⟨rfl, by decide, by decide⟩ (fun base KB GB TB => Tz.facts KX G.T.g c TB FD) (fun s v => b s [v] rfl) fun H hH hS => ⟨a, ns, rfl, hS, hlen, Tz.tabs_first hH, fun _ => rfl⟩
    · obtain ⟨d, hd, rfl⟩ := List.mem_map.mp hp
      exact c.empty d hd
    · obtain ⟨d, hd, rfl⟩ := List.mem_map.mp hp
      exact c.out d hd
    · obtain ⟨d, hd, rfl⟩ := List.mem_map.mp hp
      exact PySem.W.codeHd_of_K KX (c.hd d hd)
