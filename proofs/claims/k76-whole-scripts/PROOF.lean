import PyProof.Rows.All
import HandS.ForMost
import HandS.Exc
import HandS.ExcInit
import HandS.ExcField
import HandS.TryMany
import HandS.IsInst
import HandS.Walk
import HandS.Zip
import HandS.Style
import HandS.StrMore
import KE.GoesEnum
import KE.GoesMore
import PyProof.Rows.ListStrD
import PyProof.StrBlock2
import HandS.Evl
import HandS.TupAny
import PySem.Challenge.RW_tellback_k76_whole_scripts_turned_about
import HandS.WordsExc
import Wide.All
import OpenK.AllK
import Wide.FinOn
set_option Elab.async false
set_option linter.all false
set_option maxRecDepth 100000
set_option maxHeartbeats 2000000
/-! Rules that the layer lacks: list of a text, enumerate of a list or of a tuple, several clauses «except X as e». -/
namespace TbA
open PySem PySem.Spec PyProof.Rows L2

/-! ### list(text) -/
def sgs (z : Str) : List V := z.cps.toList.map fun c => V.str ⟨#[c]⟩
theorem sgs_length (z : Str) : (sgs z).length = z.cps.size := by simp [sgs]
/-- list(s) of a text: a new list of its signs -/
def rListStr : List V → Hp → VK → Prop := fun xs H Q =>
  ∃ z : Str, xs = [.str z] ∧ z.length ≤ sizeLine ∧ ∀ l, H l = none → Q (.ref l) (upd H l (.lst (sgs z)))
theorem valsOf : ∀ (vs : List Nat) (us : List Value), us.length = vs.length →
    (∀ (j : Nat) v, us[j]? = some v → ∃ c u, vs[j]? = some c ∧ v = Value.str ⟨#[c]⟩ u) → Vals (vs.map fun c => V.str ⟨#[c]⟩) us
  | [], [], _, _ => .nil
  | [], _ :: _, h, _ => by simp at h
  | _ :: _, [], h, _ => by simp at h
  | c :: vs, u :: us, h, k => by
    refine .cons ?_ (valsOf vs us (by simpa using h) fun j v hv => k (j + 1) v (by simpa using hv))
    obtain ⟨c', t, e1, e2⟩ := k 0 u rfl
    have e3 : c = c' := by simpa using e1
    subst e3
    exact ⟨t, e2⟩
theorem call_list_s {X : Cx} (hc : X.calm = true) : CallR X (.type "list") rListStr := by
  intro pins s σ H xs us Q I rv hw
  obtain ⟨z, rfl, hz, q⟩ := hw
  obtain ⟨u, rfl, r⟩ := vals1 rv
  obtain ⟨t, rfl⟩ := r
  refine call_list_str (I.ok.hd hc) z t (hn := hz) fun h' tk acc' c' hk hS hacc => ?_
  have en : acc'.toList.length = z.cps.toList.length := by
    have e0 := hacc.1
    simpa using e0
  have vv : Vals (sgs z) acc'.toList := valsOf _ _ en fun j v hv => by
    obtain ⟨c, w, a1, a2⟩ := hacc.2 j v (by simpa using hv)
    exact ⟨c, w, by simpa using a1, a2⟩
  have ok : ObjOk X.prog X.w (upd H s.heap.objs.size (.lst (sgs z))) h' s.heap.objs.size (.lst (sgs z)) := by
    refine ⟨?_, acc'.toList, c', vv, by simpa using hS⟩
    rw [sgs_length]
    exact hz
  have J := I.laid (t' := tk) hk (Nat.le_refl _) ok
  exact ⟨.ref s.heap.objs.size, _, J, rfl, q _ (I.hok.fresh (Nat.le_refl _))⟩

/-! ### enumerate(list or tuple) -/
theorem call_enum_tup {prog : Program} {w : World} {A : Around} {E : Value → Shared → Prop} {s : Shared} {l : Addr} {items : Array Value} {Q : Value → Shared → Prop}
    (hT : s.heap.IsTuple l items)
    (h : ∀ h', IsEnum h' (s.heap.objs.size + 1) s.heap.objs.size 0 .none → h'.IsTupleIter s.heap.objs.size l 0 → h'.objs.size = s.heap.objs.size + 2 →
      (∀ c v, s.heap.get? c = some v → h'.get? c = some v) → Q (.ref (s.heap.objs.size + 1)) { s with heap := h' }) :
    wpAny (model prog w) A (call (.type "enumerate") [.ref l]) Q E s := by
  let o1 : Obj := { cls := .type "tuple_iterator", data := .fields #[.ref l, .int 0 0] }
  let o2 : Obj := { cls := .type "enumerate", data := .fields #[.none, .bool false, .ref s.heap.objs.size, rawInt 0, .none, .none] }
  have meets : Meets (Builtin.«enumerate.__new__» ⟨[.type "enumerate", .ref l], []⟩) (fun _ R s => s.heap.IsTuple l items ∧
      R (.ok (.ret (.ref (s.heap.push { cls := .type "tuple_iterator", data := .fields #[.ref l, .int 0 0] }).objs.size)))
        { s with heap := (s.heap.push { cls := .type "tuple_iterator", data := .fields #[.ref l, .int 0 0] }).push { cls := .type "enumerate", data := .fields #[.none, .bool false, .ref s.heap.objs.size, rawInt 0, .none, .none] } }) :=
    .of_wp fun prog w A R s hh => by
      obtain ⟨hp, g, d, tk, os⟩ := s
      obtain ⟨h1, h2⟩ := hh
      have hsub := sub_enumerate
      have q1 : ∀ {A' : Around} {E : Value → Shared → Prop} {Q : Value → Shared → Prop}, Q (.ref hp.objs.size) ⟨hp.push { cls := .type "tuple_iterator", data := .fields #[.ref l, .int 0 0] }, g, d, tk, os⟩ →
          wpAny (model prog w) A' (pyIter (.ref l)) Q E ⟨hp, g, d, tk, os⟩ := fun q => wpAny_pyIter_tuple h1 q
      wp_walk using q1
      refine wpAny_stack_any fun st => wpAny_pure ?_
      split
      · rename_i c _ _ _ _ _
        cases (c == Value.type "enumerate")
        · wp_walk using q1
          exact ⟨_, rfl, h2⟩
        · wp_walk using q1
          exact ⟨_, rfl, h2⟩
      · wp_walk using q1
        exact ⟨_, rfl, h2⟩
  refine callType_new F.called_enumerate (by decide) (F.typeCall_enumerate_1 _) (F.newCall_enumerate_1 _)
    (fun obj => F.args_object_init_2 obj _) F.entry_enumerate_new meets ⟨hT, ?_⟩
  have z1 : (s.heap.push o1).objs.size = s.heap.objs.size + 1 := Heap.size_push ..
  have e2 : ((s.heap.push o1).push o2).get? (s.heap.objs.size + 1) = some o2 := by
    have q := Heap.get?_push_size (s.heap.push o1) (o := o2) rfl
    rw [z1] at q
    exact q
  show _ ∧ Q (.ref (s.heap.push o1).objs.size) _
  rw [z1]
  refine ⟨⟨_, e2, rfl⟩, h _ e2 ⟨o1, Heap.get?_push_of_some _ (Heap.get?_push_size _ rfl), rfl, rfl⟩ ?_ fun c v x => ?_⟩
  · rw [Heap.size_push, z1]
  · exact Heap.get?_push_of_some _ (Heap.get?_push_of_some _ x)
/-- the tuple at a, each item in a new pair with its number -/
def Itet (K : PySem.W.Frag) (a : Addr) : It where
  go := fun i H => ∃ (xs : List V) (x : V), SqT K H a xs ∧ xs[i]? = some x
  yld := fun i H v H' => ∃ T x, v = .ref T ∧ H T = none ∧ H' = upd H T (.tup [.int (i : Nat), x]) ∧ ∀ xs, SqT K H a xs → xs[i]? = some x
  stop := fun i H => ∃ xs : List V, SqT K H a xs ∧ xs.length ≤ i
theorem turn_enumT {P : Program} {w : World} {K : PySem.W.Frag} {elts : List Expr} {kk : Nat} {tp : Pos} (a e it : Addr) :
    Turn P w K (.Tuple elts kk tp) (Itet K a) [e, it] e
      (fun i h => (∃ old, IsEnum h e it ((i : Nat) : Int) old) ∧ h.IsTupleIter it a i ∧ e ≠ it ∧ a ≠ e ∧ a ≠ it) where
  mem := by simp
  obj := fun i h st b hb => by
    obtain ⟨⟨old, h1⟩, ⟨o, h2, _, h3⟩, _⟩ := st
    have c : b = e ∨ b = it := by simpa using hb
    rcases c with rfl | rfl
    · exact ⟨_, h1, fun v q => nomatch q⟩
    · exact ⟨o, h2, fun v q => by rw [h3] at q; cases q⟩
  keep := fun i h h' st k => by
    obtain ⟨⟨old, h1⟩, h2, r⟩ := st
    exact ⟨⟨old, k e (by simp) _ h1⟩, h2.at fun o q => k it (by simp) o q, r⟩
  item := by
    intro X hP hw hK hc i pins s σ H E I hf st hg
    subst hP hw hK
    obtain ⟨⟨old, h1⟩, h2, ne, nae, nai⟩ := st
    obtain ⟨xs, x, hq, hx⟩ := hg
    obtain ⟨its, rv, p, hz⟩ := I.tuple hq
    obtain ⟨u, hu, ru⟩ := rv.get hx
    have pt : s.heap.IsTuple a its.toArray := p
    have hd : X.A.in1.handled = none := I.ok.hd hc
    have le : e < s.heap.objs.size := Heap.lt_size h1
    have li : it < s.heap.objs.size := by
      obtain ⟨_, q, _⟩ := h2
      exact Heap.lt_size q
    have lt : i < its.toArray.size := by
      have q : i < its.length := (List.getElem?_eq_some_iff.mp hu).1
      simpa using q
    refine wpAny_pyNext_enum_itemC (Draws.tuple hd it a nai its.toArray) h1 ⟨h2, pt⟩ lt ne (by simp [ne, Ne.symm nae]) fun y h' tk hy ho hs hT hsz hk => ?_
    have ey : y = u := by
      have a1 : its.toArray[i]? = some y := hy
      have a2 : its.toArray[i]? = some u := by simpa using hu
      exact Option.some.inj (a1.symm.trans a2)
    subst ey
    refine ⟨_, rfl, wpAny_letOwnedTupleGo_enum (s := { s with heap := h', toks := tk + 1 }) ho fun h'' he' sb => ?_⟩
    have hT2 : h''.get? s.heap.objs.size = some { cls := .type "tuple", data := .seq #[.int i tk, y] } := (sb.2 _ (Nat.ne_of_gt le)).trans hT
    have new : ObjOk X.prog X.w (upd H s.heap.objs.size (.tup [.int (i : Nat), x])) h'' s.heap.objs.size (.tup [.int (i : Nat), x]) :=
      ⟨(by decide : 2 ≤ sizeLine), [.int i tk, y], .cons ⟨_, rfl⟩ (.cons ru .nil), _, hT2, rfl, _, rfl⟩
    have J := I.turnedNew (t' := tk + 1) (ch := [e, it])
      (fun b ob hb q => (sb.2 b (fun z => hb (by simp [z]))).trans (hk b ob (fun z => hb (by simp [z])) (fun z => hb (by simp [z])) q)) hf (Nat.le_refl _) new
    refine ⟨.ref s.heap.objs.size, _, J, rfl, ⟨_, x, rfl, I.hok.fresh (Nat.le_refl _), rfl, fun ys hy => ?_⟩, ⟨⟨y, ?_⟩, ?_, ne, nae, nai⟩, fun b hb => ?_⟩
    · rw [I.tuple_inj hy hq]
      exact hx
    · rw [show ((i + 1 : Nat) : Int) = (i : Int) + 1 by omega]
      exact he'
    · exact hs.1.at fun o q => (sb.2 it (Ne.symm ne)).trans q
    · have c : b = e ∨ b = it := by simpa using hb
      have lb : b < s.heap.objs.size := by
        rcases c with rfl | rfl
        · exact le
        · exact li
      rw [upd_ne (Nat.ne_of_lt lb)]
      exact (hf b hb).1
  done := by
    intro X hP hw hK hc i pins s σ H E I hf st hg
    subst hP hw hK
    obtain ⟨⟨old, h1⟩, h2, ne, nae, nai⟩ := st
    obtain ⟨xs, hq, hx⟩ := hg
    obtain ⟨its, rv, p, hz⟩ := I.tuple hq
    have pt : s.heap.IsTuple a its.toArray := p
    obtain ⟨f0, f1, f2, f3, f4, f5⟩ := hf it (by simp)
    have hl := rv.length
    have ge : its.toArray.size ≤ i := by
      have : its.toArray.size = its.length := by simp
      omega
    have hd : X.A.in1.handled = none := I.ok.hd hc
    have D : Draws X.prog X.w X.A.in1 it [it, a] 0 (fun _ _ => False) (fun _ h => h.IsTupleIter it a i ∧ h.IsTuple a its.toArray) :=
      { live := fun _ _ st => let ⟨o, ho, _⟩ := st.1; ⟨o, ho⟩
        frame := fun _ _ _ st k => ⟨st.1.at fun o e => k it (by simp) o e, st.2.at fun o e => k a (by simp) o e⟩
        item := fun j s Q E hj => absurd hj (Nat.not_lt_zero j)
        done := fun s Q E st hE => wpAny_nextOf_tuple_end hd st.1 st.2 (by simp; omega) hE }
    exact wpAny_pyNext_enum_endD D h1 ⟨h2, pt⟩ fun h' eb => ⟨rfl, I.turned (t' := s.toks) (fun b o hb q => eb b o hb q) f0 f1 f3 f4 f5⟩
  self := fun A i s Q E st h => by
    obtain ⟨⟨old, h1⟩, _⟩ := st
    exact wpAny_pyIter_enum h1 h
/-- enumerate of a list or of a tuple -/
def iEnumA (K : PySem.W.Frag) (ta : TA) : TI := fun σ H R => ta σ H fun vs H1 => ∃ (a : Addr) (xs : List V), vs = [.ref a] ∧
  ((SqL K H1 a xs ∧ R (Ite K a) H1) ∨ (SqT K H1 a xs ∧ R (Itet K a) H1))
theorem pi_enumA {X : Cx} {e : Expr} {ta : TA} {p pos tp : Pos} {elts : List Expr} {kk : Nat} (hg : Gl X "enumerate") (hm : X.mg "enumerate" = none) (ha : PA X [e] ta)
    (hs : starEach [e] X.env = [(false, eval e X.env)] := by rfl) :
    PI X (.Tuple elts kk tp) (.Call (.Name "enumerate" p) [e] [] pos) (iEnumA X.K ta) := by
  refine ⟨fun pins s σ H R I hw => ?_⟩
  refine Call_ (ld_blt I hg hm boot_enumerate (PyProof.Rows.callWith_type1 (thn (ha.run pos pins s σ H _ I hw) fun us s1 ⟨vs, H1, I1, r1, q1⟩ => ?_) hs rfl))
  obtain ⟨a, xs, rfl, q⟩ := q1
  cases r1 with
  | cons r rr =>
    cases rr
    cases r
    have two : ∀ b, b ∈ [s1.heap.objs.size + 1, s1.heap.objs.size] → s1.heap.objs.size ≤ b := fun b hb => by
      have c : b = s1.heap.objs.size + 1 ∨ b = s1.heap.objs.size := by simpa using hb
      rcases c with rfl | rfl
      · exact Nat.le_succ _
      · exact Nat.le_refl _
    rcases q with ⟨hq, q⟩ | ⟨hq, q⟩
    · obtain ⟨its, rv, pl, hz⟩ := I1.list hq
      refine call_enumerate_list pl.isList fun h' he hit hsz hk => wpAny_pyIter_enum he ?_
      have J : Inv X pins σ H1 { s1 with heap := h' } := I1.kept (t' := s1.toks) hk
      exact ⟨s1.heap.objs.size + 1, [s1.heap.objs.size + 1, s1.heap.objs.size], _, _, H1, rfl, J, turn_enum a (s1.heap.objs.size + 1) s1.heap.objs.size,
        ⟨⟨.none, he⟩, hit, Nat.succ_ne_self _⟩, fun b hb => I1.fpOk (two b hb) (I1.hok.fresh (two b hb)), q⟩
    · obtain ⟨its, rv, pt, hz⟩ := I1.tuple hq
      have pt' : s1.heap.IsTuple a its.toArray := pt
      have la : a < s1.heap.objs.size := pt.lt
      refine call_enum_tup pt' fun h' he hit hsz hk => wpAny_pyIter_enum he ?_
      have J : Inv X pins σ H1 { s1 with heap := h' } := I1.kept (t' := s1.toks) hk
      exact ⟨s1.heap.objs.size + 1, [s1.heap.objs.size + 1, s1.heap.objs.size], _, _, H1, rfl, J, turn_enumT a (s1.heap.objs.size + 1) s1.heap.objs.size,
        ⟨⟨.none, he⟩, hit, Nat.succ_ne_self _, Nat.ne_of_lt (Nat.lt_succ_of_lt la), Nat.ne_of_lt la⟩, fun b hb => I1.fpOk (two b hb) (I1.hok.fresh (two b hb)), q⟩
theorem walk_enumT {K : PySem.W.Frag} {a : Addr} {xs : List V} : Walk (Itet K a) xs.length (fun H => SqT K H a xs) (YPair (fun i => some (.int (i : Nat))) (fun i => xs[i]?)) where
  goes := fun i H hi h => ⟨xs, xs[i], h, List.getElem?_eq_getElem hi⟩
  yields := fun i H v H' hi h y => by
    obtain ⟨T, x, rfl, hn, rfl, f⟩ := y
    exact ⟨T, _, x, rfl, hn, rfl, rfl, f xs h⟩
  stops := fun H h => ⟨xs, h, Nat.le_refl _⟩
/-! ### try .. except X as e: .. except Y as e: .. -/
/-- what the clauses wish, one after the other; slot i is the name's, forgotten behind a suite -/
def wAsMany (K : PySem.W.Frag) (i : Nat) (Wout : WX) (D : Ends) : List (Value × (Addr → Value → Option Addr → TS)) → WX
  | [] => Wout
  | cl :: more => fun cls d σ H => ∃ b, PySem.W.exmOne K cls cl.1 = some b ∧
      (b = true → ∀ a, H a = none → cl.2 a cls d ⟨fun σ' H' => D.nx (σ'.set i none) H', D.rt, fun σ' H' => D.bk (σ'.set i none) H', fun σ' H' => D.ct (σ'.set i none) H'⟩ (σ.set i (some (.ref a))) H) ∧
      (b = false → wAsMany K i Wout D more cls d σ H)
inductive AsOk (X : Cx) (n : Str) : List ExceptHandler → List (Value × (Addr → Value → Option Addr → TS)) → Prop
  | nil : AsOk X n [] []
  | cons {x : Str} {c : Value} {ts : Addr → Value → Option Addr → TS} {st : Stmt} {sts : List Stmt} {q1 q2 : Pos} {hds : List ExceptHandler}
      {more : List (Value × (Addr → Value → Option Addr → TS))} (hc : Names X x c)
      (hsu : ∀ (a : Addr) (oe : Obj) (cls : Value) (d : Option Addr) (pn : List (Addr × Obj)), Zc cls d oe → (∃ vs, oe.data = .fields vs) → PSs (X.suite a ((a, oe) :: pn)) (st :: sts) (ts a cls d))
      (rest : AsOk X n hds more) : AsOk X n (.ExceptHandler (some (.Name x q1)) (some n) (st :: sts) q2 :: hds) ((c, ts) :: more)
theorem ps_try_asMany {X : Cx} {n : Str} {i : Nat} {body : List Stmt} {hd : ExceptHandler} {hds : List ExceptHandler} {l : List (Value × (Addr → Value → Option Addr → TS))}
    {pos : Pos} {tb : WX → TS} {Wout : WX} (hs : X.stack = X.env :: X.outer) (hf : X.env.frame = some X.env.locals) (hN : X.N.Nodup) (hi : X.N[i]? = some n)
    (hln : X.env.kindOf n = some .local) (tk : Takes X Wout)
    (hb : ∀ (W : WX) (pn : List (Addr × Obj)) (xe : Value → Shared → Prop), Takes (X.tr pn xe) W → PassesOwn (model X.prog X.w) X.A X.env xe → PSs (X.tr pn xe) body (tb W))
    (hh : AsOk X n (hd :: hds) l) : PS X (.Try body (hd :: hds) [] [] pos) (fun D σ H => tb (wAsMany X.K i Wout D l) D σ H) := by
  refine ⟨fun pins s σ H D I hw => ?_⟩
  have ok := I.ok
  have frs0 : X.A.frames = some (X.env :: X.outer) := by
    rw [ok.frames, hs]
  let After : Value → Shared → Prop := fun e t1 => wpAny (model X.prog X.w) X.A (noteFrame e X.env)
    (fun _ t2 => wpAny (model X.prog X.w) X.A (setFlight e none)
      (fun _ t3 => wpAny (model X.prog X.w) X.A (handleBy e X.env (hd :: hds)) (SP X pins D) X.xe t3) X.xe t2) X.xe t1
  have taken : Takes (X.tr (X.pn ++ pins) After) (wAsMany X.K i Wout D l) := by
    intro u s' xx
    obtain ⟨a, B, sI, pins', σ', H', cls, d, rfl, J0, nb, up, sky0, na, os, ag, w⟩ := xx
    have J : Inv X pins σ' H' sI := J0.ofTry ok
    have sky : Sky B (X.env :: X.outer) a (Zc cls d) X.env.locals s'.heap := by
      rw [← hs]
      exact sky0
    show wpAny (model X.prog X.w) X.A (noteFrame (.ref a) X.env) _ X.xe s'
    refine Sky.land Zc.steady frs0 hf sky fun h3 fl3 up3 => ?_
    have J3 : Inv X pins σ' H' { s' with heap := h3 } := J.landed nb fl3.1 (up.trans up3) os ag
    obtain ⟨oe3, vs3, g3, z3, d3⟩ := fl3.there
    have nfr : a ∉ frs (X.env :: X.outer) := fun hm => by
      obtain ⟨_, o', e1, e2⟩ := fl3.2.2.1.mem hm
      rw [g3] at e1
      cases e1
      exact e2 _ d3
    have nL : a ≠ X.env.locals := fun z => nfr (List.mem_filterMap.mpr ⟨X.env, List.mem_cons_self, hf.trans (congrArg some z.symm)⟩)
    have nF : a ∉ X.fs := fun hm => by
      obtain ⟨e, e1, e2⟩ := List.mem_filterMap.mp hm
      exact nfr (List.mem_filterMap.mpr ⟨e, List.mem_cons_of_mem _ e1, e2⟩)
    have S3 := J3.suite g3 d3 na nL nF
    have looks : PySem.W.Looks (model X.prog X.w) h3 (typeOf (.ref a)) cls := fun A Q E s k q => wpAny_typeOf_ref (k _ _ g3) (by
      rw [z3.1]
      exact q)
    have walk : ∀ {hs' : List ExceptHandler} {l' : List (Value × (Addr → Value → Option Addr → TS))}, AsOk X n hs' l' → wAsMany X.K i Wout D l' cls d σ' H' →
        wpAny (model X.prog X.w) X.A (handleBy (.ref a) X.env hs') (SP X pins D) X.xe { s' with heap := h3 } := by
      intro hs' l' k
      induction k with
      | nil =>
        intro w
        refine wpAny_handleBy_nil ?_
        obtain ⟨_, _, _, oe, vs, T, oT, ts', he, hz, hd', h1, hr⟩ := id fl3
        unfold PySem.passOn
        refine wpAny_bind (wpAny_field he hd' h1 ?_)
        have isn : ¬ ((Value.ref T == Value.none) = true) := by simp
        rw [if_neg isn]
        have fin : wpAny (model X.prog X.w) X.A (setFlight (.ref a) X.env.frame)
            (fun _ s4 => wpAny (model X.prog X.w) X.A (throw (.ref a) : Sem Flow) (SP X pins D) X.xe s4) X.xe { s' with heap := h3 } := by
          rw [hf]
          refine HandSPX.setFlight_upZ fl3 fun h4 held up4 => wpAny_throw (tk _ _ ?_)
          refine ⟨a, B, sI, pins, σ', H', cls, d, rfl, J, nb, (up.trans up3).trans up4, .inr (.inr ?_), na, os, ag, w⟩
          rw [hs]
          exact held
        first
          | exact wpAny_bind fin
          | exact wpAny_bind (wpAny_pure (wpAny_bind fin))
      | @cons x c ts st sts q1 q2 hds2 more hc hsu rest ih =>
        intro w
        obtain ⟨b, hb1, yes, no⟩ := w
        have match_ := PySem.W.exm_one (M := model X.prog X.w) (J3.kIn) looks hb1
        refine wpAny_handleBy_cons (codeAny_handlers_test ?_) (by
          intro q
          cases q)
        have test : ∀ {Q : Value → Shared → Prop} {E : Value → Shared → Prop}, Q c { s' with heap := h3 } →
            wpAny (model X.prog X.w) (X.A.mark (some (.ref a))) (eval (.Name x q1) X.env) Q E { s' with heap := h3 } := fun {Q E} q => by
          obtain ⟨hg, hdb, hm | ⟨hm, hv, hnn⟩⟩ := hc
          · exact ld_glob (X := X.suite a ((a, oe3) :: (X.pn ++ pins))) S3 hg hm q hdb
          · exact ld_blt (X := X.suite a ((a, oe3) :: (X.pn ++ pins))) S3 hg hm hv q hnn hdb
        refine test (match_.here ?_)
        cases b with
        | false =>
          show wpAny _ X.A (handleBy (.ref a) X.env hds2) _ _ _
          exact ih (no rfl)
        | true =>
          refine codeAny_handlers_suite_as (HandSPX.lands_againZ fl3 fun h4 fl4 up4 => ?_)
          have J4 : Inv X pins σ' H' { s' with heap := h4 } := J.landed nb fl4.1 ((up.trans up3).trans up4) os ag
          obtain ⟨oe4, vs4, g4, z4, d4⟩ := fl4.there
          have S4 := J4.suite g4 d4 na nL nF
          refine store_ok (X := X.suite a ((a, oe4) :: (X.pn ++ pins))) (v := .ref a) S4 hN hi (.inl hln) rfl (fun s5 S5 => ?_) (.inr hln)
          refine wpAny_mono ((hsu a oe4 cls d (X.pn ++ pins) z4 ⟨_, d4⟩).run [] s5 _ H' _ S5 (yes rfl a na)) (fun f s6 hsp => ?_) (fun _ _ z => False.elim z)
          have gone : ∀ {σ6 : L2.St} {H6 : Hp} {Q : Shared → Prop}, Inv (X.suite a ((a, oe4) :: (X.pn ++ pins))) [] σ6 H6 s6 →
              (∀ s7, Inv X pins (σ6.set i none) H6 s7 → Q s7) →
              wpAny (model X.prog X.w) X.A (do bindName X.env n .none; unbindBehindTheSuite X.env n q2) (fun _ s7 => Q s7) X.xe s6 :=
            fun {σ6 H6 Q} S6 hq => gone_ok (S6.unsuite ok) hN hi hln hq
          cases f with
          | next =>
            obtain ⟨σ6, H6, S6, q6⟩ := hsp
            exact gone S6 fun s7 J7 => ⟨_, _, J7, q6⟩
          | brk =>
            obtain ⟨σ6, H6, S6, q6⟩ := hsp
            exact gone S6 fun s7 J7 => ⟨_, _, J7, q6⟩
          | cont =>
            obtain ⟨σ6, H6, S6, q6⟩ := hsp
            exact gone S6 fun s7 J7 => ⟨_, _, J7, q6⟩
          | ret u =>
            obtain ⟨v6, σ6, H6, S6, r6, q6⟩ := hsp
            exact gone S6 fun s7 J7 => ⟨_, _, _, J7, r6, q6⟩
    exact walk hh w
  refine wpAny_Try_except ?_
  refine wpAny_mono ((hb _ _ After taken PassesOwn.looking).run [] s σ H D (I.toTry _) hw) (fun f s1 hsp => ?_) (fun e s1 he => he)
  cases f with
  | next =>
    obtain ⟨σ', H', J, q⟩ := hsp
    exact wpAny_execs_nil ⟨σ', H', J.ofTry ok, q⟩
  | brk =>
    obtain ⟨σ', H', J, q⟩ := hsp
    exact ⟨σ', H', J.ofTry ok, q⟩
  | cont =>
    obtain ⟨σ', H', J, q⟩ := hsp
    exact ⟨σ', H', J.ofTry ok, q⟩
  | ret u =>
    obtain ⟨v, σ', H', J, r, q⟩ := hsp
    exact ⟨v, σ', H', J.ofTry ok, r, q⟩
end TbA
set_option Elab.async false
set_option linter.all false
set_option maxRecDepth 100000
set_option maxHeartbeats 2000000
/-! Data at values: Rp; what is kept: Kp. -/
namespace TbD
open PySem PySem.Spec PyProof.Rows L2 TbA

/-- the objects in G stand as they stood -/
def Kp (G : Addr → Prop) (H H' : Hp) : Prop := ∀ a o, G a → H a = some o → H' a = some o
theorem Kp.refl (G : Addr → Prop) (H : Hp) : Kp G H H := fun _ _ _ h => h
theorem Kp.trans {G : Addr → Prop} {H H1 H2 : Hp} (x : Kp G H H1) (y : Kp G H1 H2) : Kp G H H2 := fun a o g h => y a o g (x a o g h)
theorem Kp.of {G : Addr → Prop} {H H' : Hp} (x : Same H H') : Kp G H H' := fun a o _ h => x a o h
theorem Kp.new {G : Addr → Prop} {H H1 : Hp} {p : Addr} {o : HO} (x : Kp G H H1) (hp : H1 p = none) : Kp G H (upd H1 p o) := fun a u g h => by
  have e := x a u g h
  rw [upd_ne (ne_of_none e hp)]
  exact e
/-- an object outside is written -/
theorem Kp.out {G : Addr → Prop} {H H1 : Hp} {p : Addr} {o : HO} (x : Kp G H H1) (hp : ¬ G p) : Kp G H (upd H1 p o) := fun a u g h => by
  have e := x a u g h
  have ne : a ≠ p := fun z => by
    rw [z] at g
    exact hp g
  rw [upd_ne ne]
  exact e
/-- an object that did not stand is written -/
theorem Kp.own {G : Addr → Prop} {H H1 : Hp} {p : Addr} {o : HO} (x : Kp G H H1) (hp : H p = none) : Kp G H (upd H1 p o) := fun a u g h => by
  rw [upd_ne (ne_of_none h hp)]
  exact x a u g h
theorem same_new {H : Hp} {p : Addr} {o : HO} (h : H p = none) : Same H (upd H p o) := fun b x e => by
  rw [upd_ne (ne_of_none e h)]
  exact e
theorem Same.new {H H1 : Hp} {p : Addr} {o : HO} (x : Same H H1) (h : H1 p = none) : Same H (upd H1 p o) := L2.Same.trans x (same_new h)
theorem Same.own {H H1 : Hp} {p : Addr} {o : HO} (x : Same H H1) (hp : H p = none) : Same H (upd H1 p o) := fun a u h => by
  rw [upd_ne (ne_of_none h hp)]
  exact x a u h

mutual
inductive Rp (G : Addr → Prop) (H : Hp) : V → PyData → Prop
  | non : Rp G H .non .none
  | bl (b : Bool) : Rp G H (.bl b) (.bool b)
  | int (i : Int) : Rp G H (.int i) (.int i)
  | str (x : Str) : Rp G H (.str x) (.str x)
  | lst {a : Addr} {xs : List V} {ds : List PyData} : G a → H a = some (.lst xs) → RpAll G H xs ds → Rp G H (.ref a) (.list ds)
  | tup {a : Addr} {xs : List V} {ds : List PyData} : G a → H a = some (.tup xs) → RpAll G H xs ds → Rp G H (.ref a) (.tuple ds)
  | dic {a : Addr} : G a → H a = some (.dK []) → Rp G H (.ref a) (.dict [])
inductive RpAll (G : Addr → Prop) (H : Hp) : List V → List PyData → Prop
  | nil : RpAll G H [] []
  | cons {v : V} {vs : List V} {d : PyData} {ds : List PyData} : Rp G H v d → RpAll G H vs ds → RpAll G H (v :: vs) (d :: ds)
end
section
variable {G : Addr → Prop} {H H' : Hp}
mutual
theorem Rp.mono (k : Kp G H H') : ∀ {v : V} {d : PyData}, Rp G H v d → Rp G H' v d
  | _, _, .non => .non
  | _, _, .bl b => .bl b
  | _, _, .int i => .int i
  | _, _, .str x => .str x
  | _, _, .lst g h r => .lst g (k _ _ g h) (RpAll.mono k r)
  | _, _, .tup g h r => .tup g (k _ _ g h) (RpAll.mono k r)
  | _, _, .dic g h => .dic g (k _ _ g h)
theorem RpAll.mono (k : Kp G H H') : ∀ {vs : List V} {ds : List PyData}, RpAll G H vs ds → RpAll G H' vs ds
  | _, _, .nil => .nil
  | _, _, .cons r t => .cons (Rp.mono k r) (RpAll.mono k t)
end
theorem RpAll.length : ∀ {vs : List V} {ds : List PyData}, RpAll G H vs ds → vs.length = ds.length
  | _, _, .nil => rfl
  | _, _, .cons _ t => congrArg (· + 1) (RpAll.length t)
theorem RpAll.get : ∀ {vs : List V} {ds : List PyData} {i : Nat} {v : V}, RpAll G H vs ds → vs[i]? = some v → ∃ d, ds[i]? = some d ∧ Rp G H v d
  | _, _, _, _, .nil, e => by simp at e
  | _, _, 0, _, .cons r _, e => by
    cases e
    exact ⟨_, rfl, r⟩
  | _, _, i + 1, v, .cons _ t, e => by
    obtain ⟨d, h1, h2⟩ := RpAll.get (i := i) (v := v) t (by simpa using e)
    exact ⟨d, by simpa using h1, h2⟩
theorem RpAll.getD : ∀ {vs : List V} {ds : List PyData} {i : Nat} {d : PyData}, RpAll G H vs ds → ds[i]? = some d → ∃ v, vs[i]? = some v ∧ Rp G H v d
  | _, _, _, _, .nil, e => by simp at e
  | _, _, 0, _, .cons r _, e => by
    cases e
    exact ⟨_, rfl, r⟩
  | _, _, i + 1, d, .cons _ t, e => by
    obtain ⟨v, h1, h2⟩ := RpAll.getD (i := i) (d := d) t (by simpa using e)
    exact ⟨v, by simpa using h1, h2⟩
theorem RpAll.append : ∀ {vs ws : List V} {ds es : List PyData}, RpAll G H vs ds → RpAll G H ws es → RpAll G H (vs ++ ws) (ds ++ es)
  | _, _, _, _, .nil, s => s
  | _, _, _, _, .cons r t, s => .cons r (RpAll.append t s)
/- a greater set of addresses -/
mutual
theorem Rp.wide {G' : Addr → Prop} (k : ∀ a, G a → G' a) : ∀ {v : V} {d : PyData}, Rp G H v d → Rp G' H v d
  | _, _, .non => .non
  | _, _, .bl b => .bl b
  | _, _, .int i => .int i
  | _, _, .str x => .str x
  | _, _, .lst g h r => .lst (k _ g) h (RpAll.wide k r)
  | _, _, .tup g h r => .tup (k _ g) h (RpAll.wide k r)
  | _, _, .dic g h => .dic (k _ g) h
theorem RpAll.wide {G' : Addr → Prop} (k : ∀ a, G a → G' a) : ∀ {vs : List V} {ds : List PyData}, RpAll G H vs ds → RpAll G' H vs ds
  | _, _, .nil => .nil
  | _, _, .cons r t => .cons (Rp.wide k r) (RpAll.wide k t)
end
end

/-! ### kinds -/
/-- the type of a thing -/
def tyN : PyData → String
  | .none => "NoneType"
  | .bool _ => "bool"
  | .int _ => "int"
  | .str _ => "str"
  | .list _ => "list"
  | .tuple _ => "tuple"
  | .dict _ => "dict"
theorem Rp.ty {K : PySem.W.Frag} {G : Addr → Prop} {H : Hp} {v : V} {d : PyData} (r : Rp G H v d) : TyX K H v (.type (tyN d)) := by
  cases r with
  | non => exact .base .non
  | bl b => exact .base (.bl b)
  | int i => exact .base (.int i)
  | str x => exact .base (.str x)
  | lst _ h _ => exact .base (.lst h)
  | tup _ h _ => exact .base (.tup h)
  | dic _ h => exact .base (.dK h)
def isN (a t : String) : Bool := a == t || (a == "bool" && t == "int")
abbrev isA (d : PyData) (t : String) : Bool := isN (tyN d) t
theorem kit_tab : ∀ a ∈ ["NoneType", "bool", "int", "str", "list", "tuple", "dict"], ∀ t ∈ ["list", "tuple", "int", "bool", "str", "dict"], kitB a t = some (isN a t) := by
  decide +kernel
theorem tyN_mem (d : PyData) : tyN d ∈ ["NoneType", "bool", "int", "str", "list", "tuple", "dict"] := by
  cases d <;> simp [tyN]
theorem kit_isA {K : PySem.W.Frag} (d : PyData) {t : String} (h : t ∈ ["list", "tuple", "int", "bool", "str", "dict"]) :
    PySem.W.kitOne K (.type (tyN d)) (.type t) = some (isA d t) := kit_ty (kit_tab _ (tyN_mem d) _ h)
/-- isinstance(x, t) -/
theorem isi {K : PySem.W.Frag} {G : Addr → Prop} {H : Hp} {v : V} {d : PyData} {t : String} {Q : VK} (r : Rp G H v d)
    (h : t ∈ ["list", "tuple", "int", "bool", "str", "dict"]) (q : Q (.bl (isA d t)) H) : rIsi K [v, .ty t] H Q :=
  ⟨v, .ty t, .type (tyN d), .type t, _, rfl, .ty _, Rp.ty r, kit_isA d h, q⟩
/-- isinstance(x, (list, tuple)), the tuple just laid -/
theorem isi2 {K : PySem.W.Frag} {G : Addr → Prop} {H : Hp} {v : V} {d : PyData} {Q : VK} {p : Addr} (r : Rp G H v d) (hp : H p = some (.tup [.ty "list", .ty "tuple"]))
    (q : Q (.bl (isA d "list" || isA d "tuple")) H) : rIsiT K [v, .ref p] H Q := by
  refine ⟨v, p, _, .type (tyN d), [.type "list", .type "tuple"], isA d "list" || isA d "tuple", rfl, hp, .cons (.ty _) (.cons (.ty _) .nil), Rp.ty r, ?_, q⟩
  refine kitAny_cons (kit_isA d (by decide)) (fun e => ?_) fun e => by rw [e]; rfl
  refine kitAny_cons (kit_isA d (by decide)) (fun e' => ?_) fun e' => by rw [e']; simp
  rw [e, e']
  exact kitAny_nil
end TbD
set_option Elab.async false
set_option linter.all false
set_option maxRecDepth 100000
set_option maxHeartbeats 2000000
/-! Small lemmas for readings. -/
namespace TbL
open PySem PySem.Spec PyProof.Rows L2 TbA TbD TL RZ

/-! ### text * number -/
def rMulS : R2 := fun x y H Q => ∃ (z : Str) (n : Int), x = .str z ∧ y = .int n ∧ MulOk z n ∧ Q (.str (Txt.mul z n)) H
theorem op_mul_str {X : Cx} : OpR X (binaryOp .Mult) rMulS := by
  intro pins s σ H x y v u Q I rx ry h
  obtain ⟨z, n, rfl, rfl, hk, q⟩ := h
  obtain ⟨t, rfl⟩ := rx
  obtain ⟨t', rfl⟩ := ry
  exact SB.mul hk fun t1 k => ⟨.str _, H, I.tok k, ⟨t1, rfl⟩, q⟩

/-! ### no exception leaves -/
theorem passF {P : Program} {w : World} {X : Cx} : Passes (L2.CX P w) X E0 := fun _ _ _ _ _ _ _ h => by
  obtain ⟨_, _, _, _, _, _, _, _, _, _, _, _, e⟩ := h
  exact e.elim

/-! ### tests by kind -/
theorem iteB {c b : Bool} {A B : Prop} (e : c = b) (h : if b = true then A else B) : if c = true then A else B := by
  rw [e]
  exact h

/-! ### comprehensions -/
abbrev sg (c : Nat) : V := .str ⟨#[c]⟩
theorem wipe_put {σ : L2.St} {i : Nat} {v : Option V} : wipe ((wipe σ [i]).set i v) [i] = wipe σ [i] := by
  show ((σ.set i none).set i v).set i none = σ.set i none
  rw [List.set_set, List.set_set]
theorem wipe_get {σ : L2.St} {i : Nat} {v : V} (h : i < σ.length) : ((wipe σ [i]).set i (some v))[i]? = some (some v) := by
  show ((σ.set i none).set i (some v))[i]? = _
  rw [List.getElem?_set_self (by simpa using h)]
theorem wipe_old {σ : L2.St} {i j : Nat} {v : Option V} (h : i ≠ j) : ((wipe σ [i]).set i v)[j]? = σ[j]? := by
  show ((σ.set i none).set i v)[j]? = _
  rw [List.getElem?_set_ne h, List.getElem?_set_ne h]
theorem take_succ' {α : Type} {l : List α} {i : Nat} {x : α} (h : l[i]? = some x) : l.take (i + 1) = l.take i ++ [x] := by
  rw [List.take_add_one, h]
  rfl
/-- [c for c in z if ..]: the signs for which f holds -/
theorem lc_sf {te : TE} {tt : TT} {σ : L2.St} {H : Hp} {i : Nat} {z : Str} {f : Nat → Bool} {Q : VK} (hi : i < σ.length) (hz : z.length ≤ sizeLine)
    (he : ∀ R : VK, R (.str z) H → te σ H R)
    (ht : ∀ c H1 (R : Bool → Hp → Prop), c ∈ z.cps.toList → Same H H1 → R (f c) H1 → tt ((wipe σ [i]).set i (some (sg c))) H1 R)
    (q : ∀ D H1, H D = none → Same H H1 → H1 D = some (.lst ((z.cps.toList.filter f).map sg)) → Q (.ref D) H1) :
    tLc (iStr te) (gName i) tt (tVar i) [i] σ H Q := by
  refine he _ ⟨z, rfl, fun D hD => lc_it (G := fun _ => True) walk_str
    (fun k H1 => Same H H1 ∧ H1 D = some (.lst (((z.cps.toList.take k).filter f).map sg))) ⟨same_new hD, upd_same⟩ (fun _ _ _ _ => trivial) ?_ ?_⟩
  · rintro k x H1 H2 hk ⟨s1, hl⟩ ⟨rfl, c, hc, rfl⟩
    refine ⟨wipe_put, ?_⟩
    have hc' : z.cps.toList[k]? = some c := by simpa using hc
    have tk := take_succ' hc'
    refine ht c _ _ (List.mem_of_getElem? hc') s1 ?_
    cases e : f c with
    | true =>
      refine iteT ⟨_, wipe_get hi, _, hl, ?_, ?_, ?_⟩
      · have l1 : (((z.cps.toList.take k).filter f).map sg).length ≤ k := by
          rw [List.length_map]
          exact Nat.le_trans (List.length_filter_le _ _) (by rw [List.length_take]; exact Nat.min_le_left _ _)
        exact Nat.lt_of_lt_of_le (Nat.lt_of_le_of_lt l1 hk) hz
      · exact Same.own s1 hD
      · rw [upd_same, tk, List.filter_append, List.map_append]
        simp [e]
    | false =>
      refine iteF ⟨s1, ?_⟩
      rw [hl, tk, List.filter_append, List.map_append]
      simp [e]
  · rintro H1 ⟨s1, hl⟩
    refine q D H1 hD s1 ?_
    rw [hl, List.take_of_length_le (by simp)]

/-! ### == [] -/
def okC (c : Nat) : Prop := c < 1114112
theorem dp_sgs {K : PySem.W.Frag} {H : Hp} : ∀ cs : List Nat, DpAll K H (cs.map sg) (cs.map fun c => PyData.str ⟨#[c]⟩)
  | [] => .nil
  | c :: cs => .cons (.str _) (dp_sgs cs)
theorem lay_sgs : ∀ cs : List Nat, (∀ c ∈ cs, okC c) → PyData.canLayAll0 (cs.map fun c => PyData.str ⟨#[c]⟩) = true
  | [], _ => rfl
  | c :: cs, h => by
    have h1 : c < 1114112 := h c (by simp)
    have h2 := lay_sgs cs fun x hx => h x (by simp [hx])
    simp [PyData.canLayAll0, PyData.canLay0, PyData.strOk, h1, h2]
theorem dep_sgs : ∀ cs : List Nat, PyData.depthAll (cs.map fun c => PyData.str ⟨#[c]⟩) = 0
  | [] => rfl
  | c :: cs => by
    have h := dep_sgs cs
    simp [PyData.depthAll, PyData.depth, h]
/-- a list of signs == [] -/
theorem eq_nil {K : PySem.W.Frag} {H : Hp} {p q : Addr} {cs : List Nat} {Q : VK} (hp : H p = some (.lst (cs.map sg))) (hq : H q = some (.lst [])) (hc : ∀ c ∈ cs, okC c)
    (k : Q (.bl cs.isEmpty) H) : rEqD K (.ref p) (.ref q) H Q := by
  refine ⟨.list (cs.map fun c => PyData.str ⟨#[c]⟩), .list [], .lst (SqL.of hp) (dp_sgs cs), .lst (SqL.of hq) .nil, ?_, ?_, ?_⟩
  · simp [SeqAt.shaped, PyData.canLay0, lay_sgs cs hc, PyData.depth, dep_sgs cs]
  · rfl
  · have e : PyData.eqv (.list (cs.map fun c => PyData.str ⟨#[c]⟩)) (.list []) = cs.isEmpty := by
      cases cs <;> simp [PyData.eqv, PyData.eqvAll]
    rw [e]
    exact k
/-! ### an if, its test told once -/
def Tst (c : TT) (σ : L2.St) (H : Hp) (b : Bool) : Prop := ∀ R : Bool → Hp → Prop, (∀ H', Same H H' → R b H') → c σ H R
theorem seqIf {c : TT} {t u r : TS} {D : Ends} {σ : L2.St} {H : Hp} (b : Bool) (h : Tst c σ H b)
    (k : ∀ H', Same H H' → (b = true → t { D with nx := r D } σ H') ∧ (b = false → u { D with nx := r D } σ H')) : tSeq (tIfS c t u) r D σ H := by
  refine h _ fun H' s => ?_
  cases b with
  | true => exact iteT ((k H' s).1 rfl)
  | false => exact iteF ((k H' s).2 rfl)
/-- .. without else -/
theorem seqIf1 {c : TT} {t r : TS} {D : Ends} {σ : L2.St} {H : Hp} (b : Bool) (h : Tst c σ H b)
    (k : ∀ H', Same H H' → (b = true → t { D with nx := r D } σ H') ∧ (b = false → r D σ H')) : tSeq (tIfS c t tNext) r D σ H := seqIf b h k
theorem oneIf {c : TT} {t u : TS} {D : Ends} {σ : L2.St} {H : Hp} (b : Bool) (h : Tst c σ H b)
    (k : ∀ H', Same H H' → (b = true → t D σ H') ∧ (b = false → u D σ H')) : tIfS c t u D σ H := by
  refine h _ fun H' s => ?_
  cases b with
  | true => exact iteT ((k H' s).1 rfl)
  | false => exact iteF ((k H' s).2 rfl)
/-- a list or a tuple -/
def RowAt (H : Hp) (p : Addr) (xs : List V) : Prop := H p = some (.lst xs) ∨ H p = some (.tup xs)
theorem RowAt.mono {H H' : Hp} {p : Addr} {xs : List V} (s : Same H H') : RowAt H p xs → RowAt H' p xs
  | .inl h => .inl (s _ _ h)
  | .inr h => .inr (s _ _ h)
theorem ix_row {K : PySem.W.Frag} {H : Hp} {p : Addr} {xs : List V} {j : Nat} {v : V} {Q : VK} (h : RowAt H p xs) (hj : xs[j]? = some v) (q : Q v H) : rIx K (.ref p) (.int (j : Nat)) H Q := by
  rcases h with h | h
  · exact .inl ⟨p, xs, j, v, rfl, rfl, SqL.of h, atI_nat hj, q⟩
  · exact .inr (.inl ⟨p, xs, j, v, rfl, rfl, SqT.of h, atI_nat hj, q⟩)
theorem len_row {K : PySem.W.Frag} {H : Hp} {p : Addr} {xs : List V} (h : RowAt H p xs) : LenV K (.ref p) H xs.length := by
  rcases h with h | h
  · exact .inl ⟨xs, SqL.of h, rfl⟩
  · exact .inr ⟨xs, SqT.of h, rfl⟩
theorem tru_row {K : PySem.W.Frag} {H : Hp} {p : Addr} {xs : List V} (h : RowAt H p xs) : TruV K (.ref p) H (!xs.isEmpty) := by
  rcases h with h | h
  · exact .inl ⟨xs, SqL.of h, rfl⟩
  · exact .inr (.inl ⟨xs, SqT.of h, rfl⟩)
/-- tuple(x) of a row -/
theorem tup_row {K : PySem.W.Frag} {H : Hp} {p : Addr} {xs : List V} {Q : VK} (h : RowAt H p xs) (q : ∀ H' a, Same H H' → H' a = some (.tup xs) → Q (.ref a) H') :
    ∃ ys, (SqL K H p ys ∧ ∀ l, H l = none → Q (.ref l) (upd H l (.tup ys))) ∨ (SqT K H p ys ∧ Q (.ref p) H) := by
  rcases h with h | h
  · exact ⟨xs, .inl ⟨SqL.of h, fun l hl => q _ _ (same_new hl) upd_same⟩⟩
  · exact ⟨xs, .inr ⟨SqT.of h, q _ _ (L2.Same.refl _) h⟩⟩
/-! ### texts as lists of signs -/
abbrev S (l : List Nat) : Str := ⟨l.toArray⟩
theorem tl_S (l : List Nat) : tl (S l) = l := rfl
theorem S_tl (x : Str) : S (tl x) = x := by
  obtain ⟨⟨l⟩⟩ := x
  rfl
theorem tl_len (x : Str) : (tl x).length = x.length := by
  obtain ⟨⟨l⟩⟩ := x
  rfl
theorem tl_inj {x y : Str} (h : tl x = tl y) : x = y := by
  rw [← S_tl x, ← S_tl y, h]
theorem joinL_nil : ∀ ps : List (List Nat), joinL [] ps = ps.flatten
  | [] => rfl
  | [p] => by simp [joinL]
  | p :: q :: r => by
    have h := joinL_nil (q :: r)
    simp only [joinL, List.nil_append, h, List.flatten_cons]
theorem join0 (ps : List Str) : Txt.join (Str.ofString "") ps = S (ps.map tl).flatten := by
  refine tl_inj ?_
  have e : (Str.ofString "").cps.toList = [] := by decide +kernel
  show tl _ = (ps.map tl).flatten
  rw [join_eq, tl_join, ← joinL_nil]
  show joinL (Str.ofString "").cps.toList _ = _
  rw [e]
theorem cut_ab {z : Str} {a b : Nat} (ha : a ≤ z.length) (hb : b ≤ z.length) : cutS z (some (a : Int)) (some (b : Int)) = S (((tl z).drop a).take (b - a)) := by
  unfold cutS
  rw [HT.sIx_nat, HT.sIx_nat, Nat.min_eq_left ha, Nat.min_eq_left hb]
theorem cut_a {z : Str} {a : Nat} (ha : a ≤ z.length) : cutS z (some (a : Int)) none = S ((tl z).drop a) := by
  unfold cutS
  rw [HT.sIx_nat, HT.sIx_none, Nat.min_eq_left ha]
  have e : ((tl z).drop a).take (z.length - a) = (tl z).drop a := by
    rw [List.take_of_length_le (by rw [List.length_drop, tl_len]; exact Nat.le_refl _)]
  show S _ = S _
  rw [show z.cps.toList = tl z from rfl, e]
theorem cut_b {z : Str} {b : Nat} (hb : b ≤ z.length) : cutS z none (some (b : Int)) = S ((tl z).take b) := by
  unfold cutS
  rw [HT.sIx_nat, HT.sIx_none, Nat.min_eq_left hb]
  rfl
/-! ### loops -/
theorem seqFor {wi : TI} {g : TG} {tb r : TS} {D : Ends} {σ : L2.St} {H : Hp} (h : tFor wi g tb { D with nx := r D } σ H) : tSeq (tFor wi g tb) r D σ H := h
/-- for a, b in enumerate(a list or a tuple) -/
theorem for_enumA {K : PySem.W.Frag} {i : Nat} {g : TG} {tb : TS} {D : Ends} {σ : L2.St} {H : Hp} {p : Addr} {xs : List V} (hv : σ[i]? = some (some (.ref p))) (hr : RowAt H p xs)
    (Pv : Nat → L2.St → Hp → Prop) (h0 : Pv 0 σ H) (hP : ∀ k σ' H' o, Pv k σ' H' → H p = some o → H' p = some o)
    (hs : ∀ k x σ' H' T, k < xs.length → Pv k σ' H' → xs[k]? = some x → H' T = none →
      g (.ref T) σ' (upd H' T (.tup [.int (k : Nat), x])) fun σ2 H2 => tb ⟨Pv (k + 1), D.rt, D.nx, Pv (k + 1)⟩ σ2 H2)
    (hd : ∀ σ' H', Pv xs.length σ' H' → D.nx σ' H') : tFor (iEnumA K (tCons (tVar i) tNil)) g tb D σ H := by
  refine ⟨_, hv, p, xs, rfl, ?_⟩
  rcases hr with hr | hr
  · refine .inl ⟨SqL.of hr, for_it (walk_enum (K := K) (a := p) (xs := xs)) Pv h0 (fun k σ' H' _ h => SqL.of (hP k σ' H' _ h hr)) (fun k x σ' H' H2 hk h y => ?_) hd⟩
    obtain ⟨T, a, b, rfl, hT, rfl, ea, eb⟩ := y
    have e : a = .int (k : Nat) := (Option.some.inj ea).symm
    subst e
    exact hs k b σ' H' T hk h eb hT
  · refine .inr ⟨SqT.of hr, for_it (walk_enumT (K := K) (a := p) (xs := xs)) Pv h0 (fun k σ' H' _ h => SqT.of (hP k σ' H' _ h hr)) (fun k x σ' H' H2 hk h y => ?_) hd⟩
    obtain ⟨T, a, b, rfl, hT, rfl, ea, eb⟩ := y
    have e : a = .int (k : Nat) := (Option.some.inj ea).symm
    subst e
    exact hs k b σ' H' T hk h eb hT
/-- a, b = the pair at T -/
theorem g2 {K : PySem.W.Frag} {n i j : Nat} {T : Addr} {a b : V} {σ : L2.St} {H : Hp} {R : L2.St → Hp → Prop} (hT : H T = some (.tup [a, b])) (hn : n = 2)
    (k : R ((σ.set i (some a)).set j (some b)) H) : gTup K n (gCons (gName i) (gCons (gName j) gNil)) (.ref T) σ H R :=
  ⟨T, [a, b], rfl, SqT.of hT, hn.symm, a, [b], rfl, b, [], rfl, rfl, k⟩
/-- l.append(e) -/
theorem t_app {K : PySem.W.Frag} {te : TE} {i : Nat} {l : Addr} {xs : List V} {D : Ends} {σ : L2.St} {H : Hp} (hv : σ[i]? = some (some (.ref l))) (hl : H l = some (.lst xs))
    (he : te σ H fun y H1 => rAppend (.ref l) [y] H1 fun _ H2 => D.nx σ H2) : tDrop (tBM K "list" rAppend (tVar i) (tCons te tNil)) D σ H :=
  ⟨_, hv, .inl ⟨rfl, _, SqL.of hl⟩, he⟩
theorem r_app {l : Addr} {xs : List V} {y : V} {H : Hp} {Q : VK} (hl : H l = some (.lst xs)) (hn : xs.length < 100000) (q : Q .non (upd H l (.lst (xs ++ [y])))) : rAppend (.ref l) [y] H Q :=
  ⟨l, xs, y, rfl, rfl, hl, Nat.lt_of_lt_of_le hn (by decide), q⟩
/-! ### statements -/
theorem seqAsg {te : TE} {i : Nat} {r : TS} {D : Ends} {σ : L2.St} {H : Hp} (h : te σ H fun x H1 => r D (σ.set i (some x)) H1) : tSeq (tAsg te (gName i)) r D σ H := h
theorem oneAsg {te : TE} {i : Nat} {D : Ends} {σ : L2.St} {H : Hp} (h : te σ H fun x H1 => D.nx (σ.set i (some x)) H1) : tAsg te (gName i) D σ H := h
theorem seqApp {K : PySem.W.Frag} {te : TE} {i : Nat} {l : Addr} {xs : List V} {r : TS} {D : Ends} {σ : L2.St} {H : Hp} (hv : σ[i]? = some (some (.ref l))) (hl : H l = some (.lst xs))
    (he : te σ H fun y H1 => rAppend (.ref l) [y] H1 fun _ H2 => r D σ H2) : tSeq (tDrop (tBM K "list" rAppend (tVar i) (tCons te tNil))) r D σ H := t_app hv hl he
theorem sum_le : ∀ (ps : List (List Nat)) (n : Nat), (∀ p ∈ ps, p.length ≤ n) → ((ps.map S).map (·.length)).sum ≤ n * ps.length
  | [], _, _ => by simp
  | p :: ps, n, h => by
    have h1 := sum_le ps n fun x hx => h x (by simp [hx])
    have h2 := h p (by simp)
    have e : (S p).length = p.length := by
      rw [← tl_len]
    simp only [List.map_cons, List.sum_cons, List.length_cons, e]
    rw [Nat.mul_add, Nat.mul_one]
    omega
theorem S_app (a b : List Nat) : S a ++ S b = S (a ++ b) := tl_inj (tl_append _ _)
theorem seqAsgG {te : TE} {g : TG} {r : TS} {D : Ends} {σ : L2.St} {H : Hp} (h : te σ H fun x H1 => g x σ H1 (r D)) : tSeq (tAsg te g) r D σ H := h
theorem oneAsgG {te : TE} {g : TG} {D : Ends} {σ : L2.St} {H : Hp} (h : te σ H fun x H1 => g x σ H1 D.nx) : tAsg te g D σ H := h
theorem seqAny {t r : TS} {D : Ends} {σ : L2.St} {H : Hp} (h : t { D with nx := r D } σ H) : tSeq t r D σ H := h
theorem ixN_ok {n j : Nat} (hj : j < n) : ixN n (j : Int) = some j := Evl.ixN_nat hj
/-- l[j], l[j] = v -/
theorem ixL {K : PySem.W.Frag} {H : Hp} {p : Addr} {xs : List V} {j : Nat} {v : V} {Q : VK} (h : H p = some (.lst xs)) (hj : xs[j]? = some v) (q : Q v H) : rIxL K (.ref p) (.int (j : Nat)) H Q :=
  ⟨p, xs, j, v, rfl, rfl, SqL.of h, atI_nat hj, q⟩
theorem setL {H : Hp} {p : Addr} {xs : List V} {j : Nat} {v : V} {Q : Hp → Prop} (h : H p = some (.lst xs)) (hj : j < xs.length) (q : Q (upd H p (.lst (xs.set j v)))) : rSetL (.ref p) (.int (j : Nat)) v H Q :=
  ⟨p, xs, j, j, rfl, rfl, h, ixN_ok hj, q⟩
theorem dp_ints {K : PySem.W.Frag} {H : Hp} : ∀ ns : List Int, DpAll K H (ns.map V.int) (ns.map PyData.int)
  | [] => .nil
  | n :: ns => .cons (.int n) (dp_ints ns)
theorem lay_ints : ∀ ns : List Int, PyData.canLayAll0 (ns.map PyData.int) = true
  | [] => rfl
  | n :: ns => by simp [PyData.canLayAll0, PyData.canLay0, lay_ints ns]
theorem dep_ints : ∀ ns : List Int, PyData.depthAll (ns.map PyData.int) = 0
  | [] => rfl
  | n :: ns => by simp [PyData.depthAll, PyData.depth, dep_ints ns]
theorem ne_nil {K : PySem.W.Frag} {H : Hp} {p q : Addr} {ns : List Int} {Q : VK} (hp : H p = some (.lst (ns.map V.int))) (hq : H q = some (.lst []))
    (k : Q (.bl (!ns.isEmpty)) H) : rNeD K (.ref p) (.ref q) H Q := by
  refine ⟨.list (ns.map PyData.int), .list [], .lst (SqL.of hp) (dp_ints ns), .lst (SqL.of hq) .nil, ?_, rfl, ?_⟩
  · simp [SeqAt.shaped, PyData.canLay0, lay_ints ns, PyData.depth, dep_ints ns]
  · have e : PyData.eqv (.list (ns.map PyData.int)) (.list []) = ns.isEmpty := by
      cases ns <;> simp [PyData.eqv, PyData.eqvAll]
    rw [e]
    exact k
/-- while: W, a word of what falls, the slots and the heap; the test told once -/
theorem whileBy {c : TT} {tb r : TS} {D : Ends} {σ : L2.St} {H : Hp} (W : Nat → L2.St → Hp → Prop) (m0 : Nat) (h0 : W m0 σ H)
    (hs : ∀ m σ' H', W m σ' H' → ∃ b, Tst c σ' H' b ∧ ∀ H2, Same H' H2 →
      (b = true → tb ⟨fun σ3 H3 => ∃ m', m' < m ∧ W m' σ3 H3, D.rt, r D, fun σ3 H3 => ∃ m', m' < m ∧ W m' σ3 H3⟩ σ' H2) ∧ (b = false → r D σ' H2)) :
    tSeq (tWhile c tb) r D σ H := by
  refine ⟨W, ⟨m0, h0⟩, fun m σ' H' hw => ?_⟩
  obtain ⟨b, h1, h2⟩ := hs m σ' H' hw
  refine h1 _ fun H2 s => ?_
  cases b with
  | true => exact iteT ⟨_, fun _ _ h => h, (h2 H2 s).1 rfl⟩
  | false => exact iteF ((h2 H2 s).2 rfl)
/-- l.pop(0) -/
theorem pop0 {l : Addr} {y : V} {ys : List V} {H : Hp} {Q : VK} (h : H l = some (.lst (y :: ys))) (q : Q y (upd H l (.lst ys))) : rPopAt (.ref l) [.int 0] H Q := by
  refine ⟨l, _, 0, 0, y, rfl, rfl, h, by decide, by decide, ?_, rfl, q⟩
  unfold seqIndex?
  simp
theorem decI {x y : Int} : decide (V.int x = V.int y) = decide (x = y) := by simp
theorem tyL {K : PySem.W.Frag} {l : Addr} {xs : List V} {H : Hp} (h : H l = some (.lst xs)) : tyV K "list" (.ref l) H := .inl ⟨rfl, _, SqL.of h⟩
/-! ### zip of two rows of one kind, in a comprehension -/
def rowO (b : Bool) (xs : List V) : HO := if b then .tup xs else .lst xs
theorem rowAt_of {H : Hp} {p : Addr} {b : Bool} {xs : List V} (h : H p = some (rowO b xs)) : RowAt H p xs := by
  cases b with
  | true => exact .inr h
  | false => exact .inl h
theorem walk_zipT {K : PySem.W.Frag} {a b : Addr} {xs ys : List V} (hl : xs.length = ys.length) :
    Walk (ItzT K a b) xs.length (fun H => SqT K H a xs ∧ SqT K H b ys) (YPair (fun i => xs[i]?) (fun i => ys[i]?)) where
  goes := fun i _ hi q => ⟨xs, ys, xs[i], ys[i]'(by omega), q.1, q.2, List.getElem?_eq_getElem hi, List.getElem?_eq_getElem (by omega)⟩
  stops := fun _ q => ⟨xs, ys, q.1, q.2, .inl (Nat.le_refl _)⟩
  yields := fun i H v H' _ q y => by
    obtain ⟨T, x, z, h1, h2, h3, h4, h5⟩ := y
    exact ⟨T, x, z, h1, h2, h3, h4 xs q.1, h5 ys q.2⟩
theorem lc_zipA {K : PySem.W.Frag} {g : TG} {tt : TT} {te : TE} {vs : List Nat} {σ : L2.St} {H : Hp} {Q : VK} {i j : Nat} {p q : Addr} {xs ys : List V} (b : Bool)
    (hp : σ[i]? = some (some (.ref p))) (hq : σ[j]? = some (some (.ref q))) (h1 : H p = some (rowO b xs)) (h2 : H q = some (rowO b ys)) (hl : xs.length = ys.length)
    (Pv : Addr → Nat → Hp → Prop) (h0 : ∀ D, H D = none → Pv D 0 (upd H D (.lst []))) (hk : ∀ D k H', Pv D k H' → Same H H')
    (hs : ∀ D k x y H' T, H D = none → k < xs.length → Pv D k H' → xs[k]? = some x → ys[k]? = some y → H' T = none → g (.ref T) (wipe σ vs) (upd H' T (.tup [x, y])) fun σ2 H2 =>
      wipe σ2 vs = wipe σ vs ∧ tt σ2 H2 fun b H3 => if b = true then te σ2 H3 fun y H4 => ∃ acc, H4 D = some (.lst acc) ∧ acc.length < sizeLine ∧ Pv D (k + 1) (upd H4 D (.lst (acc ++ [y]))) else Pv D (k + 1) H3)
    (hd : ∀ D H', H D = none → Pv D xs.length H' → Q (.ref D) H') :
    tLc (iZipA K (tCons (tVar i) (tCons (tVar j) tNil))) g tt te vs σ H Q := by
  refine ⟨_, hp, _, hq, p, q, xs, ys, rfl, ?_⟩
  cases b with
  | true =>
    refine .inr ⟨SqT.of h1, SqT.of h2, fun D hD => lc_it (walk_zipT (K := K) (a := p) (b := q) hl) (Pv D) (h0 D hD) (fun k H' _ h => ⟨SqT.of (hk D k H' h _ _ h1), SqT.of (hk D k H' h _ _ h2)⟩) ?_ fun H' h => hd D H' hD h⟩
    rintro k x H1 H2 hlt h ⟨T, a, c, rfl, hT, rfl, ea, ec⟩
    exact hs D k a c H1 T hD hlt h ea ec hT
  | false =>
    refine .inl ⟨SqL.of h1, SqL.of h2, fun D hD => lc_it (walk_zip (K := K) (a := p) (b := q) (n := xs.length) (xs := xs) (ys := ys) (by omega)) (Pv D) (h0 D hD) (fun k H' _ h => ⟨SqL.of (hk D k H' h _ _ h1), SqL.of (hk D k H' h _ _ h2)⟩) ?_ fun H' h => hd D H' hD h⟩
    rintro k x H1 H2 hlt h ⟨T, a, c, rfl, hT, rfl, ea, ec⟩
    exact hs D k a c H1 T hD hlt h ea ec hT
/-- no promise at all -/
theorem fn_none {P : Program} {w : World} {K : PySem.W.Frag} {mg : Str → Option Value} {base : Heap} {CX : CXT} {k : Nat} {f : Addr} {fd : FuncData} {ps : List Str} {sp : Sp} (h : ∀ vs H Q E, ¬ sp vs H Q E) :
    FnOk P w K mg base CX k f fd ps sp :=
  ⟨fun vs H Q E x => absurd x (h vs H Q E), fun _ _ _ _ _ _ _ _ _ _ _ _ _ x => absurd x (h _ _ _ _)⟩
end TbL
set_option Elab.async false
set_option linter.all false
namespace TbK
open PySem PySem.Spec PyProof.Rows L2
/-! The rules that name the frame's pins, with the pins given apart: for the block of a comprehension. -/
variable {X : Cx} {K : PySem.W.Frag}
theorem ix_tupK (e : X.K = K) : IxR X (rIxT K) := e ▸ ix_tup
theorem ix_listK (e : X.K = K) : IxR X (rIxL K) := e ▸ ix_list
theorem sl_tupAK (e : X.K = K) : SlR X (rSlA K) := e ▸ sl_tupA
theorem op_catAK (e : X.K = K) : OpR X (binaryOp .Add) (rCatA K) := e ▸ op_catA
def rLenK (K : PySem.W.Frag) : List V → Hp → VK → Prop := fun xs H Q => ∃ x n, xs = [x] ∧ LenV K x H n ∧ Q (.int n) H
theorem call_lenK (e : X.K = K) : CallR X (.builtin "len") (rLenK K) := e ▸ call_len
theorem pi_listK {tg l : Expr} {tl : TE} (e : X.K = K) (hl : PE X l tl) : PI X tg l (iList K tl) := e ▸ pi_list hl
end TbK
set_option Elab.async false
set_option linter.all false
set_option maxRecDepth 100000
set_option maxHeartbeats 4000000
namespace K76
open PySem PySem.Spec PyProof.Rows L2 TbA TbD TbL TL RZ
def topS (i : Nat) : Stmt := PySem.Challenge.pw_tellback_k76_whole_scripts_turned_about.main.body.getD i (.Pass ⟨0, 0, 0, 0⟩)
abbrev sBadInput_init : Stmt := inClass (topS 2) 0
abbrev NBadInput_init : List Str := ["self", "thing"]
theorem scBadInput_init : FnScope NBadInput_init ["self", "thing"] (defScope sBadInput_init) := ⟨rfl, rfl, rfl, by decide +kernel, rfl, by decide +kernel, by decide +kernel⟩
abbrev sBadScript_init : Stmt := inClass (topS 3) 0
abbrev NBadScript_init : List Str := ["self", "index"]
theorem scBadScript_init : FnScope NBadScript_init ["self", "index"] (defScope sBadScript_init) := ⟨rfl, rfl, rfl, by decide +kernel, rfl, by decide +kernel, by decide +kernel⟩
abbrev sis_row : Stmt := topS 6
abbrev Nis_row : List Str := ["thing"]
theorem scis_row : FnScope Nis_row ["thing"] (defScope sis_row) := ⟨rfl, rfl, rfl, by decide +kernel, rfl, by decide +kernel, by decide +kernel⟩
abbrev sis_number : Stmt := topS 7
abbrev Nis_number : List Str := ["thing", "low", "high"]
theorem scis_number : FnScope Nis_number ["thing", "low", "high"] (defScope sis_number) := ⟨rfl, rfl, rfl, by decide +kernel, rfl, by decide +kernel, by decide +kernel⟩
abbrev sis_text : Stmt := topS 8
abbrev Nis_text : List Str := ["thing", "alphabet", "most", "sign"]
theorem scis_text : FnScope Nis_text ["thing", "alphabet", "most"] (defScope sis_text) := ⟨rfl, rfl, rfl, by decide +kernel, rfl, by decide +kernel, by decide +kernel⟩
abbrev sneed_written : Stmt := topS 11
abbrev Nneed_written : List Str := ["text"]
theorem scneed_written : FnScope Nneed_written ["text"] (defScope sneed_written) := ⟨rfl, rfl, rfl, by decide +kernel, rfl, by decide +kernel, by decide +kernel⟩
abbrev sis_sign : Stmt := topS 13
abbrev Nis_sign : List Str := ["thing"]
theorem scis_sign : FnScope Nis_sign ["thing"] (defScope sis_sign) := ⟨rfl, rfl, rfl, by decide +kernel, rfl, by decide +kernel, by decide +kernel⟩
abbrev sedit_in : Stmt := topS 14
abbrev Nedit_in : List Str := ["text", "thing"]
theorem scedit_in : FnScope Nedit_in ["text", "thing"] (defScope sedit_in) := ⟨rfl, rfl, rfl, by decide +kernel, rfl, by decide +kernel, by decide +kernel⟩
abbrev smay_follow : Stmt := topS 15
abbrev Nmay_follow : List Str := ["last", "edit"]
theorem scmay_follow : FnScope Nmay_follow ["last", "edit"] (defScope smay_follow) := ⟨rfl, rfl, rfl, by decide +kernel, rfl, by decide +kernel, by decide +kernel⟩
abbrev sedited : Stmt := topS 16
abbrev Nedited : List Str := ["text", "script", "last", "found", "at", "index", "thing", "edit"]
theorem scedited : FnScope Nedited ["text", "script"] (defScope sedited) := ⟨rfl, rfl, rfl, by decide +kernel, rfl, by decide +kernel, by decide +kernel⟩
abbrev s_law_start : Stmt := topS 18
abbrev N_law_start : List Str := ["script"]
theorem sc_law_start : FnScope N_law_start ["script"] (defScope s_law_start) := ⟨rfl, rfl, rfl, by decide +kernel, rfl, by decide +kernel, by decide +kernel⟩
abbrev s_law_below : Stmt := topS 19
abbrev N_law_below : List Str := ["stream", "many", "mixed", "cell", "digit"]
theorem sc_law_below : FnScope N_law_below ["stream", "many"] (defScope s_law_below) := ⟨rfl, rfl, rfl, by decide +kernel, rfl, by decide +kernel, by decide +kernel⟩
abbrev s_law_chance : Stmt := topS 20
abbrev N_law_chance : List Str := ["stream", "many"]
theorem sc_law_chance : FnScope N_law_chance ["stream", "many"] (defScope s_law_chance) := ⟨rfl, rfl, rfl, by decide +kernel, rfl, by decide +kernel, by decide +kernel⟩
abbrev s_law_pick : Stmt := topS 21
abbrev N_law_pick : List Str := ["stream", "some"]
theorem sc_law_pick : FnScope N_law_pick ["stream", "some"] (defScope s_law_pick) := ⟨rfl, rfl, rfl, by decide +kernel, rfl, by decide +kernel, by decide +kernel⟩
abbrev s_law_mixed : Stmt := topS 22
abbrev N_law_mixed : List Str := ["stream", "some", "left", "k"]
theorem sc_law_mixed : FnScope N_law_mixed ["stream", "some"] (defScope s_law_mixed) := ⟨rfl, rfl, rfl, by decide +kernel, rfl, by decide +kernel, by decide +kernel⟩
abbrev s_law_same : Stmt := topS 23
abbrev N_law_same : List Str := ["found", "due", "x", "y"]
theorem sc_law_same : FnScope N_law_same ["found", "due"] (defScope s_law_same) := ⟨rfl, rfl, rfl, by decide +kernel, rfl, by decide +kernel, by decide +kernel⟩
abbrev s_law_loose : Stmt := topS 24
abbrev N_law_loose : List Str := ["stream", "thing", "found", "part", "key"]
theorem sc_law_loose : FnScope N_law_loose ["stream", "thing"] (defScope s_law_loose) := ⟨rfl, rfl, rfl, by decide +kernel, rfl, by decide +kernel, by decide +kernel⟩
abbrev s_law_ksigns : Stmt := topS 25
abbrev N_law_ksigns : List Str := []
theorem sc_law_ksigns : FnScope N_law_ksigns [] (defScope s_law_ksigns) := ⟨rfl, rfl, rfl, by decide +kernel, rfl, by decide +kernel, by decide +kernel⟩
abbrev s_law_xtext : Stmt := topS 26
abbrev N_law_xtext : List Str := ["stream", "signs", "most", "k"]
theorem sc_law_xtext : FnScope N_law_xtext ["stream", "signs", "most"] (defScope s_law_xtext) := ⟨rfl, rfl, rfl, by decide +kernel, rfl, by decide +kernel, by decide +kernel⟩
abbrev s_law_script : Stmt := topS 27
abbrev N_law_script : List Str := ["stream", "text", "found", "at", "while_in", "sign", "k"]
theorem sc_law_script : FnScope N_law_script ["stream", "text"] (defScope s_law_script) := ⟨rfl, rfl, rfl, by decide +kernel, rfl, by decide +kernel, by decide +kernel⟩
abbrev s_law_done : Stmt := topS 28
abbrev N_law_done : List Str := ["text", "script", "edit", "at"]
theorem sc_law_done : FnScope N_law_done ["text", "script"] (defScope s_law_done) := ⟨rfl, rfl, rfl, by decide +kernel, rfl, by decide +kernel, by decide +kernel⟩
abbrev s_law_back : Stmt := topS 29
abbrev N_law_back : List Str := ["text", "script", "edit", "found", "shift", "at"]
theorem sc_law_back : FnScope N_law_back ["text", "script"] (defScope s_law_back) := ⟨rfl, rfl, rfl, by decide +kernel, rfl, by decide +kernel, by decide +kernel⟩
abbrev s_law_in_order : Stmt := topS 30
abbrev N_law_in_order : List Str := ["script", "one", "two"]
theorem sc_law_in_order : FnScope N_law_in_order ["script"] (defScope s_law_in_order) := ⟨rfl, rfl, rfl, by decide +kernel, rfl, by decide +kernel, by decide +kernel⟩
abbrev s_law_wrong : Stmt := topS 31
abbrev N_law_wrong : List Str := ["text", "script", "last", "index", "edit", "many"]
theorem sc_law_wrong : FnScope N_law_wrong ["text", "script"] (defScope s_law_wrong) := ⟨rfl, rfl, rfl, by decide +kernel, rfl, by decide +kernel, by decide +kernel⟩
abbrev s_law_told : Stmt := topS 32
abbrev N_law_told : List Str := ["text", "script", "e"]
theorem sc_law_told : FnScope N_law_told ["text", "script"] (defScope s_law_told) := ⟨rfl, rfl, rfl, by decide +kernel, rfl, by decide +kernel, by decide +kernel⟩
abbrev slaw : Stmt := topS 33
abbrev Nlaw : List Str := ["script", "stream", "turn", "text", "some", "there", "back", "due", "sizes", "more", "behind", "shifted", "both", "look", "odd", "odds", "at", "bent", "wrong", "word", "edit"]
theorem sclaw : FnScope Nlaw ["script"] (defScope slaw) := ⟨rfl, rfl, rfl, by decide +kernel, rfl, by decide +kernel, by decide +kernel⟩
local macro_rules | `(tactic| walk_at "u") => `(tactic| simp only [tRet, tRetN, tSeq, tNext, tIfS, tAsg, tDrop, tAndV, tOrV, tNotV, tAnd, tOr, tNot, tB, tTest, tIf, tCB, tCons, tNil, tC, tVar, tOp, tUn, tChain, tCall, tM1, tTup, tLst, tSl, tPart, tNoPart, gName, gSub, gCons, gNil, gTup, tBreak, tCont, tNever,
  rI0, rI, rEq, rNe, cxOf, Cx.nox, Cx.wish, L2.start, List.map_cons, List.map_nil, List.length_cons, List.length_nil, List.cons_append, List.nil_append, List.replicate, List.getElem?_cons_zero, List.getElem?_cons_succ, Option.some.injEq, List.cons.injEq, and_true, true_and, V.int.injEq, V.bl.injEq, V.str.injEq, V.ref.injEq,
  exists_eq_left', exists_and_left, exists_eq_left, Nat.reduceSub, Nat.reduceAdd, List.set_cons_zero, List.set_cons_succ])
local macro_rules | `(tactic| walk_at "e") => `(tactic| simp only [tAndV, tOrV, tNotV, tAnd, tOr, tNot, tB, tTest, tIf, tCB, tCons, tNil, tC, tVar, tOp, tUn, tChain, tCall, tM1, tTup, tLst, tSl, tPart, tNoPart, gName, gSub, gCons, gNil, gTup, 
  rI0, rI, rEq, rNe, cxOf, Cx.nox, Cx.wish, L2.start, List.map_cons, List.map_nil, List.length_cons, List.length_nil, List.cons_append, List.nil_append, List.replicate, List.getElem?_cons_zero, List.getElem?_cons_succ, Option.some.injEq, List.cons.injEq, and_true, true_and, V.int.injEq, V.bl.injEq, V.str.injEq, V.ref.injEq,
  exists_eq_left', exists_and_left, exists_eq_left, Nat.reduceSub, Nat.reduceAdd, List.set_cons_zero, List.set_cons_succ])

structure Tx (K : PySem.W.Frag) (mg : Str → Option Value) where
  f_is_row : Addr
  d_is_row : FuncData
  F_is_row : Fun K "is_row" "is_row" sis_row f_is_row d_is_row
  g_is_row : mg "is_row" = some (.ref f_is_row)
  b_is_row : Binds K d_is_row ["thing"] []
  f_is_number : Addr
  d_is_number : FuncData
  F_is_number : Fun K "is_number" "is_number" sis_number f_is_number d_is_number
  g_is_number : mg "is_number" = some (.ref f_is_number)
  b_is_number : Binds K d_is_number ["thing", "low", "high"] []
  f_is_text : Addr
  d_is_text : FuncData
  F_is_text : Fun K "is_text" "is_text" sis_text f_is_text d_is_text
  g_is_text : mg "is_text" = some (.ref f_is_text)
  b_is_text : Binds K d_is_text ["thing", "alphabet", "most"] []
  f_need_written : Addr
  d_need_written : FuncData
  F_need_written : Fun K "need_written" "need_written" sneed_written f_need_written d_need_written
  g_need_written : mg "need_written" = some (.ref f_need_written)
  b_need_written : Binds K d_need_written ["text"] []
  f_is_sign : Addr
  d_is_sign : FuncData
  F_is_sign : Fun K "is_sign" "is_sign" sis_sign f_is_sign d_is_sign
  g_is_sign : mg "is_sign" = some (.ref f_is_sign)
  b_is_sign : Binds K d_is_sign ["thing"] []
  f_edit_in : Addr
  d_edit_in : FuncData
  F_edit_in : Fun K "edit_in" "edit_in" sedit_in f_edit_in d_edit_in
  g_edit_in : mg "edit_in" = some (.ref f_edit_in)
  b_edit_in : Binds K d_edit_in ["text", "thing"] []
  f_may_follow : Addr
  d_may_follow : FuncData
  F_may_follow : Fun K "may_follow" "may_follow" smay_follow f_may_follow d_may_follow
  g_may_follow : mg "may_follow" = some (.ref f_may_follow)
  b_may_follow : Binds K d_may_follow ["last", "edit"] []
  f_edited : Addr
  d_edited : FuncData
  F_edited : Fun K "edited" "edited" sedited f_edited d_edited
  g_edited : mg "edited" = some (.ref f_edited)
  b_edited : Binds K d_edited ["text", "script"] []
  f__law_start : Addr
  d__law_start : FuncData
  F__law_start : Fun K "_law_start" "_law_start" s_law_start f__law_start d__law_start
  g__law_start : mg "_law_start" = some (.ref f__law_start)
  b__law_start : Binds K d__law_start ["script"] []
  f__law_below : Addr
  d__law_below : FuncData
  F__law_below : Fun K "_law_below" "_law_below" s_law_below f__law_below d__law_below
  g__law_below : mg "_law_below" = some (.ref f__law_below)
  b__law_below : Binds K d__law_below ["stream", "many"] []
  f__law_chance : Addr
  d__law_chance : FuncData
  F__law_chance : Fun K "_law_chance" "_law_chance" s_law_chance f__law_chance d__law_chance
  g__law_chance : mg "_law_chance" = some (.ref f__law_chance)
  b__law_chance : Binds K d__law_chance ["stream", "many"] []
  f__law_pick : Addr
  d__law_pick : FuncData
  F__law_pick : Fun K "_law_pick" "_law_pick" s_law_pick f__law_pick d__law_pick
  g__law_pick : mg "_law_pick" = some (.ref f__law_pick)
  b__law_pick : Binds K d__law_pick ["stream", "some"] []
  f__law_mixed : Addr
  d__law_mixed : FuncData
  F__law_mixed : Fun K "_law_mixed" "_law_mixed" s_law_mixed f__law_mixed d__law_mixed
  g__law_mixed : mg "_law_mixed" = some (.ref f__law_mixed)
  b__law_mixed : Binds K d__law_mixed ["stream", "some"] []
  f__law_same : Addr
  d__law_same : FuncData
  F__law_same : Fun K "_law_same" "_law_same" s_law_same f__law_same d__law_same
  g__law_same : mg "_law_same" = some (.ref f__law_same)
  b__law_same : Binds K d__law_same ["found", "due"] []
  f__law_loose : Addr
  d__law_loose : FuncData
  F__law_loose : Fun K "_law_loose" "_law_loose" s_law_loose f__law_loose d__law_loose
  g__law_loose : mg "_law_loose" = some (.ref f__law_loose)
  b__law_loose : Binds K d__law_loose ["stream", "thing"] []
  f__law_ksigns : Addr
  d__law_ksigns : FuncData
  F__law_ksigns : Fun K "_law_ksigns" "_law_ksigns" s_law_ksigns f__law_ksigns d__law_ksigns
  g__law_ksigns : mg "_law_ksigns" = some (.ref f__law_ksigns)
  b__law_ksigns : Binds K d__law_ksigns [] []
  f__law_xtext : Addr
  d__law_xtext : FuncData
  F__law_xtext : Fun K "_law_xtext" "_law_xtext" s_law_xtext f__law_xtext d__law_xtext
  g__law_xtext : mg "_law_xtext" = some (.ref f__law_xtext)
  b__law_xtext : Binds K d__law_xtext ["stream", "signs", "most"] []
  f__law_script : Addr
  d__law_script : FuncData
  F__law_script : Fun K "_law_script" "_law_script" s_law_script f__law_script d__law_script
  g__law_script : mg "_law_script" = some (.ref f__law_script)
  b__law_script : Binds K d__law_script ["stream", "text"] []
  f__law_done : Addr
  d__law_done : FuncData
  F__law_done : Fun K "_law_done" "_law_done" s_law_done f__law_done d__law_done
  g__law_done : mg "_law_done" = some (.ref f__law_done)
  b__law_done : Binds K d__law_done ["text", "script"] []
  f__law_back : Addr
  d__law_back : FuncData
  F__law_back : Fun K "_law_back" "_law_back" s_law_back f__law_back d__law_back
  g__law_back : mg "_law_back" = some (.ref f__law_back)
  b__law_back : Binds K d__law_back ["text", "script"] []
  f__law_in_order : Addr
  d__law_in_order : FuncData
  F__law_in_order : Fun K "_law_in_order" "_law_in_order" s_law_in_order f__law_in_order d__law_in_order
  g__law_in_order : mg "_law_in_order" = some (.ref f__law_in_order)
  b__law_in_order : Binds K d__law_in_order ["script"] []
  f__law_wrong : Addr
  d__law_wrong : FuncData
  F__law_wrong : Fun K "_law_wrong" "_law_wrong" s_law_wrong f__law_wrong d__law_wrong
  g__law_wrong : mg "_law_wrong" = some (.ref f__law_wrong)
  b__law_wrong : Binds K d__law_wrong ["text", "script"] []
  f__law_told : Addr
  d__law_told : FuncData
  F__law_told : Fun K "_law_told" "_law_told" s_law_told f__law_told d__law_told
  g__law_told : mg "_law_told" = some (.ref f__law_told)
  b__law_told : Binds K d__law_told ["text", "script"] []
  f_law : Addr
  d_law : FuncData
  F_law : Fun K "law" "law" slaw f_law d_law
  g_law : mg "law" = some (.ref f_law)
  b_law : Binds K d_law ["script"] []
  C_BadInput : Addr
  fi_BadInput : Addr
  di_BadInput : FuncData
  g_BadInput : mg "BadInput" = some (.ref C_BadInput)
  o_BadInput : OexC K C_BadInput
  iC_BadInput : PySem.W.findIn K (.ref C_BadInput) "__init__" = some (some (.ref fi_BadInput))
  tI_BadInput : PySem.W.typeIn K (.ref fi_BadInput) = some (.type "function")
  Fi_BadInput : Fun K "__init__" "BadInput.__init__" sBadInput_init fi_BadInput di_BadInput
  bi_BadInput : Binds K di_BadInput ["self", "thing"] []
  xf_BadInput : XfC K C_BadInput
  no_BadInput_thing : PySem.W.findIn K (.ref C_BadInput) "thing" = some none
  C_BadScript : Addr
  fi_BadScript : Addr
  di_BadScript : FuncData
  g_BadScript : mg "BadScript" = some (.ref C_BadScript)
  o_BadScript : OexC K C_BadScript
  iC_BadScript : PySem.W.findIn K (.ref C_BadScript) "__init__" = some (some (.ref fi_BadScript))
  tI_BadScript : PySem.W.typeIn K (.ref fi_BadScript) = some (.type "function")
  Fi_BadScript : Fun K "__init__" "BadScript.__init__" sBadScript_init fi_BadScript di_BadScript
  bi_BadScript : Binds K di_BadScript ["self", "index"] []
  xf_BadScript : XfC K C_BadScript
  no_BadScript_index : PySem.W.findIn K (.ref C_BadScript) "index" = some none
  em_BadInput_BadInput : PySem.W.exmOne K (.ref C_BadInput) (.ref C_BadInput) = some true
  em_BadInput_BadScript : PySem.W.exmOne K (.ref C_BadInput) (.ref C_BadScript) = some false
  em_BadScript_BadInput : PySem.W.exmOne K (.ref C_BadScript) (.ref C_BadInput) = some false
  em_BadScript_BadScript : PySem.W.exmOne K (.ref C_BadScript) (.ref C_BadScript) = some true
  t_SIGNS : Tok
  v_SIGNS : mg "SIGNS" = some (Value.str "abcdefghijklmnopqrstuvwxyz0123456789<>()[],;:=+-./ " t_SIGNS)
  t_LONGEST : Tok
  v_LONGEST : mg "LONGEST" = some (Value.int 200 t_LONGEST)
  m_isinstance : mg "isinstance" = none
  m_len : mg "len" = none
  m_list : mg "list" = none
  m_tuple : mg "tuple" = none
  m_int : mg "int" = none
  m_bool : mg "bool" = none
  m_str : mg "str" = none
  m_dict : mg "dict" = none
  m_all : mg "all" = none
  m_zip : mg "zip" = none
  m_enumerate : mg "enumerate" = none
  m_range : mg "range" = none
section
variable {P : Program} {w : World} {K : PySem.W.Frag} {mg : Str → Option Value} {base : Heap}
/-! ### is_row -/
def isRow (d : PyData) : Bool := isA d "list" || isA d "tuple"
def sp_is_row : Sp := fun vs H Q _ => ∃ (G : Addr → Prop) (v : V) (d : PyData), vs = [v] ∧ Rp G H v d ∧ ∀ H', Same H H' → Q (.bl (isRow d)) H'
theorem ok_is_row (T : Tx K mg) : FnOk P w K mg base CX0 1 T.f_is_row T.d_is_row ["thing"] sp_is_row := by
  refine T.F_is_row.ok scis_row (fun vs H Q E h => ?_) (fun cdv A outer s H vs Q E hr h => ?_)
  · obtain ⟨G, v, d, rfl, _⟩ := h
    rfl
  · obtain ⟨G, v, d, rfl, r, q⟩ := h
    refine ⟨_, (pss_one (ps_ret (pe_callB call_isiT (by rfl) T.m_isinstance (by decide +kernel) (pa_cons (pv 0) (pa_cons (pe_tup (pa_cons (pe_bltn (v := .ty "list") (by rfl) T.m_list (by decide +kernel) rfl) (pa_cons (pe_bltn (v := .ty "tuple") (by rfl) T.m_tuple (by decide +kernel) rfl) pa_nil))) pa_nil))))), ?_⟩
    refine ⟨_, rfl, (by decide : 2 ≤ sizeLine), fun p hp => ?_⟩
    have k := same_new (o := .tup [V.ty "list", V.ty "tuple"]) hp
    exact isi2 (r.mono (Kp.of k)) upd_same (q _ k)

/-! ### is_number -/
def isNum (lo hi : Int) : PyData → Bool
  | .int i => decide (lo ≤ i) && decide (i ≤ hi)
  | _ => false
def sp_is_number : Sp := fun vs H Q _ => ∃ (G : Addr → Prop) (v : V) (d : PyData) (lo hi : Int), vs = [v, .int lo, .int hi] ∧ Rp G H v d ∧ Q (.bl (isNum lo hi d)) H
theorem ok_is_number (T : Tx K mg) : FnOk P w K mg base CX0 1 T.f_is_number T.d_is_number ["thing", "low", "high"] sp_is_number := by
  refine T.F_is_number.ok scis_number (fun vs H Q E h => ?_) (fun cdv A outer s H vs Q E hr h => ?_)
  · obtain ⟨G, v, d, lo, hi, rfl, _⟩ := h
    rfl
  · obtain ⟨G, v, d, lo, hi, rfl, r, q⟩ := h
    refine ⟨_, (pss_one (ps_ret (pe_and (pe_callB call_isi (by rfl) T.m_isinstance (by decide +kernel) (pa_cons (pv 0) (pa_cons (pe_bltn (v := .ty "int") (by rfl) T.m_int (by decide +kernel) rfl) pa_nil))) (pe_and (pe_not (pe_callB call_isi (by rfl) T.m_isinstance (by decide +kernel) (pa_cons (pv 0) (pa_cons (pe_bltn (v := .ty "bool") (by rfl) T.m_bool (by decide +kernel) rfl) pa_nil)))) (pe_one (pe_chain op_le op_le (pv 1) (pv 0) (pv 2))))))), ?_⟩
    walk_at "u"
    refine isi r (by decide) ⟨_, rfl, ?_⟩
    cases r with
    | int i =>
      refine iteB (b := true) (by simp [isN, tyN]) (iteT (isi (G := G) (.int i) (by decide) ⟨_, rfl, iteB (b := true) (by simp [isN, tyN]) (iteT ⟨i, rfl, ?_⟩)⟩))
      have e : isNum lo hi (.int i) = (decide (lo ≤ i) && decide (i ≤ hi)) := rfl
      rw [e] at q
      cases c : decide (lo ≤ i) with
      | true =>
        rw [c] at q
        exact iteT ⟨i, rfl, q⟩
      | false =>
        rw [c] at q
        exact iteF q
    | bl b => exact iteB (b := true) (by simp [isN, tyN]) (iteT (isi (G := G) (.bl b) (by decide) ⟨_, rfl, iteB (b := false) (by simp [isN, tyN]) (iteF q)⟩))
    | non => exact iteB (b := false) (by simp [isN, tyN]) (iteF q)
    | str x => exact iteB (b := false) (by simp [isN, tyN]) (iteF q)
    | lst _ _ _ => exact iteB (b := false) (by simp [isN, tyN]) (iteF q)
    | tup _ _ _ => exact iteB (b := false) (by simp [isN, tyN]) (iteF q)
    | dic _ _ => exact iteB (b := false) (by simp [isN, tyN]) (iteF q)
/-! ### is_text -/
def okS (x : Str) : Prop := x.length ≤ 100000 ∧ ∀ c ∈ x.cps.toList, okC c
def okD : PyData → Prop
  | .str x => okS x
  | _ => True
def isText (al : Str) (most : Int) : PyData → Bool
  | .str x => decide ((x.length : Int) ≤ most) && (x.cps.toList.filter fun c => !decide (c ∈ al.cps.toList)).isEmpty
  | _ => false
def sp_is_text : Sp := fun vs H Q _ => ∃ (G : Addr → Prop) (v : V) (d : PyData) (al : Str) (most : Int), vs = [v, .str al, .int most] ∧ Rp G H v d ∧ okD d ∧ ∀ H', Same H H' → Q (.bl (isText al most d)) H'
theorem ok_is_text (T : Tx K mg) : FnOk P w K mg base CX0 1 T.f_is_text T.d_is_text ["thing", "alphabet", "most"] sp_is_text := by
  refine T.F_is_text.ok scis_text (fun vs H Q E h => ?_) (fun cdv A outer s H vs Q E hr h => ?_)
  · obtain ⟨G, v, d, lo, hi, rfl, _⟩ := h
    rfl
  · obtain ⟨G, v, d, al, most, rfl, r, hd, q⟩ := h
    refine ⟨_, (pss_one (ps_ret (pe_and (pe_callB call_isi (by rfl) T.m_isinstance (by decide +kernel) (pa_cons (pv 0) (pa_cons (pe_bltn (v := .ty "str") (by rfl) T.m_str (by decide +kernel) rfl) pa_nil))) (pe_and (pe_cmpR op_le (pe_callB call_len (by rfl) T.m_len (by decide +kernel) (pa_cons (pv 0) pa_nil)) (pv 2) (nomark _)) (pe_one (pe_cmpR (op_eqD hr.units) (pe_lc (own := [("sign", 3)]) (g := gName 3) (by rfl) scis_text.nd (pi_str (pv 0)) (blkOk_by (own := [("sign", 3)]) (N := Nis_text) (sc := defScope sis_text) (by decide +kernel)) (fun _ _ _ _ _ => (pg_name (i := 3) scis_text.nd rfl (Or.inl rfl))) (fun _ _ _ _ _ => (pts_one (pt_cmpR op_notIn_sign (pv 3) (pv 1) (by rfl)))) (fun _ _ _ _ _ => (pv 3))) (pe_lst pa_nil) (nomark _))))))), ?_⟩
    walk_at "u"
    refine isi r (by decide) ⟨_, rfl, ?_⟩
    cases r with
    | str x =>
      obtain ⟨h1, h2⟩ : okS x := hd
      have hz : x.length ≤ sizeLine := Nat.le_trans h1 (by decide)
      refine iteB (b := true) (by simp [isN, tyN]) (iteT ⟨x.length, ⟨hz, rfl⟩, ?_⟩)
      have e : isText al most (.str x) = (decide ((x.length : Int) ≤ most) && (x.cps.toList.filter fun c => !decide (c ∈ al.cps.toList)).isEmpty) := rfl
      rw [e] at q
      cases c : decide ((x.length : Int) ≤ most) with
      | false =>
        rw [c] at q
        exact iteF (q _ (L2.Same.refl _))
      | true =>
        rw [c] at q
        refine iteT (lc_sf (z := x) (f := fun c => !decide (c ∈ al.cps.toList)) (by simp) hz (fun R k => ⟨_, rfl, k⟩) (fun c H1 R _ _ k => ?_) fun D H1 hD s1 hl => ⟨Nat.zero_le _, fun p hp => ?_⟩)
        · exact ⟨_, rfl, _, rfl, c, rfl, _, rfl, _, rfl, k⟩
        · have nD : D ≠ p := ne_of_none hl hp
          refine eq_nil (cs := x.cps.toList.filter fun c => !decide (c ∈ al.cps.toList)) (by rw [upd_ne nD]; exact hl) upd_same (fun c hc => h2 c (List.mem_filter.mp hc).1) ?_
          exact q _ (Same.new s1 hp)
    | int i => exact iteB (b := false) (by simp [isN, tyN]) (iteF (q _ (L2.Same.refl _)))
    | bl b => exact iteB (b := false) (by simp [isN, tyN]) (iteF (q _ (L2.Same.refl _)))
    | non => exact iteB (b := false) (by simp [isN, tyN]) (iteF (q _ (L2.Same.refl _)))
    | lst _ _ _ => exact iteB (b := false) (by simp [isN, tyN]) (iteF (q _ (L2.Same.refl _)))
    | tup _ _ _ => exact iteB (b := false) (by simp [isN, tyN]) (iteF (q _ (L2.Same.refl _)))
    | dic _ _ => exact iteB (b := false) (by simp [isN, tyN]) (iteF (q _ (L2.Same.refl _)))
end
end K76
set_option Elab.async false
set_option linter.all false
set_option maxRecDepth 100000
set_option maxHeartbeats 4000000
namespace K76
open PySem PySem.Spec PyProof.Rows L2 TbA TbD TbL TL RZ
local macro_rules | `(tactic| walk_at "u") => `(tactic| simp only [tRet, tRetN, tSeq, tNext, tIfS, tAsg, tDrop, tAndV, tOrV, tNotV, tAnd, tOr, tNot, tB, tTest, tIf, tCB, tCons, tNil, tC, tVar, tOp, tUn, tChain, tCall, tM1, tTup, tLst, tSl, tPart, tNoPart, gName, gSub, gCons, gNil, gTup, tBreak, tCont, tNever,
  rI0, rI, rEq, rNe, cxOf, Cx.nox, Cx.wish, L2.start, List.map_cons, List.map_nil, List.length_cons, List.length_nil, List.cons_append, List.nil_append, List.replicate, List.getElem?_cons_zero, List.getElem?_cons_succ, Option.some.injEq, List.cons.injEq, and_true, true_and, V.int.injEq, V.bl.injEq, V.str.injEq, V.ref.injEq,
  exists_eq_left', exists_and_left, exists_eq_left, Nat.reduceSub, Nat.reduceAdd, List.set_cons_zero, List.set_cons_succ])
local macro_rules | `(tactic| walk_at "e") => `(tactic| simp only [tAndV, tOrV, tNotV, tAnd, tOr, tNot, tB, tTest, tIf, tCB, tCons, tNil, tC, tVar, tOp, tUn, tChain, tCall, tM1, tTup, tLst, tSl, tPart, tNoPart, gName, gSub, gCons, gNil, gTup, 
  rI0, rI, rEq, rNe, cxOf, Cx.nox, Cx.wish, L2.start, List.map_cons, List.map_nil, List.length_cons, List.length_nil, List.cons_append, List.nil_append, List.replicate, List.getElem?_cons_zero, List.getElem?_cons_succ, Option.some.injEq, List.cons.injEq, and_true, true_and, V.int.injEq, V.bl.injEq, V.str.injEq, V.ref.injEq,
  exists_eq_left', exists_and_left, exists_eq_left, Nat.reduceSub, Nat.reduceAdd, List.set_cons_zero, List.set_cons_succ])

section
variable {P : Program} {w : World} {K : PySem.W.Frag} {mg : Str → Option Value} {base : Heap}
/-! ### the errors' __init__ -/
def sp_init (C : Addr) (f : Str) : Sp := fun vs H Q _ => ∃ (a : Addr) (v : V), vs = [.ref a, v] ∧ H a = some (exo a C none) ∧
  ∀ dx, H dx = none → dx ≠ a → Q .non (upd (upd H dx (exd dx [(f, v)])) a (exo a C (some dx)))
theorem ok_BadInput_init {T : Tx K mg} : FnOk P w K mg base CX0 1 T.fi_BadInput T.di_BadInput ["self", "thing"] (sp_init T.C_BadInput "thing") := by
  refine T.Fi_BadInput.ok scBadInput_init (fun vs H Q E h => ?_) (fun cdv A outer s H vs Q E hr h => ?_)
  · obtain ⟨a, v, rfl, _⟩ := h
    rfl
  · obtain ⟨a, v, rfl, ha, q⟩ := h
    refine ⟨_, (pss_one (ps_ost (pv 0) (pv 1))), ?_⟩
    exact ⟨v, rfl, _, rfl, a, _, rfl, T.o_BadInput, T.no_BadInput_thing, .inl ⟨ha, fun dx h1 h2 => q dx h1 h2⟩⟩
theorem ok_BadScript_init {T : Tx K mg} : FnOk P w K mg base CX0 1 T.fi_BadScript T.di_BadScript ["self", "index"] (sp_init T.C_BadScript "index") := by
  refine T.Fi_BadScript.ok scBadScript_init (fun vs H Q E h => ?_) (fun cdv A outer s H vs Q E hr h => ?_)
  · obtain ⟨a, v, rfl, _⟩ := h
    rfl
  · obtain ⟨a, v, rfl, ha, q⟩ := h
    refine ⟨_, (pss_one (ps_ost (pv 0) (pv 1))), ?_⟩
    exact ⟨v, rfl, _, rfl, a, _, rfl, T.o_BadScript, T.no_BadScript_index, .inl ⟨ha, fun dx h1 h2 => q dx h1 h2⟩⟩
/-- what making such an error comes to -/
theorem made {C : Addr} {f : Str} {v : V} {H : Hp} {Q : XK} (h : ∀ d, H d = none → Q (.ref C) (some d) (upd H d (.xd [(f, v)]))) :
    ([v] : List V).length ≤ 1000 ∧ ∀ a, H a = none → sp_init C f (.ref a :: ([v] ++ [])) (upd H a (exo a C none))
      (fun u H2 => u = .non ∧ ∃ (d : Addr) (fs : List (Str × V)), H2 a = some (exo a C (some d)) ∧ H2 d = some (exd d fs) ∧ H d = none ∧ Q (.ref C) (some d) (upd (del H2 a) d (.xd fs))) (fun _ _ _ => False) := by
  refine ⟨by simp, fun a ha => ⟨a, v, rfl, upd_same, fun dx h1 h2 => ⟨rfl, dx, [(f, v)], upd_same, ?_, ?_, ?_⟩⟩⟩
  · rw [upd_ne h2, upd_same]
  · rw [upd_ne h2] at h1
    exact h1
  · rw [upd_ne h2] at h1
    have e : upd (del (upd (upd (upd H a (exo a C none)) dx (exd dx [(f, v)])) a (exo a C (some dx))) a) dx (.xd [(f, v)]) = upd H dx (.xd [(f, v)]) := by
      funext b
      by_cases hb : b = dx
      · subst hb
        rw [upd_same, upd_same]
      · rw [upd_ne hb, upd_ne hb]
        by_cases hba : b = a
        · subst hba
          rw [del_same, ha]
        · rw [del_ne hba, upd_ne hba, upd_ne hb, upd_ne hba]
    rw [e]
    exact h dx h1
theorem mkO {C : Addr} {f : Str} {v : V} {σ : L2.St} {i : Nat} {H : Hp} {Q : XK} (hi : σ[i]? = some (some v)) (h : ∀ d, H d = none → Q (.ref C) (some d) (upd H d (.xd [(f, v)]))) :
    tMkO C (sp_init C f) [] (tCons (tVar i) tNil) σ H Q := ⟨v, hi, made h⟩
theorem mkI {C : Addr} {f : Str} {v : V} {σ : L2.St} {H : Hp} {Q : XK} (h : ∀ d, H d = none → Q (.ref C) (some d) (upd H d (.xd [(f, v)]))) :
    tMkO C (sp_init C f) [] (tCons (tC v) tNil) σ H Q := made h
/-! ### need_written, is_sign -/
def SG : Str := "abcdefghijklmnopqrstuvwxyz0123456789<>()[],;:=+-./ "
def sp_need (C : Addr) : Sp := fun vs H Q E => ∃ (G : Addr → Prop) (v : V) (d : PyData), vs = [v] ∧ Rp G H v d ∧ okD d ∧
  (isText SG 200 d = true → ∀ H', Same H H' → Q v H') ∧ (isText SG 200 d = false → ∀ H' dd, Same H H' → H' dd = some (.xd [("thing", v)]) → E (.ref C) (some dd) H')
theorem ok_need_written (T : Tx K mg) : FnOk P w K mg base (L2.CX P w) 4 T.f_need_written T.d_need_written ["text"] (sp_need T.C_BadInput) := by
  have G_is_text : FnOk P w K mg base CX0 1 T.f_is_text T.d_is_text ["thing", "alphabet", "most"] sp_is_text := ok_is_text T
  refine T.F_need_written.okX scneed_written (fun vs H Q E h => ?_) (fun cdv A outer s H vs Q E hr h => ?_)
  · obtain ⟨G, v, d, rfl, _⟩ := h
    rfl
  · obtain ⟨G, v, d, rfl, r, hd, q1, q2⟩ := h
    refine ⟨_, (pss_cons (ps_if (pt_not (pt_val (pe_call G_is_text (hr.mono (by decide)) (by rfl) T.g_is_text T.F_is_text.kp T.b_is_text .nil pass0 (pa_cons (pv 0) (pa_cons (pe_glob (v := V.str "abcdefghijklmnopqrstuvwxyz0123456789<>()[],;:=+-./ ") rfl T.v_SIGNS ⟨_, rfl⟩) (pa_cons (pe_glob (v := V.int 200) rfl T.v_LONGEST ⟨_, rfl⟩) pa_nil))))))
  (pss_one (ps_raise rfl (takes_of rfl rfl rfl rfl) (pmk_oex T.o_BadInput T.iC_BadInput T.tI_BadInput (ok_BadInput_init (T := T)) (hr.mono (by decide)) T.bi_BadInput .nil pass0 rfl T.g_BadInput (pa_cons (pv 0) pa_nil)))) pss_nil)
  (pss_one (ps_ret (pv 0)))), ?_⟩
    walk_at "u"
    refine ⟨G, v, d, SG, 200, rfl, r, hd, fun H1 s1 => ⟨_, rfl, ?_⟩⟩
    cases c : isText SG 200 d with
    | true => exact iteF (q1 c _ s1)
    | false => exact iteT (mkO rfl fun dd hn => q2 c _ dd (Same.new s1 hn) upd_same)
def isSign : PyData → Bool
  | .str x => isText SG 1 (.str x) && !decide (x = "")
  | _ => false
def sp_is_sign : Sp := fun vs H Q _ => ∃ (G : Addr → Prop) (v : V) (d : PyData), vs = [v] ∧ Rp G H v d ∧ okD d ∧ ∀ H', Same H H' → Q (.bl (isSign d)) H'
theorem ok_is_sign (T : Tx K mg) : FnOk P w K mg base CX0 2 T.f_is_sign T.d_is_sign ["thing"] sp_is_sign := by
  have G_is_text : FnOk P w K mg base CX0 1 T.f_is_text T.d_is_text ["thing", "alphabet", "most"] sp_is_text := ok_is_text T
  refine T.F_is_sign.ok scis_sign (fun vs H Q E h => ?_) (fun cdv A outer s H vs Q E hr h => ?_)
  · obtain ⟨G, v, d, rfl, _⟩ := h
    rfl
  · obtain ⟨G, v, d, rfl, r, hd, q⟩ := h
    refine ⟨_, (pss_one (ps_ret (pe_and (pe_call G_is_text (hr.mono (by decide)) (by rfl) T.g_is_text T.F_is_text.kp T.b_is_text .nil pass0 (pa_cons (pv 0) (pa_cons (pe_glob (v := V.str "abcdefghijklmnopqrstuvwxyz0123456789<>()[],;:=+-./ ") rfl T.v_SIGNS ⟨_, rfl⟩) (pa_cons pe_int pa_nil)))) (pe_one (pe_cmpR op_ne (pv 0) pe_str (nomark _)))))), ?_⟩
    walk_at "u"
    refine ⟨G, v, d, SG, 1, rfl, r, hd, fun H1 s1 => ⟨_, rfl, ?_⟩⟩
    have q' := q _ s1
    cases r with
    | str x =>
      have e : isSign (.str x) = (isText SG 1 (.str x) && !decide (x = "")) := rfl
      rw [e] at q'
      cases c : isText SG 1 (.str x) with
      | true =>
        rw [c] at q'
        refine iteT ⟨rfl, ?_⟩
        have e2 : decide (V.str x = V.str "") = decide (x = "") := by simp
        rw [e2]
        exact q'
      | false =>
        rw [c] at q'
        exact iteF q'
    | int i => exact iteF q'
    | bl b => exact iteF q'
    | non => exact iteF q'
    | lst _ _ _ => exact iteF q'
    | tup _ _ _ => exact iteF q'
    | dic _ _ => exact iteF q'
/-! ### edit_in -/
inductive Ed where
  | out (i : Nat)
  | ins (i c : Nat)
  | sub (i c : Nat)
  deriving DecidableEq
def edV : Ed → List V
  | .out i => [.str "out", .int (i : Nat)]
  | .ins i c => [.str "in", .int (i : Nat), .str ⟨#[c]⟩]
  | .sub i c => [.str "for", .int (i : Nat), .str ⟨#[c]⟩]
def row? : PyData → Option (List PyData)
  | .list ds => some ds
  | .tuple ds => some ds
  | _ => none
theorem row_cases {G : Addr → Prop} {H : Hp} {v : V} {d : PyData} (r : Rp G H v d) : (row? d = none ∧ isRow d = false) ∨
    ∃ p xs ds, v = .ref p ∧ RowAt H p xs ∧ RpAll G H xs ds ∧ row? d = some ds ∧ isRow d = true := by
  cases r with
  | non => exact .inl ⟨rfl, by simp [isRow, isN, tyN]⟩
  | bl b => exact .inl ⟨rfl, by simp [isRow, isN, tyN]⟩
  | int i => exact .inl ⟨rfl, by simp [isRow, isN, tyN]⟩
  | str x => exact .inl ⟨rfl, by simp [isRow, isN, tyN]⟩
  | lst g h ra => exact .inr ⟨_, _, _, rfl, .inl h, ra, rfl, by simp [isRow, isN, tyN]⟩
  | tup g h ra => exact .inr ⟨_, _, _, rfl, .inr h, ra, rfl, by simp [isRow, isN, tyN]⟩
  | dic g h => exact .inl ⟨rfl, by simp [isRow, isN, tyN]⟩
def cd : PyData → Nat
  | .str y => y.cps.toList.headD 0
  | _ => 0
def ix : PyData → Nat
  | .int i => i.toNat
  | _ => 0
def isW (w : String) : PyData → Bool
  | .str x => decide (x = (w : Str))
  | _ => false
def bOut (t : Str) : List PyData → Bool
  | [w, x] => isW "out" w && isNum 0 ((t.length : Int) - 1) x
  | _ => false
def bIns (t : Str) : List PyData → Bool
  | [w, x, y] => isW "in" w && (isNum 0 t.length x && isSign y)
  | _ => false
def bSub (t : Str) : List PyData → Bool
  | [w, x, y] => isW "for" w && (isNum 0 ((t.length : Int) - 1) x && isSign y)
  | _ => false
def edOf (t : Str) (ds : List PyData) : Option Ed :=
  if bOut t ds then some (.out (ix (ds.getD 1 .none))) else
  if bIns t ds then some (.ins (ix (ds.getD 1 .none)) (cd (ds.getD 2 .none))) else
  if bSub t ds then (if t.cps.toList[ix (ds.getD 1 .none)]? = some (cd (ds.getD 2 .none)) then none else some (.sub (ix (ds.getD 1 .none)) (cd (ds.getD 2 .none)))) else none
def edIn (t : Str) (d : PyData) : Option Ed := (row? d).bind (edOf t)
theorem isNum_int {lo hi : Int} {d : PyData} (h : isNum lo hi d = true) : ∃ i, d = .int i ∧ lo ≤ i ∧ i ≤ hi := by
  cases d with
  | int i =>
    have h' : (decide (lo ≤ i) && decide (i ≤ hi)) = true := h
    simp at h'
    exact ⟨i, rfl, h'⟩
  | _ => cases h
theorem isSign_one {d : PyData} (h : isSign d = true) : ∃ c, d = .str ⟨#[c]⟩ ∧ c ∈ SG.cps.toList := by
  cases d with
  | str x =>
    have h' : (isText SG 1 (.str x) && !decide (x = "")) = true := h
    have h1 : isText SG 1 (.str x) = true := (Bool.and_eq_true_iff.mp h').1
    have h2 : x ≠ "" := by
      have := (Bool.and_eq_true_iff.mp h').2
      simpa using this
    have h3 : (decide ((x.length : Int) ≤ 1) && (x.cps.toList.filter fun c => !decide (c ∈ SG.cps.toList)).isEmpty) = true := h1
    obtain ⟨a, b⟩ := Bool.and_eq_true_iff.mp h3
    obtain ⟨⟨l⟩⟩ := x
    match l, a, b, h2 with
    | [], _, _, h2 => exact absurd (by decide +kernel) h2
    | [c], _, b, _ =>
      refine ⟨c, rfl, ?_⟩
      simpa using b
    | c :: c' :: r, a, _, _ =>
      have q : ((Str.length ⟨⟨c :: c' :: r⟩⟩ : Nat) : Int) ≤ 1 := of_decide_eq_true a
      have q2 : Str.length ⟨⟨c :: c' :: r⟩⟩ = r.length + 2 := rfl
      rw [q2] at q
      omega
  | _ => cases h
theorem isW_str {w : String} {d : PyData} (h : isW w d = true) : d = .str (w : Str) := by
  cases d with
  | str x => exact congrArg PyData.str (of_decide_eq_true h)
  | _ => cases h
def bad0 : List PyData → Bool
  | [] => true
  | x :: _ => !isA x "str"
theorem edOf_bad {t : Str} {ds : List PyData} (h : bad0 ds = true) : edOf t ds = none := by
  have no : ∀ (w : String) (x : PyData), isA x "str" = false → isW w x = false := fun w x e => by
    cases x with
    | str y => simp [isN, tyN] at e
    | _ => rfl
  match ds, h with
  | [], _ => rfl
  | [_], _ => rfl
  | [x, _], h =>
    have e : isA x "str" = false := by simpa [bad0] using h
    simp [edOf, bOut, bIns, bSub, no _ x e]
  | [x, _, _], h =>
    have e : isA x "str" = false := by simpa [bad0] using h
    simp [edOf, bOut, bIns, bSub, no _ x e]
  | _ :: _ :: _ :: _ :: _, _ => rfl
theorem decS {x y : Str} : decide (V.str x = V.str y) = decide (x = y) := by simp
def sp_edit_in : Sp := fun vs H Q _ => ∃ (G : Addr → Prop) (v : V) (d : PyData) (t : Str), vs = [.str t, v] ∧ Rp G H v d ∧ okS t ∧ (∀ ds, row? d = some ds → ∀ x ∈ ds, okD x) ∧
  (∀ H', Same H H' → edIn t d = none → Q .non H') ∧ (∀ H' p e, Same H H' → edIn t d = some e → H' p = some (.tup (edV e)) → Q (.ref p) H')
theorem ok_edit_in (T : Tx K mg) : FnOk P w K mg base CX0 3 T.f_edit_in T.d_edit_in ["text", "thing"] sp_edit_in := by
  have G_is_row : FnOk P w K mg base CX0 1 T.f_is_row T.d_is_row ["thing"] sp_is_row := ok_is_row T
  have G_is_number : FnOk P w K mg base CX0 1 T.f_is_number T.d_is_number ["thing", "low", "high"] sp_is_number := ok_is_number T
  have G_is_sign : FnOk P w K mg base CX0 2 T.f_is_sign T.d_is_sign ["thing"] sp_is_sign := ok_is_sign T
  refine T.F_edit_in.ok scedit_in (fun vs H Q E h => ?_) (fun cdv A outer s H vs Q E hr h => ?_)
  · obtain ⟨G, v, d, t, rfl, _⟩ := h
    rfl
  · obtain ⟨G, v, d, t, rfl, r, ht, hk, qn, qe⟩ := h
    refine ⟨_, (pss_cons (ps_if (PW.pt (pw_or (pt_not (pt_val (pe_call G_is_row (hr.mono (by decide)) (by rfl) T.g_is_row T.F_is_row.kp T.b_is_row .nil pass0 (pa_cons (pv 1) pa_nil)))) (pw_or (pt_not (pt_truth (pv 1) (by intro _; rfl))) (pw_or1 (pt_not (pt_val (pe_callB call_isi (by rfl) T.m_isinstance (by decide +kernel) (pa_cons (pe_ix ix_seq (pv 1) pe_int (fun _ _ => rfl)) (pa_cons (pe_bltn (v := .ty "str") (by rfl) T.m_str (by decide +kernel) rfl) pa_nil)))))))))
  (pss_one (ps_ret pe_non)) pss_nil)
  (pss_cons (ps_if (PW.pt (pw_and (pt_cmpR op_eq (pe_ix ix_seq (pv 1) pe_int (fun _ _ => rfl)) pe_str (nomark _)) (pw_and (pt_cmpR op_eq (pe_callB call_len (by rfl) T.m_len (by decide +kernel) (pa_cons (pv 1) pa_nil)) pe_int (nomark _)) (pw_and1 (pt_val (pe_call G_is_number (hr.mono (by decide)) (by rfl) T.g_is_number T.F_is_number.kp T.b_is_number .nil pass0 (pa_cons (pe_ix ix_seq (pv 1) pe_int (fun _ _ => rfl)) (pa_cons pe_int (pa_cons (pe_op op_sub (pe_callB call_len (by rfl) T.m_len (by decide +kernel) (pa_cons (pv 0) pa_nil)) pe_int) pa_nil)))))))))
  (pss_one (ps_ret (pe_callTy call_tuple_of (by rfl) T.m_tuple (by decide +kernel) (pa_cons (pv 1) pa_nil)))) pss_nil)
  (pss_cons (ps_if (PW.pt (pw_and (pt_cmpR op_eq (pe_ix ix_seq (pv 1) pe_int (fun _ _ => rfl)) pe_str (nomark _)) (pw_and (pt_cmpR op_eq (pe_callB call_len (by rfl) T.m_len (by decide +kernel) (pa_cons (pv 1) pa_nil)) pe_int (nomark _)) (pw_and (pt_val (pe_call G_is_number (hr.mono (by decide)) (by rfl) T.g_is_number T.F_is_number.kp T.b_is_number .nil pass0 (pa_cons (pe_ix ix_seq (pv 1) pe_int (fun _ _ => rfl)) (pa_cons pe_int (pa_cons (pe_callB call_len (by rfl) T.m_len (by decide +kernel) (pa_cons (pv 0) pa_nil)) pa_nil))))) (pw_and1 (pt_val (pe_call G_is_sign (hr.mono (by decide)) (by rfl) T.g_is_sign T.F_is_sign.kp T.b_is_sign .nil pass0 (pa_cons (pe_ix ix_seq (pv 1) pe_int (fun _ _ => rfl)) pa_nil))))))))
  (pss_one (ps_ret (pe_callTy call_tuple_of (by rfl) T.m_tuple (by decide +kernel) (pa_cons (pv 1) pa_nil)))) pss_nil)
  (pss_cons (ps_if (PW.pt (pw_and (pt_cmpR op_eq (pe_ix ix_seq (pv 1) pe_int (fun _ _ => rfl)) pe_str (nomark _)) (pw_and (pt_cmpR op_eq (pe_callB call_len (by rfl) T.m_len (by decide +kernel) (pa_cons (pv 1) pa_nil)) pe_int (nomark _)) (pw_and (pt_val (pe_call G_is_number (hr.mono (by decide)) (by rfl) T.g_is_number T.F_is_number.kp T.b_is_number .nil pass0 (pa_cons (pe_ix ix_seq (pv 1) pe_int (fun _ _ => rfl)) (pa_cons pe_int (pa_cons (pe_op op_sub (pe_callB call_len (by rfl) T.m_len (by decide +kernel) (pa_cons (pv 0) pa_nil)) pe_int) pa_nil))))) (pw_and1 (pt_val (pe_call G_is_sign (hr.mono (by decide)) (by rfl) T.g_is_sign T.F_is_sign.kp T.b_is_sign .nil pass0 (pa_cons (pe_ix ix_seq (pv 1) pe_int (fun _ _ => rfl)) pa_nil))))))))
  (pss_one (ps_ret (pe_ifExp (pt_cmpR op_eq (pe_ix ix_str (pv 0) (pe_ix ix_seq (pv 1) pe_int (fun _ _ => rfl)) (fun _ _ => rfl)) (pe_ix ix_seq (pv 1) pe_int (fun _ _ => rfl)) (nomark _)) pe_non (pe_callTy call_tuple_of (by rfl) T.m_tuple (by decide +kernel) (pa_cons (pv 1) pa_nil))))) pss_nil)
  (pss_one (ps_ret pe_non)))))), ?_⟩
    have hz : t.length ≤ sizeLine := Nat.le_trans ht.1 (by decide)
    rcases row_cases r with ⟨e1, e2⟩ | ⟨p, xs, ds, rfl, ha, ra, e1, e2⟩
    · refine seqIf1 true (fun R k => ?_) fun H1 s1 => ⟨fun _ => ?_, fun e => by cases e⟩
      · walk_at "u"
        refine ⟨G, v, d, rfl, r, fun H1 s1 => ⟨_, rfl, ?_⟩⟩
        rw [e2]
        exact iteT (k _ s1)
      · exact qn _ s1 (by unfold edIn; rw [e1]; rfl)
    · have ed : edIn t d = edOf t ds := by
        unfold edIn
        rw [e1]
        rfl
      refine seqIf1 (bad0 ds) (fun R k => ?_) fun H1 s1 => ⟨fun hb => ?_, fun hb => ?_⟩
      · walk_at "u"
        refine ⟨G, _, d, rfl, r, fun H1 s1 => ⟨_, rfl, ?_⟩⟩
        rw [e2]
        have ha1 := ha.mono s1
        refine iteF ⟨_, tru_row ha1, ?_⟩
        cases ra with
        | nil => exact iteT (k _ s1)
        | cons rx rr =>
          refine iteF (ix_row (j := 0) ha1 rfl (isi (rx.mono (Kp.of s1)) (by decide) ⟨_, rfl, ?_⟩))
          exact k _ s1
      · exact qn _ s1 (ed.trans (edOf_bad hb))
      · cases ra with
        | nil => cases hb
        | @cons x0 xr d0 dr rx rr =>
          have hs : isA d0 "str" = true := by simpa [bad0] using hb
          obtain ⟨w0, rfl⟩ : ∃ w0, d0 = .str w0 := by
            cases d0 with
            | str y => exact ⟨y, rfl⟩
            | _ => simp [isN, tyN] at hs
          cases rx
          have ha1 := ha.mono s1
          have rr1 := rr.mono (Kp.of s1)
          have val : ∀ (j : Nat) (v : V) (dd : PyData) (R : VK) (H2 : Hp), Same H1 H2 → (V.str w0 :: xr)[j]? = some v → (PyData.str w0 :: dr)[j]? = some dd → True := fun _ _ _ _ _ _ _ _ => trivial
          -- a word, a length, a number, a sign
          refine seqIf1 (bOut t (.str w0 :: dr)) (fun R k => ?_) fun H2 s2 => ⟨fun hb1 => ?_, fun hb1 => ?_⟩
          · have k' : ∀ b H', Same H1 H' → bOut t (.str w0 :: dr) = b → R b H' := fun b H' s e => e ▸ k H' s
            walk_at "u"
            refine ix_row (j := 0) ha1 rfl ⟨rfl, ?_⟩
            rw [decS]
            cases c : decide (w0 = ("out" : Str)) with
            | false =>
              refine iteF (k' false _ (L2.Same.refl _) ?_)
              match dr with
              | [] => rfl
              | [_] => simp [bOut, isW, c]
              | _ :: _ :: _ => rfl
            | true =>
              refine iteT ⟨_, len_row ha1, rfl, ?_⟩
              cases rr1 with
              | nil => exact iteB (b := false) (by simp) (iteF (k' _ _ (L2.Same.refl _) rfl))
              | @cons v1 xr2 d1 dr2 r1 rr2 =>
                cases rr2 with
                | cons _ _ => exact iteB (b := false) (by simp; omega) (iteF (k' _ _ (L2.Same.refl _) rfl))
                | nil =>
                  refine iteB (b := true) (by simp) (iteT (ix_row (j := 1) ha1 rfl ⟨t.length, ⟨hz, rfl⟩, G, v1, d1, 0, _, rfl, r1, _, rfl, k' _ _ (L2.Same.refl _) ?_⟩))
                  simp [bOut, isW, c]
          · have e3 : edIn t d = some (.out (ix ((PyData.str w0 :: dr).getD 1 .none))) := by
              rw [ed]
              unfold edOf
              rw [if_pos hb1]
            obtain ⟨i, e4, e5, e6⟩ : ∃ i, dr = [.int i] ∧ w0 = ("out" : Str) ∧ 0 ≤ i := by
              match dr, hb1 with
              | [x], hb1 =>
                obtain ⟨h1, h2⟩ := Bool.and_eq_true_iff.mp (show (isW "out" (.str w0) && isNum 0 ((t.length : Int) - 1) x) = true from hb1)
                obtain ⟨i, rfl, h3, _⟩ := isNum_int h2
                exact ⟨i, rfl, PyData.str.inj (isW_str h1), h3⟩
            subst e4 e5
            obtain ⟨rfl⟩ : xr = [V.int i] := by
              cases rr with
              | cons r1 rn =>
                cases r1
                cases rn
                rfl
            walk_at "u"
            refine tup_row (ha1.mono s2) fun H3 q s3 hq => qe H3 q _ (s1.trans (s2.trans s3)) e3 ?_
            rw [hq]
            show _ = some (HO.tup [V.str "out", V.int ((i.toNat : Nat) : Int)])
            rw [Int.toNat_of_nonneg e6]
          · refine seqIf1 (bIns t (.str w0 :: dr)) (fun R k => ?_) fun H3 s3 => ⟨fun hb2 => ?_, fun hb2 => ?_⟩
            · have k' : ∀ b H', Same H2 H' → bIns t (.str w0 :: dr) = b → R b H' := fun b H' s e => e ▸ k H' s
              have ha2 := ha1.mono s2
              have rr2 := rr1.mono (Kp.of s2)
              walk_at "u"
              refine ix_row (j := 0) ha2 rfl ⟨rfl, ?_⟩
              rw [decS]
              cases c : decide (w0 = ("in" : Str)) with
              | false =>
                refine iteF (k' false _ (L2.Same.refl _) ?_)
                match dr with
                | [] => rfl
                | [_] => rfl
                | [_, _] => simp [bIns, isW, c]
                | _ :: _ :: _ :: _ => rfl
              | true =>
                refine iteT ⟨_, len_row ha2, rfl, ?_⟩
                cases rr2 with
                | nil => exact iteB (b := false) (by simp) (iteF (k' _ _ (L2.Same.refl _) rfl))
                | @cons v1 xr2 d1 dr2 r1 rr2 =>
                  cases rr2 with
                  | nil => exact iteB (b := false) (by simp) (iteF (k' _ _ (L2.Same.refl _) rfl))
                  | @cons v2 xr3 d2 dr3 r2 rr3 =>
                    cases rr3 with
                    | cons _ _ => exact iteB (b := false) (by simp; omega) (iteF (k' _ _ (L2.Same.refl _) rfl))
                    | nil =>
                      refine iteB (b := true) (by simp) (iteT (ix_row (j := 1) ha2 rfl ⟨t.length, ⟨hz, rfl⟩, G, v1, d1, 0, _, rfl, r1, _, rfl, ?_⟩))
                      have e7 : bIns t [.str w0, d1, d2] = (isNum 0 t.length d1 && isSign d2) := by simp [bIns, isW, c]
                      cases c2 : isNum 0 t.length d1 with
                      | false => exact iteF (k' _ _ (L2.Same.refl _) (by rw [e7, c2]; rfl))
                      | true =>
                        refine iteT (ix_row (j := 2) ha2 rfl ⟨G, v2, d2, rfl, r2, hk _ e1 _ (by simp), fun H4 s4 => ⟨_, rfl, k' _ _ s4 ?_⟩⟩)
                        rw [e7, c2]
                        rfl
            · have e3 : edIn t d = some (.ins (ix ((PyData.str w0 :: dr).getD 1 .none)) (cd ((PyData.str w0 :: dr).getD 2 .none))) := by
                rw [ed]
                unfold edOf
                rw [if_neg (by rw [hb1]; simp), if_pos hb2]
              obtain ⟨i, c, e4, e5, e6⟩ : ∃ i c, dr = [.int i, .str ⟨#[c]⟩] ∧ w0 = ("in" : Str) ∧ 0 ≤ i := by
                match dr, hb2 with
                | [x, y], hb2 =>
                  obtain ⟨h1, h2⟩ := Bool.and_eq_true_iff.mp (show (isW "in" (.str w0) && (isNum 0 t.length x && isSign y)) = true from hb2)
                  obtain ⟨h3, h4⟩ := Bool.and_eq_true_iff.mp h2
                  obtain ⟨i, rfl, h5, _⟩ := isNum_int h3
                  obtain ⟨c, rfl, _⟩ := isSign_one h4
                  exact ⟨i, c, rfl, PyData.str.inj (isW_str h1), h5⟩
              subst e4 e5
              obtain ⟨rfl⟩ : xr = [V.int i, V.str ⟨#[c]⟩] := by
                cases rr with
                | cons r1 rn =>
                  cases r1
                  cases rn with
                  | cons r2 rn =>
                    cases r2
                    cases rn
                    rfl
              walk_at "u"
              refine tup_row (ha1.mono (s2.trans s3)) fun H4 q s4 hq => qe H4 q _ (s1.trans (s2.trans (s3.trans s4))) e3 ?_
              rw [hq]
              show _ = some (HO.tup [V.str "in", V.int ((i.toNat : Nat) : Int), V.str ⟨#[c]⟩])
              rw [Int.toNat_of_nonneg e6]
            · refine seqIf1 (bSub t (.str w0 :: dr)) (fun R k => ?_) fun H4 s4 => ⟨fun hb3 => ?_, fun hb3 => ?_⟩
              · have k' : ∀ b H', Same H3 H' → bSub t (.str w0 :: dr) = b → R b H' := fun b H' s e => e ▸ k H' s
                have ha2 := ha1.mono (s2.trans s3)
                have rr2 := rr1.mono (Kp.of (s2.trans s3))
                walk_at "u"
                refine ix_row (j := 0) ha2 rfl ⟨rfl, ?_⟩
                rw [decS]
                cases c : decide (w0 = ("for" : Str)) with
                | false =>
                  refine iteF (k' false _ (L2.Same.refl _) ?_)
                  match dr with
                  | [] => rfl
                  | [_] => rfl
                  | [_, _] => simp [bSub, isW, c]
                  | _ :: _ :: _ :: _ => rfl
                | true =>
                  refine iteT ⟨_, len_row ha2, rfl, ?_⟩
                  cases rr2 with
                  | nil => exact iteB (b := false) (by simp) (iteF (k' _ _ (L2.Same.refl _) rfl))
                  | @cons v1 xr2 d1 dr2 r1 rr2 =>
                    cases rr2 with
                    | nil => exact iteB (b := false) (by simp) (iteF (k' _ _ (L2.Same.refl _) rfl))
                    | @cons v2 xr3 d2 dr3 r2 rr3 =>
                      cases rr3 with
                      | cons _ _ => exact iteB (b := false) (by simp; omega) (iteF (k' _ _ (L2.Same.refl _) rfl))
                      | nil =>
                        refine iteB (b := true) (by simp) (iteT (ix_row (j := 1) ha2 rfl ⟨t.length, ⟨hz, rfl⟩, G, v1, d1, 0, _, rfl, r1, _, rfl, ?_⟩))
                        have e7 : bSub t [.str w0, d1, d2] = (isNum 0 ((t.length : Int) - 1) d1 && isSign d2) := by simp [bSub, isW, c]
                        cases c2 : isNum 0 ((t.length : Int) - 1) d1 with
                        | false => exact iteF (k' _ _ (L2.Same.refl _) (by rw [e7, c2]; rfl))
                        | true =>
                          refine iteT (ix_row (j := 2) ha2 rfl ⟨G, v2, d2, rfl, r2, hk _ e1 _ (by simp), fun H4 s4 => ⟨_, rfl, k' _ _ s4 ?_⟩⟩)
                          rw [e7, c2]
                          rfl
              · obtain ⟨i, c, e4, e5, e6, e7⟩ : ∃ i c, dr = [.int i, .str ⟨#[c]⟩] ∧ w0 = ("for" : Str) ∧ 0 ≤ i ∧ i ≤ (t.length : Int) - 1 := by
                  match dr, hb3 with
                  | [x, y], hb3 =>
                    obtain ⟨h1, h2⟩ := Bool.and_eq_true_iff.mp (show (isW "for" (.str w0) && (isNum 0 ((t.length : Int) - 1) x && isSign y)) = true from hb3)
                    obtain ⟨h3, h4⟩ := Bool.and_eq_true_iff.mp h2
                    obtain ⟨i, rfl, h5, h6⟩ := isNum_int h3
                    obtain ⟨c, rfl, _⟩ := isSign_one h4
                    exact ⟨i, c, rfl, PyData.str.inj (isW_str h1), h5, h6⟩
                subst e4 e5
                have e3 : edIn t d = if t.cps.toList[i.toNat]? = some c then none else some (.sub i.toNat c) := by
                  rw [ed]
                  unfold edOf
                  rw [if_neg (by rw [hb1]; simp), if_neg (by rw [hb2]; simp), if_pos hb3]
                  rfl
                obtain ⟨rfl⟩ : xr = [V.int i, V.str ⟨#[c]⟩] := by
                  cases rr with
                  | cons r1 rn =>
                    cases r1
                    cases rn with
                    | cons r2 rn =>
                      cases r2
                      cases rn
                      rfl
                have ha4 := ha1.mono (s2.trans (s3.trans s4))
                have s04 := s1.trans (s2.trans (s3.trans s4))
                have lt : i.toNat < t.cps.toList.length := by
                  have q : t.cps.toList.length = t.length := by simp [Str.length]
                  omega
                walk_at "u"
                refine ix_row (j := 1) ha4 rfl ⟨t, i, t.cps.toList[i.toNat], rfl, rfl, hz, ?_, ix_row (j := 2) ha4 rfl ⟨rfl, ?_⟩⟩
                · have q := atI_nat (xs := t.cps.toList) (j := i.toNat) (List.getElem?_eq_getElem lt)
                  rw [Int.toNat_of_nonneg e6] at q
                  exact q
                · rw [decS]
                  by_cases ec : t.cps.toList[i.toNat] = c
                  · refine iteB (b := true) (by rw [ec]; simp) (iteT (qn _ s04 ?_))
                    rw [e3, List.getElem?_eq_getElem lt, ec, if_pos rfl]
                  · refine iteB (b := false) (by simpa using ec) (iteF (tup_row ha4 fun H5 q s5 hq => qe H5 q (.sub i.toNat c) (s04.trans s5) ?_ ?_))
                    · rw [e3, List.getElem?_eq_getElem lt, if_neg (fun z => ec (Option.some.inj z))]
                    · rw [hq]
                      show _ = some (HO.tup [V.str "for", V.int ((i.toNat : Nat) : Int), V.str ⟨#[c]⟩])
                      rw [Int.toNat_of_nonneg e6]
              · walk_at "u"
                refine qn _ (s1.trans (s2.trans (s3.trans s4))) ?_
                rw [ed]
                unfold edOf
                rw [if_neg (by rw [hb1]; simp), if_neg (by rw [hb2]; simp), if_neg (by rw [hb3]; simp)]
end
end K76
set_option Elab.async false
set_option linter.all false
set_option maxRecDepth 100000
set_option maxHeartbeats 4000000
namespace K76
open PySem PySem.Spec PyProof.Rows L2 TbA TbD TbL TL RZ
local macro_rules | `(tactic| walk_at "u") => `(tactic| simp only [tRet, tRetN, tSeq, tNext, tIfS, tAsg, tDrop, tAndV, tOrV, tNotV, tAnd, tOr, tNot, tB, tTest, tIf, tCB, tCons, tNil, tC, tVar, tOp, tUn, tChain, tCall, tM1, tTup, tLst, tSl, tPart, tNoPart, gName, gSub, gCons, gNil, gTup, tBreak, tCont, tNever,
  rI0, rI, rEq, rNe, cxOf, Cx.nox, Cx.wish, L2.start, List.map_cons, List.map_nil, List.length_cons, List.length_nil, List.cons_append, List.nil_append, List.replicate, List.getElem?_cons_zero, List.getElem?_cons_succ, Option.some.injEq, List.cons.injEq, and_true, true_and, V.int.injEq, V.bl.injEq, V.str.injEq, V.ref.injEq,
  exists_eq_left', exists_and_left, exists_eq_left, Nat.reduceSub, Nat.reduceAdd, List.set_cons_zero, List.set_cons_succ])
local macro_rules | `(tactic| walk_at "e") => `(tactic| simp only [tAndV, tOrV, tNotV, tAnd, tOr, tNot, tB, tTest, tIf, tCB, tCons, tNil, tC, tVar, tOp, tUn, tChain, tCall, tM1, tTup, tLst, tSl, tPart, tNoPart, gName, gSub, gCons, gNil, gTup, 
  rI0, rI, rEq, rNe, cxOf, Cx.nox, Cx.wish, L2.start, List.map_cons, List.map_nil, List.length_cons, List.length_nil, List.cons_append, List.nil_append, List.replicate, List.getElem?_cons_zero, List.getElem?_cons_succ, Option.some.injEq, List.cons.injEq, and_true, true_and, V.int.injEq, V.bl.injEq, V.str.injEq, V.ref.injEq,
  exists_eq_left', exists_and_left, exists_eq_left, Nat.reduceSub, Nat.reduceAdd, List.set_cons_zero, List.set_cons_succ])

section
variable {P : Program} {w : World} {K : PySem.W.Frag} {mg : Str → Option Value} {base : Heap}
def Ed.at : Ed → Nat
  | .out i => i
  | .ins i _ => i
  | .sub i _ => i
def Ed.isIns : Ed → Bool
  | .ins _ _ => true
  | _ => false
def Ed.isOut : Ed → Bool
  | .out _ => true
  | _ => false
def Ed.word : Ed → Str
  | .out _ => "out"
  | .ins _ _ => "in"
  | .sub _ _ => "for"
/-- what is put in -/
def Ed.put : Ed → List Nat
  | .out _ => []
  | .ins _ c => [c]
  | .sub _ c => [c]
/-- the place behind -/
def Ed.next : Ed → Nat
  | .out i => i + 1
  | .ins i _ => i
  | .sub i _ => i + 1
theorem ed0 (e : Ed) : (edV e)[0]? = some (.str e.word) := by cases e <;> rfl
theorem ed1 (e : Ed) : (edV e)[1]? = some (.int (e.at : Nat)) := by cases e <;> rfl
theorem words : decide (("out" : Str) = ("in" : Str)) = false ∧ decide (("for" : Str) = ("in" : Str)) = false ∧ decide (("in" : Str) = ("out" : Str)) = false ∧ decide (("for" : Str) = ("out" : Str)) = false := by decide +kernel
theorem word_in (e : Ed) : decide (e.word = ("in" : Str)) = e.isIns := by
  cases e with
  | out _ => exact words.1
  | ins _ _ => exact decide_eq_true rfl
  | sub _ _ => exact words.2.1
theorem word_out (e : Ed) : decide (e.word = ("out" : Str)) = e.isOut := by
  cases e with
  | out _ => exact decide_eq_true rfl
  | ins _ _ => exact words.2.2.1
  | sub _ _ => exact words.2.2.2
def EdAt (H : Hp) (v : V) (e : Ed) : Prop := ∃ p, v = .ref p ∧ H p = some (.tup (edV e))
theorem EdAt.mono {H H' : Hp} {v : V} {e : Ed} (s : Same H H') : EdAt H v e → EdAt H' v e := fun ⟨p, h1, h2⟩ => ⟨p, h1, s _ _ h2⟩
def OptAt (H : Hp) (v : V) : Option Ed → Prop
  | none => v = .non
  | some e => EdAt H v e
theorem OptAt.mono {H H' : Hp} {v : V} (s : Same H H') : ∀ {o : Option Ed}, OptAt H v o → OptAt H' v o
  | none, h => h
  | some _, h => EdAt.mono s h
theorem ixE {K : PySem.W.Frag} {H : Hp} {p : Addr} {e : Ed} {j : Nat} {v : V} {Q : VK} (h : H p = some (.tup (edV e))) (hj : (edV e)[j]? = some v) (q : Q v H) : rIxT K (.ref p) (.int (j : Nat)) H Q :=
  ⟨p, _, j, v, rfl, rfl, SqT.of h, atI_nat hj, q⟩
def follows : Option Ed → Ed → Bool
  | none, _ => true
  | some l, e => decide (l.at < e.at) || (decide (e.at = l.at) && l.isIns)
def sp_may_follow : Sp := fun vs H Q _ => ∃ (v u : V) (o : Option Ed) (e : Ed), vs = [v, u] ∧ OptAt H v o ∧ EdAt H u e ∧ ∀ H', Same H H' → Q (.bl (follows o e)) H'
theorem ok_may_follow (T : Tx K mg) : FnOk P w K mg base CX0 1 T.f_may_follow T.d_may_follow ["last", "edit"] sp_may_follow := by
  refine T.F_may_follow.ok scmay_follow (fun vs H Q E h => ?_) (fun cdv A outer s H vs Q E hr h => ?_)
  · obtain ⟨v, u, o, e, rfl, _⟩ := h
    rfl
  · obtain ⟨v, u, o, e, rfl, ho, ⟨p, rfl, hp⟩, q⟩ := h
    refine ⟨_, (pss_cons (ps_if (PW.pt (pw_or (pt_cmpR op_isN (pv 0) pe_non (nomark _)) (pw_or1 (pt_cmpR op_gt (pe_ix ix_tup (pv 1) pe_int (fun _ _ => rfl)) (pe_ix ix_tup (pv 0) pe_int (fun _ _ => rfl)) (nomark _)))))
  (pss_one (ps_ret pe_bl)) pss_nil)
  (pss_one (ps_ret (pe_and (pe_cmpR op_eq (pe_ix ix_tup (pv 1) pe_int (fun _ _ => rfl)) (pe_ix ix_tup (pv 0) pe_int (fun _ _ => rfl)) (nomark _)) (pe_one (pe_cmpR op_eq (pe_ix ix_tup (pv 0) pe_int (fun _ _ => rfl)) pe_str (nomark _))))))), ?_⟩
    cases o with
    | none =>
      cases (show v = .non from ho)
      walk_at "u"
      exact iteB (b := true) (by simp) (iteT (q _ (L2.Same.refl _)))
    | some l =>
      obtain ⟨pl, rfl, hl⟩ := ho
      refine seqIf1 (decide (l.at < e.at)) (fun R k => ?_) fun H1 s1 => ⟨fun hb => ?_, fun hb => ?_⟩
      · walk_at "u"
        refine iteB (b := false) (by simp) (iteF (ixE hp (ed1 e) (ixE hl (ed1 l) ⟨_, rfl, _, rfl, ?_⟩)))
        have e1 : decide ((l.at : Int) < (e.at : Int)) = decide (l.at < e.at) := by simp
        rw [e1]
        exact k _ (L2.Same.refl _)
      · walk_at "u"
        have e2 : follows (some l) e = true := by simp only [follows, hb, Bool.true_or]
        rw [e2] at q
        exact q _ s1
      · walk_at "u"
        refine ixE (s1 _ _ hp) (ed1 e) (ixE (s1 _ _ hl) (ed1 l) ⟨rfl, ?_⟩)
        have e2 : follows (some l) e = (decide (e.at = l.at) && l.isIns) := by simp only [follows, hb, Bool.false_or]
        rw [e2] at q
        have e3 : decide (V.int (e.at : Int) = V.int (l.at : Int)) = decide (e.at = l.at) := by
          simp
          omega
        rw [e3]
        cases c : decide (e.at = l.at) with
        | true =>
          rw [c] at q
          refine iteT (ixE (s1 _ _ hl) (ed0 l) ⟨rfl, ?_⟩)
          rw [decS, word_in]
          exact q _ s1
        | false =>
          rw [c] at q
          exact iteF (q _ s1)
/-! ### edited -/
/-- what a script of things leads to: the first that may not stand there, or the text -/
def run (t : Str) : Option Ed → Nat → List Nat → List PyData → Nat → Sum Nat (List Nat)
  | _, at_, acc, [], _ => .inr (acc ++ (tl t).drop at_)
  | last, at_, acc, d :: ds, k => match edIn t d with
    | none => .inl k
    | some e => if follows last e then run t (some e) e.next (acc ++ ((tl t).drop at_).take (e.at - at_) ++ e.put) ds (k + 1) else .inl k
def okTh (d : PyData) : Prop := ∀ ds, row? d = some ds → ∀ x ∈ ds, okD x
def sp_edited (CI CS : Addr) : Sp := fun vs H Q E => ∃ (G : Addr → Prop) (v u : V) (dt ds : PyData), vs = [v, u] ∧ Rp G H v dt ∧ okD dt ∧ Rp G H u ds ∧ (∀ a, H a = none → G a) ∧
  (isText SG 200 dt = false → ∀ H' dd, Same H H' → H' dd = some (.xd [("thing", v)]) → E (.ref CI) (some dd) H') ∧
  (∀ t, dt = .str t → isText SG 200 dt = true → row? ds = none → ∀ H' dd, Same H H' → H' dd = some (.xd [("index", .int 0)]) → E (.ref CS) (some dd) H') ∧
  (∀ t l, dt = .str t → isText SG 200 dt = true → row? ds = some l → l.length ≤ 1000 ∧ (∀ x ∈ l, okTh x) ∧
    (∀ k, run t none 0 [] l 0 = .inl k → ∀ H' dd, Same H H' → H' dd = some (.xd [("index", .int (k : Nat))]) → E (.ref CS) (some dd) H') ∧
    (∀ z, run t none 0 [] l 0 = .inr z → ∀ H', Same H H' → Q (.str (S z)) H'))
theorem edIn_ok {t : Str} {d : PyData} {e : Ed} (h : edIn t d = some e) : e.at ≤ t.length ∧ e.next ≤ t.length := by
  unfold edIn at h
  cases hr : row? d with
  | none =>
    rw [hr] at h
    cases h
  | some ds =>
    rw [hr] at h
    have h' : edOf t ds = some e := h
    unfold edOf at h'
    have num : ∀ {hi : Int} {x : PyData}, isNum 0 hi x = true → (ix x : Int) ≤ hi := fun hx => by
      obtain ⟨i, rfl, h1, h2⟩ := isNum_int hx
      show ((i.toNat : Nat) : Int) ≤ _
      omega
    by_cases c1 : bOut t ds = true
    · rw [if_pos c1] at h'
      cases h'
      match ds, c1 with
      | [w, x], c1 =>
        have q := num (Bool.and_eq_true_iff.mp (show (isW "out" w && isNum 0 ((t.length : Int) - 1) x) = true from c1)).2
        have : (Ed.out (ix ([w, x].getD 1 .none))).at = ix x := rfl
        have : (Ed.out (ix ([w, x].getD 1 .none))).next = ix x + 1 := rfl
        omega
    · rw [if_neg c1] at h'
      by_cases c2 : bIns t ds = true
      · rw [if_pos c2] at h'
        cases h'
        match ds, c2 with
        | [w, x, y], c2 =>
          have q := num (Bool.and_eq_true_iff.mp (Bool.and_eq_true_iff.mp (show (isW "in" w && (isNum 0 t.length x && isSign y)) = true from c2)).2).1
          have : (Ed.ins (ix ([w, x, y].getD 1 .none)) (cd ([w, x, y].getD 2 .none))).at = ix x := rfl
          have : (Ed.ins (ix ([w, x, y].getD 1 .none)) (cd ([w, x, y].getD 2 .none))).next = ix x := rfl
          omega
      · rw [if_neg c2] at h'
        by_cases c3 : bSub t ds = true
        · rw [if_pos c3] at h'
          split at h'
          · cases h'
          · cases h'
            match ds, c3 with
            | [w, x, y], c3 =>
              have q := num (Bool.and_eq_true_iff.mp (Bool.and_eq_true_iff.mp (show (isW "for" w && (isNum 0 ((t.length : Int) - 1) x && isSign y)) = true from c3)).2).1
              have : (Ed.sub (ix ([w, x, y].getD 1 .none)) (cd ([w, x, y].getD 2 .none))).at = ix x := rfl
              have : (Ed.sub (ix ([w, x, y].getD 1 .none)) (cd ([w, x, y].getD 2 .none))).next = ix x + 1 := rfl
              omega
        · rw [if_neg c3] at h'
          cases h'
/-- behind k turns -/
structure EdInv (t : Str) (l : List PyData) (ps pf : Addr) (H : Hp) (k : Nat) (σ : L2.St) (H' : Hp) : Prop where
  ex : ∃ (last : Option Ed) (a : Nat) (pieces : List (List Nat)) (y5 y6 y7 : Option V) (lv : V),
    σ = [some (.str t), some (.ref ps), some lv, some (.ref pf), some (.int (a : Nat)), y5, y6, y7] ∧ H' pf = some (.lst (pieces.map fun p => V.str (S p))) ∧ OptAt H' lv last ∧
    pieces.length ≤ 2 * k ∧ (∀ p ∈ pieces, p.length ≤ 200) ∧ a ≤ t.length ∧ run t none 0 [] l 0 = run t last a pieces.flatten (l.drop k) k
  same : Same H H'
theorem ok_edited (T : Tx K mg) : FnOk P w K mg base (L2.CX P w) 6 T.f_edited T.d_edited ["text", "script"] (sp_edited T.C_BadInput T.C_BadScript) := by
  have G_is_row : FnOk P w K mg base CX0 1 T.f_is_row T.d_is_row ["thing"] sp_is_row := ok_is_row T
  have G_need_written : FnOk P w K mg base (L2.CX P w) 4 T.f_need_written T.d_need_written ["text"] (sp_need T.C_BadInput) := ok_need_written T
  have G_edit_in : FnOk P w K mg base CX0 3 T.f_edit_in T.d_edit_in ["text", "thing"] sp_edit_in := ok_edit_in T
  have G_may_follow : FnOk P w K mg base CX0 1 T.f_may_follow T.d_may_follow ["last", "edit"] sp_may_follow := ok_may_follow T
  refine T.F_edited.okX scedited (fun vs H Q E h => ?_) (fun cdv A outer s H vs Q E hr h => ?_)
  · obtain ⟨G, v, u, dt, ds, rfl, _⟩ := h
    rfl
  · obtain ⟨G, v, u, dt, ds, rfl, rt, okt, rs, hG, q1, q2, q3⟩ := h
    refine ⟨_, (pss_cons (ps_expr (pe_call G_need_written (hr.mono (by decide)) (by rfl) T.g_need_written T.F_need_written.kp T.b_need_written .nil (passes_call (takes_of rfl rfl rfl rfl) (fun _ _ _ _ h => h)) (pa_cons (pv 0) pa_nil)))
  (pss_cons (ps_if (pt_not (pt_val (pe_call G_is_row (hr.mono (by decide)) (by rfl) T.g_is_row T.F_is_row.kp T.b_is_row .nil pass0 (pa_cons (pv 1) pa_nil))))
  (pss_one (ps_raise rfl (takes_of rfl rfl rfl rfl) (pmk_oex T.o_BadScript T.iC_BadScript T.tI_BadScript (ok_BadScript_init (T := T)) (hr.mono (by decide)) T.bi_BadScript .nil pass0 rfl T.g_BadScript (pa_cons pe_int pa_nil)))) pss_nil)
  (pss_cons (ps_par3 (i := 2) (j := 3) (l := 4) (by rfl) scedited.nd rfl rfl rfl (by decide) (by decide) (by decide) rfl rfl rfl (pa_cons pe_non (pa_cons (pe_lst pa_nil) (pa_cons pe_int pa_nil))) (by rfl))
  (pss_cons (ps_for (passes_of rfl) rfl (pi_enumA (by rfl) T.m_enumerate (pa_cons (pv 1) pa_nil)) (pg_tup rfl (pgs_cons (pg_name (i := 5) scedited.nd rfl (Or.inl rfl)) (pgs_cons (pg_name (i := 6) scedited.nd rfl (Or.inl rfl)) pgs_nil)))
  (pss_cons (ps_set (i := 7) scedited.nd rfl (Or.inl rfl) (pe_call G_edit_in (hr.mono (by decide)) (by rfl) T.g_edit_in T.F_edit_in.kp T.b_edit_in .nil pass0 (pa_cons (pv 0) (pa_cons (pv 6) pa_nil))))
  (pss_cons (ps_if (PW.pt (pw_or (pt_cmpR op_isN (pv 7) pe_non (nomark _)) (pw_or1 (pt_not (pt_val (pe_call G_may_follow (hr.mono (by decide)) (by rfl) T.g_may_follow T.F_may_follow.kp T.b_may_follow .nil pass0 (pa_cons (pv 2) (pa_cons (pv 7) pa_nil))))))))
  (pss_one (ps_raise rfl (takes_of rfl rfl rfl rfl) (pmk_oex T.o_BadScript T.iC_BadScript T.tI_BadScript (ok_BadScript_init (T := T)) (hr.mono (by decide)) T.bi_BadScript .nil pass0 rfl T.g_BadScript (pa_cons (pv 5) pa_nil)))) pss_nil)
  (pss_cons (ps_expr (pe_bm PySem.F.plainAttrs_list PySem.F.slot_list_append PySem.F.type_list_append mt_append (pv 3) (pa_cons (pe_slice sl_str (pv 0) (po_some (pv 4)) (po_some (pe_ix ix_tup (pv 7) pe_int (fun _ _ => rfl)))) pa_nil)))
  (pss_cons (ps_set (i := 4) scedited.nd rfl (Or.inl rfl) (pe_op op_add (pe_ix ix_tup (pv 7) pe_int (fun _ _ => rfl)) (pe_ifExp (pt_cmpR op_eq (pe_ix ix_tup (pv 7) pe_int (fun _ _ => rfl)) pe_str (nomark _)) pe_int pe_int)))
  (pss_cons (ps_if (pt_cmpR op_ne (pe_ix ix_tup (pv 7) pe_int (fun _ _ => rfl)) pe_str (nomark _))
  (pss_one (ps_expr (pe_bm PySem.F.plainAttrs_list PySem.F.slot_list_append PySem.F.type_list_append mt_append (pv 3) (pa_cons (pe_ix ix_tup (pv 7) pe_int (fun _ _ => rfl)) pa_nil)))) pss_nil)
  (pss_one (ps_set (i := 2) scedited.nd rfl (Or.inl rfl) (pv 7)))))))))
  (pss_one (ps_ret (pe_op op_add_str (pe_join pe_str (pv 3)) (pe_slice sl_str (pv 0) (po_some (pv 4)) po_none)))))))), ?_⟩
    refine ⟨v, rfl, G, v, dt, rfl, rt, okt, fun hT H1 s1 => ?_, fun hF H1 dd s1 hdd => q1 hF H1 dd s1 hdd⟩
    obtain ⟨t, rfl⟩ : ∃ t, dt = .str t := by
      cases dt with
      | str t => exact ⟨t, rfl⟩
      | _ => cases hT
    cases rt
    have ru1 := rs.mono (Kp.of s1)
    dsimp only
    refine seqIf1 (!isRow ds) (fun R k => ?_) fun H2 s2 => ⟨fun hb => ?_, fun hb => ?_⟩
    · walk_at "u"
      exact ⟨G, u, ds, rfl, ru1, fun H2 s2 => ⟨_, rfl, k _ s2⟩⟩
    · refine mkI fun dd hn => ?_
      have e1 : row? ds = none := by
        rcases row_cases ru1 with ⟨e, _⟩ | ⟨_, _, _, _, _, _, _, e⟩
        · exact e
        · rw [e] at hb
          cases hb
      exact q2 t rfl hT e1 _ dd (Same.new (s1.trans s2) hn) upd_same
    · have hrow : isRow ds = true := by simpa using hb
      have ru2 := ru1.mono (Kp.of s2)
      rcases row_cases ru2 with ⟨_, e⟩ | ⟨ps, xs, l, rfl, ha, ra, e1, _⟩
      · rw [e] at hrow
        cases hrow
      obtain ⟨hlen, hok, qB, qR⟩ := q3 t l rfl hT e1
      have h02 := s1.trans s2
      -- last, found, at
      refine ⟨Nat.zero_le _, fun pf hpf => ⟨_, _, _, rfl, ?_⟩⟩
      dsimp only
      have hf0 : H pf = none := L2.Same.free h02 hpf
      have lt200 : t.length ≤ 200 := by
        have q : (decide ((t.length : Int) ≤ 200) && (t.cps.toList.filter fun c => !decide (c ∈ SG.cps.toList)).isEmpty) = true := hT
        have q2 := of_decide_eq_true (Bool.and_eq_true_iff.mp q).1
        omega
      have hz : t.length ≤ sizeLine := Nat.le_trans lt200 (by decide)
      have h03 : Same H (upd H2 pf (.lst [])) := Same.new h02 hpf
      have hlx : xs.length = l.length := ra.length
      have nps : ps ≠ pf := by
        rcases ha with h | h <;> exact ne_of_none h hpf
      refine for_enumA (p := ps) (xs := xs) rfl (ha.mono (same_new hpf)) (fun k σ H' => EdInv t l ps pf H k σ H' ∧ Same H2 H') ⟨⟨⟨none, 0, [], none, none, none, .non, rfl, upd_same, rfl, Nat.zero_le _, (fun p hp => by cases hp), Nat.zero_le _, rfl⟩, h03⟩, same_new hpf⟩ ?_ ?_ ?_
      · rintro k σ' H' o ⟨_, s⟩ h
        rw [upd_ne nps] at h
        exact s _ _ h
      · rintro k x σ' H3 ta hk ⟨⟨⟨last, a, pieces, y5, y6, y7, lv, rfl, hl, hlv, hn, hp, hat, hrun⟩, sH⟩, s23⟩ hx hT'
        refine g2 upd_same rfl ?_
        obtain ⟨d, hd, rd⟩ := (ra.mono (Kp.of s23)).get hx
        have sT := same_new (o := HO.tup [V.int (k : Nat), x]) hT'
        have ed : l.drop k = d :: l.drop (k + 1) := by
          have lt : k < l.length := by omega
          rw [List.drop_eq_getElem_cons lt]
          rw [List.getElem?_eq_getElem lt] at hd
          rw [Option.some.inj hd]
        rw [ed] at hrun
        have ok_d := hok d (List.mem_of_getElem? hd)
        have step : ∀ o, edIn t d = o → run t last a pieces.flatten (d :: l.drop (k + 1)) k = match o with
          | none => .inl k
          | some e => if follows last e then run t (some e) e.next (pieces.flatten ++ ((tl t).drop a).take (e.at - a) ++ e.put) (l.drop (k + 1)) (k + 1) else .inl k := fun o ho => by
          rw [← ho]
          rfl
        refine ⟨_, rfl, _, rfl, G, x, d, t, rfl, rd.mono (Kp.of sT), okt, ok_d, fun H4 s4 hn0 => ?_, fun H4 pe e s4 he hpe => ?_⟩
        · dsimp only [gName]
          refine seqIf1 true (fun R k => ?_) fun H5 s5 => ⟨fun _ => ?_, fun e => by cases e⟩
          · walk_at "u"
            exact iteB (b := true) (by simp) (iteT (k _ (L2.Same.refl _)))
          · refine mkO (i := 5) rfl fun dd hdd => qB k ?_ _ dd (Same.new (((sH.trans sT).trans s4).trans s5) hdd) upd_same
            rw [hrun, step _ hn0]
        · have s34 := sT.trans s4
          dsimp only [gName]
          refine seqIf1 (!follows last e) (fun R k => ?_) fun H5 s5 => ⟨fun hb => ?_, fun hb => ?_⟩
          · walk_at "u"
            refine iteB (b := false) (by simp) (iteF ⟨_, _, _, e, rfl, OptAt.mono s34 hlv, ⟨pe, rfl, hpe⟩, fun H5 s5 => ⟨_, rfl, k _ s5⟩⟩)
          · refine mkO (i := 5) rfl fun dd hdd => qB k ?_ _ dd (Same.new ((sH.trans s34).trans s5) hdd) upd_same
            rw [hrun, step _ he]
            have c : follows last e = false := by simpa using hb
            show (if follows last e = true then _ else _) = _
            rw [c]
            rfl
          · have c : follows last e = true := by simpa using hb
            have s35 := s34.trans s5
            have hl5 := s35 _ _ hl
            obtain ⟨ea, en⟩ := edIn_ok he
            refine seqApp (xs := pieces.map fun p => V.str (S p)) rfl hl5 ?_
            walk_at "e"
            refine ixE (s5 _ _ hpe) (ed1 e) ⟨_, rfl, ?_⟩
            refine ⟨t, rfl, hz, r_app hl5 (by rw [List.length_map]; omega) ?_⟩
            rw [cut_ab hat ea]
            have npe : pe ≠ pf := ne_of (s5 _ _ hpe) hl5 (by intro z; cases z)
            have hpe6 : ∀ o, upd H5 pf o pe = some (.tup (edV e)) := fun o => by
              rw [upd_ne npe]
              exact s5 _ _ hpe
            -- at = ..
            refine seqAsg ?_
            have next : ∀ (H6 : Hp) (R : VK), H6 pe = some (.tup (edV e)) → R (.int (e.next : Nat)) H6 → (tOp (rI0 fun i j => V.int (i + j)) (tOp (rIxT K) (tVar 7) (tC (V.int 1)))
                (tIf (tTest (tOp rEq (tOp (rIxT K) (tVar 7) (tC (V.int 0))) (tC (V.str (Str.ofString "in"))))) (tC (V.int 0)) (tC (V.int 1))))
                [some (V.str t), some (V.ref ps), some lv, some (V.ref pf), some (V.int a), some (V.int k), some x, some (V.ref pe)] H6 R := fun H6 R h6 q => by
              walk_at "e"
              refine ixE h6 (ed1 e) (ixE h6 (ed0 e) ⟨rfl, ?_⟩)
              rw [decS, word_in]
              cases e with
              | ins i c => exact iteT ⟨_, rfl, q⟩
              | out i => exact iteF ⟨_, rfl, q⟩
              | sub i c => exact iteF ⟨_, rfl, q⟩
            refine next _ _ (hpe6 _) ?_
            have fin : ∀ (ps' : List (List Nat)) (H6 : Hp), pieces.flatten ++ ((tl t).drop a).take (e.at - a) ++ e.put = ps'.flatten → ps'.length ≤ pieces.length + 2 → (∀ p ∈ ps', p.length ≤ 200) → H6 pf = some (.lst (ps'.map fun p => V.str (S p))) →
                Same H H6 → Same H2 H6 → H6 pe = some (.tup (edV e)) →
                EdInv t l ps pf H (k + 1) [some (V.str t), some (V.ref ps), some (V.ref pe), some (V.ref pf), some (V.int (e.next : Nat)), some (V.int k), some x, some (V.ref pe)] H6 ∧ Same H2 H6 :=
              fun ps' H6 f1 f2 f3 f4 f5 f6 f7 => by
              refine ⟨⟨⟨some e, e.next, ps', _, _, _, _, rfl, f4, ⟨pe, rfl, f7⟩, by omega, f3, en, ?_⟩, f5⟩, f6⟩
              rw [hrun, step _ he, ← f1]
              show (if follows last e = true then _ else _) = _
              rw [if_pos c]
            have lcut : (((tl t).drop a).take (e.at - a)).length ≤ 200 := by
              rw [List.length_take, List.length_drop, tl_len]
              omega
            have e6 : upd H5 pf (HO.lst (pieces.map (fun p => V.str (S p)) ++ [V.str (S (((tl t).drop a).take (e.at - a)))])) pf = some (.lst ((pieces ++ [((tl t).drop a).take (e.at - a)]).map fun p => V.str (S p))) := by
              rw [upd_same, List.map_append]
              rfl
            have s06 : Same H (upd H5 pf (HO.lst (pieces.map (fun p => V.str (S p)) ++ [V.str (S (((tl t).drop a).take (e.at - a)))]))) := Same.own (sH.trans s35) hf0
            have s26 : Same H2 (upd H5 pf (HO.lst (pieces.map (fun p => V.str (S p)) ++ [V.str (S (((tl t).drop a).take (e.at - a)))]))) := Same.own (s23.trans s35) hpf
            generalize hH6 : upd H5 pf (HO.lst (pieces.map (fun p => V.str (S p)) ++ [V.str (S (((tl t).drop a).take (e.at - a)))])) = H6 at e6 s06 s26 ⊢
            have h6e : H6 pe = some (.tup (edV e)) := by
              rw [← hH6]
              exact hpe6 _
            refine seqIf1 (!e.isOut) (fun R k => ?_) fun H7 s7 => ⟨fun ho => ?_, fun ho => ?_⟩
            · walk_at "u"
              refine ixE h6e (ed0 e) ⟨rfl, ?_⟩
              rw [decS, word_out]
              exact k _ (L2.Same.refl _)
            · obtain ⟨cc, hc⟩ : ∃ cc, e.put = [cc] ∧ (edV e)[2]? = some (.str (S [cc])) := by
                cases e with
                | out i => cases ho
                | ins i c0 => exact ⟨c0, rfl, rfl⟩
                | sub i c0 => exact ⟨c0, rfl, rfl⟩
              refine t_app (xs := (pieces ++ [((tl t).drop a).take (e.at - a)]).map fun p => V.str (S p)) rfl (s7 _ _ e6) ?_
              walk_at "e"
              refine ixE (s7 _ _ h6e) hc.2 (r_app (s7 _ _ e6) (by rw [List.length_map, List.length_append]; simp; omega) ?_)
              refine oneAsg ⟨_, rfl, ?_⟩
              refine fin (pieces ++ [((tl t).drop a).take (e.at - a), [cc]]) _ ?_ ?_ ?_ ?_ ?_ ?_ ?_
              · rw [hc.1]
                simp
              · simp
              · intro p hp'
                rcases List.mem_append.mp hp' with h | h
                · exact hp p h
                · simp at h
                  rcases h with rfl | rfl
                  · simpa using lcut
                  · simp
              · rw [upd_same]
                simp
              · exact Same.own (s06.trans s7) hf0
              · exact Same.own (s26.trans s7) hpf
              · rw [upd_ne npe]
                exact s7 _ _ h6e
            · refine oneAsg ⟨_, rfl, ?_⟩
              refine fin (pieces ++ [((tl t).drop a).take (e.at - a)]) _ ?_ ?_ ?_ ?_ ?_ ?_ ?_
              · have : e.put = [] := by
                  cases e with
                  | out i => rfl
                  | ins i c => cases ho
                  | sub i c => cases ho
                rw [this]
                simp
              · simp
              · intro p hp'
                rcases List.mem_append.mp hp' with h | h
                · exact hp p h
                · simp at h
                  rw [h]
                  exact lcut
              · exact s7 _ _ e6
              · exact s06.trans s7
              · exact s26.trans s7
              · exact s7 _ _ h6e
      · rintro σ' H3 ⟨⟨⟨last, a, pieces, y5, y6, y7, lv, rfl, hl, hlv, hn, hp, hat, hrun⟩, sH⟩, s23⟩
        walk_at "u"
        have e0 : l.drop xs.length = [] := List.drop_of_length_le (by omega)
        rw [e0] at hrun
        have sz := sum_le pieces 200 hp
        have lp : pieces.length ≤ 2000 := by omega
        have lf : pieces.flatten.length ≤ 400000 := by
          have e : pieces.flatten.length = ((pieces.map S).map (·.length)).sum := by
            rw [List.length_flatten, List.map_map]
            congr 1
          rw [e]
          omega
        refine ⟨⟨_, rfl⟩, pieces.map S, .inl (SqL.of (by rw [hl, List.map_map]; rfl)), ?_, t, rfl, hz, _, rfl, ?_, ?_⟩
        · have z : (Str.ofString "").length = 0 := by decide +kernel
          rw [z, List.length_map]
          omega
        · rw [join0, cut_a hat, List.map_map]
          have e : (pieces.map (tl ∘ S)).flatten = pieces.flatten := by
            congr 1
            exact List.map_id _
          rw [e, ← tl_len, ← tl_len]
          refine Nat.le_trans ?_ (by decide : 500000 ≤ sizeLine)
          show pieces.flatten.length + ((tl t).drop a).length ≤ _
          rw [List.length_drop, tl_len]
          omega
        · rw [join0, cut_a hat, List.map_map, S_app]
          have e : (pieces.map (tl ∘ S)).flatten = pieces.flatten := by
            congr 1
            exact List.map_id _
          rw [e]
          exact qR _ hrun _ sH
end
end K76
set_option Elab.async false
set_option linter.all false
set_option maxRecDepth 100000
set_option maxHeartbeats 4000000
namespace K76
open PySem PySem.Spec PyProof.Rows L2 TbA TbD TbL TL RZ
local macro_rules | `(tactic| walk_at "u") => `(tactic| simp only [tRet, tRetN, tSeq, tNext, tIfS, tAsg, tDrop, tAndV, tOrV, tNotV, tAnd, tOr, tNot, tB, tTest, tIf, tCB, tCons, tNil, tC, tVar, tOp, tUn, tChain, tCall, tM1, tTup, tLst, tSl, tPart, tNoPart, gName, gSub, gCons, gNil, gTup, tBreak, tCont, tNever,
  rI0, rI, rEq, rNe, cxOf, Cx.nox, Cx.wish, L2.start, List.map_cons, List.map_nil, List.length_cons, List.length_nil, List.cons_append, List.nil_append, List.replicate, List.getElem?_cons_zero, List.getElem?_cons_succ, Option.some.injEq, List.cons.injEq, and_true, true_and, V.int.injEq, V.bl.injEq, V.str.injEq, V.ref.injEq,
  exists_eq_left', exists_and_left, exists_eq_left, Nat.reduceSub, Nat.reduceAdd, List.set_cons_zero, List.set_cons_succ])
local macro_rules | `(tactic| walk_at "e") => `(tactic| simp only [tAndV, tOrV, tNotV, tAnd, tOr, tNot, tB, tTest, tIf, tCB, tCons, tNil, tC, tVar, tOp, tUn, tChain, tCall, tM1, tTup, tLst, tSl, tPart, tNoPart, gName, gSub, gCons, gNil, gTup, 
  rI0, rI, rEq, rNe, cxOf, Cx.nox, Cx.wish, L2.start, List.map_cons, List.map_nil, List.length_cons, List.length_nil, List.cons_append, List.nil_append, List.replicate, List.getElem?_cons_zero, List.getElem?_cons_succ, Option.some.injEq, List.cons.injEq, and_true, true_and, V.int.injEq, V.bl.injEq, V.str.injEq, V.ref.injEq,
  exists_eq_left', exists_and_left, exists_eq_left, Nat.reduceSub, Nat.reduceAdd, List.set_cons_zero, List.set_cons_succ])

section
variable {P : Program} {w : World} {K : PySem.W.Frag} {mg : Str → Option Value} {base : Heap}
/-- the spring of draws at sa, its cells at ca, at most n draws so far -/
structure Strm (H : Hp) (sa ca : Addr) (n : Nat) : Prop where
  ex : ∃ (ns : List Int) (b c d : Int), H sa = some (.lst [.ref ca, .int b, .int c, .int d]) ∧ H ca = some (.lst (ns.map V.int)) ∧ 0 ≤ b ∧ 0 ≤ c ∧ c ≤ n ∧ 0 ≤ d ∧ d < 2147483647
  ne : sa ≠ ca
theorem Strm.mono {H : Hp} {sa ca : Addr} {n m : Nat} (h : Strm H sa ca n) (l : n ≤ m) : Strm H sa ca m := by
  obtain ⟨⟨ns, b, c, d, h1, h2, h3, h4, h5, h6⟩, h7⟩ := h
  exact ⟨⟨ns, b, c, d, h1, h2, h3, h4, by omega, h6⟩, h7⟩
theorem Strm.keep {H H' : Hp} {sa ca : Addr} {n : Nat} (h : Strm H sa ca n) (s : Same H H') : Strm H' sa ca n := by
  obtain ⟨⟨ns, b, c, d, h1, h2, r⟩, h7⟩ := h
  exact ⟨⟨ns, b, c, d, s _ _ h1, s _ _ h2, r⟩, h7⟩
def sp_start (K : PySem.W.Frag) : Sp := fun vs H Q _ => ∃ (a : Addr) (ns : List Int), vs = [.ref a] ∧ SqL K H a (ns.map V.int) ∧
  ∀ H' sa ca, Same H H' → H sa = none → H ca = none → Strm H' sa ca 0 → Q (.ref sa) H'
theorem ok__law_start (T : Tx K mg) : FnOk P w K mg base CX0 1 T.f__law_start T.d__law_start ["script"] (sp_start K) := by
  refine T.F__law_start.ok sc_law_start (fun vs H Q E h => ?_) (fun cdv A outer s H vs Q E hr h => ?_)
  · obtain ⟨a, ns, rfl, _⟩ := h
    rfl
  · obtain ⟨a, ns, rfl, hs, q⟩ := h
    refine ⟨_, (pss_one (ps_ret (pe_lst (pa_cons (pe_callTy call_list_of (by rfl) T.m_list (by decide +kernel) (pa_cons (pv 0) pa_nil)) (pa_cons pe_int (pa_cons pe_int (pa_cons pe_int pa_nil))))))), ?_⟩
    walk_at "u"
    refine ⟨_, .inl hs, fun ca hca => ⟨by decide, fun sa hsa => ?_⟩⟩
    have ne : sa ≠ ca := by
      rintro rfl
      rw [upd_same] at hsa
      cases hsa
    rw [upd_ne ne] at hsa
    refine q _ sa ca (Same.own (same_new hca) hsa) hsa hca ⟨⟨ns, 0, 0, 43, upd_same, ?_, by decide, by decide, by decide, by decide, by decide⟩, ne⟩
    rw [upd_ne (Ne.symm ne), upd_same]
/-! ### _law_below -/
def sp_below : Sp := fun vs H Q _ => ∃ (sa ca : Addr) (m : Int) (n : Nat) (G : Addr → Prop), vs = [.ref sa, .int m] ∧ 0 < m ∧ m < 1000000 ∧ n ≤ 1000000000 ∧ Strm H sa ca n ∧ (∀ a, H a = none → G a) ∧ ¬ G sa ∧ ¬ G ca ∧
  ∀ H' r, Kp G H H' → 0 ≤ r → r < m → Strm H' sa ca (n + 1) → Q (.int r) H'
def WB (G : Addr → Prop) (H : Hp) (sa ca : Addr) (m c : Int) (k : Nat) (σ : L2.St) (H' : Hp) : Prop := ∃ (ns : List Int) (b d : Int) (y2 y3 y4 : Option V),
  σ = [some (.ref sa), some (.int m), y2, y3, y4] ∧ H' sa = some (.lst [.ref ca, .int b, .int c, .int d]) ∧ H' ca = some (.lst (ns.map V.int)) ∧ 0 ≤ b ∧ 0 ≤ d ∧ d < 2147483647 ∧ Kp G H H' ∧ k = ns.length
theorem ok__law_below (T : Tx K mg) : FnOk P w K mg base CX0 1 T.f__law_below T.d__law_below ["stream", "many"] sp_below := by
  refine T.F__law_below.ok sc_law_below (fun vs H Q E h => ?_) (fun cdv A outer s H vs Q E hr h => ?_)
  · obtain ⟨sa, ca, m, n, G, rfl, _⟩ := h
    rfl
  · obtain ⟨sa, ca, m, n, G, rfl, hm, hm2, hn, ⟨⟨ns, b, c, d, h1, h2, hb, hc, hcn, hd, hd2⟩, ne⟩, hG, gs, gc, q⟩ := h
    refine ⟨_, (pss_cons (ps_asg (pe_op op_add (pe_ix ix_list (pv 0) pe_int (fun _ _ => rfl)) pe_int) (pg_sub (pv 0) pe_int set_list))
  (pss_cons (ps_while PassesOwn.never (PW.pt (pw_and (pt_cmpR op_eq (pe_ix ix_list (pv 0) pe_int (fun _ _ => rfl)) pe_int (nomark _)) (pw_and1 (pt_cmpR (op_neD hr.units) (pe_ix ix_list (pv 0) pe_int (fun _ _ => rfl)) (pe_lst pa_nil) (nomark _)))))
  (pss_cons (ps_set (i := 3) sc_law_below.nd rfl (Or.inl rfl) (pe_bm PySem.F.plainAttrs_list PySem.F.slot_list_pop PySem.F.type_list_pop mt_popAt (pe_ix ix_list (pv 0) pe_int (fun _ _ => rfl)) (pa_cons pe_int pa_nil)))
  (pss_cons (ps_asg (pe_op op_mod (pe_callTy call_int1 (by rfl) T.m_int (by decide +kernel) (pa_cons (pe_op op_add (pe_op op_add (pe_op op_mul (pe_ix ix_list (pv 0) pe_int (fun _ _ => rfl)) pe_int) (pv 3)) pe_int) pa_nil)) pe_int) (pg_sub (pv 0) pe_int set_list))
  (pss_one (ps_asg (pe_ifExp (pt_cmpR op_ge (pv 3) (pe_op op_pow pe_int pe_int) (nomark _)) (pv 3) pe_int) (pg_sub (pv 0) pe_int set_list))))))
  (pss_cons (ps_if (pt_cmpR op_gt (pe_ix ix_list (pv 0) pe_int (fun _ _ => rfl)) pe_int (nomark _))
  (pss_cons (ps_set (i := 4) sc_law_below.nd rfl (Or.inl rfl) (pe_op op_mod (pe_callTy call_int1 (by rfl) T.m_int (by decide +kernel) (pa_cons (pe_ix ix_list (pv 0) pe_int (fun _ _ => rfl)) pa_nil)) (pv 1)))
  (pss_cons (ps_asg (pe_op op_fdiv (pe_ix ix_list (pv 0) pe_int (fun _ _ => rfl)) (pv 1)) (pg_sub (pv 0) pe_int set_list))
  (pss_one (ps_ret (pv 4))))) pss_nil)
  (pss_cons (ps_set (i := 2) sc_law_below.nd rfl (Or.inl rfl) (pe_op op_mod (pe_callTy call_int1 (by rfl) T.m_int (by decide +kernel) (pa_cons (pe_op op_pow (pe_op op_add (pe_op op_add (pe_ix ix_list (pv 0) pe_int (fun _ _ => rfl)) (pe_op op_mul pe_int (pe_ix ix_list (pv 0) pe_int (fun _ _ => rfl)))) pe_int) pe_int) pa_nil)) pe_int))
  (pss_one (ps_ret (pe_op op_mod (pe_op op_mod (pe_callTy call_int1 (by rfl) T.m_int (by decide +kernel) (pa_cons (pe_op op_pow (pe_op op_add (pe_op op_add (pe_op op_mul (pv 2) pe_int) (pe_op op_mul pe_int (pe_ix ix_list (pv 0) pe_int (fun _ _ => rfl)))) pe_int) pe_int) pa_nil)) pe_int) (pv 1)))))))), ?_⟩
    -- stream[2] = stream[2] + 1
    refine seqAsgG ?_
    walk_at "e"
    refine ixL (j := 2) h1 rfl ⟨_, rfl, setL (j := 2) h1 (by simp) ?_⟩
    refine whileBy (WB G H sa ca m (c + 1)) ns.length ⟨ns, b, d, _, _, _, rfl, upd_same, ?_, hb, hd, hd2, Kp.out (Kp.refl G H) gs, rfl⟩ ?_
    · rw [upd_ne (Ne.symm ne)]
      exact h2
    · rintro k σ H1 ⟨ns, b, d, y2, y3, y4, rfl, h1, h2, hb, hd, hd2, kp, rfl⟩
      refine ⟨decide (b = 0) && !ns.isEmpty, fun R k => ?_, fun H2 s2 => ⟨fun hb1 => ?_, fun hb1 => ?_⟩⟩
      · walk_at "e"
        refine ixL (j := 1) h1 rfl ⟨rfl, ?_⟩
        rw [decI]
        cases e : decide (b = 0) with
        | false =>
          rw [e] at k
          exact iteF (k _ (L2.Same.refl _))
        | true =>
          rw [e] at k
          refine iteT (ixL (j := 0) h1 rfl ⟨Nat.zero_le _, fun p hp => ?_⟩)
          have np : ca ≠ p := ne_of_none h2 hp
          refine ne_nil (ns := ns) (by rw [upd_ne np]; exact h2) upd_same ⟨_, rfl, k _ (same_new hp)⟩
      · cases ns with
        | nil => simp at hb1
        | cons z ns =>
          have h1' := s2 _ _ h1
          have h2' := s2 _ _ h2
          refine seqAsg ?_
          simp only [tBM]
          walk_at "e"
          refine ixL (j := 0) h1' rfl ⟨tyL h2', pop0 h2' ?_⟩
          have h1'' : upd H2 ca (.lst (ns.map V.int)) sa = some (.lst [.ref ca, .int b, .int (c + 1), .int d]) := by
            rw [upd_ne ne]
            exact h1'
          have kp2 : Kp G H (upd H2 ca (.lst (ns.map V.int))) := Kp.out (Kp.trans kp (Kp.of s2)) gc
          have h2'' : upd H2 ca (.lst (ns.map V.int)) ca = some (.lst (ns.map V.int)) := upd_same
          generalize upd H2 ca (.lst (ns.map V.int)) = H3 at h1'' kp2 h2'' ⊢
          refine seqAsgG ?_
          walk_at "e"
          refine ixL (j := 3) h1'' rfl ⟨_, rfl, .inl (by omega), .inl ⟨by decide, setL (j := 3) h1'' (by simp) ?_⟩⟩
          refine oneAsgG ?_
          have md0 : 0 ≤ (d * 69031 + z + 13) % 2147483647 := Int.emod_nonneg _ (by decide)
          have md1 : (d * 69031 + z + 13) % 2147483647 < 2147483647 := Int.emod_lt_of_pos _ (by decide)
          have g1 : upd H3 sa (.lst ([V.ref ca, .int b, .int (c + 1), .int d].set 3 (.int ((d * 69031 + z + 13) % 2147483647)))) sa = some (.lst [.ref ca, .int b, .int (c + 1), .int ((d * 69031 + z + 13) % 2147483647)]) := upd_same
          have g2 : upd H3 sa (.lst ([V.ref ca, .int b, .int (c + 1), .int d].set 3 (.int ((d * 69031 + z + 13) % 2147483647)))) ca = some (.lst (ns.map V.int)) := by
            rw [upd_ne (Ne.symm ne)]
            exact h2''
          have g3 : Kp G H (upd H3 sa (.lst ([V.ref ca, .int b, .int (c + 1), .int d].set 3 (.int ((d * 69031 + z + 13) % 2147483647))))) := Kp.out kp2 gs
          generalize upd H3 sa (.lst ([V.ref ca, .int b, .int (c + 1), .int d].set 3 (.int ((d * 69031 + z + 13) % 2147483647)))) = H4 at g1 g2 g3 ⊢
          generalize (d * 69031 + z + 13) % 2147483647 = d' at md0 md1 g1
          have back : ∀ b', 0 ≤ b' → ∃ m', m' < ns.length + 1 ∧ WB G H sa ca m (c + 1) m' [some (V.ref sa), some (V.int m), y2, some (V.int z), y4] (upd H4 sa (.lst ([V.ref ca, .int b, .int (c + 1), .int d'].set 1 (.int b')))) := fun b' h => by
            refine ⟨ns.length, Nat.lt_succ_self _, ns, b', d', _, _, _, rfl, ?_, ?_, h, md0, md1, Kp.out g3 gs, rfl⟩
            · rw [upd_same]
              rfl
            · rw [upd_ne (Ne.symm ne)]
              exact g2
          have pw : CPow 10 18 := ⟨by decide, by decide, by decide⟩
          walk_at "e"
          refine ⟨pw, ?_⟩
          cases e : decide ((10 : Int) ^ (18 : Int).toNat ≤ z) with
          | true =>
            have hz : 0 ≤ z := by
              have q := of_decide_eq_true e
              have q2 : (0 : Int) ≤ 10 ^ (18 : Int).toNat := by decide
              omega
            exact iteT (setL (j := 1) g1 (by simp) (back z hz))
          | false => exact iteF (setL (j := 1) g1 (by simp) (back 0 (Int.le_refl _)))
      · have h1' := s2 _ _ h1
        have kp2 : Kp G H H2 := Kp.trans kp (Kp.of s2)
        have h2' := s2 _ _ h2
        refine seqIf1 (decide (0 < b)) (fun R k => ?_) fun H3 s3 => ⟨fun hb2 => ?_, fun hb2 => ?_⟩
        · walk_at "e"
          exact ixL (j := 1) h1' rfl ⟨_, rfl, k _ (L2.Same.refl _)⟩
        · have h1'' := s3 _ _ h1'
          have h2'' := s3 _ _ h2'
          have kp3 : Kp G H H3 := Kp.trans kp2 (Kp.of s3)
          refine seqAsg ?_
          walk_at "e"
          refine ixL (j := 1) h1'' rfl (.inl ?_)
          refine ⟨b, rfl, hm, ?_⟩
          refine seqAsgG ?_
          walk_at "e"
          refine ixL (j := 1) h1'' rfl ⟨_, rfl, ⟨hm, by omega⟩, setL (j := 1) h1'' (by simp) ?_⟩
          refine ⟨_, rfl, q _ _ (Kp.out kp3 gs) (Int.emod_nonneg _ (by omega)) (Int.emod_lt_of_pos _ hm) ⟨⟨ns, b / m, c + 1, d, upd_same, ?_, Int.ediv_nonneg hb (by omega), by omega, by omega, hd, hd2⟩, ne⟩⟩
          rw [upd_ne (Ne.symm ne)]
          exact h2''
        · have h1'' := s3 _ _ h1'
          have h2'' := s3 _ _ h2'
          have kp3 : Kp G H H3 := Kp.trans kp2 (Kp.of s3)
          have lt64 : ∀ x : Int, 0 ≤ x → x < 1000000000000000000 → x.natAbs < 2 ^ 64 := fun x h1 h2 => by omega
          refine seqAsg ?_
          walk_at "e"
          refine ixL (j := 3) h1'' rfl (ixL (j := 2) h1'' rfl ⟨_, rfl, .inl (by omega), _, rfl, ⟨by decide, by decide, lt64 _ (by omega) (by omega)⟩, .inl ⟨by decide, ?_⟩⟩)
          have md0 := Int.emod_nonneg ((d + 9049 * (c + 1) + 130073) ^ (5 : Int).toNat) (show (2147483629 : Int) ≠ 0 by decide)
          have md1 := Int.emod_lt_of_pos ((d + 9049 * (c + 1) + 130073) ^ (5 : Int).toNat) (show (0 : Int) < 2147483629 by decide)
          generalize (d + 9049 * (c + 1) + 130073) ^ (5 : Int).toNat % 2147483629 = mx at md0 md1 ⊢
          walk_at "u"
          refine ⟨.inl (by omega), ixL (j := 2) h1'' rfl ⟨_, rfl, .inl (by omega), ⟨by decide, by decide, lt64 _ (by omega) (by omega)⟩, .inl ⟨by decide, hm, ?_⟩⟩⟩
          exact q _ _ kp3 (Int.emod_nonneg _ (by omega)) (Int.emod_lt_of_pos _ hm) ⟨⟨ns, b, c + 1, d, h1'', h2'', hb, by omega, by omega, hd, hd2⟩, ne⟩
end
end K76
set_option Elab.async false
set_option linter.all false
set_option maxRecDepth 100000
set_option maxHeartbeats 4000000
namespace K76
open PySem PySem.Spec PyProof.Rows L2 TbA TbD TbL TL RZ
local macro_rules | `(tactic| walk_at "u") => `(tactic| simp only [tRet, tRetN, tSeq, tNext, tIfS, tAsg, tDrop, tAndV, tOrV, tNotV, tAnd, tOr, tNot, tB, tTest, tIf, tCB, tCons, tNil, tC, tVar, tOp, tUn, tChain, tCall, tM1, tTup, tLst, tSl, tPart, tNoPart, gName, gSub, gCons, gNil, gTup, tBreak, tCont, tNever,
  rI0, rI, rEq, rNe, cxOf, Cx.nox, Cx.wish, L2.start, List.map_cons, List.map_nil, List.length_cons, List.length_nil, List.cons_append, List.nil_append, List.replicate, List.getElem?_cons_zero, List.getElem?_cons_succ, Option.some.injEq, List.cons.injEq, and_true, true_and, V.int.injEq, V.bl.injEq, V.str.injEq, V.ref.injEq,
  exists_eq_left', exists_and_left, exists_eq_left, Nat.reduceSub, Nat.reduceAdd, List.set_cons_zero, List.set_cons_succ])
local macro_rules | `(tactic| walk_at "e") => `(tactic| simp only [tAndV, tOrV, tNotV, tAnd, tOr, tNot, tB, tTest, tIf, tCB, tCons, tNil, tC, tVar, tOp, tUn, tChain, tCall, tM1, tTup, tLst, tSl, tPart, tNoPart, gName, gSub, gCons, gNil, gTup, 
  rI0, rI, rEq, rNe, cxOf, Cx.nox, Cx.wish, L2.start, List.map_cons, List.map_nil, List.length_cons, List.length_nil, List.cons_append, List.nil_append, List.replicate, List.getElem?_cons_zero, List.getElem?_cons_succ, Option.some.injEq, List.cons.injEq, and_true, true_and, V.int.injEq, V.bl.injEq, V.str.injEq, V.ref.injEq,
  exists_eq_left', exists_and_left, exists_eq_left, Nat.reduceSub, Nat.reduceAdd, List.set_cons_zero, List.set_cons_succ])

section
variable {P : Program} {w : World} {K : PySem.W.Frag} {mg : Str → Option Value} {base : Heap}
def sp_chance : Sp := fun vs H Q _ => ∃ (sa ca : Addr) (m : Int) (n : Nat) (G : Addr → Prop), vs = [.ref sa, .int m] ∧ 0 < m ∧ m < 1000000 ∧ n ≤ 1000000000 ∧ Strm H sa ca n ∧ (∀ a, H a = none → G a) ∧ ¬ G sa ∧ ¬ G ca ∧
  ∀ H' b, Kp G H H' → Strm H' sa ca (n + 1) → Q (.bl b) H'
theorem ok__law_chance (T : Tx K mg) : FnOk P w K mg base CX0 2 T.f__law_chance T.d__law_chance ["stream", "many"] sp_chance := by
  have G__law_below : FnOk P w K mg base CX0 1 T.f__law_below T.d__law_below ["stream", "many"] sp_below := ok__law_below T
  refine T.F__law_chance.ok sc_law_chance (fun vs H Q E h => ?_) (fun cdv A outer s H vs Q E hr h => ?_)
  · obtain ⟨sa, ca, m, n, G, rfl, _⟩ := h
    rfl
  · obtain ⟨sa, ca, m, n, G, rfl, hm, hm2, hn, hs, hG, gs, gc, q⟩ := h
    refine ⟨_, (pss_one (ps_ret (pe_cmpR op_eq (pe_call G__law_below (hr.mono (by decide)) (by rfl) T.g__law_below T.F__law_below.kp T.b__law_below .nil pass0 (pa_cons (pv 0) (pa_cons (pv 1) pa_nil))) pe_int (nomark _)))), ?_⟩
    walk_at "u"
    exact ⟨sa, ca, m, n, G, rfl, hm, hm2, hn, hs, hG, gs, gc, fun H' r kp _ _ st => ⟨rfl, q _ _ kp st⟩⟩
def sp_pick : Sp := fun vs H Q _ => ∃ (sa ca p : Addr) (xs : List V) (n : Nat) (G : Addr → Prop), vs = [.ref sa, .ref p] ∧ H p = some (.lst xs) ∧ G p ∧ xs ≠ [] ∧ xs.length < 1000000 ∧ n ≤ 1000000000 ∧ Strm H sa ca n ∧
  (∀ a, H a = none → G a) ∧ ¬ G sa ∧ ¬ G ca ∧ ∀ (H' : Hp) (i : Nat) v, Kp G H H' → xs[i]? = some v → Strm H' sa ca (n + 1) → Q v H'
theorem ok__law_pick (T : Tx K mg) : FnOk P w K mg base CX0 2 T.f__law_pick T.d__law_pick ["stream", "some"] sp_pick := by
  have G__law_below : FnOk P w K mg base CX0 1 T.f__law_below T.d__law_below ["stream", "many"] sp_below := ok__law_below T
  refine T.F__law_pick.ok sc_law_pick (fun vs H Q E h => ?_) (fun cdv A outer s H vs Q E hr h => ?_)
  · obtain ⟨sa, ca, p, xs, n, G, rfl, _⟩ := h
    rfl
  · obtain ⟨sa, ca, p, xs, n, G, rfl, hp, gp, hne, hl, hn, hs, hG, gs, gc, q⟩ := h
    refine ⟨_, (pss_one (ps_ret (pe_ix ix_list (pv 1) (pe_call G__law_below (hr.mono (by decide)) (by rfl) T.g__law_below T.F__law_below.kp T.b__law_below .nil pass0 (pa_cons (pv 0) (pa_cons (pe_callB call_len (by rfl) T.m_len (by decide +kernel) (pa_cons (pv 1) pa_nil)) pa_nil))) (fun _ _ => rfl)))), ?_⟩
    walk_at "u"
    have pos : 0 < xs.length := List.length_pos_iff.mpr hne
    refine ⟨xs.length, .inl ⟨xs, SqL.of hp, rfl⟩, sa, ca, _, n, G, rfl, by omega, by omega, hn, hs, hG, gs, gc, fun H' r kp h0 h1 st => ?_⟩
    have lt : r.toNat < xs.length := by omega
    have e := List.getElem?_eq_getElem lt
    have er : r = ((r.toNat : Nat) : Int) := (Int.toNat_of_nonneg h0).symm
    rw [er]
    exact ixL (kp _ _ gp hp) e (q _ _ _ kp e st)
def sp_ksigns : Sp := fun vs H Q _ => vs = [] ∧ Q (.str SG) H
theorem ok__law_ksigns (T : Tx K mg) : FnOk P w K mg base CX0 1 T.f__law_ksigns T.d__law_ksigns [] sp_ksigns := by
  refine T.F__law_ksigns.ok sc_law_ksigns (fun vs H Q E h => ?_) (fun cdv A outer s H vs Q E hr h => ?_)
  · obtain ⟨rfl, _⟩ := h
    rfl
  · obtain ⟨rfl, q⟩ := h
    refine ⟨_, (pss_one (ps_ret pe_str)), ?_⟩
    walk_at "u"
    exact q
/-! ### _law_same, of equal things -/
def sm : Nat → PyData → Prop
  | 0, _ => False
  | n + 1, .list l => l.length ≤ 1000 ∧ ∀ x ∈ l, sm n x
  | n + 1, .tuple l => l.length ≤ 1000 ∧ ∀ x ∈ l, sm n x
  | _, .dict _ => False
  | _, _ => True
def sp_same (n : Nat) : Sp := fun vs H Q _ => ∃ (G : Addr → Prop) (v u : V) (d : PyData), vs = [v, u] ∧ Rp G H v d ∧ Rp G H u d ∧ sm n d ∧ ∀ H', Same H H' → Q (.bl true) H'
theorem ok__law_same (T : Tx K mg) : ∀ n, FnOk P w K mg base CX0 n T.f__law_same T.d__law_same ["found", "due"] (sp_same n)
  | 0 => fn_none fun vs H Q E h => by
    obtain ⟨_, _, _, _, _, _, _, h, _⟩ := h
    exact h
  | n + 1 => by
    have G__law_same : FnOk P w K mg base CX0 n T.f__law_same T.d__law_same ["found", "due"] (sp_same n) := ok__law_same T n
    refine T.F__law_same.ok sc_law_same (fun vs H Q E h => ?_) (fun cdv A outer s H vs Q E hr h => ?_)
    · obtain ⟨G, v, u, d, rfl, _⟩ := h
      rfl
    · obtain ⟨G, v, u, d, rfl, rv, ru, hn, q⟩ := h
      refine ⟨_, (pss_cons (ps_if (pt_val (pe_callB call_isiT (by rfl) T.m_isinstance (by decide +kernel) (pa_cons (pv 1) (pa_cons (pe_tup (pa_cons (pe_bltn (v := .ty "list") (by rfl) T.m_list (by decide +kernel) rfl) (pa_cons (pe_bltn (v := .ty "tuple") (by rfl) T.m_tuple (by decide +kernel) rfl) pa_nil))) pa_nil))))
  (pss_cons (ps_if (PW.pt (pw_or (pt_cmpR op_ne (pe_callB call_isi (by rfl) T.m_isinstance (by decide +kernel) (pa_cons (pv 0) (pa_cons (pe_bltn (v := .ty "list") (by rfl) T.m_list (by decide +kernel) rfl) pa_nil))) (pe_callB call_isi (by rfl) T.m_isinstance (by decide +kernel) (pa_cons (pv 1) (pa_cons (pe_bltn (v := .ty "list") (by rfl) T.m_list (by decide +kernel) rfl) pa_nil))) (nomark _)) (pw_or1 (pt_cmpR op_ne (pe_callB call_isi (by rfl) T.m_isinstance (by decide +kernel) (pa_cons (pv 0) (pa_cons (pe_bltn (v := .ty "tuple") (by rfl) T.m_tuple (by decide +kernel) rfl) pa_nil))) (pe_callB call_isi (by rfl) T.m_isinstance (by decide +kernel) (pa_cons (pv 1) (pa_cons (pe_bltn (v := .ty "tuple") (by rfl) T.m_tuple (by decide +kernel) rfl) pa_nil))) (nomark _)))))
  (pss_one (ps_ret pe_bl)) pss_nil)
  (pss_one (ps_ret (pe_and (pe_cmpR op_eq (pe_callB call_len (by rfl) T.m_len (by decide +kernel) (pa_cons (pv 0) pa_nil)) (pe_callB call_len (by rfl) T.m_len (by decide +kernel) (pa_cons (pv 1) pa_nil)) (nomark _)) (pe_one (pe_callB (cr_all (by rfl)) (by rfl) T.m_all (by decide +kernel) (pa_cons (pe_lc (own := [("x", 2), ("y", 3)]) (g := gTup K 2 (gCons (gName 2) (gCons (gName 3) gNil))) (by rfl) sc_law_same.nd (pi_zipA (by rfl) T.m_zip (pa_cons (pv 0) (pa_cons (pv 1) pa_nil))) (blkOk_by (own := [("x", 2), ("y", 3)]) (N := N_law_same) (sc := defScope s_law_same) (by decide +kernel)) (fun _ _ _ _ _ => (by exact (pg_tup rfl (pgs_cons (pg_name (i := 2) sc_law_same.nd rfl (Or.inl rfl)) (pgs_cons (pg_name (i := 3) sc_law_same.nd rfl (Or.inl rfl)) pgs_nil))))) (fun _ _ _ _ _ => pts_nil) (fun _ _ _ _ _ => (pe_call G__law_same (hr.mono (Nat.le_refl _)) (by rfl) T.g__law_same T.F__law_same.kp T.b__law_same .nil pass0 (pa_cons (pv 2) (pa_cons (pv 3) pa_nil))))) pa_nil))))))) pss_nil)
  (pss_cons (ps_if (pt_val (pe_callB call_isi (by rfl) T.m_isinstance (by decide +kernel) (pa_cons (pv 1) (pa_cons (pe_bltn (v := .ty "dict") (by rfl) T.m_dict (by decide +kernel) rfl) pa_nil))))
  (pss_one ps_never) pss_nil)
  (pss_cons (ps_if (pt_val (pe_callB call_isi (by rfl) T.m_isinstance (by decide +kernel) (pa_cons (pv 1) (pa_cons (pe_bltn (v := .ty "int") (by rfl) T.m_int (by decide +kernel) rfl) pa_nil))))
  (pss_one (ps_ret (pe_and (pe_callB call_isi (by rfl) T.m_isinstance (by decide +kernel) (pa_cons (pv 0) (pa_cons (pe_bltn (v := .ty "int") (by rfl) T.m_int (by decide +kernel) rfl) pa_nil))) (pe_and (pe_cmpR op_eq (pe_callB call_isi (by rfl) T.m_isinstance (by decide +kernel) (pa_cons (pv 0) (pa_cons (pe_bltn (v := .ty "bool") (by rfl) T.m_bool (by decide +kernel) rfl) pa_nil))) (pe_callB call_isi (by rfl) T.m_isinstance (by decide +kernel) (pa_cons (pv 1) (pa_cons (pe_bltn (v := .ty "bool") (by rfl) T.m_bool (by decide +kernel) rfl) pa_nil))) (nomark _)) (pe_one (pe_cmpR op_eq (pv 0) (pv 1) (nomark _))))))) pss_nil)
  (pss_cons (ps_if (pt_cmpR op_isN (pv 1) pe_non (nomark _))
  (pss_one (ps_ret (pe_cmpR op_isN (pv 0) pe_non (nomark _)))) pss_nil)
  (pss_cons (ps_if (pt_val (pe_callB call_isi (by rfl) T.m_isinstance (by decide +kernel) (pa_cons (pv 1) (pa_cons (pe_bltn (v := .ty "str") (by rfl) T.m_str (by decide +kernel) rfl) pa_nil))))
  (pss_one (ps_ret (pe_and (pe_callB call_isi (by rfl) T.m_isinstance (by decide +kernel) (pa_cons (pv 0) (pa_cons (pe_bltn (v := .ty "str") (by rfl) T.m_str (by decide +kernel) rfl) pa_nil))) (pe_one (pe_cmpR op_eq (pv 0) (pv 1) (nomark _)))))) pss_nil)
  (pss_one ps_never)))))), ?_⟩
      have ins : ∀ {H1 : Hp} {x : V} {t : String} {Q : VK}, Same H H1 → Rp G H x d → t ∈ ["list", "tuple", "int", "bool", "str", "dict"] → Q (.bl (isA d t)) H1 → rIsi K [x, .ty t] H1 Q :=
        fun s r h q => isi (r.mono (Kp.of s)) h q
      dsimp only
      refine seqIf1 (isA d "list" || isA d "tuple") (fun R k => ?_) fun H1 s1 => ⟨fun hb => ?_, fun hb => ?_⟩
      · walk_at "e"
        exact ⟨by decide, fun p hp => isi2 (ru.mono (Kp.of (same_new hp))) upd_same ⟨_, rfl, k _ (same_new hp)⟩⟩
      · refine seqIf1 false (fun R k => ?_) fun H2 s2 => ⟨(fun e => by cases e), fun _ => ?_⟩
        · walk_at "e"
          refine ins s1 rv (by decide) (ins s1 ru (by decide) ⟨rfl, iteB (b := false) (by simp) (iteF (ins s1 rv (by decide) (ins s1 ru (by decide) ⟨rfl, ?_⟩)))⟩)
          have e : (!decide (V.bl (isA d "tuple") = V.bl (isA d "tuple"))) = false := by simp
          rw [e]
          exact k _ (L2.Same.refl _)
        · walk_at "u"
          have s02 := s1.trans s2
          obtain ⟨a, b, xs, ys, ds, bo, rfl, rfl, ha, hb', rx, ry, hlen, hds⟩ : ∃ a b xs ys ds bo, v = .ref a ∧ u = .ref b ∧ H a = some (rowO bo xs) ∧ H b = some (rowO bo ys) ∧ RpAll G H xs ds ∧ RpAll G H ys ds ∧ ds.length ≤ 1000 ∧ ∀ x ∈ ds, sm n x := by
            cases rv with
            | lst g1 h1 r1 =>
              cases ru with
              | lst g2 h2 r2 => exact ⟨_, _, _, _, _, false, rfl, rfl, h1, h2, r1, r2, hn.1, hn.2⟩
            | tup g1 h1 r1 =>
              cases ru with
              | tup g2 h2 r2 => exact ⟨_, _, _, _, _, true, rfl, rfl, h1, h2, r1, r2, hn.1, hn.2⟩
            | non => cases hb
            | bl _ => cases hb
            | int _ => cases hb
            | str _ => cases hb
            | dic _ _ => cases hb
          have lx := rx.length
          have ly := ry.length
          have ha2 := s02 _ _ ha
          have hb2 := s02 _ _ hb'
          refine ⟨_, len_row (rowAt_of ha2), _, len_row (rowAt_of hb2), rfl, ?_⟩
          have e : decide ((xs.length : Int) = (ys.length : Int)) = true := by
            rw [lx, ly]
            simp
          refine iteB e (iteT ?_)
          refine lc_zipA bo rfl rfl ha2 hb2 (by omega) (fun D k H' => Same H2 H' ∧ H' D = some (.lst ((List.replicate k true).map V.bl))) (fun D hD => ⟨same_new hD, upd_same⟩) (fun D k H' h => h.1) ?_ ?_
          · rintro D k x y H' T' hD hk ⟨s3, hl⟩ hx hy hT'
            refine g2 upd_same rfl ⟨rfl, ?_⟩
            dsimp only [tYes]
            refine iteT ?_
            obtain ⟨e, he, re⟩ := (rx.mono (Kp.of s02)).get hx
            obtain ⟨e', he', re'⟩ := (ry.mono (Kp.of s02)).get hy
            rw [he] at he'
            cases he'
            have s4 := Same.new (o := .tup [x, y]) s3 hT'
            walk_at "e"
            refine ⟨_, rfl, _, rfl, G, x, y, e, rfl, re.mono (Kp.of s4), re'.mono (Kp.of s4), hds e (List.mem_of_getElem? he), fun H5 s5 => ?_⟩
            refine ⟨_, s5 _ _ (same_new hT' _ _ hl), ?_, Same.own (s4.trans s5) hD, ?_⟩
            · rw [List.length_map, List.length_replicate]
              exact Nat.lt_of_lt_of_le (show k < 100000 by omega) (by decide)
            · rw [upd_same]
              show _ = some (HO.lst ((List.replicate (k + 1) true).map V.bl))
              rw [List.replicate_succ', List.map_append]
              rfl
          · rintro D H' hD ⟨s3, hl⟩
            refine ⟨D, _, rfl, SqL.of hl, ?_⟩
            have e : (List.replicate xs.length true).all id = true := by simp
            rw [e]
            exact q _ (s02.trans s3)
      · have nd : isA d "dict" = false := by
          cases d with
          | dict _ => exact hn.elim
          | _ => rfl
        refine seqIf1 false (fun R k => ?_) fun H2 s2 => ⟨(fun e => by cases e), fun _ => ?_⟩
        · walk_at "e"
          refine ins s1 ru (by decide) ⟨_, rfl, ?_⟩
          rw [nd]
          exact k _ (L2.Same.refl _)
        · have s02 := s1.trans s2
          refine seqIf1 (isA d "int") (fun R k => ?_) fun H3 s3 => ⟨fun hi => ?_, fun hi => ?_⟩
          · walk_at "e"
            exact ins s02 ru (by decide) ⟨_, rfl, k _ (L2.Same.refl _)⟩
          · walk_at "u"
            have s03 := s02.trans s3
            refine ins s03 rv (by decide) ⟨_, rfl, iteB hi (iteT (ins s03 rv (by decide) (ins s03 ru (by decide) ⟨rfl, iteB (b := true) (by simp) (iteT ?_)⟩)))⟩
            cases rv with
            | int i =>
              cases ru
              refine ⟨rfl, ?_⟩
              rw [decI, decide_eq_true rfl]
              exact q _ s03
            | bl b =>
              cases ru
              refine ⟨rfl, ?_⟩
              rw [decide_eq_true rfl]
              exact q _ s03
            | non => cases hi
            | str _ => cases hi
            | lst _ _ _ => cases hi
            | tup _ _ _ => cases hi
            | dic _ _ => cases hi
          · have s03 := s02.trans s3
            refine seqIf1 (isA d "NoneType") (fun R k => ?_) fun H4 s4 => ⟨fun hN => ?_, fun hN => ?_⟩
            · walk_at "e"
              have e : decide (u = V.non) = isA d "NoneType" := by
                cases ru <;> rfl
              rw [e]
              exact k _ (L2.Same.refl _)
            · walk_at "u"
              cases rv with
              | non => exact q _ (s03.trans s4)
              | int i => cases hN
              | bl b => cases hN
              | str _ => cases hN
              | lst _ _ _ => cases hN
              | tup _ _ _ => cases hN
              | dic _ _ => cases hN
            · have s04 := s03.trans s4
              refine seqIf1 (isA d "str") (fun R k => ?_) fun H5 s5 => ⟨fun hs => ?_, fun hs => ?_⟩
              · walk_at "e"
                exact ins s04 ru (by decide) ⟨_, rfl, k _ (L2.Same.refl _)⟩
              · walk_at "u"
                have s05 := s04.trans s5
                refine ins s05 rv (by decide) ⟨_, rfl, iteB hs (iteT ?_)⟩
                cases rv with
                | str x =>
                  cases ru
                  refine ⟨rfl, ?_⟩
                  rw [decide_eq_true rfl]
                  exact q _ s05
                | non => cases hs
                | int i => cases hs
                | bl b => cases hs
                | lst _ _ _ => cases hs
                | tup _ _ _ => cases hs
                | dic _ _ => cases hs
              · exfalso
                cases d with
                | none => cases hN
                | bool _ => cases hi
                | int _ => cases hi
                | str _ => cases hs
                | list _ => cases hb
                | tuple _ => cases hb
                | dict _ => exact hn
end
end K76
set_option Elab.async false
set_option linter.all false
set_option maxRecDepth 100000
set_option maxHeartbeats 4000000
namespace K76
open PySem PySem.Spec PyProof.Rows L2 TbA TbD TbL TL RZ
local macro_rules | `(tactic| walk_at "u") => `(tactic| simp only [tRet, tRetN, tSeq, tNext, tIfS, tAsg, tDrop, tAndV, tOrV, tNotV, tAnd, tOr, tNot, tB, tTest, tIf, tCB, tCons, tNil, tC, tVar, tOp, tUn, tChain, tCall, tM1, tTup, tLst, tSl, tPart, tNoPart, gName, gSub, gCons, gNil, gTup, tBreak, tCont, tNever,
  rI0, rI, rEq, rNe, cxOf, Cx.nox, Cx.wish, L2.start, List.map_cons, List.map_nil, List.length_cons, List.length_nil, List.cons_append, List.nil_append, List.replicate, List.getElem?_cons_zero, List.getElem?_cons_succ, Option.some.injEq, List.cons.injEq, and_true, true_and, V.int.injEq, V.bl.injEq, V.str.injEq, V.ref.injEq,
  exists_eq_left', exists_and_left, exists_eq_left, Nat.reduceSub, Nat.reduceAdd, List.set_cons_zero, List.set_cons_succ])
local macro_rules | `(tactic| walk_at "e") => `(tactic| simp only [tAndV, tOrV, tNotV, tAnd, tOr, tNot, tB, tTest, tIf, tCB, tCons, tNil, tC, tVar, tOp, tUn, tChain, tCall, tM1, tTup, tLst, tSl, tPart, tNoPart, gName, gSub, gCons, gNil, gTup, 
  rI0, rI, rEq, rNe, cxOf, Cx.nox, Cx.wish, L2.start, List.map_cons, List.map_nil, List.length_cons, List.length_nil, List.cons_append, List.nil_append, List.replicate, List.getElem?_cons_zero, List.getElem?_cons_succ, Option.some.injEq, List.cons.injEq, and_true, true_and, V.int.injEq, V.bl.injEq, V.str.injEq, V.ref.injEq,
  exists_eq_left', exists_and_left, exists_eq_left, Nat.reduceSub, Nat.reduceAdd, List.set_cons_zero, List.set_cons_succ])

section
variable {P : Program} {w : World} {K : PySem.W.Frag} {mg : Str → Option Value} {base : Heap}
/-! ### a row of either kind, gone through -/
def iRow (K : PySem.W.Frag) (tl : TE) : TI := fun σ H R => iList K tl σ H R ∨ iTup K tl σ H R
theorem pi_row {X : Cx} {tg l : Expr} {t : TE} (hl : PE X l t) : PI X tg l (iRow X.K t) :=
  ⟨fun pins s σ H R I h => h.elim (fun h => (pi_list hl).run pins s σ H R I h) fun h => (pi_tup hl).run pins s σ H R I h⟩
/-- a comprehension from its walk on -/
def Lc1 (g : TG) (tt : TT) (te : TE) (vs : List Nat) (σ : L2.St) (Q : VK) (J : It) (H1 : Hp) : Prop := tLc (fun _ H R => R J H) g tt te vs σ H1 Q
theorem lc_rng1 {ta : TA} {g : TG} {tt : TT} {te : TE} {vs : List Nat} {σ : L2.St} {H : Hp} {Q : VK}
    (h : ta σ H fun us H1 => ∃ j : Int, us = [.int j] ∧ -(2 ^ 62) ≤ j ∧ j < 2 ^ 62 ∧ Lc1 g tt te vs σ Q (Itr 0 j.toNat) H1) : tLc (iRng1 ta) g tt te vs σ H Q := h
theorem lc_lst {K : PySem.W.Frag} {tl : TE} {g : TG} {tt : TT} {te : TE} {vs : List Nat} {σ : L2.St} {H : Hp} {Q : VK}
    (h : tl σ H fun x H1 => ∃ a, x = .ref a ∧ (∃ xs, SqL K H1 a xs) ∧ Lc1 g tt te vs σ Q (Itl K a) H1) : tLc (iList K tl) g tt te vs σ H Q := h
theorem lc_row {K : PySem.W.Frag} {j : Nat} {g : TG} {tt : TT} {te : TE} {vs : List Nat} {σ : L2.St} {H : Hp} {Q : VK} {p : Addr} {xs : List V} (hv : σ[j]? = some (some (.ref p))) (hr : RowAt H p xs)
    (h : ∀ J G, Walk J xs.length G (YAt xs) → (∀ H', Kp (fun a => a = p) H H' → G H') → Lc1 g tt te vs σ Q J H) : tLc (iRow K (tVar j)) g tt te vs σ H Q := by
  rcases hr with e | e
  · exact .inl ⟨_, hv, p, rfl, ⟨xs, SqL.of e⟩, h (Itl K p) (fun H => SqL K H p xs) walk_list fun H' k => SqL.of (k _ _ rfl e)⟩
  · exact .inr ⟨_, hv, p, rfl, ⟨xs, SqT.of e⟩, h (Itt K p) (fun H => SqT K H p xs) walk_tup fun H' k => SqT.of (k _ _ rfl e)⟩
/-- the list at D has one more -/
def Add (D : Addr) (k : Nat) (Pv : Addr → Nat → List V → Hp → Prop) : VK := fun y H4 => ∃ acc, H4 D = some (.lst acc) ∧ acc.length < sizeLine ∧
  ∃ ys, ys.length = k + 1 ∧ upd H4 D (.lst (acc ++ [y])) D = some (.lst ys) ∧ Pv D (k + 1) ys (upd H4 D (.lst (acc ++ [y])))
theorem add_ok {D : Addr} {k : Nat} {Pv : Addr → Nat → List V → Hp → Prop} {y : V} {ys : List V} {H4 : Hp} (h : H4 D = some (.lst ys)) (hl : ys.length = k) (hk : k < 1000)
    (p : Pv D (k + 1) (ys ++ [y]) (upd H4 D (.lst (ys ++ [y])))) : Add D k Pv y H4 :=
  ⟨ys, h, Nat.lt_of_lt_of_le (show ys.length < 100000 by omega) (by decide), _, by rw [List.length_append, hl]; rfl, upd_same, p⟩
/-- no filter, one name; Pv by the turn, what was gathered and the heap -/
theorem lcN {J : It} {n : Nat} {G : Hp → Prop} {Y : Nat → Hp → V → Hp → Prop} (wk : Walk J n G Y) {i : Nat} {te : TE} {σ : L2.St} {H1 : Hp} {Q : VK}
    (Pv : Addr → Nat → List V → Hp → Prop) (h0 : ∀ D, H1 D = none → Pv D 0 [] (upd H1 D (.lst []))) (hG : ∀ D k ys H, H1 D = none → Pv D k ys H → G H)
    (hs : ∀ D k ys x H H', H1 D = none → k < n → ys.length = k → Pv D k ys H → H D = some (.lst ys) → Y k H x H' → te ((wipe σ [i]).set i (some x)) H' (Add D k Pv))
    (hd : ∀ D ys H, H1 D = none → ys.length = n → Pv D n ys H → H D = some (.lst ys) → Q (.ref D) H) : Lc1 (gName i) tYes te [i] σ Q J H1 := by
  intro D hD
  refine lc_it wk (fun k H => ∃ ys, ys.length = k ∧ H D = some (.lst ys) ∧ Pv D k ys H) ⟨[], rfl, upd_same, h0 D hD⟩ (fun k H _ ⟨ys, _, _, h⟩ => hG D k ys H hD h) ?_ (fun H ⟨ys, h1, h2, h3⟩ => hd D ys H hD h1 h3 h2)
  rintro k x H H' hk ⟨ys, hl, h1, h2⟩ hy
  refine ⟨wipe_put, ?_⟩
  dsimp only [tYes]
  refine iteT ?_
  exact hs D k ys x H H' hD hk hl h2 h1 hy
/-! ### the spring's two objects -/
def Gs (sa ca : Addr) : Addr → Prop := fun a => a ≠ sa ∧ a ≠ ca
theorem Strm.at_none {H : Hp} {sa ca a : Addr} {n : Nat} (h : Strm H sa ca n) (e : H a = none) : Gs sa ca a := by
  obtain ⟨⟨ns, b, c, d, h1, h2, _⟩, _⟩ := h
  exact ⟨Ne.symm (ne_of_none h1 e), Ne.symm (ne_of_none h2 e)⟩
theorem gs_s {sa ca : Addr} : ¬ Gs sa ca sa := fun h => h.1 rfl
theorem gs_c {sa ca : Addr} : ¬ Gs sa ca ca := fun h => h.2 rfl
theorem fresh {H H' : Hp} {sa ca a : Addr} {n : Nat} (k : Kp (Gs sa ca) H H') (h : Strm H' sa ca n) (e : H' a = none) : H a = none := by
  cases q : H a with
  | none => rfl
  | some o =>
    rw [k a o (h.at_none e) q] at e
    cases e
mutual
theorem stand {G : Addr → Prop} {H : Hp} : ∀ {v : V} {d : PyData}, Rp G H v d → Rp (fun a => G a ∧ H a ≠ none) H v d
  | _, _, .non => .non
  | _, _, .bl b => .bl b
  | _, _, .int i => .int i
  | _, _, .str x => .str x
  | _, _, .lst g h r => .lst ⟨g, by rw [h]; exact fun e => by cases e⟩ h (standAll r)
  | _, _, .tup g h r => .tup ⟨g, by rw [h]; exact fun e => by cases e⟩ h (standAll r)
  | _, _, .dic g h => .dic ⟨g, by rw [h]; exact fun e => by cases e⟩ h
theorem standAll {G : Addr → Prop} {H : Hp} : ∀ {vs : List V} {ds : List PyData}, RpAll G H vs ds → RpAll (fun a => G a ∧ H a ≠ none) H vs ds
  | _, _, .nil => .nil
  | _, _, .cons r t => .cons (stand r) (standAll t)
end
theorem below_ok {H : Hp} {sa ca : Addr} {n : Nat} {m : Int} {Q : VK} {E : XK} (h : Strm H sa ca n) (hm : 0 < m) (hm2 : m < 1000000) (hn : n ≤ 1000000000)
    (q : ∀ H' r, Kp (Gs sa ca) H H' → 0 ≤ r → r < m → Strm H' sa ca (n + 1) → Q (.int r) H') : sp_below [.ref sa, .int m] H Q E :=
  ⟨sa, ca, m, n, Gs sa ca, rfl, hm, hm2, hn, h, fun _ e => h.at_none e, gs_s, gs_c, q⟩
theorem Strm.own {H : Hp} {sa ca a : Addr} {n : Nat} {o : HO} (h : Strm H sa ca n) (e : Gs sa ca a) : Strm (upd H a o) sa ca n := by
  obtain ⟨⟨ns, b, c, d, h1, h2, r⟩, h7⟩ := h
  exact ⟨⟨ns, b, c, d, by rw [upd_ne (Ne.symm e.1)]; exact h1, by rw [upd_ne (Ne.symm e.2)]; exact h2, r⟩, h7⟩
/-! ### _law_loose -/
def lz : Nat → Nat → PyData → Prop
  | 0, _, _ => False
  | n + 1, b, d => match row? d with
    | none => isA d "dict" = false
    | some ds => ds.length ≤ 1000 ∧ ∃ b', ds.length * b' + 1 ≤ b ∧ ∀ x ∈ ds, lz n b' x
def lo : Nat → PyData → PyData → Prop
  | 0, _, _ => False
  | n + 1, d, d' => match row? d with
    | none => d' = d
    | some ds => ∃ ds', row? d' = some ds' ∧ ds'.length = ds.length ∧ ∀ (i : Nat) (x : PyData), ds[i]? = some x → ∃ y, ds'[i]? = some y ∧ lo n x y
def sp_loose (n : Nat) : Sp := fun vs H Q _ => ∃ (sa ca : Addr) (v : V) (d : PyData) (m b : Nat) (G : Addr → Prop), vs = [.ref sa, v] ∧ lz n b d ∧ Rp G H v d ∧ m + b ≤ 1000000000 ∧ Strm H sa ca m ∧
  (∀ a, H a = none → G a) ∧ ¬ G sa ∧ ¬ G ca ∧ ∀ H' v' d', Kp (Gs sa ca) H H' → Strm H' sa ca (m + b) → lo n d d' → Rp G H' v' d' → Q v' H'
theorem lo_leaf {n : Nat} {d : PyData} (h : row? d = none) : lo (n + 1) d d := by
  unfold lo
  rw [h]
theorem lo_row {n : Nat} {d d' : PyData} {ds ds' : List PyData} (h : row? d = some ds) (h' : row? d' = some ds') (hl : ds'.length = ds.length)
    (q : ∀ (i : Nat) (x : PyData), ds[i]? = some x → ∃ y, ds'[i]? = some y ∧ lo n x y) : lo (n + 1) d d' := by
  unfold lo
  rw [h]
  exact ⟨ds', h', hl, q⟩
theorem lz_row {n b : Nat} {d : PyData} {ds : List PyData} (h : row? d = some ds) (z : lz (n + 1) b d) : ds.length ≤ 1000 ∧ ∃ b', ds.length * b' + 1 ≤ b ∧ ∀ x ∈ ds, lz n b' x := by
  unfold lz at z
  rw [h] at z
  exact z
theorem row_g {G : Addr → Prop} {H : Hp} {p : Addr} {d : PyData} {ds : List PyData} (h : row? d = some ds) (r : Rp G H (.ref p) d) : G p := by
  cases r with
  | lst g _ _ => exact g
  | tup g _ _ => exact g
  | dic g _ => exact g
def LoI (G : Addr → Prop) (H2 : Hp) (sa ca : Addr) (m b' n : Nat) (ds : List PyData) (D : Addr) (k : Nat) (ys : List V) (H' : Hp) : Prop := ∃ ds', Kp (Gs sa ca) H2 H' ∧ Strm H' sa ca (m + k * b') ∧ RpAll (fun a => G a ∧ a ≠ D) H' ys ds' ∧
  ∀ (i : Nat) (x : PyData), i < k → ds[i]? = some x → ∃ y, ds'[i]? = some y ∧ lo n x y
theorem ok__law_loose (T : Tx K mg) : ∀ n, FnOk P w K mg base CX0 (n + 1) T.f__law_loose T.d__law_loose ["stream", "thing"] (sp_loose n)
  | 0 => fn_none fun vs H Q E h => by
    obtain ⟨_, _, _, _, _, _, _, _, h, _⟩ := h
    exact h
  | n + 1 => by
    have G__law_below : FnOk P w K mg base CX0 1 T.f__law_below T.d__law_below ["stream", "many"] sp_below := ok__law_below T
    have G__law_loose : FnOk P w K mg base CX0 (n + 1) T.f__law_loose T.d__law_loose ["stream", "thing"] (sp_loose n) := ok__law_loose T n
    refine T.F__law_loose.ok sc_law_loose (fun vs H Q E h => ?_) (fun cdv A outer s H vs Q E hr h => ?_)
    · obtain ⟨sa, ca, v, d, m, b, G, rfl, _⟩ := h
      rfl
    · obtain ⟨sa, ca, v, d, m, b, G, rfl, hz, rv, hb, hs, hG, gs, gc, q⟩ := h
      refine ⟨_, (pss_cons (ps_if (pt_val (pe_callB call_isi (by rfl) T.m_isinstance (by decide +kernel) (pa_cons (pv 1) (pa_cons (pe_bltn (v := .ty "dict") (by rfl) T.m_dict (by decide +kernel) rfl) pa_nil))))
  (pss_one ps_never) pss_nil)
  (pss_cons (ps_if (pt_not (pt_val (pe_callB call_isiT (by rfl) T.m_isinstance (by decide +kernel) (pa_cons (pv 1) (pa_cons (pe_tup (pa_cons (pe_bltn (v := .ty "list") (by rfl) T.m_list (by decide +kernel) rfl) (pa_cons (pe_bltn (v := .ty "tuple") (by rfl) T.m_tuple (by decide +kernel) rfl) pa_nil))) pa_nil)))))
  (pss_one (ps_ret (pv 1))) pss_nil)
  (pss_cons (ps_setLc (i := 2) (own := [("part", 3)]) (g := gName 3) (by rfl) sc_law_loose.nd rfl rfl (sw_true rfl rfl rfl (by decide +kernel)) (pi_row (pv 1)) (blkOk_by (own := [("part", 3)]) (N := N_law_loose) (sc := defScope s_law_loose) (by decide +kernel)) (fun _ _ _ _ _ => (pg_name (i := 3) sc_law_loose.nd rfl (Or.inl rfl))) (fun _ _ _ _ _ => pts_nil) (fun _ _ _ _ _ => (pe_call G__law_loose (hr.mono (by omega)) (by rfl) T.g__law_loose T.F__law_loose.kp T.b__law_loose .nil pass0 (pa_cons (pv 0) (pa_cons (pv 3) pa_nil)))))
  (pss_one (ps_ret (pe_ifExp (pt_cmpR op_eq (pe_call G__law_below (hr.mono (by omega)) (by rfl) T.g__law_below T.F__law_below.kp T.b__law_below .nil pass0 (pa_cons (pv 0) (pa_cons pe_int pa_nil))) pe_int (nomark _)) (pv 2) (pe_callTy call_tuple_of (by rfl) T.m_tuple (by decide +kernel) (pa_cons (pv 2) pa_nil)))))))), ?_⟩
      dsimp only
      have nd : isA d "dict" = false := by
        cases d with
        | dict _ => exact hz
        | _ => rfl
      refine seqIf1 false (fun R k => ?_) fun H1 s1 => ⟨(fun e => by cases e), fun _ => ?_⟩
      · walk_at "e"
        refine isi rv (by decide) ⟨_, rfl, ?_⟩
        rw [nd]
        exact k _ (L2.Same.refl _)
      · refine seqIf1 (!isRow d) (fun R k => ?_) fun H2 s2 => ⟨fun hb => ?_, fun hb => ?_⟩
        · walk_at "e"
          refine ⟨by decide, fun p hp => isi2 (rv.mono (Kp.of (Same.new s1 hp))) upd_same ⟨_, rfl, k _ (same_new hp)⟩⟩
        · walk_at "u"
          have s02 := s1.trans s2
          have hN : row? d = none := by
            rcases row_cases rv with ⟨e, _⟩ | ⟨_, _, _, _, _, _, _, e⟩
            · exact e
            · rw [e] at hb
              cases hb
          exact q _ v d (Kp.of s02) ((hs.keep s02).mono (Nat.le_add_right _ _)) (lo_leaf hN) (rv.mono (Kp.of s02))
        · have s02 := s1.trans s2
          rcases row_cases rv with ⟨_, e⟩ | ⟨p, xs, ds, rfl, ha, ra, e1, _⟩
          · rw [e] at hb
            cases hb
          · obtain ⟨hlen, b', hb', hz'⟩ := lz_row e1 hz
            have hs2 := hs.keep s02
            have hlx : xs.length = ds.length := ra.length
            refine seqAsg ?_
            have gp : G p := row_g e1 rv
            have psa : Gs sa ca p := ⟨fun e => gs (by rw [← e]; exact gp), fun e => gc (by rw [← e]; exact gp)⟩
            refine lc_row (p := p) (xs := xs) rfl (ha.mono s02) fun J Gw wk hw => lcN wk (LoI G H2 sa ca m b' n ds) ?_ ?_ ?_ ?_
            · intro D hD
              exact ⟨[], Kp.of (same_new hD), (hs2.keep (same_new hD)).mono (Nat.le_add_right _ _), .nil, fun i x h => absurd h (Nat.not_lt_zero _)⟩
            · rintro D k ys H' hD ⟨ds', h1, _⟩
              refine hw H' fun a o e h => ?_
              subst e
              exact h1 _ _ psa h
            · rintro D k ys x H' H'' hD hk hl ⟨ds', h1, h2, h3, h4⟩ hDl ⟨rfl, hx⟩
              obtain ⟨dx, hd, rx⟩ := ra.get hx
              have mx := List.mem_of_getElem? hd
              have le : (k + 1) * b' ≤ ds.length * b' := Nat.mul_le_mul_right _ (by omega)
              rw [Nat.succ_mul] at le
              have dg : Gs sa ca D := (hs2.at_none hD)
              have hD0 : H D = none := L2.Same.free s02 hD
              have k0 : Kp (Gs sa ca) H H'' := Kp.trans (Kp.of s02) h1
              have rx2 : Rp (fun a => G a ∧ a ≠ D) H'' x dx := by
                refine ((stand rx).mono (H' := H'') fun a o g h => ?_).wide fun a g => ⟨g.1, fun e => g.2 (by rw [e]; exact hD0)⟩
                refine k0 a o ⟨fun e => gs (by rw [← e]; exact g.1), fun e => gc (by rw [← e]; exact g.1)⟩ h
              walk_at "e"
              refine ⟨_, rfl, _, rfl, sa, ca, x, dx, m + k * b', b', fun a => G a ∧ a ≠ D, rfl, hz' dx mx, rx2, by omega, h2, fun a e => ?_, fun h => gs h.1, fun h => gc h.1, fun H5 v' d' k5 s5 l5 r5 => ?_⟩
              · refine ⟨hG a (fresh k0 h2 e), fun e' => ?_⟩
                rw [e', hDl] at e
                cases e
              · refine add_ok (k5 _ _ dg hDl) hl (by omega) ⟨ds' ++ [d'], ?_, ?_, ?_, ?_⟩
                · exact Kp.own (Kp.trans h1 k5) hD
                · have e : (k + 1) * b' = k * b' + b' := Nat.succ_mul _ _
                  rw [e, ← Nat.add_assoc]
                  exact s5.own dg
                · refine (RpAll.append (h3.mono fun a o g h => k5 a o ⟨fun e => gs (by rw [← e]; exact g.1), fun e => gc (by rw [← e]; exact g.1)⟩ h) (.cons r5 .nil)).mono (Kp.out (Kp.refl _ _) fun g => g.2 rfl)
                · intro i z hi hz
                  have l3 := h3.length
                  by_cases c : i < k
                  · obtain ⟨y, q1, q2⟩ := h4 i z c hz
                    exact ⟨y, by rw [List.getElem?_append_left (by omega)]; exact q1, q2⟩
                  · have e : i = k := by omega
                    subst e
                    rw [hd] at hz
                    cases hz
                    refine ⟨d', ?_, l5⟩
                    rw [← hl, l3, List.getElem?_append_right (Nat.le_refl _), Nat.sub_self]
                    rfl
            · rintro D ys H' hD hl ⟨ds', h1, h2, h3, h4⟩ hDl
              have dg : Gs sa ca D := (hs2.at_none hD)
              have hD0 : H D = none := L2.Same.free s02 hD
              have l3 := h3.length
              have le : xs.length * b' = ds.length * b' := by rw [hlx]
              have k0 : Kp (Gs sa ca) H H' := Kp.trans (Kp.of s02) h1
              walk_at "u"
              refine below_ok h2 (by decide) (by decide) (by omega) fun H5 r k5 _ _ s5 => ⟨rfl, ?_⟩
              have kG : Kp G H' H5 := fun a o g h => k5 a o ⟨fun e => gs (by rw [← e]; exact g), fun e => gc (by rw [← e]; exact g)⟩ h
              have s6 : Strm H5 sa ca (m + b) := s5.mono (by omega)
              have rr := (h3.wide (G' := G) fun a g => g.1).mono kG
              have hl2 : ds'.length = ds.length := by omega
              have q4 : ∀ (i : Nat) (x : PyData), ds[i]? = some x → ∃ y, ds'[i]? = some y ∧ lo n x y := fun i x h => h4 i x (by
                have := (List.getElem?_eq_some_iff.mp h).1
                omega) h
              have hD5 := k5 _ _ dg hDl
              cases c : decide (V.int r = V.int 0) with
              | true => exact iteT (q _ _ (.list ds') (Kp.trans k0 k5) s6 (lo_row e1 rfl hl2 q4) (.lst (hG _ hD0) hD5 rr))
              | false =>
                refine iteF ⟨ys, .inl ⟨SqL.of hD5, fun l hl => ?_⟩⟩
                have l0 : H l = none := fresh (Kp.trans k0 k5) s5 hl
                exact q _ _ (.tuple ds') (Kp.own (Kp.trans k0 k5) l0) (s6.keep (same_new hl)) (lo_row e1 rfl hl2 q4) (.tup (hG _ l0) upd_same (rr.mono (Kp.of (same_new hl))))
end
end K76
set_option Elab.async false
set_option linter.all false
set_option maxRecDepth 100000
set_option maxHeartbeats 4000000
namespace K76
open PySem PySem.Spec PyProof.Rows L2 TbA TbD TbL TL RZ
local macro_rules | `(tactic| walk_at "u") => `(tactic| simp only [tRet, tRetN, tSeq, tNext, tIfS, tAsg, tDrop, tAndV, tOrV, tNotV, tAnd, tOr, tNot, tB, tTest, tIf, tCB, tCons, tNil, tC, tVar, tOp, tUn, tChain, tCall, tM1, tTup, tLst, tSl, tPart, tNoPart, gName, gSub, gCons, gNil, gTup, tBreak, tCont, tNever,
  rI0, rI, rEq, rNe, cxOf, Cx.nox, Cx.wish, L2.start, List.map_cons, List.map_nil, List.length_cons, List.length_nil, List.cons_append, List.nil_append, List.replicate, List.getElem?_cons_zero, List.getElem?_cons_succ, Option.some.injEq, List.cons.injEq, and_true, true_and, V.int.injEq, V.bl.injEq, V.str.injEq, V.ref.injEq,
  exists_eq_left', exists_and_left, exists_eq_left, Nat.reduceSub, Nat.reduceAdd, List.set_cons_zero, List.set_cons_succ])
local macro_rules | `(tactic| walk_at "e") => `(tactic| simp only [tAndV, tOrV, tNotV, tAnd, tOr, tNot, tB, tTest, tIf, tCB, tCons, tNil, tC, tVar, tOp, tUn, tChain, tCall, tM1, tTup, tLst, tSl, tPart, tNoPart, gName, gSub, gCons, gNil, gTup, 
  rI0, rI, rEq, rNe, cxOf, Cx.nox, Cx.wish, L2.start, List.map_cons, List.map_nil, List.length_cons, List.length_nil, List.cons_append, List.nil_append, List.replicate, List.getElem?_cons_zero, List.getElem?_cons_succ, Option.some.injEq, List.cons.injEq, and_true, true_and, V.int.injEq, V.bl.injEq, V.str.injEq, V.ref.injEq,
  exists_eq_left', exists_and_left, exists_eq_left, Nat.reduceSub, Nat.reduceAdd, List.set_cons_zero, List.set_cons_succ])

section
variable {P : Program} {w : World} {K : PySem.W.Frag} {mg : Str → Option Value} {base : Heap}
theorem chance_ok {H : Hp} {sa ca : Addr} {n : Nat} {m : Int} {Q : VK} {E : XK} (h : Strm H sa ca n) (hm : 0 < m) (hm2 : m < 1000000) (hn : n ≤ 1000000000)
    (q : ∀ H' b, Kp (Gs sa ca) H H' → Strm H' sa ca (n + 1) → Q (.bl b) H') : sp_chance [.ref sa, .int m] H Q E :=
  ⟨sa, ca, m, n, Gs sa ca, rfl, hm, hm2, hn, h, fun _ e => h.at_none e, gs_s, gs_c, q⟩
theorem pick_ok {H : Hp} {sa ca p : Addr} {n : Nat} {xs : List V} {Q : VK} {E : XK} (h : Strm H sa ca n) (hp : H p = some (.lst xs)) (gp : Gs sa ca p) (hne : xs ≠ []) (hl : xs.length < 1000000) (hn : n ≤ 1000000000)
    (q : ∀ H' (i : Nat) v, Kp (Gs sa ca) H H' → xs[i]? = some v → Strm H' sa ca (n + 1) → Q v H') : sp_pick [.ref sa, .ref p] H Q E :=
  ⟨sa, ca, p, xs, n, Gs sa ca, rfl, hp, gp, hne, hl, hn, h, fun _ e => h.at_none e, gs_s, gs_c, q⟩
theorem sg_len : (tl SG).length = 51 := by decide +kernel
theorem flat1 : ∀ cs : List Nat, (cs.map fun c => [c]).flatten = cs
  | [] => rfl
  | c :: cs => by simp [flat1 cs]
theorem sum1 : ∀ cs : List Nat, ((cs.map fun c => S [c]).map (·.length)).sum = cs.length
  | [] => rfl
  | c :: cs => by
    have h := sum1 cs
    have e : (S [c]).length = 1 := rfl
    simp only [List.map_cons, List.sum_cons, List.length_cons, h, e]
    omega
/-! ### _law_xtext -/
def Xt (l : List Nat) : Prop := l.length ≤ 9 ∧ ∀ c ∈ l, c ∈ tl SG
def sp_xtext : Sp := fun vs H Q _ => ∃ (sa ca : Addr) (n : Nat), vs = [.ref sa, .str SG, .int 9] ∧ n ≤ 900000000 ∧ Strm H sa ca n ∧
  ∀ H' l, Kp (Gs sa ca) H H' → Strm H' sa ca (n + 10) → Xt l → Q (.str (S l)) H'
def XtI (H : Hp) (sa ca : Addr) (n : Nat) (D : Addr) (k : Nat) (ys : List V) (H' : Hp) : Prop := ∃ cs : List Nat, ys = cs.map sg ∧ (∀ c ∈ cs, c ∈ tl SG) ∧ Kp (Gs sa ca) H H' ∧ Strm H' sa ca (n + k)
theorem ok__law_xtext (T : Tx K mg) : FnOk P w K mg base CX0 3 T.f__law_xtext T.d__law_xtext ["stream", "signs", "most"] sp_xtext := by
  have G__law_below : FnOk P w K mg base CX0 1 T.f__law_below T.d__law_below ["stream", "many"] sp_below := ok__law_below T
  have G__law_pick : FnOk P w K mg base CX0 2 T.f__law_pick T.d__law_pick ["stream", "some"] sp_pick := ok__law_pick T
  refine T.F__law_xtext.ok sc_law_xtext (fun vs H Q E h => ?_) (fun cdv A outer s H vs Q E hr h => ?_)
  · obtain ⟨sa, ca, n, rfl, _⟩ := h
    rfl
  · obtain ⟨sa, ca, n, rfl, hn, hs, q⟩ := h
    refine ⟨_, (pss_one (ps_ret (pe_join pe_str (pe_lc (own := [("k", 3)]) (g := gName 3) (by rfl) sc_law_xtext.nd (pi_range1 (by rfl) T.m_range (pa_cons (pe_call G__law_below (hr.mono (by decide)) (by rfl) T.g__law_below T.F__law_below.kp T.b__law_below .nil pass0 (pa_cons (pv 0) (pa_cons (pe_op op_add (pv 2) pe_int) pa_nil))) pa_nil)) (blkOk_by (own := [("k", 3)]) (N := N_law_xtext) (sc := defScope s_law_xtext) (by decide +kernel)) (fun _ _ _ _ _ => (pg_name (i := 3) sc_law_xtext.nd rfl (Or.inl rfl))) (fun _ _ _ _ _ => pts_nil) (fun _ _ _ _ _ => (pe_call G__law_pick (hr.mono (by decide)) (by rfl) T.g__law_pick T.F__law_pick.kp T.b__law_pick .nil pass0 (pa_cons (pv 0) (pa_cons (pe_callTy (call_list_s (by rfl)) (by rfl) T.m_list (by decide +kernel) (pa_cons (pv 1) pa_nil)) pa_nil)))))))), ?_⟩
    walk_at "u"
    refine ⟨⟨_, rfl⟩, lc_rng1 ?_⟩
    walk_at "e"
    refine below_ok hs (by decide) (by decide) (by omega) fun H1 r k1 h0 h1 s1 => ⟨r, rfl, by omega, by omega, ?_⟩
    refine lcN walk_range (XtI H1 sa ca (n + 1)) (fun D hD => ⟨[], rfl, (fun c h => by cases h), Kp.of (same_new hD), s1.own (s1.at_none hD)⟩) (fun D k ys H' hD h => trivial) ?_ ?_
    · rintro D k ys x H2 H3 hD hk hl ⟨cs, e1, e2, k2, s2⟩ hDl ⟨rfl, rfl⟩
      refine ⟨_, rfl, _, rfl, SG, rfl, by decide +kernel, fun p hp => ?_⟩
      have dg : Gs sa ca D := (s1.at_none hD)
      have s3 := s2.own (o := .lst (sgs SG)) (s2.at_none hp)
      refine pick_ok (E := E0) s3 upd_same (s2.at_none hp) ?_ ?_ (by omega) fun H4 i v k4 hv s4 => ?_
      · intro e
        have e2 := congrArg List.length e
        rw [sgs_length] at e2
        revert e2
        decide +kernel
      · rw [sgs_length]
        decide +kernel
      · obtain ⟨c, hc, rfl⟩ : ∃ c, c ∈ tl SG ∧ v = sg c := by
          obtain ⟨c, h1, h2⟩ := List.mem_map.mp (List.mem_of_getElem? hv)
          exact ⟨c, h1, h2.symm⟩
        have k3 : Kp (Gs sa ca) H1 H4 := Kp.trans (Kp.trans k2 (Kp.of (same_new hp))) k4
        refine add_ok (k4 _ _ dg (same_new hp _ _ hDl)) hl (by omega) ⟨cs ++ [c], ?_, ?_, Kp.own k3 hD, ?_⟩
        · rw [e1, List.map_append]
          rfl
        · intro z hz
          rcases List.mem_append.mp hz with h | h
          · exact e2 z h
          · cases List.mem_singleton.mp h
            exact hc
        · exact s4.own dg
    · rintro D ys H2 hD hl ⟨cs, rfl, e2, k2, s2⟩ hDl
      have hl' : cs.length = r.toNat := by rw [List.length_map] at hl; exact hl
      refine ⟨D, rfl, cs.map fun c => S [c], .inl (SqL.of (by rw [hDl, List.map_map]; rfl)), ?_, ?_⟩
      · have z : (Str.ofString "").length = 0 := by decide +kernel
        rw [z, List.length_map, sum1]
        omega
      · rw [join0, List.map_map]
        have e : (cs.map (tl ∘ fun c => S [c])).flatten = cs := flat1 cs
        rw [e]
        exact q _ _ (Kp.trans k1 k2) (s2.mono (by omega)) ⟨by omega, e2⟩
end
end K76
set_option Elab.async false
set_option linter.all false
set_option maxRecDepth 100000
set_option maxHeartbeats 4000000
namespace K76
open PySem PySem.Spec PyProof.Rows L2 TbA TbD TbL TL RZ
/-! ### edits, in plain lists -/
def edD : Ed → PyData
  | .out i => .tuple [.str "out", .int (i : Nat)]
  | .ins i c => .tuple [.str "in", .int (i : Nat), .str ⟨#[c]⟩]
  | .sub i c => .tuple [.str "for", .int (i : Nat), .str ⟨#[c]⟩]
def okE (t : List Nat) : Ed → Prop
  | .out i => i < t.length
  | .ins i c => i ≤ t.length ∧ c ∈ tl SG
  | .sub i c => i < t.length ∧ c ∈ tl SG ∧ t[i]? ≠ some c
def Vo (t : List Nat) : Nat → List Ed → Prop
  | _, [] => True
  | a, e :: es => a ≤ e.at ∧ okE t e ∧ Vo t e.next es
/-- forward -/
def fw (t : List Nat) : Nat → List Ed → List Nat
  | a, [] => t.drop a
  | a, e :: es => (t.drop a).take (e.at - a) ++ e.put ++ fw t e.next es
def endp : Nat → List Ed → Nat
  | a, [] => a
  | _, e :: es => endp e.next es
theorem okE_at {t : List Nat} {e : Ed} (h : okE t e) : e.at ≤ t.length ∧ e.next ≤ t.length ∧ e.at ≤ e.next := by
  cases e with
  | out i => exact ⟨Nat.le_of_lt h, h, Nat.le_succ _⟩
  | ins i c => exact ⟨h.1, h.1, Nat.le_refl _⟩
  | sub i c => exact ⟨Nat.le_of_lt h.1, h.1, Nat.le_succ _⟩
theorem Vo_app (t : List Nat) : ∀ (es fs : List Ed) (a : Nat), Vo t a es → Vo t (endp a es) fs → Vo t a (es ++ fs)
  | [], _, _, _, h => h
  | e :: es, fs, a, ⟨h1, h2, h3⟩, h => ⟨h1, h2, Vo_app t es fs e.next h3 h⟩
theorem endp_app : ∀ (es fs : List Ed) (a : Nat), endp a (es ++ fs) = endp (endp a es) fs
  | [], _, _ => rfl
  | e :: es, fs, a => endp_app es fs e.next
/-- the first that may not stand there -/
def wrongO : Nat → Nat → List (Option Ed) → Option Nat
  | _, _, [] => none
  | _, k, none :: _ => some k
  | a, k, some e :: l => if a ≤ e.at then wrongO e.next (k + 1) l else some k
theorem follows_at (l e : Ed) : follows (some l) e = decide (l.next ≤ e.at) := by
  show (decide (l.at < e.at) || (decide (e.at = l.at) && l.isIns)) = _
  generalize e.at = n
  have any : ∀ i : Nat, (decide (i < n) || (decide (n = i) && false)) = decide (i + 1 ≤ n) := fun i => by
    rw [Bool.and_false, Bool.or_false]
    rfl
  cases l with
  | out i => exact any i
  | sub i c => exact any i
  | ins i c =>
    show (decide (i < n) || (decide (n = i) && true)) = decide (i ≤ n)
    rw [Bool.and_true]
    by_cases h1 : i < n
    · simp [h1, Nat.le_of_lt h1]
    · by_cases h2 : n = i
      · simp [h2]
      · have h3 : ¬ i ≤ n := by omega
        simp [h1, h2, h3]
def lastAt : Option Ed → Nat
  | none => 0
  | some e => e.next
theorem follows_la (o : Option Ed) (e : Ed) : follows o e = decide (lastAt o ≤ e.at) := by
  cases o with
  | none => simp [follows, lastAt]
  | some l => exact follows_at l e
theorem run_of (t : Str) : ∀ (ds : List PyData) (o : Option Ed) (acc : List Nat) (k : Nat), run t o (lastAt o) acc ds k = match wrongO (lastAt o) k (ds.map (edIn t)) with
    | some j => .inl j
    | none => .inr (acc ++ fw (tl t) (lastAt o) (ds.filterMap (edIn t)))
  | [], _, _, _ => rfl
  | d :: ds, o, acc, k => by
    unfold run
    cases h : edIn t d with
    | none => simp [h, wrongO]
    | some e =>
      simp only [List.map_cons, h, wrongO, List.filterMap_cons]
      rw [follows_la]
      by_cases c : lastAt o ≤ e.at
      · rw [if_pos (decide_eq_true c), if_pos c]
        have q := run_of t ds (some e) (acc ++ ((tl t).drop (lastAt o)).take (e.at - lastAt o) ++ e.put) (k + 1)
        rw [show e.next = lastAt (some e) from rfl, q]
        cases wrongO (lastAt (some e)) (k + 1) (ds.map (edIn t)) with
        | some j => rfl
        | none =>
          show Sum.inr _ = Sum.inr _
          simp only [fw, List.append_assoc]
          rfl
      · rw [if_neg (by simpa using c), if_neg c]
theorem Vo_wrong {t : List Nat} : ∀ (es : List Ed) (a k : Nat), Vo t a es → wrongO a k (es.map some) = none
  | [], _, _, _ => rfl
  | e :: es, a, k, ⟨h1, _, h3⟩ => by
    show (if a ≤ e.at then wrongO e.next (k + 1) (es.map some) else some k) = none
    rw [if_pos h1]
    exact Vo_wrong es e.next (k + 1) h3
/-! backwards, one edit on the whole text -/
def app1 (e : Ed) (l : List Nat) : List Nat := l.take e.at ++ e.put ++ l.drop e.next
theorem done_fw {t : List Nat} : ∀ (es : List Ed) (a : Nat), a ≤ t.length → Vo t a es → es.foldr app1 t = t.take a ++ fw t a es
  | [], a, _, _ => by simp [fw]
  | e :: es, a, ha, ⟨h1, h2, h3⟩ => by
    obtain ⟨l1, l2, l3⟩ := okE_at h2
    have ih := done_fw es e.next l2 h3
    rw [List.foldr_cons, ih]
    unfold app1
    have e1 : (t.take e.next ++ fw t e.next es).take e.at = t.take e.at := by
      rw [List.take_append_of_le_length (by rw [List.length_take]; omega), List.take_take]
      congr 1
      omega
    have e2 : (t.take e.next ++ fw t e.next es).drop e.next = fw t e.next es := by
      rw [List.drop_append_of_le_length (by rw [List.length_take]; omega), List.drop_of_length_le (by rw [List.length_take]; omega)]
      rfl
    rw [e1, e2]
    show _ = t.take a ++ ((t.drop a).take (e.at - a) ++ e.put ++ fw t e.next es)
    have e3 : t.take e.at = t.take a ++ (t.drop a).take (e.at - a) := by
      rw [← List.take_add]
      congr 1
      omega
    rw [e3]
    simp only [List.append_assoc]
/-! lengths and signs -/
def nI (es : List Ed) : Nat := (es.filter Ed.isIns).length
def nO (es : List Ed) : Nat := (es.filter Ed.isOut).length
theorem fw_len {t : List Nat} : ∀ (es : List Ed) (a : Nat), a ≤ t.length → Vo t a es → ((fw t a es).length : Int) = t.length - a + nI es - nO es
  | [], a, ha, _ => by
    show ((t.drop a).length : Int) = t.length - a + 0 - 0
    rw [List.length_drop]
    omega
  | e :: es, a, ha, ⟨h1, h2, h3⟩ => by
    obtain ⟨l1, l2, l3⟩ := okE_at h2
    have ih := fw_len es e.next l2 h3
    have e1 : ((t.drop a).take (e.at - a)).length = e.at - a := by
      rw [List.length_take, List.length_drop]
      omega
    simp only [fw, List.length_append, e1]
    cases e with
    | out i =>
      have q1 : nI (.out i :: es) = nI es := rfl
      have q2 : nO (.out i :: es) = nO es + 1 := rfl
      simp only [Ed.put, Ed.at, Ed.next, List.length_nil] at *
      omega
    | ins i c =>
      have q1 : nI (.ins i c :: es) = nI es + 1 := rfl
      have q2 : nO (.ins i c :: es) = nO es := rfl
      simp only [Ed.put, Ed.at, Ed.next, List.length_cons, List.length_nil] at *
      omega
    | sub i c =>
      have q1 : nI (.sub i c :: es) = nI es := rfl
      have q2 : nO (.sub i c :: es) = nO es := rfl
      simp only [Ed.put, Ed.at, Ed.next, List.length_cons, List.length_nil] at *
      omega
theorem fw_mem {t : List Nat} (ht : ∀ c ∈ t, c ∈ tl SG) : ∀ (es : List Ed) (a : Nat), Vo t a es → ∀ c ∈ fw t a es, c ∈ tl SG
  | [], a, _, c, h => ht c (List.mem_of_mem_drop h)
  | e :: es, a, ⟨h1, h2, h3⟩, c, h => by
    rcases List.mem_append.mp h with h | h
    · rcases List.mem_append.mp h with h | h
      · exact ht c (List.mem_of_mem_drop (List.mem_of_mem_take h))
      · cases e with
        | out i => cases h
        | ins i d =>
          cases List.mem_singleton.mp h
          exact h2.2
        | sub i d =>
          cases List.mem_singleton.mp h
          exact h2.2.1
    · exact fw_mem ht es e.next h3 c h
theorem nI_le (es : List Ed) : nI es ≤ es.length := List.length_filter_le _ _
/-! turned about -/
def bk (t : List Nat) : Nat → Nat → List Ed → List Ed
  | _, _, [] => []
  | a, b, .ins i _ :: es => .out (b + (i - a)) :: bk t i (b + (i - a) + 1) es
  | a, b, .out i :: es => .ins (b + (i - a)) (t.getD i 0) :: bk t (i + 1) (b + (i - a)) es
  | a, b, .sub i _ :: es => .sub (b + (i - a)) (t.getD i 0) :: bk t (i + 1) (b + (i - a) + 1) es
theorem drop_cons {t : List Nat} {i : Nat} (h : i < t.length) : t.drop i = t.getD i 0 :: t.drop (i + 1) := by
  rw [List.drop_eq_getElem_cons h]
  simp [List.getD, List.getElem?_eq_getElem h]
theorem drop_split {t : List Nat} {a i : Nat} (h : a ≤ i) : (t.drop a).take (i - a) ++ t.drop i = t.drop a := by
  have e : t.drop i = (t.drop a).drop (i - a) := by
    rw [List.drop_drop]
    congr 1
    omega
  rw [e, List.take_append_drop]
theorem back_ok {t : List Nat} (ht : ∀ c ∈ t, c ∈ tl SG) : ∀ (es : List Ed) (a b : Nat) (pre : List Nat), a ≤ t.length → Vo t a es → pre.length = b →
    Vo (pre ++ fw t a es) b (bk t a b es) ∧ fw (pre ++ fw t a es) b (bk t a b es) = t.drop a
  | [], a, b, pre, ha, _, hb => by
    refine ⟨trivial, ?_⟩
    show (pre ++ t.drop a).drop b = t.drop a
    rw [← hb, List.drop_left]
  | e :: es, a, b, pre, ha, ⟨h1, h2, h3⟩, hb => by
    obtain ⟨l1, l2, l3⟩ := okE_at h2
    have lm : ((t.drop a).take (e.at - a)).length = e.at - a := by
      rw [List.length_take, List.length_drop]
      omega
    have cut : ∀ z : List Nat, ((pre ++ ((t.drop a).take (e.at - a) ++ z)).drop b).take (b + (e.at - a) - b) = (t.drop a).take (e.at - a) := fun z => by
      rw [← hb, List.drop_left, Nat.add_sub_cancel_left]
      rw [List.take_append_of_le_length (by omega), List.take_of_length_le (by omega)]
    have at_ : ∀ (c : Nat) (z : List Nat), (pre ++ ((t.drop a).take (e.at - a) ++ c :: z))[b + (e.at - a)]? = some c := fun c z => by
      rw [← hb, List.getElem?_append_right (by omega), Nat.add_sub_cancel_left, List.getElem?_append_right (by omega), lm, Nat.sub_self]
      rfl
    cases e with
    | ins i c =>
      have ih := back_ok ht es i (b + (i - a) + 1) (pre ++ (t.drop a).take (i - a) ++ [c]) l2 h3 (by
        simp only [Ed.at] at lm
        simp only [List.length_append, lm, hb, List.length_cons, List.length_nil])
      have eu : pre ++ fw t a (.ins i c :: es) = pre ++ (t.drop a).take (i - a) ++ [c] ++ fw t i es := by
        simp only [fw, Ed.put, Ed.at, Ed.next, List.append_assoc]
      have eu2 : pre ++ fw t a (.ins i c :: es) = pre ++ ((t.drop a).take (i - a) ++ c :: fw t i es) := by
        rw [eu]
        simp only [List.append_assoc, List.cons_append, List.nil_append]
      rw [← eu] at ih
      refine ⟨⟨Nat.le_add_right _ _, ?_, ih.1⟩, ?_⟩
      · show b + (i - a) < _
        rw [eu2]
        exact (List.getElem?_eq_some_iff.mp (at_ c (fw t i es))).1
      · show ((pre ++ fw t a (.ins i c :: es)).drop b).take (b + (i - a) - b) ++ [] ++ fw (pre ++ fw t a (.ins i c :: es)) (b + (i - a) + 1) (bk t i (b + (i - a) + 1) es) = _
        rw [ih.2, eu2]
        have q := cut (c :: fw t i es)
        simp only [Ed.at] at q
        rw [q, List.append_nil]
        exact drop_split h1
    | out i =>
      have hi : i < t.length := h2
      have ih := back_ok ht es (i + 1) (b + (i - a)) (pre ++ (t.drop a).take (i - a)) l2 h3 (by
        simp only [Ed.at] at lm
        simp only [List.length_append, lm, hb])
      have eu : pre ++ fw t a (.out i :: es) = pre ++ (t.drop a).take (i - a) ++ fw t (i + 1) es := by
        simp only [fw, Ed.put, Ed.at, Ed.next, List.append_assoc, List.nil_append]
      have eu2 : pre ++ fw t a (.out i :: es) = pre ++ ((t.drop a).take (i - a) ++ fw t (i + 1) es) := by
        rw [eu]
        simp only [List.append_assoc]
      rw [← eu] at ih
      refine ⟨⟨Nat.le_add_right _ _, ⟨?_, ?_⟩, ih.1⟩, ?_⟩
      · show b + (i - a) ≤ _
        rw [eu2]
        simp only [Ed.at] at lm
        simp only [List.length_append, lm, hb]
        omega
      · refine ht _ ?_
        simp [List.getD, List.getElem?_eq_getElem hi]
      · show ((pre ++ fw t a (.out i :: es)).drop b).take (b + (i - a) - b) ++ [t.getD i 0] ++ fw (pre ++ fw t a (.out i :: es)) (b + (i - a)) (bk t (i + 1) (b + (i - a)) es) = _
        rw [ih.2, eu2]
        have q := cut (fw t (i + 1) es)
        simp only [Ed.at] at q
        rw [q, List.append_assoc]
        show _ ++ (t.getD i 0 :: t.drop (i + 1)) = _
        rw [← drop_cons hi]
        exact drop_split h1
    | sub i c =>
      have hi : i < t.length := h2.1
      have ih := back_ok ht es (i + 1) (b + (i - a) + 1) (pre ++ (t.drop a).take (i - a) ++ [c]) l2 h3 (by
        simp only [Ed.at] at lm
        simp only [List.length_append, lm, hb, List.length_cons, List.length_nil])
      have eu : pre ++ fw t a (.sub i c :: es) = pre ++ (t.drop a).take (i - a) ++ [c] ++ fw t (i + 1) es := by
        simp only [fw, Ed.put, Ed.at, Ed.next, List.append_assoc]
      have eu2 : pre ++ fw t a (.sub i c :: es) = pre ++ ((t.drop a).take (i - a) ++ c :: fw t (i + 1) es) := by
        rw [eu]
        simp only [List.append_assoc, List.cons_append, List.nil_append]
      rw [← eu] at ih
      have q0 := at_ c (fw t (i + 1) es)
      simp only [Ed.at] at q0
      rw [← eu2] at q0
      refine ⟨⟨Nat.le_add_right _ _, ⟨?_, ?_, ?_⟩, ih.1⟩, ?_⟩
      · exact (List.getElem?_eq_some_iff.mp q0).1
      · refine ht _ ?_
        simp [List.getD, List.getElem?_eq_getElem hi]
      · rw [q0]
        intro e
        refine h2.2.2 ?_
        simp [List.getD, List.getElem?_eq_getElem hi] at e
        rw [List.getElem?_eq_getElem hi, e]
      · show ((pre ++ fw t a (.sub i c :: es)).drop b).take (b + (i - a) - b) ++ [t.getD i 0] ++ fw (pre ++ fw t a (.sub i c :: es)) (b + (i - a) + 1) (bk t (i + 1) (b + (i - a) + 1) es) = _
        rw [ih.2, eu2]
        have q := cut (c :: fw t (i + 1) es)
        simp only [Ed.at] at q
        rw [q, List.append_assoc]
        show _ ++ (t.getD i 0 :: t.drop (i + 1)) = _
        rw [← drop_cons hi]
        exact drop_split h1
/-! two texts, one behind the other -/
def sh (n : Nat) : Ed → Ed
  | .out i => .out (i + n)
  | .ins i c => .ins (i + n) c
  | .sub i c => .sub (i + n) c
theorem sh_at (n : Nat) (e : Ed) : (sh n e).at = e.at + n := by cases e <;> rfl
theorem sh_next (n : Nat) (e : Ed) : (sh n e).next = e.next + n := by
  cases e with
  | ins i c => rfl
  | out i => exact Nat.add_right_comm i n 1
  | sub i c => exact Nat.add_right_comm i n 1
theorem sh_put (n : Nat) (e : Ed) : (sh n e).put = e.put := by cases e <;> rfl
theorem okE_left {t : List Nat} (u : List Nat) {e : Ed} (h : okE t e) : okE (t ++ u) e := by
  have l : (t ++ u).length = t.length + u.length := List.length_append
  cases e with
  | out i =>
    have h' : i < t.length := h
    show i < _
    omega
  | ins i c => exact ⟨by have := h.1; omega, h.2⟩
  | sub i c =>
    refine ⟨by have := h.1; omega, h.2.1, ?_⟩
    rw [List.getElem?_append_left h.1]
    exact h.2.2
theorem okE_right (t : List Nat) {u : List Nat} {e : Ed} (h : okE u e) : okE (t ++ u) (sh t.length e) := by
  have l : (t ++ u).length = t.length + u.length := List.length_append
  cases e with
  | out i =>
    have h' : i < u.length := h
    show i + t.length < _
    omega
  | ins i c => exact ⟨by have := h.1; omega, h.2⟩
  | sub i c =>
    refine ⟨by have := h.1; omega, h.2.1, ?_⟩
    rw [List.getElem?_append_right (Nat.le_add_left _ _), Nat.add_sub_cancel]
    exact h.2.2
theorem both_R (t u : List Nat) : ∀ (fs : List Ed) (a : Nat), a ≤ u.length → Vo u a fs → Vo (t ++ u) (a + t.length) (fs.map (sh t.length)) ∧ fw (t ++ u) (a + t.length) (fs.map (sh t.length)) = fw u a fs
  | [], a, ha, _ => by
    refine ⟨trivial, ?_⟩
    show (t ++ u).drop (a + t.length) = u.drop a
    rw [Nat.add_comm, List.drop_append]
    simp
  | f :: fs, a, ha, ⟨h1, h2, h3⟩ => by
    obtain ⟨l1, l2, l3⟩ := okE_at h2
    have ih := both_R t u fs f.next l2 h3
    rw [← sh_next] at ih
    refine ⟨⟨by rw [sh_at]; omega, okE_right t h2, ih.1⟩, ?_⟩
    show ((t ++ u).drop (a + t.length)).take ((sh t.length f).at - (a + t.length)) ++ (sh t.length f).put ++ fw (t ++ u) (sh t.length f).next (fs.map (sh t.length)) = _
    rw [ih.2, sh_at, sh_put]
    have e1 : (t ++ u).drop (a + t.length) = u.drop a := by
      rw [Nat.add_comm, List.drop_append]
      simp
    have e2 : f.at + t.length - (a + t.length) = f.at - a := by omega
    rw [e1, e2]
    rfl
theorem both_ok (t u : List Nat) (fs : List Ed) (hf : Vo u 0 fs) : ∀ (es : List Ed) (a : Nat), a ≤ t.length → Vo t a es →
    Vo (t ++ u) a (es ++ fs.map (sh t.length)) ∧ fw (t ++ u) a (es ++ fs.map (sh t.length)) = fw t a es ++ fw u 0 fs
  | [], a, ha, _ => by
    have h := both_R t u fs 0 (Nat.zero_le _) hf
    rw [Nat.zero_add] at h
    cases fs with
    | nil =>
      refine ⟨trivial, ?_⟩
      show (t ++ u).drop a = t.drop a ++ u
      rw [List.drop_append_of_le_length ha]
    | cons f fs =>
      obtain ⟨⟨h1, h2, h3⟩, h4⟩ := h
      refine ⟨⟨Nat.le_trans ha h1, h2, h3⟩, ?_⟩
      rw [← h4]
      show ((t ++ u).drop a).take ((sh t.length f).at - a) ++ (sh t.length f).put ++ _ = t.drop a ++ (((t ++ u).drop t.length).take ((sh t.length f).at - t.length) ++ (sh t.length f).put ++ _)
      have e : ((t ++ u).drop a).take ((sh t.length f).at - a) = t.drop a ++ ((t ++ u).drop t.length).take ((sh t.length f).at - t.length) := by
        rw [List.drop_append_of_le_length ha, List.drop_left]
        have e2 : (sh t.length f).at - a = (t.drop a).length + ((sh t.length f).at - t.length) := by
          rw [List.length_drop]
          omega
        rw [e2, List.take_append, List.take_of_length_le (Nat.le_add_right _ _), Nat.add_sub_cancel_left]
      rw [e]
      simp only [List.append_assoc]
  | e :: es, a, ha, ⟨h1, h2, h3⟩ => by
    obtain ⟨l1, l2, l3⟩ := okE_at h2
    have ih := both_ok t u fs hf es e.next l2 h3
    refine ⟨⟨h1, okE_left u h2, ih.1⟩, ?_⟩
    show ((t ++ u).drop a).take (e.at - a) ++ e.put ++ fw (t ++ u) e.next (es ++ fs.map (sh t.length)) = (t.drop a).take (e.at - a) ++ e.put ++ fw t e.next es ++ fw u 0 fs
    rw [ih.2]
    have e1 : ((t ++ u).drop a).take (e.at - a) = (t.drop a).take (e.at - a) := by
      rw [List.drop_append_of_le_length ha, List.take_append_of_le_length (by rw [List.length_drop]; omega)]
    rw [e1]
    simp only [List.append_assoc]
/-! neighbours in order -/
def inO : List Ed → Bool
  | [] => true
  | [_] => true
  | e :: f :: l => decide (e.next ≤ f.at) && inO (f :: l)
theorem Vo_inO {t : List Nat} : ∀ (es : List Ed) (a : Nat), Vo t a es → inO es = true
  | [], _, _ => rfl
  | [_], _, _ => rfl
  | e :: f :: l, a, ⟨_, _, h⟩ => by
    have ih := Vo_inO (f :: l) e.next h
    show (decide (e.next ≤ f.at) && inO (f :: l)) = true
    rw [ih, decide_eq_true h.1]
    rfl
/-! as data -/
theorem isT_sg {c : Nat} (h : c ∈ tl SG) : isSign (.str (S [c])) = true := by
  have e : isText SG 1 (.str (S [c])) = true := by
    show (decide (((S [c]).length : Int) ≤ 1) && (([c].filter fun c => !decide (c ∈ SG.cps.toList)).isEmpty)) = true
    have h' : c ∈ SG.cps.toList := h
    simp only [List.filter, h']
    rfl
  show (isText SG 1 (.str (S [c])) && !decide (S [c] = "")) = true
  rw [e]
  have e2 : ¬ S [c] = ("" : Str) := fun z => by
    have q := congrArg (fun x : Str => x.length) z
    have e3 : (Str.ofString "").length = 0 := by decide +kernel
    have q' : (S [c]).length = (Str.ofString "").length := q
    rw [e3] at q'
    cases q'
  simp [e2]
theorem isText_S {l : List Nat} {n : Int} (hl : (l.length : Int) ≤ n) (h : ∀ c ∈ l, c ∈ tl SG) : isText SG n (.str (S l)) = true := by
  show (decide (((S l).length : Int) ≤ n) && (l.filter fun c => !decide (c ∈ SG.cps.toList)).isEmpty) = true
  have e : (S l).length = l.length := by rw [← tl_len]
  rw [e, decide_eq_true hl]
  have e2 : (l.filter fun c => !decide (c ∈ SG.cps.toList)) = [] := by
    refine List.filter_eq_nil_iff.mpr fun c hc => ?_
    have h' : c ∈ SG.cps.toList := h c hc
    simp [h']
  rw [e2]
  rfl
theorem isN_int {hi : Int} {i : Nat} (h : (i : Int) ≤ hi) : isNum 0 hi (.int (i : Nat)) = true := by
  show (decide ((0 : Int) ≤ i) && decide ((i : Int) ≤ hi)) = true
  rw [decide_eq_true h, decide_eq_true (Int.natCast_nonneg i)]
  rfl
theorem W3 : isW "out" (.str "in") = false ∧ isW "out" (.str "for") = false ∧ isW "in" (.str "for") = false ∧ isW "in" (.str "in") = true ∧ isW "out" (.str "out") = true ∧ isW "for" (.str "for") = true := by decide +kernel
theorem edIn_ed {t : List Nat} {e : Ed} (h : okE t e) : edIn (S t) (edD e) = some e := by
  have ln : ((S t).length : Int) = t.length := by rw [← tl_len]
  cases e with
  | out i =>
    have h' : i < t.length := h
    have b1 : bOut (S t) [.str "out", .int (i : Nat)] = true := by
      show (isW "out" (.str "out") && isNum 0 (((S t).length : Int) - 1) (.int (i : Nat))) = true
      rw [W3.2.2.2.2.1, isN_int (by rw [ln]; omega)]
      rfl
    show edOf (S t) [.str "out", .int (i : Nat)] = _
    unfold edOf
    rw [if_pos b1]
    rfl
  | ins i c =>
    have b1 : bOut (S t) [.str "in", .int (i : Nat), .str (S [c])] = false := rfl
    have b2 : bIns (S t) [.str "in", .int (i : Nat), .str (S [c])] = true := by
      show (isW "in" (.str "in") && (isNum 0 ((S t).length : Int) (.int (i : Nat)) && isSign (.str (S [c])))) = true
      rw [W3.2.2.2.1, isN_int (by rw [ln]; have := h.1; omega), isT_sg h.2]
      rfl
    show edOf (S t) [.str "in", .int (i : Nat), .str (S [c])] = _
    unfold edOf
    rw [b1, if_neg (by simp), if_pos b2]
    rfl
  | sub i c =>
    have b1 : bOut (S t) [.str "for", .int (i : Nat), .str (S [c])] = false := rfl
    have b2 : bIns (S t) [.str "for", .int (i : Nat), .str (S [c])] = false := by
      show (isW "in" (.str "for") && (isNum 0 ((S t).length : Int) (.int (i : Nat)) && isSign (.str (S [c])))) = false
      rw [W3.2.2.1]
      rfl
    have b3 : bSub (S t) [.str "for", .int (i : Nat), .str (S [c])] = true := by
      show (isW "for" (.str "for") && (isNum 0 (((S t).length : Int) - 1) (.int (i : Nat)) && isSign (.str (S [c])))) = true
      rw [W3.2.2.2.2.2, isN_int (by rw [ln]; have := h.1; omega), isT_sg h.2.1]
      rfl
    show edOf (S t) [.str "for", .int (i : Nat), .str (S [c])] = _
    unfold edOf
    rw [b1, if_neg (by simp), b2, if_neg (by simp), if_pos b3, if_neg]
    · rfl
    · exact h.2.2
theorem edIn_all {t : List Nat} : ∀ (es : List Ed) (a : Nat), Vo t a es → (es.map edD).map (edIn (S t)) = es.map some
  | [], _, _ => rfl
  | e :: es, a, ⟨_, h, h3⟩ => by
    have ih := edIn_all es e.next h3
    show edIn (S t) (edD e) :: (es.map edD).map (edIn (S t)) = some e :: es.map some
    rw [edIn_ed h, ih]
theorem filt_some : ∀ (ds : List PyData) (es : List Ed) (f : PyData → Option Ed), ds.map f = es.map some → ds.filterMap f = es
  | [], [], _, _ => rfl
  | [], _ :: _, _, h => by cases h
  | _ :: _, [], _, h => by cases h
  | d :: ds, e :: es, f, h => by
    have h1 : f d = some e := (List.cons.inj h).1
    have h2 := filt_some ds es f (List.cons.inj h).2
    rw [List.filterMap_cons, h1, h2]
/-- a valid script of data runs through -/
theorem run_ok {t : List Nat} {es : List Ed} {ds : List PyData} (hd : ds.map (edIn (S t)) = es.map some) (h : Vo t 0 es) : run (S t) none 0 [] ds 0 = .inr (fw t 0 es) := by
  have q := run_of (S t) ds none [] 0
  rw [hd, filt_some ds es _ hd] at q
  have e : wrongO (lastAt none) 0 (es.map some) = none := Vo_wrong es 0 0 h
  rw [e] at q
  exact q
end K76
set_option Elab.async false
set_option linter.all false
set_option maxRecDepth 100000
set_option maxHeartbeats 4000000
namespace K76
open PySem PySem.Spec PyProof.Rows L2 TbA TbD TbL TL RZ
local macro_rules | `(tactic| walk_at "u") => `(tactic| simp only [tRet, tRetN, tSeq, tNext, tIfS, tAsg, tDrop, tAndV, tOrV, tNotV, tAnd, tOr, tNot, tB, tTest, tIf, tCB, tCons, tNil, tC, tVar, tOp, tUn, tChain, tCall, tM1, tTup, tLst, tSl, tPart, tNoPart, gName, gSub, gCons, gNil, gTup, tBreak, tCont, tNever,
  rI0, rI, rEq, rNe, cxOf, Cx.nox, Cx.wish, L2.start, List.map_cons, List.map_nil, List.length_cons, List.length_nil, List.cons_append, List.nil_append, List.replicate, List.getElem?_cons_zero, List.getElem?_cons_succ, Option.some.injEq, List.cons.injEq, and_true, true_and, V.int.injEq, V.bl.injEq, V.str.injEq, V.ref.injEq,
  exists_eq_left', exists_and_left, exists_eq_left, Nat.reduceSub, Nat.reduceAdd, List.set_cons_zero, List.set_cons_succ])
local macro_rules | `(tactic| walk_at "e") => `(tactic| simp only [tAndV, tOrV, tNotV, tAnd, tOr, tNot, tB, tTest, tIf, tCB, tCons, tNil, tC, tVar, tOp, tUn, tChain, tCall, tM1, tTup, tLst, tSl, tPart, tNoPart, gName, gSub, gCons, gNil, gTup, 
  rI0, rI, rEq, rNe, cxOf, Cx.nox, Cx.wish, L2.start, List.map_cons, List.map_nil, List.length_cons, List.length_nil, List.cons_append, List.nil_append, List.replicate, List.getElem?_cons_zero, List.getElem?_cons_succ, Option.some.injEq, List.cons.injEq, and_true, true_and, V.int.injEq, V.bl.injEq, V.str.injEq, V.ref.injEq,
  exists_eq_left', exists_and_left, exists_eq_left, Nat.reduceSub, Nat.reduceAdd, List.set_cons_zero, List.set_cons_succ])

section
variable {P : Program} {w : World} {K : PySem.W.Frag} {mg : Str → Option Value} {base : Heap}
theorem rp_ed {G : Addr → Prop} {H : Hp} {p : Addr} {e : Ed} (g : G p) (h : H p = some (.tup (edV e))) : Rp G H (.ref p) (edD e) := by
  cases e with
  | out i => exact .tup g h (.cons (.str _) (.cons (.int _) .nil))
  | ins i c => exact .tup g h (.cons (.str _) (.cons (.int _) (.cons (.str _) .nil)))
  | sub i c => exact .tup g h (.cons (.str _) (.cons (.int _) (.cons (.str _) .nil)))
theorem ed_rp {G : Addr → Prop} {H : Hp} {v : V} {e : Ed} (r : Rp G H v (edD e)) : ∃ p, v = .ref p ∧ G p ∧ H p = some (.tup (edV e)) := by
  cases e with
  | out i =>
    cases r with
    | tup g h a =>
      cases a with
      | cons r1 a =>
        cases a with
        | cons r2 a =>
          cases r1
          cases r2
          cases a
          exact ⟨_, rfl, g, h⟩
  | ins i c =>
    cases r with
    | tup g h a =>
      cases a with
      | cons r1 a =>
        cases a with
        | cons r2 a =>
          cases a with
          | cons r3 a =>
            cases r1
            cases r2
            cases r3
            cases a
            exact ⟨_, rfl, g, h⟩
  | sub i c =>
    cases r with
    | tup g h a =>
      cases a with
      | cons r1 a =>
        cases a with
        | cons r2 a =>
          cases a with
          | cons r3 a =>
            cases r1
            cases r2
            cases r3
            cases a
            exact ⟨_, rfl, g, h⟩
/-- a for from its walk on -/
def For1 (g : TG) (tb : TS) (D : Ends) (σ : L2.St) (J : It) (H1 : Hp) : Prop := tFor (fun _ H R => R J H) g tb D σ H1
theorem for_rng1 {ta : TA} {g : TG} {tb : TS} {D : Ends} {σ : L2.St} {H : Hp}
    (h : ta σ H fun us H1 => ∃ j : Int, us = [.int j] ∧ -(2 ^ 62) ≤ j ∧ j < 2 ^ 62 ∧ For1 g tb D σ (Itr 0 j.toNat) H1) : tFor (iRng1 ta) g tb D σ H := h
theorem for_lst {K : PySem.W.Frag} {tl : TE} {g : TG} {tb : TS} {D : Ends} {σ : L2.St} {H : Hp}
    (h : tl σ H fun x H1 => ∃ a, x = .ref a ∧ (∃ xs, SqL K H1 a xs) ∧ For1 g tb D σ (Itl K a) H1) : tFor (iList K tl) g tb D σ H := h
theorem for_tup {K : PySem.W.Frag} {tl : TE} {g : TG} {tb : TS} {D : Ends} {σ : L2.St} {H : Hp}
    (h : tl σ H fun x H1 => ∃ a, x = .ref a ∧ (∃ xs, SqT K H1 a xs) ∧ For1 g tb D σ (Itt K a) H1) : tFor (iTup K tl) g tb D σ H := h
theorem forN {J : It} {n : Nat} {G : Hp → Prop} {Y : Nat → Hp → V → Hp → Prop} (wk : Walk J n G Y) {i : Nat} {tb : TS} {D : Ends} {σ : L2.St} {H : Hp}
    (Pv : Nat → L2.St → Hp → Prop) (h0 : Pv 0 σ H) (hG : ∀ k σ' H', Pv k σ' H' → G H')
    (hs : ∀ k x σ' H' H2, k < n → Pv k σ' H' → Y k H' x H2 → tb ⟨Pv (k + 1), D.rt, D.nx, Pv (k + 1)⟩ (σ'.set i (some x)) H2)
    (hd : ∀ σ' H', Pv n σ' H' → D.nx σ' H') : For1 (gName i) tb D σ J H :=
  for_it wk Pv h0 (fun k σ' H' _ h => hG k σ' H' h) (fun k x σ' H' H2 hk h y => hs k x σ' H' H2 hk h y) hd
/-- l.extend(e) -/
theorem seqExt {K : PySem.W.Frag} {te : TE} {i : Nat} {l : Addr} {xs : List V} {r : TS} {D : Ends} {σ : L2.St} {H : Hp} (hv : σ[i]? = some (some (.ref l))) (hl : H l = some (.lst xs))
    (he : te σ H fun y H1 => rExtend (.ref l) [y] H1 fun _ H2 => r D σ H2) : tSeq (tDrop (tBM K "list" rExtend (tVar i) (tCons te tNil))) r D σ H :=
  ⟨_, hv, .inl ⟨rfl, _, SqL.of hl⟩, he⟩
theorem r_ext {l b : Addr} {xs zs : List V} {H : Hp} {Q : VK} (hl : H l = some (.lst xs)) (hb : H b = some (.lst zs)) (hn : xs.length + zs.length < 100000) (q : Q .non (upd H l (.lst (xs ++ zs)))) : rExtend (.ref l) [.ref b] H Q :=
  ⟨l, b, xs, zs, rfl, rfl, hl, hb, Nat.le_trans (Nat.le_of_lt hn) (by decide), q⟩
/-! ### _law_script -/
def sp_script : Sp := fun vs H Q _ => ∃ (sa ca : Addr) (n : Nat) (t : List Nat), vs = [.ref sa, .str (S t)] ∧ Xt t ∧ n ≤ 900000000 ∧ Strm H sa ca n ∧
  ∀ H' p es, Kp (Gs sa ca) H H' → Strm H' sa ca (n + 100) → Vo t 0 es → es.length ≤ 30 → Rp (Gs sa ca) H' (.ref p) (.list (es.map edD)) → Q (.ref p) H'
/-- behind k turns; the script so far at pf -/
def ScI (t : List Nat) (H : Hp) (sa ca pf : Addr) (n j : Nat) (es : List Ed) (H' : Hp) : Prop := ∃ vs, H' pf = some (.lst vs) ∧ RpAll (fun a => Gs sa ca a ∧ a ≠ pf) H' vs (es.map edD) ∧ Kp (Gs sa ca) H H' ∧ Strm H' sa ca (n + j) ∧ Vo t 0 es
theorem ScI.step {t : List Nat} {H : Hp} {sa ca pf : Addr} {n j j' : Nat} {es : List Ed} {H' H'' : Hp} (h : ScI t H sa ca pf n j es H') (g : Gs sa ca pf) (k : Kp (Gs sa ca) H' H'') (s : Strm H'' sa ca (n + j')) : ScI t H sa ca pf n j' es H'' := by
  obtain ⟨vs, h1, h2, h3, _, h5⟩ := h
  exact ⟨vs, k _ _ g h1, h2.mono fun a o g h => k a o g.1 h, Kp.trans h3 k, s, h5⟩
structure ScP (t : List Nat) (H : Hp) (sa ca pf : Addr) (n k : Nat) (σ : L2.St) (H' : Hp) : Prop where
  ex : ∃ (es : List Ed) (y3 y4 y5 : Option V), σ = [some (.ref sa), some (.str (S t)), some (.ref pf), y3, y4, y5, none] ∧ ScI t H sa ca pf n (6 * k) es H' ∧ es.length ≤ 3 * k ∧ endp 0 es ≤ k
theorem Vo_ins {t : List Nat} {k : Nat} (hk : k ≤ t.length) : ∀ (cs : List Nat) (a : Nat), a ≤ k → (∀ c ∈ cs, c ∈ tl SG) → Vo t a (cs.map (Ed.ins k)) ∧ endp a (cs.map (Ed.ins k)) ≤ k
  | [], a, ha, _ => ⟨trivial, ha⟩
  | c :: cs, a, ha, h => by
    have ih := Vo_ins hk cs k (Nat.le_refl _) fun x hx => h x (by simp [hx])
    exact ⟨⟨ha, ⟨hk, h c (by simp)⟩, ih.1⟩, ih.2⟩
structure InI (H1 : Hp) (sa ca pf : Addr) (m k : Nat) (D : Addr) (j : Nat) (ys : List V) (H' : Hp) : Prop where
  ex : ∃ cs : List Nat, cs.length = j ∧ (∀ c ∈ cs, c ∈ tl SG) ∧ RpAll (fun a => Gs sa ca a ∧ a ≠ D ∧ a ≠ pf) H' ys ((cs.map (Ed.ins k)).map edD) ∧ Kp (Gs sa ca) H1 H' ∧ Strm H' sa ca (m + j)
/-- one of the signs -/
theorem pick_cs {H : Hp} {sa ca p : Addr} {m : Nat} {cs : List Nat} {Q : VK} (s : Strm H sa ca m) (hm : m ≤ 1000000000) (gp : Gs sa ca p) (hp : H p = some (.lst (cs.map sg))) (h0 : cs ≠ []) (hl : cs.length < 1000000)
    (q : ∀ H' c, c ∈ cs → Kp (Gs sa ca) H H' → Strm H' sa ca (m + 1) → Q (sg c) H') : sp_pick [.ref sa, .ref p] H Q E0 := by
  refine pick_ok (E := E0) s hp gp ?_ (by rw [List.length_map]; exact hl) hm fun H' i v k hv s' => ?_
  · intro e
    exact h0 (List.map_eq_nil_iff.mp e)
  · obtain ⟨c, h1, h2⟩ := List.mem_map.mp (List.mem_of_getElem? hv)
    rw [← h2]
    exact q H' c h1 k s'
theorem two : 97 ∈ tl SG ∧ 98 ∈ tl SG := by decide +kernel
theorem sg_ne : tl SG ≠ [] := by decide +kernel
theorem ok__law_script (T : Tx K mg) : FnOk P w K mg base CX0 3 T.f__law_script T.d__law_script ["stream", "text"] sp_script := by
  have G__law_pick : FnOk P w K mg base CX0 2 T.f__law_pick T.d__law_pick ["stream", "some"] sp_pick := ok__law_pick T
  have G__law_chance : FnOk P w K mg base CX0 2 T.f__law_chance T.d__law_chance ["stream", "many"] sp_chance := ok__law_chance T
  have G__law_ksigns : FnOk P w K mg base CX0 1 T.f__law_ksigns T.d__law_ksigns [] sp_ksigns := ok__law_ksigns T
  refine T.F__law_script.ok sc_law_script (fun vs H Q E h => ?_) (fun cdv A outer s H vs Q E hr h => ?_)
  · obtain ⟨sa, ca, n, t, rfl, _⟩ := h
    rfl
  · obtain ⟨sa, ca, n, t, rfl, ht, hn, hs, q⟩ := h
    refine ⟨_, (pss_cons (ps_set (i := 2) sc_law_script.nd rfl (Or.inl rfl) (pe_lst pa_nil))
  (pss_cons (ps_for PassesOwn.never rfl (pi_range1 (by rfl) T.m_range (pa_cons (pe_op op_add (pe_callB call_len (by rfl) T.m_len (by decide +kernel) (pa_cons (pv 1) pa_nil)) pe_int) pa_nil)) (pg_name (i := 3) sc_law_script.nd rfl (Or.inr rfl))
  (pss_cons (ps_set (i := 4) sc_law_script.nd rfl (Or.inl rfl) (pe_call G__law_pick (hr.mono (by decide)) (by rfl) T.g__law_pick T.F__law_pick.kp T.b__law_pick .nil pass0 (pa_cons (pv 0) (pa_cons (pe_lst (pa_cons pe_int (pa_cons pe_int (pa_cons pe_int (pa_cons pe_int (pa_cons pe_int pa_nil)))))) pa_nil))))
  (pss_cons (ps_expr (pe_bm PySem.F.plainAttrs_list PySem.F.slot_list_extend PySem.F.type_list_extend mt_extend (pv 2) (pa_cons (pe_lc (own := [("k", 6)]) (g := gName 6) (by rfl) sc_law_script.nd (pi_range1 (by rfl) T.m_range (pa_cons (pv 4) pa_nil)) (blkOk_by (own := [("k", 6)]) (N := N_law_script) (sc := defScope s_law_script) (by decide +kernel)) (fun _ _ _ _ _ => (pg_name (i := 6) sc_law_script.nd rfl (Or.inl rfl))) (fun _ _ _ _ _ => pts_nil) (fun _ _ _ _ _ => (pe_tup (pa_cons pe_str (pa_cons (pv 3) (pa_cons (pe_call G__law_pick (hr.mono (by decide)) (by rfl) T.g__law_pick T.F__law_pick.kp T.b__law_pick .nil pass0 (pa_cons (pv 0) (pa_cons (pe_callTy (call_list_s (by rfl)) (by rfl) T.m_list (by decide +kernel) (pa_cons (pe_call0 G__law_ksigns (hr.mono (by decide)) (by rfl) T.g__law_ksigns T.F__law_ksigns.kp T.b__law_ksigns .nil pass0) pa_nil)) pa_nil))) pa_nil)))))) pa_nil)))
  (pss_one (ps_if (PW.pt (pw_and (pt_cmpR op_lt (pv 3) (pe_callB call_len (by rfl) T.m_len (by decide +kernel) (pa_cons (pv 1) pa_nil)) (nomark _)) (pw_and1 (pt_val (pe_call G__law_chance (hr.mono (by decide)) (by rfl) T.g__law_chance T.F__law_chance.kp T.b__law_chance .nil pass0 (pa_cons (pv 0) (pa_cons pe_int pa_nil)))))))
  (pss_cons (ps_set (i := 5) sc_law_script.nd rfl (Or.inl rfl) (pe_call G__law_pick (hr.mono (by decide)) (by rfl) T.g__law_pick T.F__law_pick.kp T.b__law_pick .nil pass0 (pa_cons (pv 0) (pa_cons (pe_lc (own := [("sign", 5)]) (g := gName 5) (by rfl) sc_law_script.nd (pi_str (pe_call0 G__law_ksigns (hr.mono (by decide)) (by rfl) T.g__law_ksigns T.F__law_ksigns.kp T.b__law_ksigns .nil pass0)) (blkOk_by (own := [("sign", 5)]) (N := N_law_script) (sc := defScope s_law_script) (by decide +kernel)) (fun _ _ _ _ _ => (pg_name (i := 5) sc_law_script.nd rfl (Or.inl rfl))) (fun _ _ _ _ _ => (pts_one (pt_cmpR op_ne (pv 5) (pe_ix ix_str (pv 1) (pv 3) (fun _ _ => rfl)) (nomark _)))) (fun _ _ _ _ _ => (pv 5))) pa_nil))))
  (pss_one (ps_expr (pe_bm PySem.F.plainAttrs_list PySem.F.slot_list_append PySem.F.type_list_append mt_append (pv 2) (pa_cons (pe_call G__law_pick (hr.mono (by decide)) (by rfl) T.g__law_pick T.F__law_pick.kp T.b__law_pick .nil pass0 (pa_cons (pv 0) (pa_cons (pe_lst (pa_cons (pe_tup (pa_cons pe_str (pa_cons (pv 3) pa_nil))) (pa_cons (pe_tup (pa_cons pe_str (pa_cons (pv 3) (pa_cons (pv 5) pa_nil)))) pa_nil))) pa_nil))) pa_nil))))) pss_nil)))))
  (pss_one (ps_ret (pv 2))))), ?_⟩
    refine seqAsg ?_
    walk_at "e"
    refine ⟨Nat.zero_le _, fun pf hpf => ?_⟩
    have gf : Gs sa ca pf := hs.at_none hpf
    have ln : (S t).length = t.length := by rw [← tl_len]
    refine seqFor (for_rng1 ?_)
    walk_at "e"
    refine ⟨t.length, ⟨by rw [ln]; exact Nat.le_trans ht.1 (by decide), ln.symm⟩, by omega, by have := ht.1; omega, ?_⟩
    refine forN walk_range (ScP t H sa ca pf n) ⟨[], none, none, none, rfl, ⟨[], upd_same, .nil, Kp.of (same_new hpf), hs.own gf, trivial⟩, Nat.zero_le _, Nat.zero_le _⟩ (fun _ _ _ _ => trivial) ?_ ?_
    · rintro k x σ' H1 H2 hk ⟨es, y3, y4, y5, rfl, sc, hl, he⟩ ⟨rfl, rfl⟩
      have hk' : k ≤ t.length := by omega
      have h9 := ht.1
      dsimp only [List.set_cons_succ, List.set_cons_zero]
      refine seqAsg ?_
      walk_at "e"
      refine ⟨by decide, fun p hp => pick_ok (E := E0) (ca := ca) (n := n + 6 * k) ?_ upd_same ?_ (by simp) (by simp) (by omega) fun H3 i v k3 hv s3 => ?_⟩
      · obtain ⟨_, _, _, _, s2, _⟩ := sc
        exact s2.keep (same_new hp)
      · obtain ⟨_, _, _, _, s2, _⟩ := sc
        exact s2.at_none hp
      · obtain ⟨m, hm, rfl⟩ : ∃ m : Nat, m ≤ 2 ∧ v = .int (m : Nat) := by
          have hv' := List.mem_of_getElem? hv
          simp only [List.mem_cons, List.not_mem_nil, or_false] at hv'
          rcases hv' with h | h | h | h | h
          · exact ⟨0, by decide, h⟩
          · exact ⟨0, by decide, h⟩
          · exact ⟨0, by decide, h⟩
          · exact ⟨1, by decide, h⟩
          · exact ⟨2, by decide, h⟩
        have sc3 : ScI t H sa ca pf n (6 * k + 1) es H3 := sc.step gf (Kp.trans (Kp.of (same_new hp)) k3) s3
        clear sc hv
        obtain ⟨vs, hv1, rv, kv, sv, vo⟩ := sc3
        refine seqExt (xs := vs) rfl hv1 ?_
        refine lc_rng1 ?_
        walk_at "e"
        refine ⟨by omega, by omega, ?_⟩
        refine lcN walk_range (InI H3 sa ca pf (n + (6 * k + 1)) k) (fun D hD => ⟨[], rfl, (fun c h => by cases h), .nil, Kp.of (same_new hD), sv.own (sv.at_none hD)⟩) (fun _ _ _ _ _ _ => trivial) ?_ ?_
        · rintro D j ys x H4 H5 hD hj hjl ⟨cs, c1, c2, c3, c4, c5⟩ hDl ⟨rfl, rfl⟩
          dsimp only [wipe]
          walk_at "e"
          refine ⟨rfl, SG, rfl, by decide +kernel, fun p hp => pick_cs (cs := tl SG) (m := n + (6 * k + 1) + j) (c5.own (c5.at_none hp)) (by omega) (c5.at_none hp) upd_same sg_ne (by rw [sg_len]; decide) fun H6 c hc k6 s6 => ⟨by decide, fun pt hpt => ?_⟩⟩
          have gD : Gs sa ca D := sv.at_none hD
          have k5 : Kp (Gs sa ca) H5 (upd H6 pt (HO.tup [V.str (Str.ofString "in"), V.int (0 + (k : Int)), sg c])) := Kp.trans (Kp.trans (Kp.of (same_new hp)) k6) (Kp.of (same_new hpt))
          have gpt := s6.at_none hpt
          have npt : pt ≠ D := Ne.symm (ne_of_none (k6 _ _ gD (same_new hp _ _ hDl)) hpt)
          have npf : pt ≠ pf := Ne.symm (ne_of_none (k6 _ _ gf (same_new hp _ _ (c4 _ _ gf hv1))) hpt)
          refine add_ok (ys := ys) (k5 _ _ gD hDl) hjl (by omega) ⟨cs ++ [c], ?_, ?_, ?_, Kp.own (Kp.trans c4 k5) hD, ?_⟩
          · rw [List.length_append, c1]
            rfl
          · intro z hz
            rcases List.mem_append.mp hz with h | h
            · exact c2 z h
            · cases List.mem_singleton.mp h
              exact hc
          · rw [List.map_append, List.map_append]
            refine (RpAll.append (c3.mono fun a o g h => k5 a o g.1 h) (.cons (rp_ed (e := .ins k c) ⟨gpt, npt, npf⟩ ?_) .nil)).mono (Kp.out (Kp.refl _ _) fun g => g.2.1 rfl)
            rw [upd_same, Int.zero_add]
            rfl
          · exact (s6.own (s6.at_none hpt)).own gD
        · rintro D ys H4 hD hyl ⟨cs, c1, c2, c3, c4, c5⟩ hDl
          refine r_ext (c4 _ _ gf hv1) hDl ?_ ?_
          · have := rv.length
            rw [List.length_map] at this
            omega
          · have nDf : D ≠ pf := Ne.symm (ne_of_none hv1 hD)
            have hm2 : cs.length ≤ 2 := by omega
            have sc4 : ScI t H sa ca pf n (6 * k + 3) (es ++ cs.map (Ed.ins k)) (upd H4 pf (.lst (vs ++ ys))) := by
              refine ⟨_, upd_same, ?_, Kp.own (Kp.trans kv c4) hpf, (c5.own gf).mono (by omega), Vo_app t _ _ _ vo (Vo_ins hk' cs _ he c2).1⟩
              rw [List.map_append]
              exact (RpAll.append (rv.mono fun a o g h => c4 a o g.1 h) (c3.wide fun a g => ⟨g.1, g.2.2⟩)).mono (Kp.out (Kp.refl _ _) fun g => g.2 rfl)
            have he4 : endp 0 (es ++ cs.map (Ed.ins k)) ≤ k := by
              rw [endp_app]
              exact (Vo_ins hk' cs _ he c2).2
            have hl4 : (es ++ cs.map (Ed.ins k)).length ≤ 3 * k + 2 := by
              rw [List.length_append, List.length_map]
              omega
            generalize es ++ cs.map (Ed.ins k) = es4 at sc4 he4 hl4
            generalize upd H4 pf (.lst (vs ++ ys)) = H5 at sc4 ⊢
            walk_at "u"
            rw [Int.zero_add]
            have done : ∀ (es5 : List Ed) (H6 : Hp) (y5 : Option V), ScI t H sa ca pf n (6 * k + 6) es5 H6 → es5.length ≤ 3 * k + 3 → endp 0 es5 ≤ k + 1 →
                ScP t H sa ca pf n (k + 1) [some (V.ref sa), some (V.str (S t)), some (V.ref pf), some (V.int (k : Nat)), some (V.int m), y5, none] H6 := fun es5 H6 y5 h1 h2 h3 => ⟨es5, _, _, _, rfl, h1, h2, h3⟩
            have up : ∀ {j : Nat} {es5 : List Ed} {H6 : Hp}, ScI t H sa ca pf n j es5 H6 → j ≤ 6 * k + 6 → ScI t H sa ca pf n (6 * k + 6) es5 H6 := fun h l => by
              obtain ⟨vs, h1, h2, h3, h4, h5⟩ := h
              exact ⟨vs, h1, h2, h3, h4.mono (by omega), h5⟩
            refine ⟨t.length, ⟨by rw [ln]; exact Nat.le_trans ht.1 (by decide), ln.symm⟩, ?_⟩
            cases ck : decide ((k : Int) < (t.length : Int)) with
            | false => exact iteF (iteF (done es4 _ _ (up sc4 (by omega)) (by omega) (by omega)))
            | true =>
              have lt : k < t.length := by
                have := of_decide_eq_true ck
                omega
              obtain ⟨c0, hc0⟩ : ∃ c0, t[k]? = some c0 := ⟨_, List.getElem?_eq_getElem lt⟩
              have s5 : Strm H5 sa ca (n + (6 * k + 3)) := by
                obtain ⟨_, _, _, _, s2, _⟩ := sc4
                exact s2
              refine iteT (chance_ok s5 (by decide) (by decide) (by omega) fun H6 b k6 s6 => ⟨b, rfl, ?_⟩)
              have sc6 : ScI t H sa ca pf n (6 * k + 4) es4 H6 := sc4.step gf k6 s6
              cases b with
              | false => exact iteF (done es4 _ _ (up sc6 (by omega)) (by omega) (by omega))
              | true =>
                refine iteT (lc_sf (z := SG) (f := fun c => !decide (c = c0)) (by simp) (by decide +kernel) (fun R h => ⟨rfl, h⟩) (fun c H7 R hc s7 h => ?_) fun D H7 hD s7 hDl => ?_)
                · refine ⟨_, rfl, _, rfl, _, rfl, S t, k, c0, rfl, rfl, by rw [ln]; exact Nat.le_trans ht.1 (by decide), atI_nat hc0, rfl, ?_⟩
                  have e : decide (sg c = V.str ⟨#[c0]⟩) = decide (c = c0) := by
                    by_cases h : c = c0
                    · subst h
                      simp
                    · have h' : ¬ sg c = V.str ⟨#[c0]⟩ := fun z => by
                        cases z
                        exact h rfl
                      rw [decide_eq_false h, decide_eq_false h']
                  rw [e]
                  exact ⟨_, rfl, h⟩
                · have gD : Gs sa ca D := s6.at_none hD
                  have s7' := s6.keep s7
                  have sc7 : ScI t H sa ca pf n (6 * k + 4) es4 H7 := sc6.step gf (Kp.of s7) s7'
                  refine pick_cs s7' (by omega) gD hDl ?_ ?_ fun H8 c hc k8 s8 => ?_
                  · intro e
                    have q1 := List.filter_eq_nil_iff.mp e
                    have a1 := q1 97 two.1
                    have a2 := q1 98 two.2
                    simp at a1 a2
                    omega
                  · refine Nat.lt_of_le_of_lt (List.length_filter_le _ _) ?_
                    show (tl SG).length < _
                    rw [sg_len]
                    decide
                  · have sc8 : ScI t H sa ca pf n (6 * k + 5) es4 H8 := sc7.step gf k8 s8
                    obtain ⟨vs8, hv8, rv8, kv8, sv8, vo8⟩ := sc8
                    refine ⟨_, rfl, .inl ⟨rfl, _, SqL.of hv8⟩, ?_⟩
                    walk_at "e"
                    obtain ⟨hc1, hc2⟩ := List.mem_filter.mp hc
                    have hne : c ≠ c0 := by simpa using hc2
                    refine ⟨by decide, fun p1 hp1 => ⟨by decide, fun p2 hp2 => ⟨by decide, fun p3 hp3 => ?_⟩⟩⟩
                    have e1 : upd H8 p1 (HO.tup (edV (.out k))) p1 = some (.tup (edV (.out k))) := upd_same
                    have g1 := sv8.at_none hp1
                    have n1 : p1 ≠ pf := Ne.symm (ne_of_none hv8 hp1)
                    have hv9 : upd H8 p1 (HO.tup (edV (.out k))) pf = some (.lst vs8) := same_new hp1 _ _ hv8
                    have st9 : Same H8 (upd H8 p1 (HO.tup (edV (.out k)))) := same_new hp1
                    change upd H8 p1 (HO.tup (edV (.out k))) p2 = none at hp2
                    change upd (upd H8 p1 (HO.tup (edV (.out k)))) p2 (HO.tup (edV (.sub k c))) p3 = none at hp3
                    show sp_pick [V.ref sa, V.ref p3] (upd (upd (upd H8 p1 (HO.tup (edV (.out k)))) p2 (HO.tup (edV (.sub k c)))) p3 (HO.lst [V.ref p1, V.ref p2])) _ E0
                    generalize upd H8 p1 (HO.tup (edV (.out k))) = H9 at *
                    have sv9 := sv8.keep st9
                    have g2 := sv9.at_none hp2
                    have n2 : p2 ≠ pf := Ne.symm (ne_of_none hv9 hp2)
                    have st10 : Same H9 (upd H9 p2 (HO.tup (edV (.sub k c)))) := same_new hp2
                    have e2 : upd H9 p2 (HO.tup (edV (.sub k c))) p2 = some (.tup (edV (.sub k c))) := upd_same
                    generalize upd H9 p2 (HO.tup (edV (.sub k c))) = H10 at *
                    have sv10 := sv9.keep st10
                    have st11 : Same H10 (upd H10 p3 (HO.lst [V.ref p1, V.ref p2])) := same_new hp3
                    refine pick_ok (E := E0) (sv10.keep st11) upd_same (sv10.at_none hp3) (by simp) (by simp) (by omega) fun H12 i v k12 hv s12 => ?_
                    have k8' : Kp (Gs sa ca) H8 H12 := Kp.trans (Kp.of ((st9.trans st10).trans st11)) k12
                    obtain ⟨pe, e, rfl, ge, ne, hpe, oe, ee, en⟩ : ∃ pe e, v = .ref pe ∧ Gs sa ca pe ∧ pe ≠ pf ∧ H12 pe = some (.tup (edV e)) ∧ okE t e ∧ e.at = k ∧ e.next = k + 1 := by
                      have hv' := List.mem_of_getElem? hv
                      simp only [List.mem_cons, List.not_mem_nil, or_false] at hv'
                      rcases hv' with h | h
                      · exact ⟨p1, .out k, h, g1, n1, k12 _ _ g1 (st11 _ _ (st10 _ _ e1)), lt, rfl, rfl⟩
                      · refine ⟨p2, .sub k c, h, g2, n2, k12 _ _ g2 (st11 _ _ e2), ⟨lt, hc1, ?_⟩, rfl, rfl⟩
                        rw [hc0]
                        intro z
                        exact hne (Option.some.inj z).symm
                    have ll := rv8.length
                    rw [List.length_map] at ll
                    refine r_app (k8' _ _ gf hv8) (by omega) (done (es4 ++ [e]) _ _ ?_ ?_ ?_)
                    · refine ⟨vs8 ++ [.ref pe], upd_same, ?_, Kp.own (Kp.trans kv8 k8') hpf, (s12.own gf).mono (by omega), Vo_app t _ _ _ vo8 ⟨by omega, oe, trivial⟩⟩
                      rw [List.map_append]
                      exact (RpAll.append (rv8.mono fun a o g h => k8' a o g.1 h) (.cons (rp_ed ⟨ge, ne⟩ hpe) .nil)).mono (Kp.out (Kp.refl _ _) fun g => g.2 rfl)
                    · rw [List.length_append]
                      simp only [List.length_cons, List.length_nil]
                      omega
                    · rw [endp_app]
                      show e.next ≤ k + 1
                      omega
    · rintro σ' H1 ⟨es, y3, y4, y5, rfl, sc, hl, he⟩
      obtain ⟨vs, hv1, rv, kv, sv, vo⟩ := sc
      have h9 := ht.1
      walk_at "u"
      refine q _ pf es kv (sv.mono (by omega)) vo (by omega) (.lst gf hv1 (rv.wide fun a g => g.1))
end
end K76
set_option Elab.async false
set_option linter.all false
set_option maxRecDepth 100000
set_option maxHeartbeats 4000000
namespace K76
open PySem PySem.Spec PyProof.Rows L2 TbA TbD TbL TL RZ
local macro_rules | `(tactic| walk_at "u") => `(tactic| simp only [tRet, tRetN, tSeq, tNext, tIfS, tAsg, tDrop, tAndV, tOrV, tNotV, tAnd, tOr, tNot, tB, tTest, tIf, tCB, tCons, tNil, tC, tVar, tOp, tUn, tChain, tCall, tM1, tTup, tLst, tSl, tPart, tNoPart, gName, gSub, gCons, gNil, gTup, tBreak, tCont, tNever,
  rI0, rI, rEq, rNe, cxOf, Cx.nox, Cx.wish, L2.start, List.map_cons, List.map_nil, List.length_cons, List.length_nil, List.cons_append, List.nil_append, List.replicate, List.getElem?_cons_zero, List.getElem?_cons_succ, Option.some.injEq, List.cons.injEq, and_true, true_and, V.int.injEq, V.bl.injEq, V.str.injEq, V.ref.injEq,
  exists_eq_left', exists_and_left, exists_eq_left, Nat.reduceSub, Nat.reduceAdd, List.set_cons_zero, List.set_cons_succ])
local macro_rules | `(tactic| walk_at "e") => `(tactic| simp only [tAndV, tOrV, tNotV, tAnd, tOr, tNot, tB, tTest, tIf, tCB, tCons, tNil, tC, tVar, tOp, tUn, tChain, tCall, tM1, tTup, tLst, tSl, tPart, tNoPart, gName, gSub, gCons, gNil, gTup, 
  rI0, rI, rEq, rNe, cxOf, Cx.nox, Cx.wish, L2.start, List.map_cons, List.map_nil, List.length_cons, List.length_nil, List.cons_append, List.nil_append, List.replicate, List.getElem?_cons_zero, List.getElem?_cons_succ, Option.some.injEq, List.cons.injEq, and_true, true_and, V.int.injEq, V.bl.injEq, V.str.injEq, V.ref.injEq,
  exists_eq_left', exists_and_left, exists_eq_left, Nat.reduceSub, Nat.reduceAdd, List.set_cons_zero, List.set_cons_succ])

section
variable {P : Program} {w : World} {K : PySem.W.Frag} {mg : Str → Option Value} {base : Heap}
theorem Vo_mid {t : List Nat} : ∀ (pre : List Ed) (e : Ed) (post : List Ed) (a : Nat), Vo t a (pre ++ e :: post) → okE t e ∧ Vo t e.next post
  | [], _, _, _, ⟨_, h2, h3⟩ => ⟨h2, h3⟩
  | _ :: pre, e, post, _, ⟨_, _, h⟩ => Vo_mid pre e post _ h
theorem app1_len {t : List Nat} : ∀ (es : List Ed), (es.foldr app1 t).length ≤ t.length + es.length
  | [] => Nat.le_refl _
  | e :: es => by
    have ih := app1_len (t := t) es
    rw [List.foldr_cons]
    have l3 : e.at ≤ e.next := by cases e <;> simp only [Ed.at, Ed.next] <;> omega
    have lp : e.put.length ≤ 1 := by cases e <;> simp only [Ed.put, List.length_cons, List.length_nil] <;> omega
    simp only [app1, List.length_append, List.length_take, List.length_drop, List.length_cons]
    omega
/-! ### _law_done -/
def sp_done : Sp := fun vs H Q _ => ∃ (G : Addr → Prop) (t : List Nat) (es : List Ed) (p : Addr), vs = [.str (S t), .ref p] ∧ Rp G H (.ref p) (.list (es.map edD)) ∧ t.length ≤ 100 ∧ es.length ≤ 100 ∧ Vo t 0 es ∧
  ∀ H', Same H H' → Q (.str (S (fw t 0 es))) H'
structure DoI (t : List Nat) (es : List Ed) (p : Addr) (H : Hp) (k : Nat) (σ : L2.St) (H' : Hp) : Prop where
  ex : ∃ y2 y3 : Option V, σ = [some (.str (S ((es.drop (es.length - k)).foldr app1 t))), some (.ref p), y2, y3] ∧ Same H H'
theorem ok__law_done (T : Tx K mg) : FnOk P w K mg base CX0 1 T.f__law_done T.d__law_done ["text", "script"] sp_done := by
  refine T.F__law_done.ok sc_law_done (fun vs H Q E h => ?_) (fun cdv A outer s H vs Q E hr h => ?_)
  · obtain ⟨G, t, es, p, rfl, _⟩ := h
    rfl
  · obtain ⟨G, t, es, p, rfl, rp, lt, le, vo, q⟩ := h
    refine ⟨_, (pss_cons (ps_for PassesOwn.never rfl (pi_list (pe_revL (pv 1))) (pg_name (i := 2) sc_law_done.nd rfl (Or.inl rfl))
  (pss_cons (ps_set (i := 3) sc_law_done.nd rfl (Or.inl rfl) (pe_ix ix_tup (pv 2) pe_int (fun _ _ => rfl)))
  (pss_one (ps_set (i := 0) sc_law_done.nd rfl (Or.inl rfl) (pe_op op_add_str (pe_op op_add_str (pe_slice sl_str (pv 0) po_none (po_some (pv 3))) (pe_ifExp (pt_cmpR op_eq (pe_ix ix_tup (pv 2) pe_int (fun _ _ => rfl)) pe_str (nomark _)) pe_str (pe_ix ix_tup (pv 2) pe_int (fun _ _ => rfl)))) (pe_slice sl_str (pv 0) (po_some (pe_op op_add (pv 3) (pe_ifExp (pt_cmpR op_eq (pe_ix ix_tup (pv 2) pe_int (fun _ _ => rfl)) pe_str (nomark _)) pe_int pe_int))) po_none))))))
  (pss_one (ps_ret (pv 0)))), ?_⟩
    obtain ⟨xs, hp, gp, ra⟩ : ∃ xs, H p = some (.lst xs) ∧ G p ∧ RpAll G H xs (es.map edD) := by
      cases rp with
      | lst g h r => exact ⟨_, h, g, r⟩
    have hlx : xs.length = es.length := by
      have := ra.length
      rwa [List.length_map] at this
    refine seqFor (for_lst ?_)
    refine ⟨_, rfl, p, xs, rfl, SqL.of hp, fun pr hpr => ⟨pr, rfl, ⟨xs.reverse, SqL.of upd_same⟩, ?_⟩⟩
    have s0 : Same H (upd H pr (.lst xs.reverse)) := same_new hpr
    have hr0 : upd H pr (.lst xs.reverse) pr = some (.lst xs.reverse) := upd_same
    generalize upd H pr (.lst xs.reverse) = H0 at s0 hr0 ⊢
    refine forN (walk_list (K := K) (a := pr) (xs := xs.reverse)) (fun k σ H' => DoI t es p H k σ H' ∧ Same H0 H') ⟨⟨none, none, by simp; rfl, s0⟩, L2.Same.refl _⟩ (fun k σ' H' h => SqL.of (h.2 _ _ hr0)) ?_ ?_
    · rintro k x σ' H1 H2 hk ⟨⟨y2, y3, rfl, s1⟩, s01⟩ ⟨rfl, hx⟩
      rw [List.length_reverse] at hk
      rw [List.getElem?_reverse hk] at hx
      obtain ⟨d, hd, rd⟩ := (ra.mono (Kp.of s1)).get hx
      obtain ⟨e, he, rfl⟩ : ∃ e, es[xs.length - 1 - k]? = some e ∧ edD e = d := by
        rw [List.getElem?_map] at hd
        cases h : es[xs.length - 1 - k]? with
        | none =>
          rw [h] at hd
          cases hd
        | some e =>
          rw [h] at hd
          exact ⟨e, rfl, Option.some.inj hd⟩
      obtain ⟨pe, rfl, _, hpe⟩ := ed_rp rd
      have lt1 : es.length - (k + 1) < es.length := by omega
      have ed : es.drop (es.length - (k + 1)) = e :: es.drop (es.length - k) := by
        rw [List.drop_eq_getElem_cons lt1]
        have e1 : es.length - (k + 1) + 1 = es.length - k := by omega
        have e2 : es[es.length - (k + 1)] = e := by
          rw [show xs.length - 1 - k = es.length - (k + 1) by omega, List.getElem?_eq_getElem lt1] at he
          exact Option.some.inj he
        rw [e1, e2]
      have vm : okE t e ∧ Vo t e.next (es.drop (es.length - k)) := by
        refine Vo_mid (es.take (es.length - (k + 1))) e _ 0 ?_
        rw [← ed, List.take_append_drop]
        exact vo
      obtain ⟨l1, l2, l3⟩ := okE_at vm.1
      have cur := done_fw _ e.next l2 vm.2
      have lc : (es.drop (es.length - k)).length ≤ 100 := by
        rw [List.length_drop]
        omega
      have ll := app1_len (t := t) (es.drop (es.length - k))
      have ge : e.next ≤ ((es.drop (es.length - k)).foldr app1 t).length := by
        rw [cur, List.length_append, List.length_take]
        omega
      have nxt : (es.drop (es.length - (k + 1))).foldr app1 t = app1 e ((es.drop (es.length - k)).foldr app1 t) := by
        rw [ed]
        rfl
      generalize (es.drop (es.length - k)).foldr app1 t = l at ge nxt ll
      have ls : (S l).length = l.length := by rw [← tl_len]
      dsimp only [List.set_cons_succ, List.set_cons_zero]
      have fin : ∀ H3, Same H2 H3 → (DoI t es p H (k + 1) [some (.str (S (app1 e l))), some (.ref p), some (.ref pe), some (.int (e.at : Nat))] H3 ∧ Same H0 H3) := fun H3 s => by
        rw [← nxt]
        exact ⟨⟨_, _, rfl, s1.trans s⟩, s01.trans s⟩
      walk_at "u"
      have lz_ : (S l).length ≤ sizeLine := Nat.le_trans (show (S l).length ≤ 1000 by omega) (by decide)
      have cB : cutS (S l) none (some (e.at : Int)) = S (l.take e.at) := by
        rw [cut_b (by omega)]
      have cA : cutS (S l) (some ((e.next : Nat) : Int)) none = S (l.drop e.next) := by
        rw [cut_a (by omega)]
      have nil_ : (Str.ofString "") = S [] := tl_inj (by decide +kernel)
      have sz : ∀ x y : Str, x.length ≤ 1000 → y.length ≤ 1000 → x.length + y.length ≤ sizeLine := fun x y h1 h2 => Nat.le_trans (show _ ≤ 2000 by omega) (by decide)
      have lS : ∀ m : List Nat, (S m).length = m.length := fun m => by rw [← tl_len]
      have app : S (app1 e l) = S (l.take e.at) ++ S e.put ++ S (l.drop e.next) := by
        rw [S_app, S_app]
        rfl
      have lt_ : (l.take e.at).length ≤ 400 := by
        rw [List.length_take]
        omega
      have ld_ : (l.drop e.next).length ≤ 400 := by
        rw [List.length_drop]
        omega
      rw [app] at fin
      refine ixE hpe (ed1 e) ⟨_, rfl, S l, rfl, lz_, ixE hpe (ed0 e) ⟨rfl, ?_⟩⟩
      rw [decS, word_out, cB]
      cases e with
      | out i =>
        refine iteT ⟨_, rfl, ?_, ixE hpe (ed0 (.out i)) ⟨rfl, ?_⟩⟩
        · rw [nil_]
          exact sz _ _ (by rw [lS]; omega) (by rw [lS]; exact Nat.zero_le _)
        · rw [decS, word_in]
          refine iteF ⟨_, rfl, S l, rfl, lz_, ?_⟩
          have e1 : ((Ed.out i).at : Int) + 1 = ((Ed.out i).next : Nat) := rfl
          rw [e1, cA, nil_]
          refine ⟨_, rfl, sz _ _ ?_ (by rw [lS]; omega), fin _ (L2.Same.refl _)⟩
          rw [S_app, lS, List.length_append]
          simp only [List.length_nil]
          omega
      | ins i c =>
        refine iteF (ixE hpe (j := 2) rfl ⟨_, rfl, _, rfl, ?_, ixE hpe (ed0 (.ins i c)) ⟨rfl, ?_⟩⟩)
        · exact sz _ _ (by rw [lS]; omega) (show 1 ≤ 1000 by decide)
        · rw [decS, word_in]
          refine iteT ⟨_, rfl, S l, rfl, lz_, ?_⟩
          have e1 : ((Ed.ins i c).at : Int) + 0 = ((Ed.ins i c).next : Nat) := rfl
          rw [e1, cA]
          refine ⟨_, rfl, sz _ _ ?_ (by rw [lS]; omega), fin _ (L2.Same.refl _)⟩
          show (S _ ++ S [c]).length ≤ _
          rw [S_app, lS, List.length_append]
          simp only [List.length_cons, List.length_nil]
          omega
      | sub i c =>
        refine iteF (ixE hpe (j := 2) rfl ⟨_, rfl, _, rfl, ?_, ixE hpe (ed0 (.sub i c)) ⟨rfl, ?_⟩⟩)
        · exact sz _ _ (by rw [lS]; omega) (show 1 ≤ 1000 by decide)
        · rw [decS, word_in]
          refine iteF ⟨_, rfl, S l, rfl, lz_, ?_⟩
          have e1 : ((Ed.sub i c).at : Int) + 1 = ((Ed.sub i c).next : Nat) := rfl
          rw [e1, cA]
          refine ⟨_, rfl, sz _ _ ?_ (by rw [lS]; omega), fin _ (L2.Same.refl _)⟩
          show (S _ ++ S [c]).length ≤ _
          rw [S_app, lS, List.length_append]
          simp only [List.length_cons, List.length_nil]
          omega
    · rintro σ' H1 ⟨⟨y2, y3, rfl, s1⟩, _⟩
      walk_at "u"
      have e := done_fw es 0 (Nat.zero_le _) vo
      have e2 : (es.drop (es.length - xs.reverse.length)).foldr app1 t = fw t 0 es := by
        rw [List.length_reverse, hlx, Nat.sub_self]
        exact e
      rw [e2]
      exact q _ s1
end
end K76
set_option Elab.async false
set_option linter.all false
set_option maxRecDepth 100000
set_option maxHeartbeats 4000000
namespace K76
open PySem PySem.Spec PyProof.Rows L2 TbA TbD TbL TL RZ
local macro_rules | `(tactic| walk_at "u") => `(tactic| simp only [tRet, tRetN, tSeq, tNext, tIfS, tAsg, tDrop, tAndV, tOrV, tNotV, tAnd, tOr, tNot, tB, tTest, tIf, tCB, tCons, tNil, tC, tVar, tOp, tUn, tChain, tCall, tM1, tTup, tLst, tSl, tPart, tNoPart, gName, gSub, gCons, gNil, gTup, tBreak, tCont, tNever,
  rI0, rI, rEq, rNe, cxOf, Cx.nox, Cx.wish, L2.start, List.map_cons, List.map_nil, List.length_cons, List.length_nil, List.cons_append, List.nil_append, List.replicate, List.getElem?_cons_zero, List.getElem?_cons_succ, Option.some.injEq, List.cons.injEq, and_true, true_and, V.int.injEq, V.bl.injEq, V.str.injEq, V.ref.injEq,
  exists_eq_left', exists_and_left, exists_eq_left, Nat.reduceSub, Nat.reduceAdd, List.set_cons_zero, List.set_cons_succ])
local macro_rules | `(tactic| walk_at "e") => `(tactic| simp only [tAndV, tOrV, tNotV, tAnd, tOr, tNot, tB, tTest, tIf, tCB, tCons, tNil, tC, tVar, tOp, tUn, tChain, tCall, tM1, tTup, tLst, tSl, tPart, tNoPart, gName, gSub, gCons, gNil, gTup, 
  rI0, rI, rEq, rNe, cxOf, Cx.nox, Cx.wish, L2.start, List.map_cons, List.map_nil, List.length_cons, List.length_nil, List.cons_append, List.nil_append, List.replicate, List.getElem?_cons_zero, List.getElem?_cons_succ, Option.some.injEq, List.cons.injEq, and_true, true_and, V.int.injEq, V.bl.injEq, V.str.injEq, V.ref.injEq,
  exists_eq_left', exists_and_left, exists_eq_left, Nat.reduceSub, Nat.reduceAdd, List.set_cons_zero, List.set_cons_succ])

section
variable {P : Program} {w : World} {K : PySem.W.Frag} {mg : Str → Option Value} {base : Heap}
/-! ### _law_back -/
def sp_back : Sp := fun vs H Q _ => ∃ (G : Addr → Prop) (t : List Nat) (es : List Ed) (p : Addr), vs = [.str (S t), .ref p] ∧ Rp G H (.ref p) (.list (es.map edD)) ∧ t.length ≤ 100 ∧ es.length ≤ 100 ∧ Vo t 0 es ∧
  ∀ H' pf, Same H H' → H pf = none → Rp (fun a => H a = none) H' (.ref pf) (.list ((bk t 0 0 es).map edD)) → Q (.ref pf) H'
structure BaI (t : List Nat) (es : List Ed) (p pf : Addr) (H : Hp) (k : Nat) (σ : L2.St) (H' : Hp) : Prop where
  ex : ∃ (a b : Nat) (pre : List Ed) (vs : List V) (y4 y5 : Option V), σ = [some (.str (S t)), some (.ref p), y4, some (.ref pf), some (.int ((b : Int) - a)), y5] ∧ H' pf = some (.lst vs) ∧
    RpAll (fun x => H x = none ∧ x ≠ pf) H' vs (pre.map edD) ∧ Same H H' ∧ bk t 0 0 es = pre ++ bk t a b (es.drop k) ∧ Vo t a (es.drop k) ∧ pre.length = k
theorem bk_len {t : List Nat} : ∀ (es : List Ed) (a b : Nat), (bk t a b es).length = es.length
  | [], _, _ => rfl
  | .out i :: es, a, b => congrArg (· + 1) (bk_len es _ _)
  | .ins i c :: es, a, b => congrArg (· + 1) (bk_len es _ _)
  | .sub i c :: es, a, b => congrArg (· + 1) (bk_len es _ _)
theorem ok__law_back (T : Tx K mg) : FnOk P w K mg base CX0 1 T.f__law_back T.d__law_back ["text", "script"] sp_back := by
  refine T.F__law_back.ok sc_law_back (fun vs H Q E h => ?_) (fun cdv A outer s H vs Q E hr h => ?_)
  · obtain ⟨G, t, es, p, rfl, _⟩ := h
    rfl
  · obtain ⟨G, t, es, p, rfl, rp, lt, le, vo, q⟩ := h
    refine ⟨_, (pss_cons (ps_par (i := 3) (j := 4) (by rfl) sc_law_back.nd rfl rfl (by decide) rfl rfl (pa_cons (pe_lst pa_nil) (pa_cons pe_int pa_nil)) (by rfl))
  (pss_cons (ps_for PassesOwn.never rfl (pi_list (pv 1)) (pg_name (i := 2) sc_law_back.nd rfl (Or.inl rfl))
  (pss_cons (ps_set (i := 5) sc_law_back.nd rfl (Or.inl rfl) (pe_op op_add (pe_ix ix_tup (pv 2) pe_int (fun _ _ => rfl)) (pv 4)))
  (pss_one (ps_if (pt_cmpR op_eq (pe_ix ix_tup (pv 2) pe_int (fun _ _ => rfl)) pe_str (nomark _))
  (pss_cons (ps_expr (pe_bm PySem.F.plainAttrs_list PySem.F.slot_list_append PySem.F.type_list_append mt_append (pv 3) (pa_cons (pe_tup (pa_cons pe_str (pa_cons (pv 5) pa_nil))) pa_nil)))
  (pss_one (ps_set (i := 4) sc_law_back.nd rfl (Or.inl rfl) (pe_op op_add (pv 4) pe_int)))) (pss_one (ps_if (pt_cmpR op_eq (pe_ix ix_tup (pv 2) pe_int (fun _ _ => rfl)) pe_str (nomark _))
  (pss_cons (ps_expr (pe_bm PySem.F.plainAttrs_list PySem.F.slot_list_append PySem.F.type_list_append mt_append (pv 3) (pa_cons (pe_tup (pa_cons pe_str (pa_cons (pv 5) (pa_cons (pe_ix ix_str (pv 0) (pe_ix ix_tup (pv 2) pe_int (fun _ _ => rfl)) (fun _ _ => rfl)) pa_nil)))) pa_nil)))
  (pss_one (ps_set (i := 4) sc_law_back.nd rfl (Or.inl rfl) (pe_op op_sub (pv 4) pe_int)))) (pss_one (ps_expr (pe_bm PySem.F.plainAttrs_list PySem.F.slot_list_append PySem.F.type_list_append mt_append (pv 3) (pa_cons (pe_tup (pa_cons pe_str (pa_cons (pv 5) (pa_cons (pe_ix ix_str (pv 0) (pe_ix ix_tup (pv 2) pe_int (fun _ _ => rfl)) (fun _ _ => rfl)) pa_nil)))) pa_nil))))))))))
  (pss_one (ps_ret (pv 3))))), ?_⟩
    obtain ⟨xs, hp, gp, ra⟩ : ∃ xs, H p = some (.lst xs) ∧ G p ∧ RpAll G H xs (es.map edD) := by
      cases rp with
      | lst g h r => exact ⟨_, h, g, r⟩
    have hlx : xs.length = es.length := by
      have := ra.length
      rwa [List.length_map] at this
    refine ⟨Nat.zero_le _, fun pf hpf => ⟨_, _, rfl, ?_⟩⟩
    dsimp only
    refine seqFor (for_lst ?_)
    refine ⟨_, rfl, p, rfl, ⟨xs, SqL.of (same_new hpf _ _ hp)⟩, ?_⟩
    have ln : (S t).length = t.length := by rw [← tl_len]
    refine forN (walk_list (K := K) (a := p) (xs := xs)) (BaI t es p pf H) ⟨0, 0, [], [], none, none, rfl, upd_same, .nil, same_new hpf, rfl, vo, rfl⟩ (fun k σ' H' h => by
      obtain ⟨_, _, _, _, _, _, _, _, _, s, _⟩ := h
      exact SqL.of (s _ _ hp)) ?_ ?_
    · rintro k x σ' H1 H2 hk ⟨a, b, pre, vs, y4, y5, rfl, hl, rv, s1, ebk, vk, pl⟩ ⟨rfl, hx⟩
      obtain ⟨d, hd, rd⟩ := (ra.mono (Kp.of s1)).get hx
      obtain ⟨e, he, rfl⟩ : ∃ e, es[k]? = some e ∧ edD e = d := by
        rw [List.getElem?_map] at hd
        cases h : es[k]? with
        | none =>
          rw [h] at hd
          cases hd
        | some e =>
          rw [h] at hd
          exact ⟨e, rfl, Option.some.inj hd⟩
      obtain ⟨pe, rfl, _, hpe⟩ := ed_rp rd
      have lt1 : k < es.length := by omega
      have ed : es.drop k = e :: es.drop (k + 1) := by
        rw [List.drop_eq_getElem_cons lt1]
        rw [List.getElem?_eq_getElem lt1] at he
        rw [Option.some.inj he]
      rw [ed] at ebk vk
      obtain ⟨v1, v2, v3⟩ := vk
      dsimp only [List.set_cons_succ, List.set_cons_zero]
      have fin : ∀ (e' : Ed) (pe' : Addr) (a' b' : Nat) (H3 : Hp), bk t a b (e :: es.drop (k + 1)) = e' :: bk t a' b' (es.drop (k + 1)) → Vo t a' (es.drop (k + 1)) → Same H2 H3 → H2 pe' = none → H3 pe' = some (.tup (edV e')) → ∀ y5,
          BaI t es p pf H (k + 1) [some (.str (S t)), some (.ref p), some (.ref pe), some (.ref pf), some (.int ((b' : Int) - a')), y5] (upd H3 pf (.lst (vs ++ [.ref pe']))) := fun e' pe' a' b' H3 h1 h2 h3 h4 h5 y5 => by
        have npf : pe' ≠ pf := Ne.symm (ne_of_none hl h4)
        refine ⟨a', b', pre ++ [e'], _, _, _, rfl, upd_same, ?_, Same.own (s1.trans h3) hpf, ?_, h2, ?_⟩
        · rw [List.map_append]
          exact (RpAll.append (rv.mono (Kp.of h3)) (.cons (rp_ed ⟨L2.Same.free s1 h4, npf⟩ h5) .nil)).mono (Kp.out (Kp.refl _ _) fun g => g.2 rfl)
        · rw [ebk, h1, List.append_assoc]
          rfl
        · rw [List.length_append, pl]
          rfl
      refine seqAsg ?_
      walk_at "e"
      refine ixE hpe (ed1 e) ⟨_, rfl, ?_⟩
      have ea : (e.at : Int) + ((b : Int) - a) = ((b + (e.at - a) : Nat) : Int) := by omega
      rw [ea]
      walk_at "u"
      refine ixE hpe (ed0 e) ⟨rfl, ?_⟩
      rw [decS, word_in]
      obtain ⟨l1, l2, l3⟩ := okE_at v2
      have lp : vs.length = k := by
        have := rv.length
        rw [List.length_map] at this
        omega
      have lsz : (S t).length ≤ sizeLine := Nat.le_trans (show (S t).length ≤ 1000 by omega) (by decide)
      cases e with
      | ins i c =>
        refine iteT ⟨_, rfl, .inl ⟨rfl, _, SqL.of hl⟩, ?_⟩
        walk_at "e"
        refine ⟨by decide, fun pt hpt => r_app (same_new hpt _ _ hl) (by omega) ?_⟩
        have e1 : (b : Int) - a + 1 = ((b + (i - a) + 1 : Nat) : Int) - (i : Nat) := by
          have : a ≤ i := v1
          omega
        rw [e1]
        exact fin (.out (b + (i - a))) pt i (b + (i - a) + 1) _ rfl v3 (same_new hpt) hpt upd_same _
      | out i =>
        have hi : i < t.length := v2
        have hc : t[i]? = some (t.getD i 0) := by simp [List.getD, List.getElem?_eq_getElem hi]
        refine iteF (ixE hpe (ed0 (.out i)) ⟨rfl, ?_⟩)
        rw [decS, word_out]
        refine iteT ⟨_, rfl, .inl ⟨rfl, _, SqL.of hl⟩, ?_⟩
        walk_at "e"
        refine ixE hpe (ed1 (.out i)) ⟨S t, i, t.getD i 0, rfl, rfl, lsz, atI_nat hc, by decide, fun pt hpt => r_app (same_new hpt _ _ hl) (by omega) ?_⟩
        have e1 : (b : Int) - a - 1 = ((b + (i - a) : Nat) : Int) - ((i + 1 : Nat) : Int) := by
          have : a ≤ i := v1
          omega
        rw [e1]
        exact fin (.ins (b + (i - a)) (t.getD i 0)) pt (i + 1) (b + (i - a)) _ rfl v3 (same_new hpt) hpt upd_same _
      | sub i c =>
        have hi : i < t.length := v2.1
        have hc : t[i]? = some (t.getD i 0) := by simp [List.getD, List.getElem?_eq_getElem hi]
        refine iteF (ixE hpe (ed0 (.sub i c)) ⟨rfl, ?_⟩)
        rw [decS, word_out]
        refine iteF ⟨_, rfl, .inl ⟨rfl, _, SqL.of hl⟩, ?_⟩
        walk_at "e"
        refine ixE hpe (ed1 (.sub i c)) ⟨S t, i, t.getD i 0, rfl, rfl, lsz, atI_nat hc, by decide, fun pt hpt => r_app (same_new hpt _ _ hl) (by omega) ?_⟩
        have e1 : (b : Int) - a = ((b + (i - a) + 1 : Nat) : Int) - ((i + 1 : Nat) : Int) := by
          have : a ≤ i := v1
          omega
        rw [e1]
        exact fin (.sub (b + (i - a)) (t.getD i 0)) pt (i + 1) (b + (i - a) + 1) _ rfl v3 (same_new hpt) hpt upd_same _
    · rintro σ' H1 ⟨a, b, pre, vs, y4, y5, rfl, hl, rv, s1, ebk, vk, pl⟩
      walk_at "u"
      have e : bk t 0 0 es = pre := by
        have e2 : es.drop xs.length = [] := List.drop_of_length_le (by omega)
        rw [e2] at ebk
        rw [ebk]
        exact List.append_nil _
      refine q _ _ s1 hpf (.lst hpf hl ?_)
      rw [e]
      exact rv.wide fun a g => g.1
end
end K76
set_option Elab.async false
set_option linter.all false
set_option maxRecDepth 100000
set_option maxHeartbeats 4000000
namespace K76
open PySem PySem.Spec PyProof.Rows L2 TbA TbD TbL TL RZ
local macro_rules | `(tactic| walk_at "u") => `(tactic| simp only [tRet, tRetN, tSeq, tNext, tIfS, tAsg, tDrop, tAndV, tOrV, tNotV, tAnd, tOr, tNot, tB, tTest, tIf, tCB, tCons, tNil, tC, tVar, tOp, tUn, tChain, tCall, tM1, tTup, tLst, tSl, tPart, tNoPart, gName, gSub, gCons, gNil, gTup, tBreak, tCont, tNever,
  rI0, rI, rEq, rNe, cxOf, Cx.nox, Cx.wish, L2.start, List.map_cons, List.map_nil, List.length_cons, List.length_nil, List.cons_append, List.nil_append, List.replicate, List.getElem?_cons_zero, List.getElem?_cons_succ, Option.some.injEq, List.cons.injEq, and_true, true_and, V.int.injEq, V.bl.injEq, V.str.injEq, V.ref.injEq,
  exists_eq_left', exists_and_left, exists_eq_left, Nat.reduceSub, Nat.reduceAdd, List.set_cons_zero, List.set_cons_succ])
local macro_rules | `(tactic| walk_at "e") => `(tactic| simp only [tAndV, tOrV, tNotV, tAnd, tOr, tNot, tB, tTest, tIf, tCB, tCons, tNil, tC, tVar, tOp, tUn, tChain, tCall, tM1, tTup, tLst, tSl, tPart, tNoPart, gName, gSub, gCons, gNil, gTup, 
  rI0, rI, rEq, rNe, cxOf, Cx.nox, Cx.wish, L2.start, List.map_cons, List.map_nil, List.length_cons, List.length_nil, List.cons_append, List.nil_append, List.replicate, List.getElem?_cons_zero, List.getElem?_cons_succ, Option.some.injEq, List.cons.injEq, and_true, true_and, V.int.injEq, V.bl.injEq, V.str.injEq, V.ref.injEq,
  exists_eq_left', exists_and_left, exists_eq_left, Nat.reduceSub, Nat.reduceAdd, List.set_cons_zero, List.set_cons_succ])

section
variable {P : Program} {w : World} {K : PySem.W.Frag} {mg : Str → Option Value} {base : Heap}
theorem inO_at : ∀ (es : List Ed) (k : Nat) {e f : Ed}, inO es = true → es[k]? = some e → es[k + 1]? = some f → e.next ≤ f.at
  | [], _, _, _, _, h, _ => by simp at h
  | [_], k, _, _, _, _, h => by simp at h
  | e :: f :: l, 0, _, _, h, h1, h2 => by
    cases Option.some.inj h1
    cases Option.some.inj h2
    exact of_decide_eq_true (Bool.and_eq_true_iff.mp h).1
  | e :: f :: l, k + 1, _, _, h, h1, h2 => inO_at (f :: l) k (Bool.and_eq_true_iff.mp h).2 h1 h2
/-! ### _law_in_order -/
def sp_in_order : Sp := fun vs H Q _ => ∃ (G : Addr → Prop) (t : List Nat) (es : List Ed) (p : Addr), vs = [.ref p] ∧ Rp G H (.ref p) (.list (es.map edD)) ∧ es.length ≤ 100 ∧ Vo t 0 es ∧ ∀ H', Same H H' → Q (.bl true) H'
structure OrI (p : Addr) (H : Hp) (k : Nat) (σ : L2.St) (H' : Hp) : Prop where
  ex : ∃ (y1 y2 : Option V), σ = [some (.ref p), y1, y2] ∧ Same H H'
theorem ok__law_in_order (T : Tx K mg) : FnOk P w K mg base CX0 1 T.f__law_in_order T.d__law_in_order ["script"] sp_in_order := by
  refine T.F__law_in_order.ok sc_law_in_order (fun vs H Q E h => ?_) (fun cdv A outer s H vs Q E hr h => ?_)
  · obtain ⟨G, t, es, p, rfl, _⟩ := h
    rfl
  · obtain ⟨G, t, es, p, rfl, rp, le, vo, q⟩ := h
    refine ⟨_, (pss_cons (ps_for PassesOwn.never rfl (pi_zipA (by rfl) T.m_zip (pa_cons (pv 0) (pa_cons (pe_slice sl_list (pv 0) (po_some pe_int) po_none) pa_nil))) (pg_tup rfl (pgs_cons (pg_name (i := 1) sc_law_in_order.nd rfl (Or.inl rfl)) (pgs_cons (pg_name (i := 2) sc_law_in_order.nd rfl (Or.inl rfl)) pgs_nil)))
  (pss_one (ps_if (PW.pt (pw_or (pt_cmpR op_lt (pe_ix ix_tup (pv 2) pe_int (fun _ _ => rfl)) (pe_ix ix_tup (pv 1) pe_int (fun _ _ => rfl)) (nomark _)) (pw_or1 (PW.pt (pw_and (pt_cmpR op_eq (pe_ix ix_tup (pv 2) pe_int (fun _ _ => rfl)) (pe_ix ix_tup (pv 1) pe_int (fun _ _ => rfl)) (nomark _)) (pw_and1 (pt_cmpR op_ne (pe_ix ix_tup (pv 1) pe_int (fun _ _ => rfl)) pe_str (nomark _))))))))
  (pss_one (ps_ret pe_bl)) pss_nil)))
  (pss_one (ps_ret pe_bl))), ?_⟩
    obtain ⟨xs, hp, gp, ra⟩ : ∃ xs, H p = some (.lst xs) ∧ G p ∧ RpAll G H xs (es.map edD) := by
      cases rp with
      | lst g h r => exact ⟨_, h, g, r⟩
    have hlx : xs.length = es.length := by
      have := ra.length
      rwa [List.length_map] at this
    refine seqFor ?_
    refine ⟨_, rfl, _, rfl, 1, rfl, p, xs, rfl, SqL.of hp, fun pr hpr => ⟨p, pr, xs, cutV xs (some 1) none, rfl, .inl ⟨SqL.of (same_new hpr _ _ hp), SqL.of upd_same, ?_⟩⟩⟩
    have cv : cutV xs (some 1) none = xs.drop 1 := by
      unfold cutV
      have e1 : HT.sIx xs.length 0 (some 1) = min 1 xs.length := HT.sIx_nat xs.length 0 1
      rw [e1, HT.sIx_none]
      by_cases h : 1 ≤ xs.length
      · rw [Nat.min_eq_left h, List.take_of_length_le (by rw [List.length_drop]; exact Nat.le_refl _)]
      · have h0 : xs = [] := List.length_eq_zero_iff.mp (by omega)
        rw [h0]
        rfl
    rw [cv]
    have s0 : Same H (upd H pr (.lst (xs.drop 1))) := same_new hpr
    have hr0 : upd H pr (.lst (xs.drop 1)) pr = some (.lst (xs.drop 1)) := upd_same
    generalize upd H pr (.lst (xs.drop 1)) = H0 at s0 hr0 ⊢
    refine for_it (walk_zip (K := K) (a := p) (b := pr) (n := xs.length - 1) (xs := xs) (ys := xs.drop 1) (by rw [List.length_drop]; omega)) (fun k σ H' => OrI p H k σ H' ∧ Same H0 H') ⟨⟨none, none, rfl, s0⟩, L2.Same.refl _⟩
      (fun k σ' H' _ h => ⟨SqL.of (h.2 _ _ (s0 _ _ hp)), SqL.of (h.2 _ _ hr0)⟩) ?_ ?_
    · rintro k x σ' H1 H2 hk ⟨⟨y1, y2, rfl, s1⟩, s01⟩ ⟨T', x, y, rfl, hT, rfl, hx, hy⟩
      refine g2 upd_same rfl ?_
      have s2 : Same H1 (upd H1 T' (.tup [x, y])) := same_new hT
      generalize upd H1 T' (.tup [x, y]) = H2 at s2 ⊢
      have s02 := s1.trans s2
      have hy : xs[1 + k]? = some y := by
        have h : (xs.drop 1)[k]? = some y := hy
        rwa [List.getElem?_drop] at h
      have ge : ∀ {j : Nat} {v : V}, xs[j]? = some v → ∃ e pe, es[j]? = some e ∧ v = .ref pe ∧ H2 pe = some (.tup (edV e)) := fun {j v} h => by
        obtain ⟨d, hd, rd⟩ := (ra.mono (Kp.of s02)).get h
        rw [List.getElem?_map] at hd
        cases h : es[j]? with
        | none =>
          rw [h] at hd
          cases hd
        | some e =>
          rw [h] at hd
          cases Option.some.inj hd
          obtain ⟨pe, rfl, _, hpe⟩ := ed_rp rd
          exact ⟨e, pe, rfl, rfl, hpe⟩
      obtain ⟨e, pe, he, rfl, hpe⟩ := ge hx
      obtain ⟨f, pf, hf, rfl, hpf⟩ := ge hy
      have ef : e.next ≤ f.at := by
        refine inO_at es k (Vo_inO es 0 vo) he ?_
        rw [Nat.add_comm]
        exact hf
      refine oneIf false (fun R k => ?_) fun H3 s3 => ⟨(fun e => by cases e), fun _ => ?_⟩
      · walk_at "e"
        refine ixE hpf (ed1 f) (ixE hpe (ed1 e) ⟨_, rfl, _, rfl, ?_⟩)
        have l3 : e.at ≤ e.next := by cases e <;> simp only [Ed.at, Ed.next] <;> omega
        refine iteB (b := false) (decide_eq_false (by omega)) (iteF (ixE hpf (ed1 f) (ixE hpe (ed1 e) ⟨rfl, ?_⟩)))
        rw [decI]
        by_cases c : (f.at : Int) = (e.at : Int)
        · rw [decide_eq_true c]
          refine iteT (ixE hpe (ed0 e) ⟨rfl, ?_⟩)
          rw [decS, word_in]
          have i1 : e.isIns = true := by
            cases e with
            | ins i c => rfl
            | out i =>
              have : i + 1 ≤ f.at := ef
              have : (f.at : Int) = (i : Nat) := c
              omega
            | sub i c0 =>
              have : i + 1 ≤ f.at := ef
              have : (f.at : Int) = (i : Nat) := c
              omega
          rw [i1]
          exact k _ (L2.Same.refl _)
        · rw [decide_eq_false c]
          exact iteF (k _ (L2.Same.refl _))
      · exact ⟨⟨_, _, rfl, s02.trans s3⟩, (s01.trans s2).trans s3⟩
    · rintro σ' H1 ⟨⟨y1, y2, rfl, s1⟩, _⟩
      walk_at "u"
      exact q _ s1
end
end K76
set_option Elab.async false
set_option linter.all false
set_option maxRecDepth 100000
set_option maxHeartbeats 4000000
namespace K76
open PySem PySem.Spec PyProof.Rows L2 TbA TbD TbL TL RZ
local macro_rules | `(tactic| walk_at "u") => `(tactic| simp only [tRet, tRetN, tSeq, tNext, tIfS, tAsg, tDrop, tAndV, tOrV, tNotV, tAnd, tOr, tNot, tB, tTest, tIf, tCB, tCons, tNil, tC, tVar, tOp, tUn, tChain, tCall, tM1, tTup, tLst, tSl, tPart, tNoPart, gName, gSub, gCons, gNil, gTup, tBreak, tCont, tNever,
  rI0, rI, rEq, rNe, cxOf, Cx.nox, Cx.wish, L2.start, List.map_cons, List.map_nil, List.length_cons, List.length_nil, List.cons_append, List.nil_append, List.replicate, List.getElem?_cons_zero, List.getElem?_cons_succ, Option.some.injEq, List.cons.injEq, and_true, true_and, V.int.injEq, V.bl.injEq, V.str.injEq, V.ref.injEq,
  exists_eq_left', exists_and_left, exists_eq_left, Nat.reduceSub, Nat.reduceAdd, List.set_cons_zero, List.set_cons_succ])
local macro_rules | `(tactic| walk_at "e") => `(tactic| simp only [tAndV, tOrV, tNotV, tAnd, tOr, tNot, tB, tTest, tIf, tCB, tCons, tNil, tC, tVar, tOp, tUn, tChain, tCall, tM1, tTup, tLst, tSl, tPart, tNoPart, gName, gSub, gCons, gNil, gTup, 
  rI0, rI, rEq, rNe, cxOf, Cx.nox, Cx.wish, L2.start, List.map_cons, List.map_nil, List.length_cons, List.length_nil, List.cons_append, List.nil_append, List.replicate, List.getElem?_cons_zero, List.getElem?_cons_succ, Option.some.injEq, List.cons.injEq, and_true, true_and, V.int.injEq, V.bl.injEq, V.str.injEq, V.ref.injEq,
  exists_eq_left', exists_and_left, exists_eq_left, Nat.reduceSub, Nat.reduceAdd, List.set_cons_zero, List.set_cons_succ])

section
variable {P : Program} {w : World} {K : PySem.W.Frag} {mg : Str → Option Value} {base : Heap}
/-! ### _law_wrong -/
def win (x : Str) : Bool := inV (.str x) [.str "in", .str "out", .str "for"]
theorem win_eq (x : Str) : win x = (decide (x = "in") || (decide (x = "out") || decide (x = "for"))) := by
  have e : ∀ a b : Str, eqV (.str a) (.str b) = decide (b = a) := fun a b => by
    show (a == b) = decide (b = a)
    by_cases h : b = a
    · subst h
      simp
    · have h' : ¬ a = b := fun z => h z.symm
      simp [h, h']
  simp only [win, inV, List.any_cons, List.any_nil, e, Bool.or_false]
def firstB (x : Str) (n : Nat) : Bool := !win x || !decide (n = if x = "out" then 2 else 3)
theorem first_ok {K : PySem.W.Frag} {H2 : Hp} {pt : Addr} {ys : List V} {x : Str} {R : Bool → Hp → Prop} {G : Addr → Prop} {es : List PyData} (rd : Rp G H2 (.ref pt) (.tuple es)) (hpt : H2 pt = some (.tup ys)) (h0 : ys[0]? = some (.str x)) (hn : 2 ≤ ys.length)
    (kk : ∀ H', Same H2 H' → R (firstB x ys.length) H') : rIsi K [.ref pt, V.ty "tuple"] H2 fun x_1 H1 =>
    ∃ c,
      x_1 = V.bl c ∧
        if (!c) = true then R true H1
        else
          ∃ x_2,
            LenV K (.ref pt) H1 x_2 ∧
              if decide ((x_2 : Int) < 2) = true then R true H1
              else
                rIxT K (.ref pt) (V.int 0) H1 fun x_3 H1 =>
                  3 ≤ sizeLine ∧
                    ∀ (p : Addr),
                      H1 p = none →
                        rIn K true x_3 (V.ref p)
                          (upd H1 p
                            (HO.tup
                              [V.str (Str.ofString "in"), V.str (Str.ofString "out"), V.str (Str.ofString "for")]))
                          fun x_4 H' =>
                          ∃ k,
                            x_4 = V.bl k ∧
                              if k = true then R true H'
                              else
                                ∃ x_5,
                                  LenV K (.ref pt) H' x_5 ∧
                                    rIxT K (.ref pt) (V.int 0) H' fun x H1 =>
                                      scal x (V.str (Str.ofString "out")) = true ∧
                                        if decide (x = V.str (Str.ofString "out")) = true then
                                          scal (V.int (x_5 : Int)) (V.int 2) = true ∧ R (!decide ((x_5 : Int) = 2)) H1
                                        else scal (V.int (x_5 : Int)) (V.int 3) = true ∧ R (!decide ((x_5 : Int) = 3)) H1 := by
  refine isi rd (by decide) ⟨_, rfl, iteB (b := false) (by simp [isN, tyN]) (iteF ⟨_, len_row (.inr hpt), iteB (b := false) (decide_eq_false (by omega)) (iteF ?_)⟩)⟩
  refine ⟨pt, ys, 0, .str x, rfl, rfl, SqT.of hpt, atI_nat h0, by decide, fun p hp => ⟨p, _, rfl, .inr (SqT.of upd_same), rfl, rfl, _, rfl, ?_⟩⟩
  have s3 : Same H2 (upd H2 p (HO.tup [V.str (Str.ofString "in"), V.str (Str.ofString "out"), V.str (Str.ofString "for")])) := same_new hp
  generalize upd H2 p (HO.tup [V.str (Str.ofString "in"), V.str (Str.ofString "out"), V.str (Str.ofString "for")]) = H3 at s3 ⊢
  show if (!win x) = true then _ else _
  unfold firstB at kk
  cases c : win x with
  | false =>
    rw [c] at kk
    exact iteT (kk _ s3)
  | true =>
    rw [c] at kk
    have hpt3 := s3 _ _ hpt
    refine iteF ⟨_, len_row (.inr hpt3), pt, ys, 0, .str x, rfl, rfl, SqT.of hpt3, atI_nat h0, rfl, ?_⟩
    rw [decS]
    have cast : ∀ m : Nat, decide ((ys.length : Int) = (m : Int)) = decide (ys.length = m) := fun m => by
      by_cases h : ys.length = m
      · rw [h]
        simp
      · rw [decide_eq_false h, decide_eq_false (by omega)]
    cases c2 : decide (x = Str.ofString "out") with
    | true =>
      refine iteT ⟨rfl, ?_⟩
      rw [if_pos (of_decide_eq_true c2)] at kk
      have := kk _ s3
      have c3 := cast 2
      rw [show ((2 : Nat) : Int) = 2 from rfl] at c3
      rw [c3]
      exact this
    | false =>
      refine iteF ⟨rfl, ?_⟩
      rw [if_neg (of_decide_eq_false c2)] at kk
      have := kk _ s3
      have c3 := cast 3
      rw [show ((3 : Nat) : Int) = 3 from rfl] at c3
      rw [c3]
      exact this
inductive Th : PyData → Prop
  | non : Th .none
  | int (i : Int) : Th (.int i)
  | str (x : Str) : Th (.str x)
  | t1 (x : Str) : Th (.tuple [.str x])
  | t2i (x : Str) (i : Int) : Th (.tuple [.str x, .int i])
  | t2b (x : Str) (b : Bool) : Th (.tuple [.str x, .bool b])
  | t3 (x : Str) (i : Int) (y : Str) (hy : y.length ≤ 1000) : Th (.tuple [.str x, .int i, .str y])
def TwoUp : PyData → Prop
  | .tuple (_ :: _ :: _) => True
  | _ => False
inductive Shape : PyData → List V → Str → Prop
  | i (x : Str) (i : Int) : Shape (.tuple [.str x, .int i]) [.str x, .int i] x
  | b (x : Str) (b : Bool) : Shape (.tuple [.str x, .bool b]) [.str x, .bl b] x
  | s (x : Str) (i : Int) (y : Str) (hy : y.length ≤ 1000) : Shape (.tuple [.str x, .int i, .str y]) [.str x, .int i, .str y] x
inductive Shap2 : PyData → List V → Str → Prop
  | i (i : Int) : Shap2 (.tuple [.str "out", .int i]) [.str "out", .int i] "out"
  | b (b : Bool) : Shap2 (.tuple [.str "out", .bool b]) [.str "out", .bl b] "out"
  | s (f : Bool) (i : Int) (y : Str) (hy : y.length ≤ 1000) : Shap2 (.tuple [.str (if f then "for" else "in"), .int i, .str y]) [.str (if f then "for" else "in"), .int i, .str y] (if f then "for" else "in")
theorem rp2 {G : Addr → Prop} {H : Hp} {v : V} {es : List PyData} (r : Rp G H v (.tuple es)) : ∃ p ys, v = .ref p ∧ H p = some (.tup ys) ∧ RpAll G H ys es := by
  cases r with
  | tup g h a => exact ⟨_, _, rfl, h, a⟩
theorem two_up {G : Addr → Prop} {H : Hp} {v : V} {d : PyData} {t : Str} (h : Th d) (r : Rp G H v d) : (¬ TwoUp d → edIn t d = none) ∧ (TwoUp d → ∃ pt ys x, v = .ref pt ∧ H pt = some (.tup ys) ∧ ys[0]? = some (.str x) ∧ 2 ≤ ys.length ∧ Shape d ys x) := by
  cases h with
  | non => exact ⟨fun _ => rfl, fun h => h.elim⟩
  | int i => exact ⟨fun _ => rfl, fun h => h.elim⟩
  | str i => exact ⟨fun _ => rfl, fun h => h.elim⟩
  | t1 x => exact ⟨fun _ => rfl, fun h => h.elim⟩
  | t2i x i =>
    refine ⟨fun h => absurd trivial h, fun _ => ?_⟩
    obtain ⟨p, ys, rfl, hp, ra⟩ := rp2 r
    cases ra with
    | cons r1 ra =>
      cases ra with
      | cons r2 ra =>
        cases r1
        cases r2
        cases ra
        exact ⟨p, _, x, rfl, hp, rfl, by simp, .i x i⟩
  | t2b x i =>
    refine ⟨fun h => absurd trivial h, fun _ => ?_⟩
    obtain ⟨p, ys, rfl, hp, ra⟩ := rp2 r
    cases ra with
    | cons r1 ra =>
      cases ra with
      | cons r2 ra =>
        cases r1
        cases r2
        cases ra
        exact ⟨p, _, x, rfl, hp, rfl, by simp, .b x i⟩
  | t3 x i y hy =>
    refine ⟨fun h => absurd trivial h, fun _ => ?_⟩
    obtain ⟨p, ys, rfl, hp, ra⟩ := rp2 r
    cases ra with
    | cons r1 ra =>
      cases ra with
      | cons r2 ra =>
        cases ra with
        | cons r3 ra =>
          cases r1
          cases r2
          cases r3
          cases ra
          exact ⟨p, _, x, rfl, hp, rfl, by simp, .s x i y hy⟩
theorem isW_eq (w : String) (x : Str) : isW w (.str x) = decide (x = (w : Str)) := rfl
theorem first_out (x : Str) : firstB x 2 = !decide (x = "out") := by
  unfold firstB
  rw [win_eq]
  by_cases h : x = "out"
  · subst h
    simp
  · simp [h]
theorem first_in (x : Str) : firstB x 3 = !(decide (x = "in") || decide (x = "for")) := by
  unfold firstB
  rw [win_eq]
  by_cases h : x = "out"
  · subst h
    decide +kernel
  · simp [h]
theorem first_bad {d : PyData} {ys : List V} {x : Str} {t : Str} (h : Shape d ys x) (e : firstB x ys.length = true) : edIn t d = none := by
  cases h with
  | i x i =>
    have e' : firstB x 2 = true := e
    rw [first_out] at e'
    have c : decide (x = "out") = false := by simpa using e'
    show edOf t [.str x, .int i] = none
    have b1 : bOut t [.str x, .int i] = false := by
      show (isW "out" (.str x) && isNum 0 ((t.length : Int) - 1) (.int i)) = false
      rw [isW_eq, c]
      rfl
    unfold edOf
    rw [b1]
    rfl
  | b x i =>
    show edOf t [.str x, .bool i] = none
    have b1 : bOut t [.str x, .bool i] = false := by
      show (isW "out" (.str x) && isNum 0 ((t.length : Int) - 1) (.bool i)) = false
      exact Bool.and_false _
    unfold edOf
    rw [b1]
    rfl
  | s x i y hy =>
    have e' : firstB x 3 = true := e
    rw [first_in] at e'
    have c : decide (x = "in") = false ∧ decide (x = "for") = false := by
      cases h1 : decide (x = "in") <;> cases h2 : decide (x = "for") <;> simp_all
    show edOf t [.str x, .int i, .str y] = none
    have b1 : bOut t [.str x, .int i, .str y] = false := rfl
    have b2 : bIns t [.str x, .int i, .str y] = false := by
      show (isW "in" (.str x) && (isNum 0 (t.length : Int) (.int i) && isSign (.str y))) = false
      rw [isW_eq, c.1]
      rfl
    have b3 : bSub t [.str x, .int i, .str y] = false := by
      show (isW "for" (.str x) && (isNum 0 ((t.length : Int) - 1) (.int i) && isSign (.str y))) = false
      rw [isW_eq, c.2]
      rfl
    unfold edOf
    rw [b1, b2, b3]
    rfl
theorem first_good {d : PyData} {ys : List V} {x : Str} (h : Shape d ys x) (e : firstB x ys.length = false) : Shap2 d ys x := by
  cases h with
  | i x i =>
    have e' : firstB x 2 = false := e
    rw [first_out] at e'
    have c : x = "out" := by simpa using e'
    subst c
    exact .i i
  | b x i =>
    have e' : firstB x 2 = false := e
    rw [first_out] at e'
    have c : x = "out" := by simpa using e'
    subst c
    exact .b i
  | s x i y hy =>
    have e' : firstB x 3 = false := e
    rw [first_in] at e'
    have c : x = "in" ∨ x = "for" := by
      by_cases h : x = "in"
      · exact .inl h
      · exact .inr (by simpa [h] using e')
    rcases c with rfl | rfl
    · exact .s false i y hy
    · exact .s true i y hy
def optV : Option Nat → V
  | none => .non
  | some k => .int (k : Nat)
def sp_wrong : Sp := fun vs H Q _ => ∃ (G : Addr → Prop) (t : List Nat) (ds : List PyData) (p : Addr), vs = [.str (S t), .ref p] ∧ Rp G H (.ref p) (.list ds) ∧ t.length ≤ 100 ∧ ds.length ≤ 100 ∧ (∀ d ∈ ds, Th d) ∧
  ∀ H', Same H H' → Q (optV (wrongO 0 0 (ds.map (edIn (S t))))) H'
structure WrI (t : List Nat) (ds : List PyData) (p : Addr) (H : Hp) (k : Nat) (σ : L2.St) (H' : Hp) : Prop where
  ex : ∃ (o : Option Ed) (lv : V) (y3 y4 y5 : Option V), σ = [some (.str (S t)), some (.ref p), some lv, y3, y4, y5] ∧ OptAt H' lv o ∧ Same H H' ∧
    wrongO 0 0 (ds.map (edIn (S t))) = wrongO (lastAt o) k ((ds.drop k).map (edIn (S t)))
theorem ixTt {K : PySem.W.Frag} {H : Hp} {p : Addr} {ys : List V} {j : Nat} {v : V} {Q : VK} (h : H p = some (.tup ys)) (hj : ys[j]? = some v) (q : Q v H) : rIxT K (.ref p) (.int (j : Nat)) H Q :=
  ⟨p, _, j, v, rfl, rfl, SqT.of h, atI_nat hj, q⟩
theorem num_ok {K : PySem.W.Frag} {H3 : Hp} {pt : Addr} {ys : List V} {i M : Int} {R : Bool → Hp → Prop} (hpt : H3 pt = some (.tup ys)) (h1 : ys[1]? = some (.int i))
    (kk : ∀ H', Same H3 H' → R (!isNum 0 (M - 1) (.int i)) H') : rIxT K (V.ref pt) (V.int 1) H3 fun x H1 =>
    rIsi K [x, V.ty "int"] H1 fun x H1 =>
      ∃ c,
        x = V.bl c ∧
          if (!c) = true then R true H1
          else
            rIxT K (V.ref pt) (V.int 1) H1 fun x H1 =>
              rIsi K [x, V.ty "bool"] H1 fun x H1 =>
                ∃ c,
                  x = V.bl c ∧
                    if c = true then R true H1
                    else
                      rIxT K (V.ref pt) (V.int 1) H1 fun y H2 =>
                        ∃ x,
                          y = V.int x ∧
                            if decide (0 ≤ x) = true then ∃ i, y = V.int i ∧ R (!decide (i < M)) H2
                            else R (!false) H2 := by
  refine ixTt (j := 1) hpt h1 (isi (G := fun _ => True) (.int i) (by decide) ⟨_, rfl, iteB (b := false) (by simp [isN, tyN]) (iteF ?_)⟩)
  refine ixTt (j := 1) hpt h1 (isi (G := fun _ => True) (.int i) (by decide) ⟨_, rfl, iteB (b := false) (by simp [isN, tyN]) (iteF ?_)⟩)
  refine ixTt (j := 1) hpt h1 ⟨i, rfl, ?_⟩
  have q := kk _ (L2.Same.refl _)
  have e : isNum 0 (M - 1) (.int i) = (decide (0 ≤ i) && decide (i ≤ M - 1)) := rfl
  rw [e] at q
  cases c : decide (0 ≤ i) with
  | true =>
    rw [c] at q
    refine iteT ⟨i, rfl, ?_⟩
    have e2 : decide (i < M) = decide (i ≤ M - 1) := by
      by_cases h : i < M
      · rw [decide_eq_true h, decide_eq_true (by omega)]
      · rw [decide_eq_false h, decide_eq_false (by omega)]
    rw [e2]
    exact q
  | false =>
    rw [c] at q
    exact iteF q
theorem sign_one (c : Nat) : isSign (.str (S [c])) = decide (c ∈ tl SG) := by
  by_cases h : c ∈ tl SG
  · rw [decide_eq_true h]
    exact isT_sg h
  · rw [decide_eq_false h]
    show ((decide (((S [c]).length : Int) ≤ 1) && (([c].filter fun c => !decide (c ∈ SG.cps.toList)).isEmpty)) && !decide (S [c] = "")) = false
    have h' : ¬ c ∈ SG.cps.toList := h
    have e : ([c].filter fun c => !decide (c ∈ SG.cps.toList)) = [c] := by
      rw [List.filter_cons, decide_eq_false h']
      rfl
    rw [e]
    simp
theorem sign_not {y : Str} (h : y.length ≠ 1) : isSign (.str y) = false := by
  show ((decide ((y.length : Int) ≤ 1) && ((y.cps.toList.filter fun c => !decide (c ∈ SG.cps.toList)).isEmpty)) && !decide (y = "")) = false
  by_cases c : y.length = 0
  · have e : y = "" := by
      refine tl_inj (List.length_eq_zero_iff.mp ?_ |>.trans (by decide +kernel))
      rw [tl_len]
      exact c
    rw [decide_eq_true e]
    simp
  · rw [decide_eq_false (show ¬ (y.length : Int) ≤ 1 by omega)]
    rfl
theorem one_sign {y : Str} (h : y.length = 1) : ∃ c, y = S [c] := by
  rw [← tl_len] at h
  match e : tl y, h with
  | [c], _ => exact ⟨c, by rw [← S_tl y, e]⟩
theorem str_ok {K : PySem.W.Frag} {H4 : Hp} {pt : Addr} {ys : List V} {x y : Str} {R : Bool → Hp → Prop} (hpt : H4 pt = some (.tup ys)) (h0 : ys[0]? = some (.str x)) (h2 : ys[2]? = some (.str y)) (hx : decide (x = "out") = false) (hy : y.length ≤ 1000)
    (kk : ∀ H', Same H4 H' → R (!isSign (.str y)) H') : rIxT K (V.ref pt) (V.int 0) H4 fun x H1 =>
    scal x (V.str (Str.ofString "out")) = true ∧
      if (!decide (x = V.str (Str.ofString "out"))) = true then
        rIxT K (V.ref pt) (V.int 2) H1 fun x H1 =>
          rIsi K [x, V.ty "str"] H1 fun x H1 =>
            ∃ c,
              x = V.bl c ∧
                if (!c) = true then R true H1
                else
                  rIxT K (V.ref pt) (V.int 2) H1 fun x H1 =>
                    ∃ x_1,
                      LenV K x H1 x_1 ∧
                        scal (V.int (x_1 : Int)) (V.int 1) = true ∧
                          if (!decide ((x_1 : Int) = 1)) = true then R true H1
                          else
                            rIxT K (V.ref pt) (V.int 2) H1 fun x H1 =>
                              sp_ksigns [] H1
                                (fun y H2 =>
                                  ∃ c, x = V.str { cps := #[c] } ∧ ∃ x, y = V.str x ∧ R (!decide (c ∈ x.cps.toList)) H2)
                                E0
      else R false H1 := by
  refine ixTt (j := 0) hpt h0 ⟨rfl, ?_⟩
  rw [decS, hx]
  refine iteT (ixTt (j := 2) hpt h2 (isi (G := fun _ => True) (.str y) (by decide) ⟨_, rfl, iteB (b := false) (by simp [isN, tyN]) (iteF ?_)⟩))
  refine ixTt (j := 2) hpt h2 ⟨y.length, ⟨Nat.le_trans hy (by decide), rfl⟩, rfl, ?_⟩
  by_cases c : y.length = 1
  · obtain ⟨c0, rfl⟩ := one_sign c
    refine iteB (b := false) (by rw [c]; rfl) (iteF (ixTt (j := 2) hpt h2 ⟨rfl, c0, rfl, SG, rfl, ?_⟩))
    have q := kk _ (L2.Same.refl _)
    rw [sign_one] at q
    exact q
  · have q := kk _ (L2.Same.refl _)
    rw [sign_not c] at q
    refine iteB (b := true) ?_ (iteT q)
    rw [decide_eq_false (by omega)]
    rfl
theorem not_two {K : PySem.W.Frag} {G : Addr → Prop} {H : Hp} {v : V} {d : PyData} {R : Bool → Hp → Prop} {Z : Nat → Hp → Prop} (h : Th d) (tu : ¬ TwoUp d) (r : Rp G H v d) (kk : R true H) : rIsi K [v, V.ty "tuple"] H fun x_1 H1 =>
    ∃ c,
      x_1 = V.bl c ∧
        if (!c) = true then R true H1
        else
          ∃ x_2,
            LenV K v H1 x_2 ∧
              if decide ((x_2 : Int) < 2) = true then R true H1
              else Z x_2 H1 := by
  cases h with
  | non => exact isi r (by decide) ⟨_, rfl, iteB (b := true) (by simp [isN, tyN]) (iteT kk)⟩
  | int i => exact isi r (by decide) ⟨_, rfl, iteB (b := true) (by simp [isN, tyN]) (iteT kk)⟩
  | str x => exact isi r (by decide) ⟨_, rfl, iteB (b := true) (by simp [isN, tyN]) (iteT kk)⟩
  | t1 x =>
    obtain ⟨p, ys, rfl, hp, ra⟩ := rp2 r
    refine isi r (by decide) ⟨_, rfl, iteB (b := false) (by simp [isN, tyN]) (iteF ⟨_, len_row (.inr hp), iteB (b := true) ?_ (iteT kk)⟩)⟩
    have := ra.length
    simp at this
    rw [this]
    rfl
  | t2i x i => exact absurd trivial tu
  | t2b x i => exact absurd trivial tu
  | t3 x i y _ => exact absurd trivial tu
theorem wrong_tail {t : List Nat} {ds : List PyData} {p pt : Addr} {H H6 : Hp} {k : Nat} {o : Option Ed} {lv : V} {e : Ed} {m : Int} {bk : L2.St → Hp → Prop} {Q : VK} (hlv : OptAt H6 lv o) (hpt : H6 pt = some (.tup (edV e))) (s6 : Same H H6)
    (hw : wrongO 0 0 (ds.map (edIn (S t))) = wrongO (lastAt o) k (some e :: (ds.drop (k + 1)).map (edIn (S t)))) (q : ∀ H', Same H H' → Q (optV (wrongO 0 0 (ds.map (edIn (S t))))) H') :
    tSeq
    (tIfS
      (tAnd (tTest (tOp (fun x y H Q => y = V.non ∧ Q (V.bl !decide (x = V.non)) H) (tVar 2) (tC V.non)))
        (tOr
          (tTest
            (tOp (rI0 fun i j => V.bl (decide (i < j))) (tOp (rIxT K) (tVar 4) (tC (V.int 1)))
              (tOp (rIxT K) (tVar 2) (tC (V.int 1)))))
          (tAnd (tTest (tOp rEq (tOp (rIxT K) (tVar 4) (tC (V.int 1))) (tOp (rIxT K) (tVar 2) (tC (V.int 1)))))
            (tTest (tOp rNe (tOp (rIxT K) (tVar 2) (tC (V.int 0))) (tC (V.str (Str.ofString "in"))))))))
      (tRet (tVar 3)) tNext)
    (tAsg (tVar 4) (gName 2))
    { nx := WrI t ds p H (k + 1), rt := Q, bk := bk, ct := WrI t ds p H (k + 1) }
    [some (V.str (S t)), some (V.ref p), some lv, some (V.int (k : Nat)), some (V.ref pt), some (V.int m)] H6 := by
  refine seqIf1 (!decide (lastAt o ≤ e.at)) (fun R kk => ?_) fun H7 s7 => ⟨fun hb => ?_, fun hb => ?_⟩
  · walk_at "e"
    cases o with
    | none =>
      cases (show lv = .non from hlv)
      have e0 : (!decide (lastAt none ≤ e.at)) = false := by simp [lastAt]
      rw [e0] at kk
      exact iteB (b := false) (by simp) (iteF (kk _ (L2.Same.refl _)))
    | some l =>
      obtain ⟨pl, rfl, hl⟩ := hlv
      refine iteB (b := true) (by simp) (iteT (ixE hpt (ed1 e) (ixE hl (ed1 l) ⟨_, rfl, _, rfl, ?_⟩)))
      have hN : lastAt (some l) = l.next := rfl
      rw [hN] at kk
      by_cases c : e.at < l.at
      · refine iteB (b := true) (decide_eq_true (by omega)) (iteT ?_)
        have e1 : (!decide (l.next ≤ e.at)) = true := by
          have l3 : l.at ≤ l.next := by cases l <;> simp only [Ed.at, Ed.next] <;> omega
          rw [decide_eq_false (by omega)]
          rfl
        rw [e1] at kk
        exact kk _ (L2.Same.refl _)
      · refine iteB (b := false) (decide_eq_false (by omega)) (iteF (ixE hpt (ed1 e) (ixE hl (ed1 l) ⟨rfl, ?_⟩)))
        rw [decI]
        by_cases c2 : e.at = l.at
        · refine iteB (b := true) (decide_eq_true (by omega)) (iteT (ixE hl (ed0 l) ⟨rfl, ?_⟩))
          rw [decS, word_in]
          have e1 : (!decide (l.next ≤ e.at)) = !l.isIns := by
            cases l with
            | ins i c0 =>
              have : e.at = i := c2
              show (!decide (i ≤ e.at)) = false
              rw [decide_eq_true (by omega)]
              rfl
            | out i =>
              have : e.at = i := c2
              show (!decide (i + 1 ≤ e.at)) = true
              rw [decide_eq_false (by omega)]
              rfl
            | sub i c0 =>
              have : e.at = i := c2
              show (!decide (i + 1 ≤ e.at)) = true
              rw [decide_eq_false (by omega)]
              rfl
          rw [e1] at kk
          exact kk _ (L2.Same.refl _)
        · refine iteB (b := false) (decide_eq_false (by omega)) (iteF ?_)
          have e1 : (!decide (l.next ≤ e.at)) = false := by
            have l3 : l.next ≤ l.at + 1 := by cases l <;> simp only [Ed.at, Ed.next] <;> omega
            rw [decide_eq_true (by omega)]
            rfl
          rw [e1] at kk
          exact kk _ (L2.Same.refl _)
  · walk_at "u"
    have hN : ¬ lastAt o ≤ e.at := by simpa using hb
    have e1 : wrongO (lastAt o) k (some e :: (ds.drop (k + 1)).map (edIn (S t))) = some k := by
      show (if lastAt o ≤ e.at then _ else some k) = some k
      rw [if_neg hN]
    have q' := q H7 (s6.trans s7)
    rw [hw, e1] at q'
    exact q'
  · have hN : lastAt o ≤ e.at := by simpa using hb
    refine oneAsg ⟨_, rfl, ⟨some e, _, _, _, _, rfl, ⟨pt, rfl, s7 _ _ hpt⟩, s6.trans s7, ?_⟩⟩
    rw [hw]
    show (if lastAt o ≤ e.at then wrongO e.next (k + 1) ((ds.drop (k + 1)).map (edIn (S t))) else some k) = _
    rw [if_pos hN]
    rfl
theorem ok__law_wrong (T : Tx K mg) : FnOk P w K mg base CX0 2 T.f__law_wrong T.d__law_wrong ["text", "script"] sp_wrong := by
  have G__law_ksigns : FnOk P w K mg base CX0 1 T.f__law_ksigns T.d__law_ksigns [] sp_ksigns := ok__law_ksigns T
  refine T.F__law_wrong.ok sc_law_wrong (fun vs H Q E h => ?_) (fun cdv A outer s H vs Q E hr h => ?_)
  · obtain ⟨G, t, ds, p, rfl, _⟩ := h
    rfl
  · obtain ⟨G, t, ds, p, rfl, rp, lt, le, th, q⟩ := h
    refine ⟨_, (pss_cons (ps_set (i := 2) sc_law_wrong.nd rfl (Or.inl rfl) pe_non)
  (pss_cons (ps_for PassesOwn.never rfl (pi_enumA (by rfl) T.m_enumerate (pa_cons (pv 1) pa_nil)) (pg_tup rfl (pgs_cons (pg_name (i := 3) sc_law_wrong.nd rfl (Or.inl rfl)) (pgs_cons (pg_name (i := 4) sc_law_wrong.nd rfl (Or.inl rfl)) pgs_nil)))
  (pss_cons (ps_if (PW.pt (pw_or (pt_not (pt_val (pe_callB call_isi (by rfl) T.m_isinstance (by decide +kernel) (pa_cons (pv 4) (pa_cons (pe_bltn (v := .ty "tuple") (by rfl) T.m_tuple (by decide +kernel) rfl) pa_nil))))) (pw_or (pt_cmpR op_lt (pe_callB call_len (by rfl) T.m_len (by decide +kernel) (pa_cons (pv 4) pa_nil)) pe_int (nomark _)) (pw_or (pt_cmpR op_notIn_seq (pe_ix ix_tup (pv 4) pe_int (fun _ _ => rfl)) (pe_tup (pa_cons pe_str (pa_cons pe_str (pa_cons pe_str pa_nil)))) (by rfl)) (pw_or1 (pt_cmpR op_ne (pe_callB call_len (by rfl) T.m_len (by decide +kernel) (pa_cons (pv 4) pa_nil)) (pe_ifExp (pt_cmpR op_eq (pe_ix ix_tup (pv 4) pe_int (fun _ _ => rfl)) pe_str (nomark _)) pe_int pe_int) (nomark _)))))))
  (pss_one (ps_ret (pv 3))) pss_nil)
  (pss_cons (ps_set (i := 5) sc_law_wrong.nd rfl (Or.inl rfl) (pe_op op_add (pe_callB call_len (by rfl) T.m_len (by decide +kernel) (pa_cons (pv 0) pa_nil)) (pe_ifExp (pt_cmpR op_eq (pe_ix ix_tup (pv 4) pe_int (fun _ _ => rfl)) pe_str (nomark _)) pe_int pe_int)))
  (pss_cons (ps_if (PW.pt (pw_or (pt_not (pt_val (pe_callB call_isi (by rfl) T.m_isinstance (by decide +kernel) (pa_cons (pe_ix ix_tup (pv 4) pe_int (fun _ _ => rfl)) (pa_cons (pe_bltn (v := .ty "int") (by rfl) T.m_int (by decide +kernel) rfl) pa_nil))))) (pw_or (pt_val (pe_callB call_isi (by rfl) T.m_isinstance (by decide +kernel) (pa_cons (pe_ix ix_tup (pv 4) pe_int (fun _ _ => rfl)) (pa_cons (pe_bltn (v := .ty "bool") (by rfl) T.m_bool (by decide +kernel) rfl) pa_nil)))) (pw_or1 (pt_not (pt_chain op_le op_lt pe_int (pe_ix ix_tup (pv 4) pe_int (fun _ _ => rfl)) (pv 5)))))))
  (pss_one (ps_ret (pv 3))) pss_nil)
  (pss_cons (ps_if (PW.pt (pw_and (pt_cmpR op_ne (pe_ix ix_tup (pv 4) pe_int (fun _ _ => rfl)) pe_str (nomark _)) (pw_and1 (PW.pt (pw_or (pt_not (pt_val (pe_callB call_isi (by rfl) T.m_isinstance (by decide +kernel) (pa_cons (pe_ix ix_tup (pv 4) pe_int (fun _ _ => rfl)) (pa_cons (pe_bltn (v := .ty "str") (by rfl) T.m_str (by decide +kernel) rfl) pa_nil))))) (pw_or (pt_cmpR op_ne (pe_callB call_len (by rfl) T.m_len (by decide +kernel) (pa_cons (pe_ix ix_tup (pv 4) pe_int (fun _ _ => rfl)) pa_nil)) pe_int (nomark _)) (pw_or1 (pt_cmpR op_notIn_sign (pe_ix ix_tup (pv 4) pe_int (fun _ _ => rfl)) (pe_call0 G__law_ksigns (hr.mono (by decide)) (by rfl) T.g__law_ksigns T.F__law_ksigns.kp T.b__law_ksigns .nil pass0) (by rfl)))))))))
  (pss_one (ps_ret (pv 3))) pss_nil)
  (pss_cons (ps_if (PW.pt (pw_and (pt_cmpR op_eq (pe_ix ix_tup (pv 4) pe_int (fun _ _ => rfl)) pe_str (nomark _)) (pw_and1 (pt_cmpR op_eq (pe_ix ix_str (pv 0) (pe_ix ix_tup (pv 4) pe_int (fun _ _ => rfl)) (fun _ _ => rfl)) (pe_ix ix_tup (pv 4) pe_int (fun _ _ => rfl)) (nomark _)))))
  (pss_one (ps_ret (pv 3))) pss_nil)
  (pss_cons (ps_if (PW.pt (pw_and (pt_cmpR op_notN (pv 2) pe_non (nomark _)) (pw_and1 (PW.pt (pw_or (pt_cmpR op_lt (pe_ix ix_tup (pv 4) pe_int (fun _ _ => rfl)) (pe_ix ix_tup (pv 2) pe_int (fun _ _ => rfl)) (nomark _)) (pw_or1 (PW.pt (pw_and (pt_cmpR op_eq (pe_ix ix_tup (pv 4) pe_int (fun _ _ => rfl)) (pe_ix ix_tup (pv 2) pe_int (fun _ _ => rfl)) (nomark _)) (pw_and1 (pt_cmpR op_ne (pe_ix ix_tup (pv 2) pe_int (fun _ _ => rfl)) pe_str (nomark _)))))))))))
  (pss_one (ps_ret (pv 3))) pss_nil)
  (pss_one (ps_set (i := 2) sc_law_wrong.nd rfl (Or.inl rfl) (pv 4))))))))))
  (pss_one (ps_ret pe_non)))), ?_⟩
    obtain ⟨xs, hp, gp, ra⟩ : ∃ xs, H p = some (.lst xs) ∧ G p ∧ RpAll G H xs ds := by
      cases rp with
      | lst g h r => exact ⟨_, h, g, r⟩
    have hlx : xs.length = ds.length := ra.length
    refine seqAsg ?_
    walk_at "e"
    refine seqFor (for_enumA (p := p) (xs := xs) rfl (.inl hp) (WrI t ds p H) ⟨none, .non, none, none, none, rfl, rfl, L2.Same.refl _, rfl⟩ ?_ ?_ ?_)
    · rintro k σ' H' o ⟨_, _, _, _, _, _, _, s, _⟩ h
      exact s _ _ h
    · rintro k x' σ' H1 ta hk ⟨o, lv, y3, y4, y5, rfl, hlv, s1, hw⟩ hx hT
      refine g2 upd_same rfl ?_
      obtain ⟨d, hd, rd⟩ := (ra.mono (Kp.of s1)).get hx
      have thd := th d (List.mem_of_getElem? hd)
      have lt1 : k < ds.length := by omega
      have ed : ds.drop k = d :: ds.drop (k + 1) := by
        rw [List.drop_eq_getElem_cons lt1]
        rw [List.getElem?_eq_getElem lt1] at hd
        rw [Option.some.inj hd]
      rw [ed] at hw
      have s2 : Same H1 (upd H1 ta (.tup [.int (k : Nat), x'])) := same_new hT
      generalize upd H1 ta (.tup [.int (k : Nat), x']) = H2 at s2 ⊢
      have s02 := s1.trans s2
      have rd2 := rd.mono (Kp.of s2)
      -- the thing is wrong
      have bad : edIn (S t) d = none → ∀ H3, Same H2 H3 → Q (.int (k : Nat)) H3 := fun h H3 s3 => by
        have e : wrongO 0 0 (ds.map (edIn (S t))) = some k := by
          rw [hw, List.map_cons, h]
          rfl
        have q' := q H3 (s02.trans s3)
        rw [e] at q'
        exact q'
      obtain ⟨hb1, hs1⟩ : (¬ TwoUp d → edIn (S t) d = none) ∧ (TwoUp d → ∃ pt ys x, x' = .ref pt ∧ H2 pt = some (.tup ys) ∧ ys[0]? = some (.str x) ∧ 2 ≤ ys.length ∧ Shape d ys x) := two_up thd rd2
      by_cases tu : TwoUp d
      · obtain ⟨pt, ys, x, rfl, hpt, hy0, hy2, shp⟩ := hs1 tu
        obtain ⟨es, rfl⟩ : ∃ es, d = .tuple es := by
          cases d with
          | tuple es => exact ⟨es, rfl⟩
          | _ => exact absurd tu (by intro h; cases h)
        refine seqIf1 (firstB x ys.length) (fun R kk => ?_) fun H3 s3 => ⟨fun e => ?_, fun e => ?_⟩
        · walk_at "e"
          exact first_ok rd2 hpt hy0 hy2 kk
        · walk_at "u"
          exact bad (first_bad shp e) _ s3
        · have shq := first_good shp e
          have hpt3 := s3 _ _ hpt
          have rd3 := rd2.mono (Kp.of s3)
          have lnt : (S t).length = t.length := by rw [← tl_len]
          have lsz : (S t).length ≤ sizeLine := Nat.le_trans (show (S t).length ≤ 1000 by omega) (by decide)
          refine seqAsg ?_
          walk_at "e"
          refine ⟨t.length, ⟨lsz, lnt.symm⟩, pt, ys, 0, .str x, rfl, rfl, SqT.of hpt3, atI_nat hy0, rfl, ?_⟩
          rw [decS]
          cases shq with
          | b b =>
            rw [words.1]
            refine iteF (seqIf1 true (fun R kk => ?_) fun H4 s4 => ⟨fun _ => ?_, fun e => by cases e⟩)
            · walk_at "e"
              refine ixTt (j := 1) hpt3 rfl (isi (G := G) (.bl b) (by decide) ⟨_, rfl, iteB (b := false) (by simp [isN, tyN]) (iteF ?_)⟩)
              exact ixTt (j := 1) hpt3 rfl (isi (G := G) (.bl b) (by decide) ⟨_, rfl, iteB (b := true) (by simp [isN, tyN]) (iteT (kk _ (L2.Same.refl _)))⟩)
            · walk_at "u"
              exact bad rfl _ (s3.trans s4)
          | i i =>
            rw [words.1]
            refine iteF (seqIf1 (!isNum 0 ((t.length : Int) + 0 - 1) (.int i)) (fun R kk => ?_) fun H4 s4 => ⟨fun e => ?_, fun e => ?_⟩)
            · walk_at "e"
              exact num_ok hpt3 rfl kk
            · walk_at "u"
              refine bad ?_ _ (s3.trans s4)
              have e1 : isNum 0 (((S t).length : Int) - 1) (.int i) = false := by
                rw [lnt]
                simpa using e
              have b1 : bOut (S t) [.str "out", .int i] = false := by
                show (isW "out" (.str "out") && isNum 0 (((S t).length : Int) - 1) (.int i)) = false
                rw [e1, Bool.and_false]
              show edOf (S t) [.str "out", .int i] = none
              unfold edOf
              rw [b1]
              rfl
            · have e1 : isNum 0 (((S t).length : Int) - 1) (.int i) = true := by
                rw [lnt]
                simpa using e
              have hpt4 := s4 _ _ hpt3
              refine seqIf1 false (fun R kk => ?_) fun H5 s5 => ⟨(fun e => by cases e), fun _ => ?_⟩
              · walk_at "e"
                exact ixTt (j := 0) hpt4 rfl ⟨rfl, iteB (b := false) (by simp) (iteF (kk _ (L2.Same.refl _)))⟩
              · have hpt5 := s5 _ _ hpt4
                refine seqIf1 false (fun R kk => ?_) fun H6 s6 => ⟨(fun e => by cases e), fun _ => ?_⟩
                · walk_at "e"
                  refine ixTt (j := 0) hpt5 rfl ⟨rfl, ?_⟩
                  rw [decS]
                  exact iteB (b := false) (by decide +kernel) (iteF (kk _ (L2.Same.refl _)))
                · have hpt6 := s6 _ _ hpt5
                  have s26 := ((s3.trans s4).trans s5).trans s6
                  obtain ⟨j, hj, h0, h1⟩ := isNum_int e1
                  cases hj
                  have e2 : V.int i = .int ((i.toNat : Nat) : Int) := by rw [Int.toNat_of_nonneg h0]
                  refine wrong_tail (e := .out i.toNat) ((hlv.mono s2).mono s26) (by rw [hpt6, e2]; rfl) (s02.trans s26) ?_ q
                  rw [hw, List.map_cons]
                  congr 2
                  have b1 : bOut (S t) [.str "out", .int i] = true := by
                    show (isW "out" (.str "out") && isNum 0 (((S t).length : Int) - 1) (.int i)) = true
                    rw [e1, W3.2.2.2.2.1]
                    rfl
                  show edOf (S t) [.str "out", .int i] = _
                  unfold edOf
                  rw [if_pos b1]
                  rfl
          | s f i y hy =>
            cases f with
            | false =>
              have b1 : bOut (S t) [.str "in", .int i, .str y] = false := rfl
              have b2 : bIns (S t) [.str "in", .int i, .str y] = (isNum 0 ((t.length : Int) + 1 - 1) (.int i) && isSign (.str y)) := by
                show (isW "in" (.str "in") && (isNum 0 ((S t).length : Int) (.int i) && isSign (.str y))) = _
                rw [W3.2.2.2.1, lnt, Int.add_sub_cancel]
                rfl
              have b3 : bSub (S t) [.str "in", .int i, .str y] = false := rfl
              have ee : edIn (S t) (.tuple [.str "in", .int i, .str y]) = if (isNum 0 ((t.length : Int) + 1 - 1) (.int i) && isSign (.str y)) = true then some (.ins i.toNat (cd (.str y))) else none := by
                show edOf (S t) [.str "in", .int i, .str y] = _
                unfold edOf
                rw [b1, b2, b3]
                rfl
              refine iteB (b := true) (by simp) (iteT (seqIf1 (!isNum 0 ((t.length : Int) + 1 - 1) (.int i)) (fun R kk => ?_) fun H4 s4 => ⟨fun e => ?_, fun e => ?_⟩))
              · walk_at "e"
                exact num_ok hpt3 rfl kk
              · walk_at "u"
                refine bad (ee.trans ?_) _ (s3.trans s4)
                have e1 : isNum 0 ((t.length : Int) + 1 - 1) (.int i) = false := by simpa using e
                rw [e1]
                rfl
              · have e1 : isNum 0 ((t.length : Int) + 1 - 1) (.int i) = true := by simpa using e
                have hpt4 := s4 _ _ hpt3
                refine seqIf1 (!isSign (.str y)) (fun R kk => ?_) fun H5 s5 => ⟨fun e => ?_, fun e => ?_⟩
                · walk_at "e"
                  exact str_ok hpt4 rfl rfl words.2.2.1 hy kk
                · walk_at "u"
                  refine bad (ee.trans ?_) _ ((s3.trans s4).trans s5)
                  have e2 : isSign (.str y) = false := by simpa using e
                  rw [e2, Bool.and_false]
                  rfl
                · have e2 : isSign (.str y) = true := by simpa using e
                  have hpt5 := s5 _ _ hpt4
                  refine seqIf1 false (fun R kk => ?_) fun H6 s6 => ⟨(fun e => by cases e), fun _ => ?_⟩
                  · walk_at "e"
                    refine ixTt (j := 0) hpt5 rfl ⟨rfl, ?_⟩
                    rw [decS]
                    exact iteB (b := false) (by decide +kernel) (iteF (kk _ (L2.Same.refl _)))
                  · have hpt6 := s6 _ _ hpt5
                    have s26 := ((s3.trans s4).trans s5).trans s6
                    obtain ⟨j, hj, h0, h1⟩ := isNum_int e1
                    cases hj
                    have e3 : V.int i = .int ((i.toNat : Nat) : Int) := by rw [Int.toNat_of_nonneg h0]
                    obtain ⟨c, rfl⟩ : ∃ c, y = S [c] := by
                      refine one_sign ?_
                      by_cases h : y.length = 1
                      · exact h
                      · rw [sign_not h] at e2
                        cases e2
                    refine wrong_tail (e := .ins i.toNat c) ((hlv.mono s2).mono s26) (by rw [hpt6, e3]; rfl) (s02.trans s26) ?_ q
                    rw [hw, List.map_cons]
                    congr 2
                    refine ee.trans ?_
                    rw [e1, e2]
                    rfl
            | true =>
              have b1 : bOut (S t) [.str "for", .int i, .str y] = false := rfl
              have b2 : bIns (S t) [.str "for", .int i, .str y] = false := by
                show (isW "in" (.str "for") && (isNum 0 ((S t).length : Int) (.int i) && isSign (.str y))) = false
                rw [W3.2.2.1]
                rfl
              have b3 : bSub (S t) [.str "for", .int i, .str y] = (isNum 0 ((t.length : Int) + 0 - 1) (.int i) && isSign (.str y)) := by
                show (isW "for" (.str "for") && (isNum 0 (((S t).length : Int) - 1) (.int i) && isSign (.str y))) = _
                rw [W3.2.2.2.2.2, lnt, Int.add_zero]
                rfl
              have ee : edIn (S t) (.tuple [.str "for", .int i, .str y]) = if (isNum 0 ((t.length : Int) + 0 - 1) (.int i) && isSign (.str y)) = true then (if t[i.toNat]? = some (cd (.str y)) then none else some (.sub i.toNat (cd (.str y)))) else none := by
                show edOf (S t) [.str "for", .int i, .str y] = _
                unfold edOf
                rw [b1, b2, b3]
                rfl
              refine iteB (b := false) (by decide +kernel) (iteF (seqIf1 (!isNum 0 ((t.length : Int) + 0 - 1) (.int i)) (fun R kk => ?_) fun H4 s4 => ⟨fun e => ?_, fun e => ?_⟩))
              · walk_at "e"
                exact num_ok hpt3 rfl kk
              · walk_at "u"
                refine bad (ee.trans ?_) _ (s3.trans s4)
                have e1 : isNum 0 ((t.length : Int) + 0 - 1) (.int i) = false := by simpa using e
                rw [e1]
                rfl
              · have e1 : isNum 0 ((t.length : Int) + 0 - 1) (.int i) = true := by simpa using e
                have hpt4 := s4 _ _ hpt3
                refine seqIf1 (!isSign (.str y)) (fun R kk => ?_) fun H5 s5 => ⟨fun e => ?_, fun e => ?_⟩
                · walk_at "e"
                  exact str_ok hpt4 rfl rfl words.2.2.2 hy kk
                · walk_at "u"
                  refine bad (ee.trans ?_) _ ((s3.trans s4).trans s5)
                  have e2 : isSign (.str y) = false := by simpa using e
                  rw [e2, Bool.and_false]
                  rfl
                · have e2 : isSign (.str y) = true := by simpa using e
                  have hpt5 := s5 _ _ hpt4
                  obtain ⟨j, hj, h0, h1⟩ := isNum_int e1
                  cases hj
                  have e3 : V.int i = .int ((i.toNat : Nat) : Int) := by rw [Int.toNat_of_nonneg h0]
                  have lti : i.toNat < t.length := by omega
                  obtain ⟨c, rfl⟩ : ∃ c, y = S [c] := by
                    refine one_sign ?_
                    by_cases h : y.length = 1
                    · exact h
                    · rw [sign_not h] at e2
                      cases e2
                  have hc : t[i.toNat]? = some (t.getD i.toNat 0) := by simp [List.getD, List.getElem?_eq_getElem lti]
                  refine seqIf1 (decide (t[i.toNat]? = some c)) (fun R kk => ?_) fun H6 s6 => ⟨fun e => ?_, fun e => ?_⟩
                  · walk_at "e"
                    refine ixTt (j := 0) hpt5 rfl ⟨rfl, ?_⟩
                    refine iteB (b := true) (by simp) (iteT (ixTt (j := 1) hpt5 rfl ⟨S t, i, t.getD i.toNat 0, rfl, rfl, lsz, ?_, ixTt (j := 2) hpt5 rfl ⟨rfl, ?_⟩⟩))
                    · rw [← Int.toNat_of_nonneg h0]
                      exact atI_nat hc
                    · have e4 : decide (V.str ⟨#[t.getD i.toNat 0]⟩ = V.str (S [c])) = decide (t[i.toNat]? = some c) := by
                        rw [hc]
                        by_cases h : t.getD i.toNat 0 = c
                        · rw [h]
                          simp
                        · have h1 : ¬ V.str ⟨#[t.getD i.toNat 0]⟩ = V.str (S [c]) := fun z => by
                            cases z
                            exact h rfl
                          have h2 : ¬ some (t.getD i.toNat 0) = some c := fun z => h (Option.some.inj z)
                          rw [decide_eq_false h1, decide_eq_false h2]
                      rw [e4]
                      exact kk _ (L2.Same.refl _)
                  · walk_at "u"
                    refine bad (ee.trans ?_) _ (((s3.trans s4).trans s5).trans s6)
                    rw [e1, e2]
                    exact if_pos (of_decide_eq_true e)
                  · have hpt6 := s6 _ _ hpt5
                    have s26 := ((s3.trans s4).trans s5).trans s6
                    refine wrong_tail (e := .sub i.toNat c) ((hlv.mono s2).mono s26) (by rw [hpt6, e3]; rfl) (s02.trans s26) ?_ q
                    rw [hw, List.map_cons]
                    congr 2
                    refine ee.trans ?_
                    rw [e1, e2]
                    exact if_neg (of_decide_eq_false e)
      · refine seqIf1 true (fun R kk => ?_) fun H3 s3 => ⟨fun _ => ?_, fun e => by cases e⟩
        · walk_at "e"
          refine not_two thd tu rd2 (kk _ (L2.Same.refl _))
        · walk_at "u"
          exact bad (hb1 tu) _ s3
    · rintro σ' H1 ⟨o, lv, y3, y4, y5, rfl, hlv, s1, hw⟩
      have e2 : ds.drop xs.length = [] := List.drop_of_length_le (by omega)
      rw [e2] at hw
      have q' := q H1 s1
      rw [hw] at q'
      walk_at "u"
      exact q'
end
end K76
set_option Elab.async false
set_option linter.all false
set_option maxRecDepth 100000
set_option maxHeartbeats 4000000
namespace K76
open PySem PySem.Spec PyProof.Rows L2 TbA TbD TbL TL RZ
local macro_rules | `(tactic| walk_at "u") => `(tactic| simp only [tRet, tRetN, tSeq, tNext, tIfS, tAsg, tDrop, tAndV, tOrV, tNotV, tAnd, tOr, tNot, tB, tTest, tIf, tCB, tCons, tNil, tC, tVar, tOp, tUn, tChain, tCall, tM1, tTup, tLst, tSl, tPart, tNoPart, gName, gSub, gCons, gNil, gTup, tBreak, tCont, tNever,
  rI0, rI, rEq, rNe, cxOf, Cx.nox, Cx.wish, L2.start, List.map_cons, List.map_nil, List.length_cons, List.length_nil, List.cons_append, List.nil_append, List.replicate, List.getElem?_cons_zero, List.getElem?_cons_succ, Option.some.injEq, List.cons.injEq, and_true, true_and, V.int.injEq, V.bl.injEq, V.str.injEq, V.ref.injEq,
  exists_eq_left', exists_and_left, exists_eq_left, Nat.reduceSub, Nat.reduceAdd, List.set_cons_zero, List.set_cons_succ])
local macro_rules | `(tactic| walk_at "e") => `(tactic| simp only [tAndV, tOrV, tNotV, tAnd, tOr, tNot, tB, tTest, tIf, tCB, tCons, tNil, tC, tVar, tOp, tUn, tChain, tCall, tM1, tTup, tLst, tSl, tPart, tNoPart, gName, gSub, gCons, gNil, gTup, 
  rI0, rI, rEq, rNe, cxOf, Cx.nox, Cx.wish, L2.start, List.map_cons, List.map_nil, List.length_cons, List.length_nil, List.cons_append, List.nil_append, List.replicate, List.getElem?_cons_zero, List.getElem?_cons_succ, Option.some.injEq, List.cons.injEq, and_true, true_and, V.int.injEq, V.bl.injEq, V.str.injEq, V.ref.injEq,
  exists_eq_left', exists_and_left, exists_eq_left, Nat.reduceSub, Nat.reduceAdd, List.set_cons_zero, List.set_cons_succ])

section
variable {P : Program} {w : World} {K : PySem.W.Frag} {mg : Str → Option Value} {base : Heap}
/-! ### _law_told -/
def sp_told : Sp := fun vs H Q _ => ∃ (G : Addr → Prop) (v u : V) (dt ds : PyData), vs = [v, u] ∧ Rp G H v dt ∧ okD dt ∧ Rp G H u ds ∧ (∀ a, H a = none → G a) ∧
  (isText SG 200 dt = false → ∀ H' a, Same H H' → H a = none → H' a = some (.tup [.str "input", v]) → Q (.ref a) H') ∧
  (∀ t, dt = .str t → isText SG 200 dt = true → row? ds = none → ∀ H' a, Same H H' → H a = none → H' a = some (.tup [.str "script", .int 0]) → Q (.ref a) H') ∧
  (∀ t l, dt = .str t → isText SG 200 dt = true → row? ds = some l → l.length ≤ 1000 ∧ (∀ x ∈ l, okTh x) ∧
    (∀ k, run t none 0 [] l 0 = .inl k → ∀ H' a, Same H H' → H a = none → H' a = some (.tup [.str "script", .int (k : Nat)]) → Q (.ref a) H') ∧
    (∀ z, run t none 0 [] l 0 = .inr z → ∀ H' a, Same H H' → H a = none → H' a = some (.tup [.str "told", .str (S z)]) → Q (.ref a) H'))
theorem ok__law_told (T : Tx K mg) : FnOk P w K mg base CX0 7 T.f__law_told T.d__law_told ["text", "script"] sp_told := by
  have G_edited : FnOk P w K mg base (L2.CX P w) 6 T.f_edited T.d_edited ["text", "script"] (sp_edited T.C_BadInput T.C_BadScript) := ok_edited T
  refine T.F__law_told.ok sc_law_told (fun vs H Q E h => ?_) (fun cdv A outer s H vs Q E hr h => ?_)
  · obtain ⟨G, v, u, dt, ds, rfl, _⟩ := h
    rfl
  · obtain ⟨G, v, u, dt, ds, rfl, rt, okt, rs, hG, q1, q2, q3⟩ := h
    refine ⟨_, (pss_one (ps_try_asMany (i := 2) (Wout := fun _ _ _ _ => False) rfl rfl sc_law_told.nd rfl rfl takes0
  (fun W pn xe tk _ => (pss_one (ps_ret (pe_tup (pa_cons pe_str (pa_cons (pe_callS G_edited (hr.mono (by decide)) rfl T.g_edited T.F_edited.kp T.b_edited (fun σ => passAt tk σ) (pa_cons (pv 0) (pa_cons (pv 1) pa_nil))) pa_nil))))))
  (AsOk.cons ⟨rfl, by decide, Or.inl T.g_BadScript⟩ (fun a oe cls d pn hz hf => (pss_one (ps_ret (pe_tup (pa_cons pe_str (pa_cons (pe_xf T.xf_BadScript T.no_BadScript_index hz hf (pv 2)) pa_nil))))))
  (AsOk.cons ⟨rfl, by decide, Or.inl T.g_BadInput⟩ (fun a oe cls d pn hz hf => (pss_one (ps_ret (pe_tup (pa_cons pe_str (pa_cons (pe_xf T.xf_BadInput T.no_BadInput_thing hz hf (pv 2)) pa_nil))))))
  AsOk.nil)))), ?_⟩
    walk_at "u"
    refine ⟨_, rfl, _, rfl, G, v, u, dt, ds, rfl, rt, okt, rs, hG, fun hT H1 dd s1 hdd => ?_, fun t e hT hn H1 dd s1 hdd => ?_, fun t l e hT hl => ?_⟩
    · have inp : ∀ a, H1 a = none → tRet (tTup (tCons (tC (V.str (Str.ofString "input"))) (tCons (tXf a (Value.ref T.C_BadInput) (some dd) T.C_BadInput (Str.ofString "thing") (tVar 2)) tNil)))
          { nx := fun σ' H' => Q V.non H', rt := Q } ([some v, some u, none].set 2 (some (V.ref a))) H1 := fun a ha => by
        walk_at "u"
        simp only [tXf]
        walk_at "u"
        exact ⟨_, hdd, _, rfl, by decide, fun b hb => q1 hT _ b (Same.new s1 hb) (L2.Same.free s1 hb) upd_same⟩
      exact ⟨false, T.em_BadInput_BadScript, fun e => (by cases e), fun _ => ⟨true, T.em_BadInput_BadInput, fun _ => inp, fun e => by cases e⟩⟩
    · have inp : ∀ a, H1 a = none → tRet (tTup (tCons (tC (V.str (Str.ofString "script"))) (tCons (tXf a (Value.ref T.C_BadScript) (some dd) T.C_BadScript (Str.ofString "index") (tVar 2)) tNil)))
          { nx := fun σ' H' => Q V.non H', rt := Q } ([some v, some u, none].set 2 (some (V.ref a))) H1 := fun a ha => by
        walk_at "u"
        simp only [tXf]
        walk_at "u"
        exact ⟨_, hdd, _, rfl, by decide, fun b hb => q2 t e hT hn _ b (Same.new s1 hb) (L2.Same.free s1 hb) upd_same⟩
      exact ⟨true, T.em_BadScript_BadScript, fun _ => inp, fun e => by cases e⟩
    · obtain ⟨l1, l2, l3, l4⟩ := q3 t l e hT hl
      refine ⟨l1, l2, fun k hk H1 dd s1 hdd => ?_, fun z hz H1 s1 => ?_⟩
      · have inp : ∀ a, H1 a = none → tRet (tTup (tCons (tC (V.str (Str.ofString "script"))) (tCons (tXf a (Value.ref T.C_BadScript) (some dd) T.C_BadScript (Str.ofString "index") (tVar 2)) tNil)))
            { nx := fun σ' H' => Q V.non H', rt := Q } ([some v, some u, none].set 2 (some (V.ref a))) H1 := fun a ha => by
          walk_at "u"
          simp only [tXf]
          walk_at "u"
          exact ⟨_, hdd, _, rfl, by decide, fun b hb => l3 k hk _ b (Same.new s1 hb) (L2.Same.free s1 hb) upd_same⟩
        exact ⟨true, T.em_BadScript_BadScript, fun _ => inp, fun e => by cases e⟩
      · exact ⟨by decide, fun a ha => l4 z hz _ a (Same.new s1 ha) (L2.Same.free s1 ha) upd_same⟩
end
end K76
set_option Elab.async false
set_option linter.all false
set_option maxRecDepth 100000
set_option maxHeartbeats 4000000
namespace K76
open PySem PySem.Spec PyProof.Rows L2 TbA TbD TbL TbK TL RZ
local macro_rules | `(tactic| walk_at "u") => `(tactic| simp only [tRet, tRetN, tSeq, tNext, tIfS, tAsg, tDrop, tAndV, tOrV, tNotV, tAnd, tOr, tNot, tB, tTest, tIf, tCB, tCons, tNil, tC, tVar, tOp, tUn, tChain, tCall, tM1, tTup, tLst, tSl, tPart, tNoPart, gName, gSub, gCons, gNil, gTup, tBreak, tCont, tNever,
  rI0, rI, rEq, rNe, cxOf, Cx.nox, Cx.wish, L2.start, List.map_cons, List.map_nil, List.length_cons, List.length_nil, List.cons_append, List.nil_append, List.replicate, List.getElem?_cons_zero, List.getElem?_cons_succ, Option.some.injEq, List.cons.injEq, and_true, true_and, V.int.injEq, V.bl.injEq, V.str.injEq, V.ref.injEq,
  exists_eq_left', exists_and_left, exists_eq_left, Nat.reduceSub, Nat.reduceAdd, List.set_cons_zero, List.set_cons_succ])
local macro_rules | `(tactic| walk_at "e") => `(tactic| simp only [tAndV, tOrV, tNotV, tAnd, tOr, tNot, tB, tTest, tIf, tCB, tCons, tNil, tC, tVar, tOp, tUn, tChain, tCall, tM1, tTup, tLst, tSl, tPart, tNoPart, gName, gSub, gCons, gNil, gTup, 
  rI0, rI, rEq, rNe, cxOf, Cx.nox, Cx.wish, L2.start, List.map_cons, List.map_nil, List.length_cons, List.length_nil, List.cons_append, List.nil_append, List.replicate, List.getElem?_cons_zero, List.getElem?_cons_succ, Option.some.injEq, List.cons.injEq, and_true, true_and, V.int.injEq, V.bl.injEq, V.str.injEq, V.ref.injEq,
  exists_eq_left', exists_and_left, exists_eq_left, Nat.reduceSub, Nat.reduceAdd, List.set_cons_zero, List.set_cons_succ])

section
variable {P : Program} {w : World} {K : PySem.W.Frag} {mg : Str → Option Value} {base : Heap}
/-! ### statements whose value is told once -/
def EvG (te : TE) (σ : L2.St) (H : Hp) (Pp : V → Hp → Prop) : Prop := ∀ R : VK, (∀ v H', Pp v H' → R v H') → te σ H R
theorem seqAsgE {te : TE} {i : Nat} {r : TS} {D : Ends} {σ : L2.St} {H : Hp} {Pp : V → Hp → Prop} (h : EvG te σ H Pp) (k : ∀ v H', Pp v H' → r D (σ.set i (some v)) H') : tSeq (tAsg te (gName i)) r D σ H := h _ k
def TstG (c : TT) (σ : L2.St) (H : Hp) (b : Bool) (Pp : Hp → Prop) : Prop := ∀ R : Bool → Hp → Prop, (∀ H', Pp H' → R b H') → c σ H R
theorem seqIfF {c : TT} {t r : TS} {D : Ends} {σ : L2.St} {H : Hp} {Pp : Hp → Prop} (h : TstG c σ H false Pp) (k : ∀ H', Pp H' → r D σ H') : tSeq (tIfS c t tNext) r D σ H := h _ fun H' p => iteF (k H' p)
theorem oneIfF {c : TT} {t : TS} {D : Ends} {σ : L2.St} {H : Hp} {Pp : Hp → Prop} (h : TstG c σ H false Pp) (k : ∀ H', Pp H' → D.nx σ H') : tIfS c t tNext D σ H := h _ fun H' p => iteF (k H' p)
/-- the frame's slot i holds v -/
def At (σ : L2.St) (i : Nat) (v : V) : Prop := σ[i]? = some (some v)
theorem At.new {σ : L2.St} {i : Nat} {v : V} (h : i < σ.length) : At (σ.set i (some v)) i v := List.getElem?_set_self h
theorem At.old {σ : L2.St} {i j : Nat} {v : V} {x : Option V} (h : At σ j v) (ne : i ≠ j) : At (σ.set i x) j v := (List.getElem?_set_ne ne).trans h
structure Go (sa ca : Addr) (m : Nat) (H H' : Hp) : Prop where
  kp : Kp (Gs sa ca) H H'
  st : Strm H' sa ca m
theorem Go.same {sa ca : Addr} {m : Nat} {H H' : Hp} (h : Strm H sa ca m) (s : Same H H') : Go sa ca m H H' := ⟨Kp.of s, h.keep s⟩
theorem Go.trans {sa ca : Addr} {m m' : Nat} {H H' H'' : Hp} (h : Go sa ca m H H') (g : Go sa ca m' H' H'') : Go sa ca m' H H'' := ⟨Kp.trans h.kp g.kp, g.st⟩
theorem ev_text {σ : L2.St} {H : Hp} {sa ca : Addr} {n : Nat} (h1 : At σ 1 (.ref sa)) (hs : Strm H sa ca n) (hn : n ≤ 900000000) :
    EvG (tCall sp_xtext [] E0 (tCons (tVar 1) (tCons (tCall sp_ksigns [] E0 tNil) (tCons (tC (V.int 9)) tNil)))) σ H fun v H' => ∃ l, v = .str (S l) ∧ Xt l ∧ Go sa ca (n + 10) H H' := by
  intro R k
  exact ⟨_, h1, rfl, sa, ca, n, rfl, hn, hs, fun H' l kp st xt => k _ _ ⟨l, rfl, xt, kp, st⟩⟩
theorem ev_script {σ : L2.St} {H : Hp} {sa ca : Addr} {n i : Nat} {t : List Nat} (h1 : At σ 1 (.ref sa)) (hi : At σ i (.str (S t))) (ht : Xt t) (hs : Strm H sa ca n) (hn : n ≤ 900000000) :
    EvG (tCall sp_script [] E0 (tCons (tVar 1) (tCons (tVar i) tNil))) σ H fun v H' => ∃ p es, v = .ref p ∧ Vo t 0 es ∧ es.length ≤ 30 ∧ Rp (Gs sa ca) H' (.ref p) (.list (es.map edD)) ∧ Go sa ca (n + 100) H H' := by
  intro R k
  exact ⟨_, h1, _, hi, sa, ca, n, t, rfl, ht, hn, hs, fun H' p es kp st vo le rp => k _ _ ⟨p, es, rfl, vo, le, rp, kp, st⟩⟩
theorem ev_done {σ : L2.St} {H : Hp} {G : Addr → Prop} {i j : Nat} {t : List Nat} {es : List Ed} {p : Addr} (hi : At σ i (.str (S t))) (hj : At σ j (.ref p)) (rp : Rp G H (.ref p) (.list (es.map edD))) (lt : t.length ≤ 100) (le : es.length ≤ 100) (vo : Vo t 0 es) :
    EvG (tCall sp_done [] E0 (tCons (tVar i) (tCons (tVar j) tNil))) σ H fun v H' => v = .str (S (fw t 0 es)) ∧ Same H H' := by
  intro R k
  exact ⟨_, hi, _, hj, G, t, es, p, rfl, rp, lt, le, vo, fun H' s => k _ _ ⟨rfl, s⟩⟩
/-! ### scripts loosened -/
theorem lz_script {es : List Ed} (h : es.length ≤ 30) : lz 3 31 (.list (es.map edD)) := by
  show lz (2 + 1) 31 _
  unfold lz
  refine ⟨by rw [List.length_map]; omega, 1, by rw [List.length_map]; omega, fun x hx => ?_⟩
  obtain ⟨e, _, rfl⟩ := List.mem_map.mp hx
  show lz (1 + 1) 1 _
  cases e with
  | out i =>
    refine ⟨by simp, 0, by simp, fun x hx => ?_⟩
    simp only [List.mem_cons, List.not_mem_nil, or_false] at hx
    rcases hx with rfl | rfl <;> exact (by simp [lz, row?, isN, tyN])
  | ins i c =>
    refine ⟨by simp, 0, by simp, fun x hx => ?_⟩
    simp only [List.mem_cons, List.not_mem_nil, or_false] at hx
    rcases hx with rfl | rfl | rfl <;> exact (by simp [lz, row?, isN, tyN])
  | sub i c =>
    refine ⟨by simp, 0, by simp, fun x hx => ?_⟩
    simp only [List.mem_cons, List.not_mem_nil, or_false] at hx
    rcases hx with rfl | rfl | rfl <;> exact (by simp [lz, row?, isN, tyN])
theorem list_ext {α : Type} {xs ys : List α} (hl : ys.length = xs.length) (h : ∀ (i : Nat) (x : α), xs[i]? = some x → ys[i]? = some x) : ys = xs := by
  refine List.ext_getElem? fun i => ?_
  cases e : xs[i]? with
  | none =>
    rw [List.getElem?_eq_none_iff] at e ⊢
    omega
  | some x => exact h i x e
theorem lo_ed {e : Ed} {y : PyData} (h : lo 2 (edD e) y) : row? y = row? (edD e) := by
  obtain ⟨xs, hx, hs⟩ : ∃ xs, row? (edD e) = some xs ∧ ∀ x ∈ xs, row? x = none := by
    cases e with
    | out i => exact ⟨_, rfl, by simp [row?]⟩
    | ins i c => exact ⟨_, rfl, by simp [row?]⟩
    | sub i c => exact ⟨_, rfl, by simp [row?]⟩
  have h' : lo (1 + 1) (edD e) y := h
  unfold lo at h'
  rw [hx] at h'
  obtain ⟨ds', h1, h2, h3⟩ := h'
  rw [h1, hx]
  congr 1
  refine list_ext h2 fun i x hi => ?_
  obtain ⟨z, hz, lz'⟩ := h3 i x hi
  have n : row? x = none := hs x (List.mem_of_getElem? hi)
  have lz2 : lo (0 + 1) x z := lz'
  unfold lo at lz2
  rw [n] at lz2
  have e : z = x := lz2
  rw [hz, e]
theorem sg_ok : ∀ c ∈ tl SG, c < 1114112 := by decide +kernel
theorem okS_sg {l : List Nat} (hl : l.length ≤ 1000) (h : ∀ c ∈ l, c ∈ tl SG) : okS (S l) := by
  refine ⟨?_, fun c hc => sg_ok c (h c hc)⟩
  have e : (S l).length = l.length := by rw [← tl_len]
  omega
theorem okS_w : okS "in" ∧ okS "out" ∧ okS "for" := by
  refine ⟨⟨by decide +kernel, ?_⟩, ⟨by decide +kernel, ?_⟩, ⟨by decide +kernel, ?_⟩⟩ <;> (show ∀ c ∈ _, c < 1114112; decide +kernel)
theorem okTh_ed {t : List Nat} {e : Ed} {y : PyData} (ok : okE t e) (h : row? y = row? (edD e)) : okTh y := by
  intro ds hd x hx
  rw [h] at hd
  have one : ∀ c, c ∈ tl SG → okS (S [c]) := fun c hc => okS_sg (by simp) (by simpa using hc)
  cases e with
  | out i =>
    cases hd
    simp only [List.mem_cons, List.not_mem_nil, or_false] at hx
    rcases hx with rfl | rfl
    · exact okS_w.2.1
    · exact trivial
  | ins i c =>
    cases hd
    simp only [List.mem_cons, List.not_mem_nil, or_false] at hx
    rcases hx with rfl | rfl | rfl
    · exact okS_w.1
    · exact trivial
    · exact one c ok.2
  | sub i c =>
    cases hd
    simp only [List.mem_cons, List.not_mem_nil, or_false] at hx
    rcases hx with rfl | rfl | rfl
    · exact okS_w.2.2
    · exact trivial
    · exact one c ok.2.1
theorem Vo_at {t : List Nat} : ∀ {es : List Ed} {a i : Nat} {e : Ed}, Vo t a es → es[i]? = some e → okE t e
  | [], _, _, _, _, h => by simp at h
  | f :: es, a, 0, e, ⟨_, h2, _⟩, h => by
    cases Option.some.inj h
    exact h2
  | f :: es, a, i + 1, e, ⟨_, _, h3⟩, h => Vo_at (i := i) h3 h
theorem lo_script {t : List Nat} {es : List Ed} {a : Nat} {d' : PyData} (vo : Vo t a es) (h : lo 3 (.list (es.map edD)) d') : ∃ l', row? d' = some l' ∧ l'.map (edIn (S t)) = es.map some ∧ (∀ x ∈ l', okTh x) ∧ l'.length = es.length := by
  have h' : lo (2 + 1) (.list (es.map edD)) d' := h
  unfold lo at h'
  obtain ⟨l', h1, h2, h3⟩ := h'
  rw [List.length_map] at h2
  have at_ : ∀ (i : Nat) (e : Ed), es[i]? = some e → ∃ y, l'[i]? = some y ∧ row? y = row? (edD e) := fun i e he => by
    obtain ⟨y, hy, ly⟩ := h3 i (edD e) (by rw [List.getElem?_map, he]; rfl)
    exact ⟨y, hy, lo_ed ly⟩
  refine ⟨l', h1, list_ext (by rw [List.length_map, List.length_map, h2]) fun i x hi => ?_, fun x hx => ?_, h2⟩
  · rw [List.getElem?_map] at hi ⊢
    cases he : es[i]? with
    | none =>
      rw [he] at hi
      cases hi
    | some e =>
      rw [he] at hi
      cases Option.some.inj hi
      obtain ⟨y, hy, ry⟩ := at_ i e he
      rw [hy]
      show some ((row? y).bind (edOf (S t))) = some (some e)
      rw [ry]
      exact congrArg some (edIn_ed (Vo_at vo he))
  · obtain ⟨i, hi⟩ := List.getElem?_of_mem hx
    have lt := (List.getElem?_eq_some_iff.mp hi).1
    obtain ⟨y, hy, ry⟩ := at_ i es[i] (List.getElem?_eq_getElem (by omega))
    rw [hi] at hy
    cases hy
    exact okTh_ed (Vo_at vo (List.getElem?_eq_getElem (by omega))) ry
/-! ### told and the same -/
theorem two_rp {H : Hp} {a : Addr} {w : Str} {v : V} {d : PyData} {G : Addr → Prop} (g : G a) (h : H a = some (.tup [.str w, v])) (r : Rp G H v d) : Rp G H (.ref a) (.tuple [.str w, d]) :=
  .tup g h (.cons (.str _) (.cons r .nil))
abbrev All : Addr → Prop := fun _ => True
theorem Rp.all {G : Addr → Prop} {H : Hp} {v : V} {d : PyData} (r : Rp G H v d) : Rp All H v d := r.wide fun _ _ => trivial
theorem sm_two {w : Str} {d : PyData} (h : sm 2 d) : sm 3 (.tuple [.str w, d]) := by
  show sm (2 + 1) _
  unfold sm
  refine ⟨by simp, fun x hx => ?_⟩
  simp only [List.mem_cons, List.not_mem_nil, or_false] at hx
  rcases hx with rfl | rfl
  · show sm (1 + 1) _
    unfold sm
    trivial
  · exact h
theorem sm_str (x : Str) : sm 2 (.str x) := by
  show sm (1 + 1) _
  unfold sm
  trivial
theorem sm_int (x : Int) : sm 2 (.int x) := by
  show sm (1 + 1) _
  unfold sm
  trivial
/-- the test `not _law_same(a, b)` of equal things -/
theorem same_ok {H : Hp} {x y : V} {d : PyData} {R : Bool → Hp → Prop} (rx : Rp All H x d) (ry : Rp All H y d) (s : sm 3 d) (k : ∀ H', Same H H' → R false H') :
    sp_same 3 [x, y] H (fun v H' => ∃ c, v = .bl c ∧ R (!c) H') E0 := ⟨All, x, y, d, rfl, rx, ry, s, fun H' s => ⟨true, rfl, k H' s⟩⟩
/-- told of a text and a script of data that runs through -/
theorem told_ok {H : Hp} {u : V} {ds : PyData} {t z : List Nat} {l : List PyData} {Q : VK} {E : XK} {G : Addr → Prop} (ht : t.length ≤ 200) (hs : ∀ c ∈ t, c ∈ tl SG) (ru : Rp G H u ds) (hG : ∀ a, H a = none → G a)
    (hl : row? ds = some l) (hn : l.length ≤ 1000) (ok : ∀ x ∈ l, okTh x) (hr : run (S t) none 0 [] l 0 = .inr z) (k : ∀ H' a, Same H H' → H a = none → H' a = some (.tup [.str "told", .str (S z)]) → Q (.ref a) H') :
    sp_told [.str (S t), u] H Q E := by
  have tx : isText SG 200 (.str (S t)) = true := isText_S (by omega) hs
  refine ⟨G, _, u, .str (S t), ds, rfl, .str _, okS_sg (by omega) hs, ru, hG, fun h => ?_, fun t' e _ h => ?_, fun t' l' e _ h => ?_⟩
  · rw [tx] at h
    cases h
  · rw [hl] at h
    cases h
  · cases e
    rw [hl] at h
    cases Option.some.inj h
    refine ⟨hn, ok, fun j hj => ?_, fun z' hz => ?_⟩
    · rw [hr] at hj
      cases hj
    · rw [hr] at hz
      cases hz
      exact k
/-- .. that stops at j -/
theorem told_no {H : Hp} {u : V} {ds : PyData} {t : List Nat} {j : Nat} {l : List PyData} {Q : VK} {E : XK} {G : Addr → Prop} (ht : t.length ≤ 200) (hs : ∀ c ∈ t, c ∈ tl SG) (ru : Rp G H u ds) (hG : ∀ a, H a = none → G a)
    (hl : row? ds = some l) (hn : l.length ≤ 1000) (ok : ∀ x ∈ l, okTh x) (hr : run (S t) none 0 [] l 0 = .inl j) (k : ∀ H' a, Same H H' → H a = none → H' a = some (.tup [.str "script", .int (j : Nat)]) → Q (.ref a) H') :
    sp_told [.str (S t), u] H Q E := by
  have tx : isText SG 200 (.str (S t)) = true := isText_S (by omega) hs
  refine ⟨G, _, u, .str (S t), ds, rfl, .str _, okS_sg (by omega) hs, ru, hG, fun h => ?_, fun t' e _ h => ?_, fun t' l' e _ h => ?_⟩
  · rw [tx] at h
    cases h
  · rw [hl] at h
    cases h
  · cases e
    rw [hl] at h
    cases Option.some.inj h
    refine ⟨hn, ok, fun j' hj => ?_, fun z' hz => ?_⟩
    · rw [hr] at hj
      cases hj
      exact k
    · rw [hr] at hz
      cases hz
/-- told of a text and what is no row -/
theorem told_row {H : Hp} {u : V} {ds : PyData} {t : List Nat} {Q : VK} {E : XK} {G : Addr → Prop} (ht : t.length ≤ 200) (hs : ∀ c ∈ t, c ∈ tl SG) (ru : Rp G H u ds) (hG : ∀ a, H a = none → G a)
    (hl : row? ds = none) (k : ∀ H' a, Same H H' → H a = none → H' a = some (.tup [.str "script", .int 0]) → Q (.ref a) H') :
    sp_told [.str (S t), u] H Q E := by
  have tx : isText SG 200 (.str (S t)) = true := isText_S (by omega) hs
  refine ⟨G, _, u, .str (S t), ds, rfl, .str _, okS_sg (by omega) hs, ru, hG, fun h => ?_, fun t' e _ h => k, fun t' l' e _ h => ?_⟩
  · rw [tx] at h
    cases h
  · rw [hl] at h
    cases h
/-- told of what is no text -/
theorem told_text {H : Hp} {v u : V} {dt ds : PyData} {Q : VK} {E : XK} {G : Addr → Prop} (rt : Rp G H v dt) (ok : okD dt) (ru : Rp G H u ds) (hG : ∀ a, H a = none → G a)
    (tx : isText SG 200 dt = false) (k : ∀ H' a, Same H H' → H a = none → H' a = some (.tup [.str "input", v]) → Q (.ref a) H') :
    sp_told [v, u] H Q E := by
  refine ⟨G, v, u, dt, ds, rfl, rt, ok, ru, hG, fun h => k, fun t' e h _ => ?_, fun t' l' e h _ => ?_⟩
  · rw [tx] at h
    cases h
  · rw [tx] at h
    cases h
end
end K76
set_option Elab.async false
set_option linter.all false
set_option maxRecDepth 100000
set_option maxHeartbeats 4000000
namespace K76
open PySem PySem.Spec PyProof.Rows L2 TbA TbD TbL TbK TL RZ
local macro_rules | `(tactic| walk_at "u") => `(tactic| simp only [tRet, tRetN, tSeq, tNext, tIfS, tAsg, tDrop, tAndV, tOrV, tNotV, tAnd, tOr, tNot, tB, tTest, tIf, tCB, tCons, tNil, tC, tVar, tOp, tUn, tChain, tCall, tM1, tTup, tLst, tSl, tPart, tNoPart, gName, gSub, gCons, gNil, gTup, tBreak, tCont, tNever,
  rI0, rI, rEq, rNe, cxOf, Cx.nox, Cx.wish, L2.start, List.map_cons, List.map_nil, List.length_cons, List.length_nil, List.cons_append, List.nil_append, List.replicate, List.getElem?_cons_zero, List.getElem?_cons_succ, Option.some.injEq, List.cons.injEq, and_true, true_and, V.int.injEq, V.bl.injEq, V.str.injEq, V.ref.injEq,
  exists_eq_left', exists_and_left, exists_eq_left, Nat.reduceSub, Nat.reduceAdd, List.set_cons_zero, List.set_cons_succ])
local macro_rules | `(tactic| walk_at "e") => `(tactic| simp only [tAndV, tOrV, tNotV, tAnd, tOr, tNot, tB, tTest, tIf, tCB, tCons, tNil, tC, tVar, tOp, tUn, tChain, tCall, tM1, tTup, tLst, tSl, tPart, tNoPart, gName, gSub, gCons, gNil, gTup, 
  rI0, rI, rEq, rNe, cxOf, Cx.nox, Cx.wish, L2.start, List.map_cons, List.map_nil, List.length_cons, List.length_nil, List.cons_append, List.nil_append, List.replicate, List.getElem?_cons_zero, List.getElem?_cons_succ, Option.some.injEq, List.cons.injEq, and_true, true_and, V.int.injEq, V.bl.injEq, V.str.injEq, V.ref.injEq,
  exists_eq_left', exists_and_left, exists_eq_left, Nat.reduceSub, Nat.reduceAdd, List.set_cons_zero, List.set_cons_succ])

section
variable {P : Program} {w : World} {K : PySem.W.Frag} {mg : Str → Option Value} {base : Heap}
theorem tst_loose {σ : L2.St} {H : Hp} {sa ca p : Addr} {n : Nat} {t : List Nat} {es : List Ed} (h1 : At σ 1 (.ref sa)) (h3 : At σ 3 (.str (S t))) (h4 : At σ 4 (.ref p)) (h5 : At σ 5 (.str (S (fw t 0 es))))
    (xt : Xt t) (vo : Vo t 0 es) (le : es.length ≤ 30) (rp : Rp (Gs sa ca) H (.ref p) (.list (es.map edD))) (hs : Strm H sa ca n) (hn : n ≤ 900000000) :
    TstG (tNot (tB (tCall (sp_same 3) [] E0 (tCons (tCall sp_told [] E0 (tCons (tVar 3) (tCons (tCall (sp_loose 3) [] E0 (tCons (tVar 1) (tCons (tVar 4) tNil))) tNil)))
      (tCons (tTup (tCons (tC (V.str (Str.ofString "told"))) (tCons (tVar 5) tNil))) tNil))))) σ H false (fun H' => Go sa ca (n + 31) H H') := by
  intro R k
  walk_at "e"
  refine ⟨_, h3, _, h1, _, h4, sa, ca, .ref p, _, n, 31, Gs sa ca, rfl, lz_script le, rp, by omega, hs, fun a e => hs.at_none e, gs_s, gs_c, fun H1 v' d' k1 s1 l1 r1 => ?_⟩
  obtain ⟨l', e1, e2, e3, e4⟩ := lo_script vo l1
  have h9 := xt.1
  refine told_ok (by omega) xt.2 r1 (fun a e => s1.at_none e) e1 (by omega) e3 (run_ok e2 vo) fun H2 a s2 fa ha => ?_
  refine ⟨_, h5, by decide, fun b hb => same_ok (two_rp trivial (same_new hb _ _ ha) (.str _)) (two_rp trivial upd_same (.str _)) (sm_two (sm_str _)) fun H3 s3 => k _ ?_⟩
  exact Go.trans ⟨k1, s1⟩ (Go.same s1 ((Same.new s2 hb).trans s3))
theorem ev_back {σ : L2.St} {H : Hp} {sa ca p : Addr} {n : Nat} {t : List Nat} {es : List Ed} (h3 : At σ 3 (.str (S t))) (h4 : At σ 4 (.ref p)) (xt : Xt t) (vo : Vo t 0 es) (le : es.length ≤ 30)
    (rp : Rp (Gs sa ca) H (.ref p) (.list (es.map edD))) (hs : Strm H sa ca n) :
    EvG (tCall sp_back [] E0 (tCons (tVar 3) (tCons (tVar 4) tNil))) σ H fun v H' => ∃ pb, v = .ref pb ∧ Rp (Gs sa ca) H' (.ref pb) (.list ((bk t 0 0 es).map edD)) ∧ Go sa ca n H H' := by
  intro R k
  have h9 := xt.1
  exact ⟨_, h3, _, h4, Gs sa ca, t, es, p, rfl, rp, by omega, by omega, vo, fun H' pf s f r => k _ _ ⟨pf, rfl, r.wide fun a e => hs.at_none e, Go.same hs s⟩⟩
theorem ev_due {σ : L2.St} {H : Hp} {sa ca pb : Addr} {n : Nat} {t u : List Nat} {bs : List Ed} (h3 : At σ 3 (.str (S t))) (h6 : At σ 6 (.ref pb)) (vo : Vo u 0 bs) (le : bs.length ≤ 30)
    (rp : Rp (Gs sa ca) H (.ref pb) (.list (bs.map edD))) (hs : Strm H sa ca n) :
    EvG (tIf (tB (tCall sp_in_order [] E0 (tCons (tVar 6) tNil))) (tTup (tCons (tC (V.str (Str.ofString "told"))) (tCons (tVar 3) tNil)))
      (tTup (tCons (tC (V.str (Str.ofString "script"))) (tCons (tCall sp_wrong [] E0 (tCons (tVar 5) (tCons (tVar 6) tNil))) tNil)))) σ H
      fun v H' => ∃ pd, v = .ref pd ∧ Rp (Gs sa ca) H' (.ref pd) (.tuple [.str "told", .str (S t)]) ∧ Go sa ca n H H' := by
  intro R k
  walk_at "e"
  refine ⟨_, h6, Gs sa ca, u, bs, pb, rfl, rp, by omega, vo, fun H1 s1 => ⟨true, rfl, iteT ⟨_, h3, by decide, fun b hb => k _ _ ⟨b, rfl, two_rp ((hs.keep s1).at_none hb) upd_same (.str _), Go.same hs (Same.new s1 hb)⟩⟩⟩⟩
theorem tst_back {σ : L2.St} {H : Hp} {sa ca pb pd : Addr} {n : Nat} {t u : List Nat} {bs : List Ed} (h5 : At σ 5 (.str (S u))) (h6 : At σ 6 (.ref pb)) (h7 : At σ 7 (.ref pd)) (lu : u.length ≤ 200) (su : ∀ c ∈ u, c ∈ tl SG)
    (vo : Vo u 0 bs) (le : bs.length ≤ 30) (e : fw u 0 bs = t) (rp : Rp (Gs sa ca) H (.ref pb) (.list (bs.map edD))) (rd : Rp (Gs sa ca) H (.ref pd) (.tuple [.str "told", .str (S t)])) (hs : Strm H sa ca n) :
    TstG (tNot (tB (tCall (sp_same 3) [] E0 (tCons (tCall sp_told [] E0 (tCons (tVar 5) (tCons (tVar 6) tNil))) (tCons (tVar 7) tNil))))) σ H false (fun H' => Go sa ca n H H') := by
  intro R k
  walk_at "e"
  refine ⟨_, h5, _, h6, told_ok (l := bs.map edD) lu su rp (fun a e => hs.at_none e) rfl (by rw [List.length_map]; omega) ?_ (run_ok (edIn_all bs 0 vo) vo) fun H1 a s1 fa ha => ⟨_, h7, ?_⟩⟩
  · intro x hx
    obtain ⟨i, hi⟩ := List.getElem?_of_mem hx
    rw [List.getElem?_map] at hi
    cases q : bs[i]? with
    | none =>
      rw [q] at hi
      cases hi
    | some b =>
      rw [q] at hi
      cases Option.some.inj hi
      exact okTh_ed (Vo_at vo q) rfl
  · rw [e] at ha
    exact same_ok (two_rp trivial ha (.str _)) (K76.Rp.all (rd.mono (Kp.of s1))) (sm_two (sm_str _)) fun H2 s2 => k _ (Go.same hs (s1.trans s2))
/-! ### sizes -/
theorem lc_cnt {K : PySem.W.Frag} {i j : Nat} {tt : TT} {σ : L2.St} {H : Hp} {Q : VK} {p : Addr} {xs : List V} {es : List Ed} {g : Ed → Bool} (hv : At σ j (.ref p)) (hp : H p = some (.lst xs)) (hi : i < σ.length) (hn : xs.length ≤ 1000) (hl : es.length = xs.length)
    (ht : ∀ (k : Nat) x e H1 (R : Bool → Hp → Prop), xs[k]? = some x → es[k]? = some e → Same H H1 → R (g e) H1 → tt ((wipe σ [i]).set i (some x)) H1 R)
    (q : ∀ D ys H1, H D = none → Same H H1 → H1 D = some (.lst ys) → ys.length = (es.filter g).length → Q (.ref D) H1) :
    tLc (iList K (tVar j)) (gName i) tt (tVar i) [i] σ H Q := by
  refine ⟨_, hv, p, rfl, ⟨xs, SqL.of hp⟩, fun D hD => lc_it (walk_list (K := K) (a := p) (xs := xs))
    (fun k H1 => Same H H1 ∧ ∃ ys, H1 D = some (.lst ys) ∧ ys.length = ((es.take k).filter g).length) ⟨same_new hD, [], upd_same, rfl⟩ (fun k H1 _ h => SqL.of (h.1 _ _ hp)) ?_ ?_⟩
  · rintro k x H1 H2 hk ⟨s1, ys, h1, h2⟩ ⟨rfl, hx⟩
    have lt : k < es.length := by omega
    have he : es[k]? = some es[k] := List.getElem?_eq_getElem lt
    have tk := take_succ' he
    refine ⟨wipe_put, ht k x es[k] _ _ hx he s1 ?_⟩
    cases c : g es[k] with
    | true =>
      refine iteT ⟨_, wipe_get hi, ys, h1, ?_, Same.own s1 hD, ys ++ [x], upd_same, ?_⟩
      · have l2 : ((es.take k).filter g).length ≤ k := Nat.le_trans (List.length_filter_le _ _) (by rw [List.length_take]; exact Nat.min_le_left _ _)
        exact Nat.lt_of_lt_of_le (show ys.length < 100000 by omega) (by decide)
      · rw [tk, List.filter_append, List.length_append, List.length_append, h2]
        simp [c]
    | false =>
      refine iteF ⟨s1, ys, h1, ?_⟩
      rw [tk, List.filter_append, List.length_append, h2]
      simp [c]
  · rintro H1 ⟨s1, ys, h1, h2⟩
    refine q D ys H1 hD s1 h1 ?_
    rw [h2, ← hl, List.take_length]
theorem ed_row {G : Addr → Prop} {H : Hp} {p : Addr} {es : List Ed} (rp : Rp G H (.ref p) (.list (es.map edD))) : ∃ xs, H p = some (.lst xs) ∧ G p ∧ RpAll G H xs (es.map edD) ∧ xs.length = es.length := by
  cases rp with
  | lst g h r => exact ⟨_, h, g, r, by have := r.length; rwa [List.length_map] at this⟩
theorem ed_at {G : Addr → Prop} {H : Hp} {xs : List V} {es : List Ed} {k : Nat} {x : V} {e : Ed} (r : RpAll G H xs (es.map edD)) (hx : xs[k]? = some x) (he : es[k]? = some e) : ∃ pe, x = .ref pe ∧ G pe ∧ H pe = some (.tup (edV e)) := by
  obtain ⟨d, hd, rd⟩ := r.get hx
  rw [List.getElem?_map, he] at hd
  cases Option.some.inj hd
  exact ed_rp rd
def SzI (es : List Ed) (H : Hp) (D : Addr) (k : Nat) (ys : List V) (H' : Hp) : Prop := Same H H' ∧ ys = ([V.int (nI es : Nat), V.int (nO es : Nat)]).take k
theorem ev_sizes {σ : L2.St} {H : Hp} {G : Addr → Prop} {p : Addr} {es : List Ed} (h4 : At σ 4 (.ref p)) (hl : σ.length = 21) (rp : Rp G H (.ref p) (.list (es.map edD))) (le : es.length ≤ 30) :
    EvG (tLc (iTup K (tTup (tCons (tC (V.str (Str.ofString "in"))) (tCons (tC (V.str (Str.ofString "out"))) tNil)))) (gName 19) tYes
      (tCB (rLenK K) (tCons (tLc (iList K (tVar 4)) (gName 20) (tTest (tOp rEq (tOp (rIxT K) (tVar 20) (tC (V.int 0))) (tVar 19))) (tVar 20) [20]) tNil)) [19]) σ H
      fun v H' => ∃ pz, v = .ref pz ∧ H' pz = some (.lst [.int (nI es : Nat), .int (nO es : Nat)]) ∧ Same H H' := by
  intro R k
  obtain ⟨xs, hp, _, ra, hlx⟩ := ed_row rp
  refine ⟨by decide, fun pt hpt => ⟨pt, rfl, ⟨_, SqT.of upd_same⟩, ?_⟩⟩
  have s0 : Same H (upd H pt (.tup [V.str (Str.ofString "in"), V.str (Str.ofString "out")])) := same_new hpt
  have t0 : upd H pt (.tup [V.str (Str.ofString "in"), V.str (Str.ofString "out")]) pt = some (.tup [V.str (Str.ofString "in"), V.str (Str.ofString "out")]) := upd_same
  generalize upd H pt (.tup [V.str (Str.ofString "in"), V.str (Str.ofString "out")]) = H0 at s0 t0 ⊢
  refine lcN (walk_tup (K := K) (a := pt) (xs := [V.str (Str.ofString "in"), V.str (Str.ofString "out")])) (SzI es H0) (fun D hD => ⟨same_new hD, rfl⟩) (fun D k ys H' _ h => SqT.of (h.1 _ _ t0)) ?_ ?_
  · rintro D k ys x H1 H2 hD hk hyl ⟨s1, ey⟩ hDl ⟨rfl, hx⟩
    have word : ∀ (g : Ed → Bool) (wd : Str) (R2 : VK), x = .str wd → (∀ e : Ed, decide (e.word = wd) = g e) → (∀ D2 zs H3, Same H2 H3 → H3 D2 = some (.lst zs) → zs.length = (es.filter g).length → R2 (.ref D2) H3) →
        (tLc (iList K (tVar 4)) (gName 20) (tTest (tOp rEq (tOp (rIxT K) (tVar 20) (tC (V.int 0))) (tVar 19))) (tVar 20) [20]) ((wipe σ [19]).set 19 (some x)) H2 R2 := fun g wd R2 ex hg q2 => by
      have l2 : ((wipe σ [19]).set 19 (some x)).length = 21 := by
        show ((σ.set 19 none).set 19 (some x)).length = 21
        rw [List.length_set, List.length_set, hl]
      have v4 : At ((wipe σ [19]).set 19 (some x)) 4 (.ref p) := (wipe_old (by decide)).trans h4
      have v19 : At ((wipe σ [19]).set 19 (some x)) 19 x := wipe_get (by omega)
      generalize (wipe σ [19]).set 19 (some x) = σ' at l2 v4 v19 ⊢
      have s02 := s0.trans s1
      refine lc_cnt (es := es) (g := g) v4 (s02 _ _ hp) (by omega) (by omega) hlx.symm (fun j y e H3 R3 hy he s3 h3 => ?_) (fun D2 zs H3 _ s3 h3 l3 => q2 D2 zs H3 s3 h3 l3)
      obtain ⟨pe, rfl, _, hpe⟩ := ed_at (ra.mono (Kp.of (s02.trans s3))) hy he
      have a20 : At ((wipe σ' [20]).set 20 (some (.ref pe))) 20 (.ref pe) := wipe_get (by omega)
      have a19 : At ((wipe σ' [20]).set 20 (some (.ref pe))) 19 x := (wipe_old (by decide)).trans v19
      walk_at "e"
      refine ⟨_, a20, ixE hpe (ed0 e) ⟨_, a19, ?_⟩⟩
      rw [ex]
      refine ⟨rfl, ?_⟩
      rw [decS, hg e]
      exact h3
    match k, hk, hx with
    | 0, _, hx =>
      refine word Ed.isIns "in" (fun x1 H1 => rLenK K [x1] H1 (Add D 0 (SzI es H0))) (Option.some.inj hx).symm word_in fun D2 zs H3 s3 h3 l3 => ⟨_, zs.length, rfl, .inl ⟨zs, SqL.of h3, rfl⟩, add_ok (s3 _ _ hDl) hyl (by decide) ⟨Same.own (s1.trans s3) hD, ?_⟩⟩
      rw [ey, l3]
      rfl
    | 1, _, hx =>
      refine word Ed.isOut "out" (fun x1 H1 => rLenK K [x1] H1 (Add D 1 (SzI es H0))) (Option.some.inj hx).symm word_out fun D2 zs H3 s3 h3 l3 => ⟨_, zs.length, rfl, .inl ⟨zs, SqL.of h3, rfl⟩, add_ok (s3 _ _ hDl) hyl (by decide) ⟨Same.own (s1.trans s3) hD, ?_⟩⟩
      rw [ey, l3]
      rfl
    | n + 2, hk, _ =>
      have : n + 2 < 2 := hk
      omega
  · rintro D ys H1 hD hyl ⟨s1, ey⟩ hDl
    rw [ey] at hDl
    exact k _ _ ⟨D, rfl, hDl, s0.trans s1⟩
end
end K76
set_option Elab.async false
set_option linter.all false
set_option maxRecDepth 100000
set_option maxHeartbeats 4000000
namespace K76
open PySem PySem.Spec PyProof.Rows L2 TbA TbD TbL TbK TL RZ
local macro_rules | `(tactic| walk_at "u") => `(tactic| simp only [tRet, tRetN, tSeq, tNext, tIfS, tAsg, tDrop, tAndV, tOrV, tNotV, tAnd, tOr, tNot, tB, tTest, tIf, tCB, tCons, tNil, tC, tVar, tOp, tUn, tChain, tCall, tM1, tTup, tLst, tSl, tPart, tNoPart, gName, gSub, gCons, gNil, gTup, tBreak, tCont, tNever,
  rI0, rI, rEq, rNe, cxOf, Cx.nox, Cx.wish, L2.start, List.map_cons, List.map_nil, List.length_cons, List.length_nil, List.cons_append, List.nil_append, List.replicate, List.getElem?_cons_zero, List.getElem?_cons_succ, Option.some.injEq, List.cons.injEq, and_true, true_and, V.int.injEq, V.bl.injEq, V.str.injEq, V.ref.injEq,
  exists_eq_left', exists_and_left, exists_eq_left, Nat.reduceSub, Nat.reduceAdd, List.set_cons_zero, List.set_cons_succ])
local macro_rules | `(tactic| walk_at "e") => `(tactic| simp only [tAndV, tOrV, tNotV, tAnd, tOr, tNot, tB, tTest, tIf, tCB, tCons, tNil, tC, tVar, tOp, tUn, tChain, tCall, tM1, tTup, tLst, tSl, tPart, tNoPart, gName, gSub, gCons, gNil, gTup, 
  rI0, rI, rEq, rNe, cxOf, Cx.nox, Cx.wish, L2.start, List.map_cons, List.map_nil, List.length_cons, List.length_nil, List.cons_append, List.nil_append, List.replicate, List.getElem?_cons_zero, List.getElem?_cons_succ, Option.some.injEq, List.cons.injEq, and_true, true_and, V.int.injEq, V.bl.injEq, V.str.injEq, V.ref.injEq,
  exists_eq_left', exists_and_left, exists_eq_left, Nat.reduceSub, Nat.reduceAdd, List.set_cons_zero, List.set_cons_succ])

section
variable {P : Program} {w : World} {K : PySem.W.Frag} {mg : Str → Option Value} {base : Heap}
theorem lenS {K : PySem.W.Frag} {l : List Nat} {H : Hp} {R : VK} (hl : l.length ≤ 1000) (k : R (.int (l.length : Nat)) H) : rLenK K [.str (S l)] H R :=
  ⟨_, l.length, rfl, ⟨by have e : (S l).length = l.length := by rw [← tl_len]
                         rw [e]; exact Nat.le_trans hl (by decide), by rw [← tl_len]⟩, k⟩
def catR : R2 := fun x y H Q => ∃ i j, x = .str i ∧ y = .str j ∧ i.length + j.length ≤ sizeLine ∧ Q (.str (i ++ j)) H
theorem catS_ok {a b : List Nat} {H : Hp} {R : VK} (h : a.length + b.length ≤ 1000) (k : R (.str (S (a ++ b))) H) : catR (.str (S a)) (.str (S b)) H R := by
  have e1 : (S a).length = a.length := by rw [← tl_len]
  have e2 : (S b).length = b.length := by rw [← tl_len]
  refine ⟨S a, S b, rfl, rfl, Nat.le_trans (show _ ≤ 1000 by omega) (by decide), ?_⟩
  rw [S_app]
  exact k
theorem cat_ok {p q : Addr} {xs zs : List V} {H : Hp} {R : VK} (hp : H p = some (.lst xs)) (hq : H q = some (.lst zs)) (h : xs.length + zs.length ≤ 1000) (k : ∀ D, H D = none → R (.ref D) (upd H D (.lst (xs ++ zs)))) : rCat (.ref p) (.ref q) H R :=
  ⟨p, q, xs, zs, rfl, rfl, hp, hq, Nat.le_trans h (by decide), k⟩
theorem tst_sizes {σ : L2.St} {H : Hp} {sa ca pz : Addr} {n : Nat} {t u : List Nat} {x y : Nat} (h5 : At σ 5 (.str (S u))) (h3 : At σ 3 (.str (S t))) (h8 : At σ 8 (.ref pz)) (hz : H pz = some (.lst [.int (x : Nat), .int (y : Nat)]))
    (lu : u.length ≤ 1000) (lt : t.length ≤ 1000) (e : (u.length : Int) = t.length + x - y) (hs : Strm H sa ca n) :
    TstG (tTest (tOp rNe (tCB (rLenK K) (tCons (tVar 5) tNil)) (tOp (rI0 fun i j => V.int (i - j)) (tOp (rI0 fun i j => V.int (i + j)) (tCB (rLenK K) (tCons (tVar 3) tNil)) (tOp (rIxL K) (tVar 8) (tC (V.int 0)))) (tOp (rIxL K) (tVar 8) (tC (V.int 1))))))
      σ H false (fun H' => Go sa ca n H H') := by
  intro R k
  walk_at "e"
  refine ⟨_, h5, lenS lu ⟨_, h3, lenS lt ⟨_, h8, ixL (j := 0) hz rfl ⟨_, rfl, _, rfl, _, h8, ixL (j := 1) hz rfl ⟨_, rfl, rfl, ?_⟩⟩⟩⟩⟩
  have e2 : (!decide (V.int (u.length : Int) = V.int ((t.length : Int) + x - y))) = false := by
    rw [decI, decide_eq_true e]
    rfl
  rw [e2]
  exact k _ (Go.same hs (L2.Same.refl _))
/-! ### shifted -/
def ShI (n : Nat) (fs : List Ed) (H : Hp) (D : Addr) (k : Nat) (ys : List V) (H' : Hp) : Prop := Same H H' ∧ RpAll (fun a => H a = none ∧ a ≠ D) H' ys (((fs.take k).map (sh n)).map edD)
theorem ev_shifted {σ : L2.St} {H : Hp} {G : Addr → Prop} {p : Addr} {fs : List Ed} {t : List Nat} (h3 : At σ 3 (.str (S t))) (h10 : At σ 10 (.ref p)) (hl : σ.length = 21) (rp : Rp G H (.ref p) (.list (fs.map edD))) (le : fs.length ≤ 30) (lt : t.length ≤ 1000) :
    EvG (tLc (iList K (tVar 10)) (gName 20) tYes (tOp (rCatA K) (tTup (tCons (tOp (rIxT K) (tVar 20) (tC (V.int 0))) (tCons (tOp (rI0 fun i j => V.int (i + j)) (tOp (rIxT K) (tVar 20) (tC (V.int 1))) (tCB (rLenK K) (tCons (tVar 3) tNil))) tNil)))
      (tSl (rSlA K) (tVar 20) (tPart (tC (V.int 2))) tNoPart)) [20]) σ H
      fun v H' => ∃ pz, v = .ref pz ∧ Rp (fun a => H a = none) H' (.ref pz) (.list ((fs.map (sh t.length)).map edD)) ∧ Same H H' := by
  intro R k
  obtain ⟨xs, hp, _, ra, hlx⟩ := ed_row rp
  refine ⟨_, h10, p, rfl, ⟨xs, SqL.of hp⟩, ?_⟩
  refine lcN (walk_list (K := K) (a := p) (xs := xs)) (ShI t.length fs H) (fun D hD => ⟨same_new hD, .nil⟩) (fun D k ys H' _ h => SqL.of (h.1 _ _ hp)) ?_ ?_
  · rintro D k ys x H1 H2 hD hk hyl ⟨s1, ry⟩ hDl ⟨rfl, hx⟩
    have he : fs[k]? = some fs[k] := List.getElem?_eq_getElem (by omega)
    obtain ⟨pe, rfl, _, hpe⟩ := ed_at (ra.mono (Kp.of s1)) hx he
    have a20 : At ((wipe σ [20]).set 20 (some (.ref pe))) 20 (.ref pe) := wipe_get (by omega)
    have a3 : At ((wipe σ [20]).set 20 (some (.ref pe))) 3 (.str (S t)) := (wipe_old (by decide)).trans h3
    generalize (wipe σ [20]).set 20 (some (.ref pe)) = σ' at a20 a3 ⊢
    generalize fs[k] = e at he hpe
    walk_at "e"
    refine ⟨_, a20, ixE hpe (ed0 e) ⟨_, a20, ixE hpe (ed1 e) ⟨_, a3, lenS lt ?_⟩⟩⟩
    refine ⟨_, rfl, _, rfl, by decide, fun p1 hp1 => ⟨_, a20, pe, edV e, rfl, SqT.of (same_new hp1 _ _ hpe), fun h => ?_, fun _ p2 hp2 => ?_⟩⟩
    · exfalso
      have q : HT.sIx (edV e).length 0 (some 2) = min 2 (edV e).length := HT.sIx_nat _ 0 2
      have l2 : 2 ≤ (edV e).length := by cases e <;> simp [edV]
      have h1 := h.1
      rw [q] at h1
      omega
    · have tk := take_succ' he
      have n1 : p1 ≠ D := Ne.symm (ne_of_none hDl hp1)
      have fin : ∀ (H3 : Hp) (pq : Addr), Same H2 H3 → H pq = none → pq ≠ D → H3 pq = some (.tup (edV (sh t.length e))) → Add D k (ShI t.length fs H) (.ref pq) H3 := fun H3 pq s3 f0 nD h3' => by
        refine add_ok (s3 _ _ hDl) hyl (by omega) ⟨Same.own (s1.trans s3) hD, ?_⟩
        rw [tk, List.map_append, List.map_append]
        exact (RpAll.append (ry.mono (Kp.of s3)) (.cons (rp_ed (e := sh t.length e) ⟨f0, nD⟩ h3') .nil)).mono (Kp.out (Kp.refl _ _) fun g => g.2 rfl)
      have f1 : H p1 = none := L2.Same.free s1 hp1
      have q1 : upd H2 p1 (HO.tup [V.str e.word, V.int ((e.at : Int) + (t.length : Nat))]) p1 = some (.tup [V.str e.word, V.int ((e.at : Int) + (t.length : Nat))]) := upd_same
      have s2 : Same H2 (upd H2 p1 (HO.tup [V.str e.word, V.int ((e.at : Int) + (t.length : Nat))])) := same_new hp1
      generalize upd H2 p1 (HO.tup [V.str e.word, V.int ((e.at : Int) + (t.length : Nat))]) = H3 at hp2 q1 s2 ⊢
      have s3 : Same H3 (upd H3 p2 (.tup (cutV (edV e) (some 2) none))) := same_new hp2
      refine ⟨p1, p2, _, _, rfl, rfl, SqT.of (s3 _ _ q1), SqT.of upd_same, ?_, (fun h => by cases h), fun _ hy => ?_, fun _ hy p3 hp3 => ?_⟩
      · have := cutV_length (edV e) (some 2) none
        have : (edV e).length ≤ 3 := by cases e <;> simp [edV]
        exact Nat.le_trans (show _ ≤ 10 by simp only [List.length_cons, List.length_nil]; omega) (by decide)
      · cases e with
        | out i => exact fin _ p1 (s2.trans s3) f1 n1 (s3 _ _ q1)
        | ins i c => cases hy
        | sub i c => cases hy
      · have s4 : Same (upd H3 p2 (.tup (cutV (edV e) (some 2) none))) (upd (upd H3 p2 (.tup (cutV (edV e) (some 2) none))) p3 (.tup ([V.str e.word, V.int ((e.at : Int) + (t.length : Nat))] ++ cutV (edV e) (some 2) none))) := same_new hp3
        have s24 := (s2.trans s3).trans s4
        have n3 : p3 ≠ D := Ne.symm (ne_of_none ((s2.trans s3) _ _ hDl) hp3)
        refine fin _ p3 s24 (L2.Same.free (s1.trans (s2.trans s3)) hp3) n3 ?_
        rw [upd_same]
        cases e with
        | out i => exact absurd rfl hy
        | ins i c => rfl
        | sub i c => rfl
  · rintro D ys H1 hD hyl ⟨s1, ry⟩ hDl
    have e : fs.take xs.length = fs := by rw [hlx, List.take_length]
    rw [e] at ry
    exact k _ _ ⟨D, rfl, .lst hD hDl (ry.wide fun a g => g.1), s1⟩
/-! ### both -/
theorem ev_both {σ : L2.St} {H : Hp} {sa ca p p2 : Addr} {n : Nat} {t u : List Nat} {es fs : List Ed} (h3 : At σ 3 (.str (S t))) (h4 : At σ 4 (.ref p)) (h9 : At σ 9 (.str (S u))) (h10 : At σ 10 (.ref p2))
    (xt : Xt t) (xu : Xt u) (vo : Vo t 0 es) (vf : Vo u 0 fs) (le : es.length ≤ 30) (lf : fs.length ≤ 30) (rp : Rp (Gs sa ca) H (.ref p) (.list (es.map edD))) (rq : Rp (Gs sa ca) H (.ref p2) (.list (fs.map edD))) (hs : Strm H sa ca n) :
    EvG (tOp catR (tCall sp_done [] E0 (tCons (tVar 3) (tCons (tVar 4) tNil))) (tCall sp_done [] E0 (tCons (tVar 9) (tCons (tVar 10) tNil)))) σ H
      fun v H' => v = .str (S (fw t 0 es ++ fw u 0 fs)) ∧ Go sa ca n H H' := by
  intro R k
  have l1 := xt.1
  have l2 := xu.1
  walk_at "e"
  refine ⟨_, h3, _, h4, Gs sa ca, t, es, p, rfl, rp, by omega, by omega, vo, fun H1 s1 => ?_⟩
  refine ⟨_, h9, _, h10, Gs sa ca, u, fs, p2, rfl, rq.mono (Kp.of s1), by omega, by omega, vf, fun H2 s2 => ?_⟩
  have a1 := fw_len es 0 (Nat.zero_le _) vo
  have a2 := fw_len fs 0 (Nat.zero_le _) vf
  have b1 := nI_le es
  have b2 := nI_le fs
  exact catS_ok (by omega) (k _ _ ⟨rfl, Go.same hs (s1.trans s2)⟩)
theorem tst_both {CI CS : Addr} {σ : L2.St} {H : Hp} {sa ca p p2 : Addr} {n : Nat} {t u : List Nat} {es fs : List Ed} (h3 : At σ 3 (.str (S t))) (h4 : At σ 4 (.ref p)) (h9 : At σ 9 (.str (S u))) (h11 : At σ 11 (.ref p2)) (h12 : At σ 12 (.str (S (fw t 0 es ++ fw u 0 fs))))
    (xt : Xt t) (xu : Xt u) (vo : Vo t 0 es) (vf : Vo u 0 fs) (le : es.length ≤ 30) (lf : fs.length ≤ 30) (rp : Rp (Gs sa ca) H (.ref p) (.list (es.map edD))) (rq : Rp (Gs sa ca) H (.ref p2) (.list ((fs.map (sh t.length)).map edD))) (hs : Strm H sa ca n) :
    TstG (tAnd (tB (tCall sp_in_order [] E0 (tCons (tOp rCat (tVar 4) (tVar 11)) tNil)))
      (tNot (tB (tCall (sp_same 3) [] E0 (tCons (tCall (sp_edited CI CS) [] E0 (tCons (tOp catR (tVar 3) (tVar 9)) (tCons (tOp rCat (tVar 4) (tVar 11)) tNil))) (tCons (tVar 12) tNil))))))
      σ H false (fun H' => Go sa ca n H H') := by
  intro R k
  have l1 := xt.1
  have l2 := xu.1
  have lu : (S u).length = u.length := by rw [← tl_len]
  have lt : (S t).length = t.length := by rw [← tl_len]
  obtain ⟨xs, hp, gp, ra, hlx⟩ := ed_row rp
  obtain ⟨zs, hq, gq, rb, hlz⟩ := ed_row rq
  have bo := both_ok t u fs vf es 0 (Nat.zero_le _) vo
  rw [List.length_map] at hlz
  have cat : ∀ {H1 : Hp} {D : Addr}, Same H H1 → H1 D = none → Rp (Gs sa ca) (upd H1 D (.lst (xs ++ zs))) (.ref D) (.list ((es ++ fs.map (sh t.length)).map edD)) := fun {H1 D} s hD => by
    refine .lst ((hs.keep s).at_none hD) upd_same ?_
    rw [List.map_append]
    exact (RpAll.append (ra.mono (Kp.of s)) (rb.mono (Kp.of s))).mono (Kp.of (same_new hD))
  have lcat : (es ++ fs.map (sh t.length)).length ≤ 100 := by
    rw [List.length_append, List.length_map]
    omega
  walk_at "e"
  refine ⟨_, h4, _, h11, cat_ok hp hq (by omega) fun D hD => ?_⟩
  refine ⟨Gs sa ca, t ++ u, _, D, rfl, cat (L2.Same.refl _) hD, lcat, bo.1, fun H1 s1 => ⟨true, rfl, iteT ?_⟩⟩
  have s01 : Same H H1 := (same_new hD).trans s1
  refine ⟨_, h3, _, h9, catS_ok (by omega) ?_⟩
  refine ⟨_, h4, _, h11, cat_ok (s01 _ _ hp) (s01 _ _ hq) (by omega) fun D2 hD2 => ?_⟩
  have s02 : Same H (upd H1 D2 (.lst (xs ++ zs))) := Same.new s01 hD2
  have sgn : ∀ c ∈ t ++ u, c ∈ tl SG := fun c hc => by
    rcases List.mem_append.mp hc with h | h
    · exact xt.2 c h
    · exact xu.2 c h
  have ltu : (t ++ u).length ≤ 18 := by rw [List.length_append]; omega
  have tx : isText SG 200 (.str (S (t ++ u))) = true := isText_S (by omega) sgn
  refine ⟨Gs sa ca, _, _, .str (S (t ++ u)), _, rfl, .str _, okS_sg (by omega) sgn, cat s01 hD2, fun a e => (hs.keep s02).at_none e, fun h => ?_, fun t' e _ h => ?_, fun t' l' e _ h => ?_⟩
  · rw [tx] at h
    cases h
  · cases h
  · cases e
    cases Option.some.inj h
    refine ⟨by rw [List.length_map]; omega, ?_, fun j hj => ?_, fun z hz => ?_⟩
    · intro x hx
      obtain ⟨i, hi⟩ := List.getElem?_of_mem hx
      rw [List.getElem?_map] at hi
      cases q : (es ++ fs.map (sh t.length))[i]? with
      | none =>
        rw [q] at hi
        cases hi
      | some b =>
        rw [q] at hi
        cases Option.some.inj hi
        exact okTh_ed (Vo_at bo.1 q) rfl
    · rw [run_ok (edIn_all _ 0 bo.1) bo.1] at hj
      cases hj
    · rw [run_ok (edIn_all _ 0 bo.1) bo.1] at hz
      cases hz
      rw [bo.2]
      intro H3 s3
      exact ⟨_, h12, same_ok (.str _) (.str _) (by show sm (2 + 1) _; unfold sm; trivial) fun H4 s4 => k _ (Go.same hs ((s02.trans s3).trans s4))⟩
end
end K76
set_option Elab.async false
set_option linter.all false
set_option maxRecDepth 100000
set_option maxHeartbeats 4000000
namespace K76
open PySem PySem.Spec PyProof.Rows L2 TbA TbD TbL TbK TL RZ
local macro_rules | `(tactic| walk_at "u") => `(tactic| simp only [tRet, tRetN, tSeq, tNext, tIfS, tAsg, tDrop, tAndV, tOrV, tNotV, tAnd, tOr, tNot, tB, tTest, tIf, tCB, tCons, tNil, tC, tVar, tOp, tUn, tChain, tCall, tM1, tTup, tLst, tSl, tPart, tNoPart, gName, gSub, gCons, gNil, gTup, tBreak, tCont, tNever,
  rI0, rI, rEq, rNe, cxOf, Cx.nox, Cx.wish, L2.start, List.map_cons, List.map_nil, List.length_cons, List.length_nil, List.cons_append, List.nil_append, List.replicate, List.getElem?_cons_zero, List.getElem?_cons_succ, Option.some.injEq, List.cons.injEq, and_true, true_and, V.int.injEq, V.bl.injEq, V.str.injEq, V.ref.injEq,
  exists_eq_left', exists_and_left, exists_eq_left, Nat.reduceSub, Nat.reduceAdd, List.set_cons_zero, List.set_cons_succ])
local macro_rules | `(tactic| walk_at "e") => `(tactic| simp only [tAndV, tOrV, tNotV, tAnd, tOr, tNot, tB, tTest, tIf, tCB, tCons, tNil, tC, tVar, tOp, tUn, tChain, tCall, tM1, tTup, tLst, tSl, tPart, tNoPart, gName, gSub, gCons, gNil, gTup, 
  rI0, rI, rEq, rNe, cxOf, Cx.nox, Cx.wish, L2.start, List.map_cons, List.map_nil, List.length_cons, List.length_nil, List.cons_append, List.nil_append, List.replicate, List.getElem?_cons_zero, List.getElem?_cons_succ, Option.some.injEq, List.cons.injEq, and_true, true_and, V.int.injEq, V.bl.injEq, V.str.injEq, V.ref.injEq,
  exists_eq_left', exists_and_left, exists_eq_left, Nat.reduceSub, Nat.reduceAdd, List.set_cons_zero, List.set_cons_succ])

section
variable {P : Program} {w : World} {K : PySem.W.Frag} {mg : Str → Option Value} {base : Heap}
/-! ### displays of data -/
def EvD (te : TE) (σ : L2.St) (d : PyData) : Prop := ∀ H, ∀ R : VK, (∀ v H', Same H H' → Rp (fun a => H a = none) H' v d → R v H') → te σ H R
def EvDs (ta : TA) (σ : L2.St) (ds : List PyData) : Prop := ∀ H, ∀ R : List V → Hp → Prop, (∀ vs H', Same H H' → RpAll (fun a => H a = none) H' vs ds → R vs H') → ta σ H R
variable {σ : L2.St} {sa ca : Addr} {n : Nat}
theorem evD_c {v : V} {d : PyData} (h : ∀ G H, Rp G H v d) : EvD (tC v) σ d := fun H R k => k v H (L2.Same.refl _) (h _ _)
theorem evD_nil : EvDs tNil σ [] := fun H R k => k [] H (L2.Same.refl _) .nil
theorem evD_cons {te : TE} {ta : TA} {d : PyData} {ds : List PyData} (h : EvD te σ d) (hs : EvDs ta σ ds) : EvDs (tCons te ta) σ (d :: ds) := fun H R k =>
  h H _ fun v H1 s1 r1 => hs H1 _ fun vs H2 s2 r2 => k _ _ (s1.trans s2) (.cons (r1.mono (Kp.of s2)) (r2.wide fun a e => L2.Same.free s1 e))
theorem evD_tup {ta : TA} {ds : List PyData} (h : EvDs ta σ ds) (hl : ds.length ≤ 1000) : EvD (tTup ta) σ (.tuple ds) := fun H R k =>
  h H _ fun vs H1 s1 r1 => ⟨by rw [r1.length]; exact Nat.le_trans hl (by decide), fun p hp => k _ _ (Same.new s1 hp) (.tup (L2.Same.free s1 hp) upd_same (r1.mono (Kp.of (same_new hp))))⟩
theorem evD_lst {ta : TA} {ds : List PyData} (h : EvDs ta σ ds) (hl : ds.length ≤ 1000) : EvD (tLst ta) σ (.list ds) := fun H R k =>
  h H _ fun vs H1 s1 r1 => ⟨by rw [r1.length]; exact Nat.le_trans hl (by decide), fun p hp => k _ _ (Same.new s1 hp) (.lst (L2.Same.free s1 hp) upd_same (r1.mono (Kp.of (same_new hp))))⟩
theorem evD_dic : EvD tDNewK σ (.dict []) := fun H R k => fun p hp => k _ _ (same_new hp) (.dic hp upd_same)
theorem evD_s (x : Str) : EvD (tC (.str x)) σ (.str x) := evD_c fun _ _ => .str x
theorem evD_i (x : Int) : EvD (tC (.int x)) σ (.int x) := evD_c fun _ _ => .int x
theorem evD_b (x : Bool) : EvD (tC (.bl x)) σ (.bool x) := evD_c fun _ _ => .bl x
theorem evD_n : EvD (tC .non) σ .none := evD_c fun _ _ => .non
theorem evD_len {i : Nat} {t : List Nat} (h : At σ i (.str (S t))) (lt : t.length ≤ 1000) : EvD (tCB (rLenK K) (tCons (tVar i) tNil)) σ (.int (t.length : Nat)) := fun H R k =>
  ⟨_, h, lenS lt (k _ _ (L2.Same.refl _) (.int _))⟩
theorem evD_add {te : TE} {x y : Int} (h : EvD te σ (.int x)) : EvD (tOp (rI0 fun i j => V.int (i + j)) te (tC (.int y))) σ (.int (x + y)) := fun H R k =>
  h H _ fun v H1 s1 r => by
    cases r
    exact ⟨x, y, rfl, rfl, k _ _ s1 (.int _)⟩
theorem evD_sub {te : TE} {x y : Int} (h : EvD te σ (.int x)) : EvD (tOp (rI0 fun i j => V.int (i - j)) te (tC (.int y))) σ (.int (x - y)) := fun H R k =>
  h H _ fun v H1 s1 r => by
    cases r
    exact ⟨x, y, rfl, rfl, k _ _ s1 (.int _)⟩
theorem evD_neg {x : Int} : EvD (tUn (rU fun i => V.int (-i)) (tC (.int x))) σ (.int (-x)) := fun H R k => by
  exact ⟨x, rfl, k _ _ (L2.Same.refl _) (.int _)⟩
/-- a list of data, its own object apart -/
theorem ev_list {ta : TA} {ds : List PyData} {H : Hp} (h : EvDs ta σ ds) (hl : ds.length ≤ 1000) :
    EvG (tLst ta) σ H fun v H' => ∃ po vs, v = .ref po ∧ H po = none ∧ H' po = some (.lst vs) ∧ RpAll (fun a => H a = none ∧ a ≠ po) H' vs ds ∧ Same H H' := by
  intro R k
  refine h H _ fun vs H1 s1 r1 => ⟨by rw [r1.length]; exact Nat.le_trans hl (by decide), fun p hp => k _ _ ⟨p, vs, rfl, L2.Same.free s1 hp, upd_same, ?_, Same.new s1 hp⟩⟩
  exact ((standAll r1).wide (G' := fun a => H a = none ∧ a ≠ p) fun a g => ⟨g.1, fun e => g.2 (by rw [e]; exact hp)⟩).mono (Kp.of (same_new hp))
/-! ### the odd things -/
def odds11 (t : List Nat) : List PyData := [.none, .int 5, .str "out", .tuple [.str "out"], .tuple [.str "in", .int 0], .tuple [.str "for", .int 0, .str "ab"], .tuple [.str "in", .int ((t.length : Nat) + 1), .str "a"],
  .tuple [.str "out", .int (t.length : Nat)], .tuple [.str "out", .int (-1)], .tuple [.str "out", .bool true], .tuple [.str "in", .int 0, .str "A"]]
theorem ev_odds {H : Hp} {t : List Nat} (h3 : At σ 3 (.str (S t))) (lt : t.length ≤ 1000) :
    EvG (tLst (tCons (tC V.non) (tCons (tC (V.int 5)) (tCons (tC (V.str (Str.ofString "out"))) (tCons (tTup (tCons (tC (V.str (Str.ofString "out"))) tNil)) (tCons (tTup (tCons (tC (V.str (Str.ofString "in"))) (tCons (tC (V.int 0)) tNil)))
      (tCons (tTup (tCons (tC (V.str (Str.ofString "for"))) (tCons (tC (V.int 0)) (tCons (tC (V.str (Str.ofString "ab"))) tNil))))
      (tCons (tTup (tCons (tC (V.str (Str.ofString "in"))) (tCons (tOp (rI0 fun i j => V.int (i + j)) (tCB (rLenK K) (tCons (tVar 3) tNil)) (tC (V.int 1))) (tCons (tC (V.str (Str.ofString "a"))) tNil))))
      (tCons (tTup (tCons (tC (V.str (Str.ofString "out"))) (tCons (tCB (rLenK K) (tCons (tVar 3) tNil)) tNil)))
      (tCons (tTup (tCons (tC (V.str (Str.ofString "out"))) (tCons (tUn (rU fun i => V.int (-i)) (tC (V.int 1))) tNil)))
      (tCons (tTup (tCons (tC (V.str (Str.ofString "out"))) (tCons (tC (V.bl true)) tNil)))
      (tCons (tTup (tCons (tC (V.str (Str.ofString "in"))) (tCons (tC (V.int 0)) (tCons (tC (V.str (Str.ofString "A"))) tNil)))) tNil)))))))))))) σ H
      fun v H' => ∃ po vs, v = .ref po ∧ H po = none ∧ H' po = some (.lst vs) ∧ RpAll (fun a => H a = none ∧ a ≠ po) H' vs (odds11 t) ∧ Same H H' := by
  refine ev_list ?_ (by simp [odds11])
  refine evD_cons evD_n (evD_cons (evD_i _) (evD_cons (evD_s _) (evD_cons (evD_tup (evD_cons (evD_s _) evD_nil) (by simp)) (evD_cons (evD_tup (evD_cons (evD_s _) (evD_cons (evD_i _) evD_nil)) (by simp)) ?_))))
  refine evD_cons (evD_tup (evD_cons (evD_s _) (evD_cons (evD_i _) (evD_cons (evD_s _) evD_nil))) (by simp)) (evD_cons (evD_tup (evD_cons (evD_s _) (evD_cons (evD_add (evD_len h3 lt)) (evD_cons (evD_s _) evD_nil))) (by simp)) ?_)
  refine evD_cons (evD_tup (evD_cons (evD_s _) (evD_cons (evD_len h3 lt) evD_nil)) (by simp)) (evD_cons (evD_tup (evD_cons (evD_s _) (evD_cons evD_neg evD_nil)) (by simp)) ?_)
  exact evD_cons (evD_tup (evD_cons (evD_s _) (evD_cons (evD_b _) evD_nil)) (by simp)) (evD_cons (evD_tup (evD_cons (evD_s _) (evD_cons (evD_i _) (evD_cons (evD_s _) evD_nil))) (by simp)) evD_nil)
def odds2 : List PyData := [.tuple [.str "in", .int 0, .str ""], .tuple [.str "put", .int 0, .str "a"]]
theorem ev_odds2 {H : Hp} :
    EvG (tLst (tCons (tTup (tCons (tC (V.str (Str.ofString "in"))) (tCons (tC (V.int 0)) (tCons (tC (V.str (Str.ofString ""))) tNil)))) (tCons (tTup (tCons (tC (V.str (Str.ofString "put"))) (tCons (tC (V.int 0)) (tCons (tC (V.str (Str.ofString "a"))) tNil)))) tNil))) σ H
      fun v H' => ∃ po vs, v = .ref po ∧ H po = none ∧ H' po = some (.lst vs) ∧ RpAll (fun a => H a = none ∧ a ≠ po) H' vs odds2 ∧ Same H H' := by
  refine ev_list ?_ (by simp [odds2])
  exact evD_cons (evD_tup (evD_cons (evD_s _) (evD_cons (evD_i _) (evD_cons (evD_s _) evD_nil))) (by simp)) (evD_cons (evD_tup (evD_cons (evD_s _) (evD_cons (evD_i _) (evD_cons (evD_s _) evD_nil))) (by simp)) evD_nil)
end
end K76
set_option Elab.async false
set_option linter.all false
set_option maxRecDepth 100000
set_option maxHeartbeats 4000000
namespace K76
open PySem PySem.Spec PyProof.Rows L2 TbA TbD TbL TbK TL RZ
local macro_rules | `(tactic| walk_at "u") => `(tactic| simp only [tRet, tRetN, tSeq, tNext, tIfS, tAsg, tDrop, tAndV, tOrV, tNotV, tAnd, tOr, tNot, tB, tTest, tIf, tCB, tCons, tNil, tC, tVar, tOp, tUn, tChain, tCall, tM1, tTup, tLst, tSl, tPart, tNoPart, gName, gSub, gCons, gNil, gTup, tBreak, tCont, tNever,
  rI0, rI, rEq, rNe, cxOf, Cx.nox, Cx.wish, L2.start, List.map_cons, List.map_nil, List.length_cons, List.length_nil, List.cons_append, List.nil_append, List.replicate, List.getElem?_cons_zero, List.getElem?_cons_succ, Option.some.injEq, List.cons.injEq, and_true, true_and, V.int.injEq, V.bl.injEq, V.str.injEq, V.ref.injEq,
  exists_eq_left', exists_and_left, exists_eq_left, Nat.reduceSub, Nat.reduceAdd, List.set_cons_zero, List.set_cons_succ])
local macro_rules | `(tactic| walk_at "e") => `(tactic| simp only [tAndV, tOrV, tNotV, tAnd, tOr, tNot, tB, tTest, tIf, tCB, tCons, tNil, tC, tVar, tOp, tUn, tChain, tCall, tM1, tTup, tLst, tSl, tPart, tNoPart, gName, gSub, gCons, gNil, gTup, 
  rI0, rI, rEq, rNe, cxOf, Cx.nox, Cx.wish, L2.start, List.map_cons, List.map_nil, List.length_cons, List.length_nil, List.cons_append, List.nil_append, List.replicate, List.getElem?_cons_zero, List.getElem?_cons_succ, Option.some.injEq, List.cons.injEq, and_true, true_and, V.int.injEq, V.bl.injEq, V.str.injEq, V.ref.injEq,
  exists_eq_left', exists_and_left, exists_eq_left, Nat.reduceSub, Nat.reduceAdd, List.set_cons_zero, List.set_cons_succ])

/-! ### the odd ones, in plain data -/
theorem th_odds11 (t : List Nat) : ∀ d ∈ odds11 t, Th d := by
  intro d hd
  simp only [odds11, List.mem_cons, List.not_mem_nil, or_false] at hd
  rcases hd with rfl | rfl | rfl | rfl | rfl | rfl | rfl | rfl | rfl | rfl | rfl
  · exact .non
  · exact .int _
  · exact .str _
  · exact .t1 _
  · exact .t2i _ _
  · exact .t3 _ _ _ (by decide +kernel)
  · exact .t3 _ _ _ (by decide +kernel)
  · exact .t2i _ _
  · exact .t2i _ _
  · exact .t2b _ _
  · exact .t3 _ _ _ (by decide +kernel)
theorem th_odds2 : ∀ d ∈ odds2, Th d := by
  intro d hd
  simp only [odds2, List.mem_cons, List.not_mem_nil, or_false] at hd
  rcases hd with rfl | rfl
  · exact .t3 _ _ _ (by decide +kernel)
  · exact .t3 _ _ _ (by decide +kernel)
theorem th_ed1 (e : Ed) : Th (edD e) := by
  cases e with
  | out i => exact .t2i _ _
  | ins i c => exact .t3 _ _ _ (show 1 ≤ 1000 by decide)
  | sub i c => exact .t3 _ _ _ (show 1 ≤ 1000 by decide)
/-- texts of few signs, in the things -/
def okW (x : Str) : Prop := ∀ c ∈ tl x, c < 1114112
theorem okW_few : okW "in" ∧ okW "out" ∧ okW "for" ∧ okW "put" ∧ okW "ab" ∧ okW "a" ∧ okW "A" ∧ okW "" := by
  unfold okW
  decide +kernel
theorem okD_w {x : Str} (h : okW x) (hl : x.length ≤ 1000) : okD (.str x) := ⟨Nat.le_trans hl (by decide), h⟩
theorem len_few : (Str.length "in" ≤ 1000 ∧ Str.length "out" ≤ 1000 ∧ Str.length "for" ≤ 1000 ∧ Str.length "put" ≤ 1000) ∧ Str.length "ab" ≤ 1000 ∧ Str.length "a" ≤ 1000 ∧ Str.length "A" ≤ 1000 ∧ Str.length "" ≤ 1000 := by decide +kernel
theorem okTh_row {ds : List PyData} (h : ∀ x ∈ ds, okD x) : okTh (.tuple ds) := fun ds' e x hx => by
  cases Option.some.inj e
  exact h x hx
theorem fa0 : ∀ x ∈ ([] : List PyData), okD x := fun _ h => by cases h
theorem fa1 {d : PyData} {ds : List PyData} (h : okD d) (hs : ∀ x ∈ ds, okD x) : ∀ x ∈ d :: ds, okD x := fun x hx => by
  rcases List.mem_cons.mp hx with rfl | h'
  · exact h
  · exact hs x h'
theorem okTh_leaf {d : PyData} (h : row? d = none) : okTh d := fun ds e => by
  rw [h] at e
  cases e
theorem ok_odds11 (t : List Nat) : ∀ d ∈ odds11 t, okTh d := by
  obtain ⟨w1, w2, w3, w4, w5, w6, w7, w8⟩ := okW_few
  obtain ⟨⟨l1, l2, l3, l4⟩, l5, l6, l7, l8⟩ := len_few
  intro d hd
  simp only [odds11, List.mem_cons, List.not_mem_nil, or_false] at hd
  rcases hd with rfl | rfl | rfl | rfl | rfl | rfl | rfl | rfl | rfl | rfl | rfl
  · exact okTh_leaf rfl
  · exact okTh_leaf rfl
  · exact okTh_leaf rfl
  · exact okTh_row (fa1 (okD_w w2 l2) fa0)
  · exact okTh_row (fa1 (okD_w w1 l1) (fa1 trivial fa0))
  · exact okTh_row (fa1 (okD_w w3 l3) (fa1 trivial (fa1 (okD_w w5 l5) fa0)))
  · exact okTh_row (fa1 (okD_w w1 l1) (fa1 trivial (fa1 (okD_w w6 l6) fa0)))
  · exact okTh_row (fa1 (okD_w w2 l2) (fa1 trivial fa0))
  · exact okTh_row (fa1 (okD_w w2 l2) (fa1 trivial fa0))
  · exact okTh_row (fa1 (okD_w w2 l2) (fa1 trivial fa0))
  · exact okTh_row (fa1 (okD_w w1 l1) (fa1 trivial (fa1 (okD_w w7 l7) fa0)))
theorem ok_odds2 : ∀ d ∈ odds2, okTh d := by
  obtain ⟨w1, w2, w3, w4, w5, w6, w7, w8⟩ := okW_few
  obtain ⟨⟨l1, l2, l3, l4⟩, l5, l6, l7, l8⟩ := len_few
  intro d hd
  simp only [odds2, List.mem_cons, List.not_mem_nil, or_false] at hd
  rcases hd with rfl | rfl
  · exact okTh_row (fa1 (okD_w w1 l1) (fa1 trivial (fa1 (okD_w w8 l8) fa0)))
  · exact okTh_row (fa1 (okD_w w4 l4) (fa1 trivial (fa1 (okD_w w6 l6) fa0)))
/-- a thing that may stand is an edit's own data -/
theorem th_ed {t : List Nat} {d : PyData} {e : Ed} (h : Th d) (he : edIn (S t) d = some e) : d = edD e ∧ okE t e := by
  have lnt : (S t).length = t.length := by rw [← tl_len]
  have sgn : ∀ y : Str, isSign (.str y) = true → ∃ c, y = S [c] ∧ c ∈ tl SG := fun y hy => by
    by_cases c : y.length = 1
    · obtain ⟨c0, rfl⟩ := one_sign c
      rw [sign_one] at hy
      exact ⟨c0, rfl, of_decide_eq_true hy⟩
    · rw [sign_not c] at hy
      cases hy
  cases h with
  | non => cases he
  | int i => cases he
  | str x => cases he
  | t1 x => cases he
  | t2b x b =>
    have b1 : bOut (S t) [.str x, .bool b] = false := by
      show (isW "out" (.str x) && isNum 0 (((S t).length : Int) - 1) (.bool b)) = false
      exact Bool.and_false _
    have he' : edOf (S t) [.str x, .bool b] = some e := he
    unfold edOf at he'
    rw [b1] at he'
    cases he'
  | t2i x i =>
    have he' : edOf (S t) [.str x, .int i] = some e := he
    unfold edOf at he'
    by_cases c1 : bOut (S t) [.str x, .int i] = true
    · rw [if_pos c1] at he'
      cases he'
      have q := Bool.and_eq_true_iff.mp (show (isW "out" (.str x) && isNum 0 (((S t).length : Int) - 1) (.int i)) = true from c1)
      have hx : x = "out" := of_decide_eq_true (show decide (x = "out") = true from q.1)
      obtain ⟨j, hj, h0, h1⟩ := isNum_int q.2
      cases hj
      subst hx
      refine ⟨?_, ?_⟩
      · show PyData.tuple [.str "out", .int i] = .tuple [.str "out", .int ((i.toNat : Nat) : Int)]
        rw [Int.toNat_of_nonneg h0]
      · show i.toNat < t.length
        omega
    · rw [if_neg c1] at he'
      cases he'
  | t3 x i y hy =>
    have he' : edOf (S t) [.str x, .int i, .str y] = some e := he
    have b1 : bOut (S t) [.str x, .int i, .str y] = false := rfl
    unfold edOf at he'
    rw [b1, if_neg (by simp)] at he'
    by_cases c2 : bIns (S t) [.str x, .int i, .str y] = true
    · rw [if_pos c2] at he'
      cases he'
      have q := Bool.and_eq_true_iff.mp (show (isW "in" (.str x) && (isNum 0 ((S t).length : Int) (.int i) && isSign (.str y))) = true from c2)
      have q2 := Bool.and_eq_true_iff.mp q.2
      have hx : x = "in" := of_decide_eq_true (show decide (x = "in") = true from q.1)
      obtain ⟨j, hj, h0, h1⟩ := isNum_int q2.1
      cases hj
      obtain ⟨c, rfl, hc⟩ := sgn y q2.2
      subst hx
      refine ⟨?_, ?_, hc⟩
      · show PyData.tuple [.str "in", .int i, .str (S [c])] = .tuple [.str "in", .int ((i.toNat : Nat) : Int), .str (S [c])]
        rw [Int.toNat_of_nonneg h0]
      · show i.toNat ≤ t.length
        omega
    · rw [if_neg c2] at he'
      by_cases c3 : bSub (S t) [.str x, .int i, .str y] = true
      · rw [if_pos c3] at he'
        have q := Bool.and_eq_true_iff.mp (show (isW "for" (.str x) && (isNum 0 (((S t).length : Int) - 1) (.int i) && isSign (.str y))) = true from c3)
        have q2 := Bool.and_eq_true_iff.mp q.2
        have hx : x = "for" := of_decide_eq_true (show decide (x = "for") = true from q.1)
        obtain ⟨j, hj, h0, h1⟩ := isNum_int q2.1
        cases hj
        obtain ⟨c, rfl, hc⟩ := sgn y q2.2
        subst hx
        have he2 : (if t[i.toNat]? = some c then none else some (Ed.sub i.toNat c)) = some e := he'
        by_cases c4 : t[i.toNat]? = some c
        · rw [if_pos c4] at he2
          cases he2
        · rw [if_neg c4] at he2
          cases he2
          refine ⟨?_, ?_, hc, c4⟩
          · show PyData.tuple [.str "for", .int i, .str (S [c])] = .tuple [.str "for", .int ((i.toNat : Nat) : Int), .str (S [c])]
            rw [Int.toNat_of_nonneg h0]
          · show i.toNat < t.length
            omega
      · rw [if_neg c3] at he'
        cases he'
theorem wr_none {t : List Nat} : ∀ (ds : List PyData) (a k : Nat), (∀ d ∈ ds, Th d) → wrongO a k (ds.map (edIn (S t))) = none → ∃ es : List Ed, ds = es.map edD ∧ Vo t a es
  | [], _, _, _, _ => ⟨[], rfl, trivial⟩
  | d :: ds, a, k, th, h => by
    rw [List.map_cons] at h
    cases q : edIn (S t) d with
    | none =>
      rw [q] at h
      cases h
    | some e =>
      rw [q] at h
      have h' : (if a ≤ e.at then wrongO e.next (k + 1) (ds.map (edIn (S t))) else some k) = none := h
      by_cases c : a ≤ e.at
      · rw [if_pos c] at h'
        obtain ⟨es, e1, e2⟩ := wr_none ds e.next (k + 1) (fun x hx => th x (by simp [hx])) h'
        obtain ⟨q1, q2⟩ := th_ed (th d (by simp)) q
        exact ⟨e :: es, by rw [q1, e1]; rfl, c, q2, e2⟩
      · rw [if_neg c] at h'
        cases h'
end K76
set_option Elab.async false
set_option linter.all false
set_option maxRecDepth 100000
set_option maxHeartbeats 4000000
namespace K76
open PySem PySem.Spec PyProof.Rows L2 TbA TbD TbL TbK TL RZ
local macro_rules | `(tactic| walk_at "u") => `(tactic| simp only [tRet, tRetN, tSeq, tNext, tIfS, tAsg, tDrop, tAndV, tOrV, tNotV, tAnd, tOr, tNot, tB, tTest, tIf, tCB, tCons, tNil, tC, tVar, tOp, tUn, tChain, tCall, tM1, tTup, tLst, tSl, tPart, tNoPart, gName, gSub, gCons, gNil, gTup, tBreak, tCont, tNever,
  rI0, rI, rEq, rNe, cxOf, Cx.nox, Cx.wish, L2.start, List.map_cons, List.map_nil, List.length_cons, List.length_nil, List.cons_append, List.nil_append, List.replicate, List.getElem?_cons_zero, List.getElem?_cons_succ, Option.some.injEq, List.cons.injEq, and_true, true_and, V.int.injEq, V.bl.injEq, V.str.injEq, V.ref.injEq,
  exists_eq_left', exists_and_left, exists_eq_left, Nat.reduceSub, Nat.reduceAdd, List.set_cons_zero, List.set_cons_succ])
local macro_rules | `(tactic| walk_at "e") => `(tactic| simp only [tAndV, tOrV, tNotV, tAnd, tOr, tNot, tB, tTest, tIf, tCB, tCons, tNil, tC, tVar, tOp, tUn, tChain, tCall, tM1, tTup, tLst, tSl, tPart, tNoPart, gName, gSub, gCons, gNil, gTup, 
  rI0, rI, rEq, rNe, cxOf, Cx.nox, Cx.wish, L2.start, List.map_cons, List.map_nil, List.length_cons, List.length_nil, List.cons_append, List.nil_append, List.replicate, List.getElem?_cons_zero, List.getElem?_cons_succ, Option.some.injEq, List.cons.injEq, and_true, true_and, V.int.injEq, V.bl.injEq, V.str.injEq, V.ref.injEq,
  exists_eq_left', exists_and_left, exists_eq_left, Nat.reduceSub, Nat.reduceAdd, List.set_cons_zero, List.set_cons_succ])

section
variable {P : Program} {w : World} {K : PySem.W.Frag} {mg : Str → Option Value} {base : Heap}
variable {σ : L2.St} {sa ca : Addr} {n : Nat}
theorem ev_at {H : Hp} {p : Addr} {es : List Ed} (h1 : At σ 1 (.ref sa)) (h4 : At σ 4 (.ref p)) (rp : Rp (Gs sa ca) H (.ref p) (.list (es.map edD))) (le : es.length ≤ 30) (hs : Strm H sa ca n) (hn : n ≤ 900000000) :
    EvG (tCall sp_below [] E0 (tCons (tVar 1) (tCons (tOp (rI0 fun i j => V.int (i + j)) (tCB (rLenK K) (tCons (tVar 4) tNil)) (tC (V.int 1))) tNil))) σ H
      fun v H' => ∃ j : Nat, v = .int (j : Nat) ∧ j ≤ es.length ∧ Go sa ca (n + 1) H H' := by
  intro R k
  obtain ⟨xs, hp, gp, ra, hlx⟩ := ed_row rp
  walk_at "e"
  refine ⟨_, h1, _, h4, _, xs.length, rfl, .inl ⟨xs, SqL.of hp, rfl⟩, _, rfl, below_ok hs (by omega) (by omega) (by omega) fun H1 r k1 r0 r1 s1 => ?_⟩
  have e : r = ((r.toNat : Nat) : Int) := (Int.toNat_of_nonneg r0).symm
  rw [e]
  exact k _ _ ⟨r.toNat, rfl, by omega, k1, s1⟩
theorem cutS_mem {z : Str} {lo hi : Option Int} : ∀ c ∈ tl (cutS z lo hi), c ∈ tl z := fun c h => by
  unfold cutS at h
  exact List.mem_of_mem_drop (List.mem_of_mem_take h)
theorem cutS_len {z : Str} {lo hi : Option Int} : (cutS z lo hi).length ≤ z.length := by
  rw [← tl_len, ← tl_len]
  unfold cutS
  show ((z.cps.toList.drop _).take _).length ≤ z.cps.toList.length
  rw [List.length_take, List.length_drop]
  omega
def endT (t : List Nat) : PyData := .tuple [.str "for", .int ((t.length : Nat) - 1), .str (cutS (S t) (some (-1)) none)]
theorem lenSS (t : List Nat) : (S t).length = t.length := by rw [← tl_len]
theorem th_end {t : List Nat} (lt : t.length ≤ 1000) : Th (endT t) := .t3 _ _ _ (Nat.le_trans cutS_len (by rw [lenSS]; exact lt))
theorem ok_end {t : List Nat} (lt : t.length ≤ 1000) (hs : ∀ c ∈ t, c ∈ tl SG) : okTh (endT t) := by
  have e : (S t).length = t.length := by rw [← tl_len]
  refine okTh_row (fa1 (okD_w okW_few.2.2.1 len_few.1.2.2.1) (fa1 trivial (fa1 ⟨Nat.le_trans (Nat.le_trans cutS_len (by omega)) (by decide : 1000 ≤ 100000), fun c hc => ?_⟩ fa0)))
  exact sg_ok c (hs c (cutS_mem c hc))
theorem cutV_take {xs : List V} {j : Nat} (h : j ≤ xs.length) : cutV xs none (some (j : Int)) = xs.take j := by
  unfold cutV
  rw [HT.sIx_nat, HT.sIx_none, Nat.min_eq_left h]
  rfl
theorem cutV_drop {xs : List V} {j : Nat} (h : j ≤ xs.length) : cutV xs (some (j : Int)) none = xs.drop j := by
  unfold cutV
  rw [HT.sIx_nat, HT.sIx_none, Nat.min_eq_left h, List.take_of_length_le (by rw [List.length_drop]; exact Nat.le_refl _)]
theorem cutV_one (xs : List V) : cutV xs none (some 1) = xs.take 1 := by
  unfold cutV
  have e1 : HT.sIx xs.length xs.length (some 1) = min 1 xs.length := HT.sIx_nat xs.length xs.length 1
  rw [e1, HT.sIx_none]
  show (xs.drop 0).take (min 1 xs.length - 0) = _
  rw [List.drop_zero, Nat.sub_zero]
  cases xs with
  | nil => rfl
  | cons x xs =>
    rw [Nat.min_eq_left (by simp)]
theorem RpAll.take' {G : Addr → Prop} {H : Hp} : ∀ {xs : List V} {ds : List PyData} (j : Nat), RpAll G H xs ds → RpAll G H (xs.take j) (ds.take j)
  | _, _, 0, _ => by simpa using RpAll.nil
  | _, _, _ + 1, .nil => .nil
  | _, _, j + 1, .cons r a => .cons r (RpAll.take' j a)
theorem RpAll.drop' {G : Addr → Prop} {H : Hp} : ∀ {xs : List V} {ds : List PyData} (j : Nat), RpAll G H xs ds → RpAll G H (xs.drop j) (ds.drop j)
  | _, _, 0, h => h
  | _, _, _ + 1, .nil => .nil
  | _, _, j + 1, .cons _ a => RpAll.drop' j a
theorem evD_end {t : List Nat} (h3 : At σ 3 (.str (S t))) (lt : t.length ≤ 1000) :
    EvD (tTup (tCons (tC (V.str (Str.ofString "for"))) (tCons (tOp (rI0 fun i j => V.int (i - j)) (tCB (rLenK K) (tCons (tVar 3) tNil)) (tC (V.int 1))) (tCons (tSl rSlS (tVar 3) (tPart (tUn (rU fun i => V.int (-i)) (tC (V.int 1)))) tNoPart) tNil)))) σ (endT t) := by
  have e : (S t).length = t.length := by rw [← tl_len]
  refine evD_tup (evD_cons (evD_s _) (evD_cons (evD_sub (evD_len h3 lt)) (evD_cons (fun H R k => ?_) evD_nil))) (by simp)
  exact ⟨_, h3, 1, rfl, -1, rfl, S t, rfl, Nat.le_trans (by omega : (S t).length ≤ 1000) (by decide), k _ _ (L2.Same.refl _) (.str _)⟩
theorem ev_odd {H : Hp} {t : List Nat} {po p : Addr} {es : List Ed} {vs : List V} {ds : List PyData} (h1 : At σ 1 (.ref sa)) (h3 : At σ 3 (.str (S t))) (h4 : At σ 4 (.ref p)) (h15 : At σ 15 (.ref po)) (lt : t.length ≤ 1000) (ht : ∀ c ∈ t, c ∈ tl SG)
    (hv : H po = some (.lst vs)) (rv : RpAll (Gs sa ca) H vs ds) (th : ∀ d ∈ ds, Th d ∧ okTh d) (ld : ds.length ≤ 20) (vo : Vo t 0 es) (rp : Rp (Gs sa ca) H (.ref p) (.list (es.map edD))) (le : es.length ≤ 30) (hs : Strm H sa ca n) (hn : n ≤ 900000000) :
    EvG (tCall sp_pick [] E0 (tCons (tVar 1) (tCons (tOp rCat (tOp rCat (tVar 15) (tLst (tCons (tTup (tCons (tC (V.str (Str.ofString "for"))) (tCons (tOp (rI0 fun i j => V.int (i - j)) (tCB (rLenK K) (tCons (tVar 3) tNil)) (tC (V.int 1)))
      (tCons (tSl rSlS (tVar 3) (tPart (tUn (rU fun i => V.int (-i)) (tC (V.int 1)))) tNoPart) tNil)))) tNil))) (tSl (rSlL K) (tVar 4) tNoPart (tPart (tC (V.int 1))))) tNil))) σ H
      fun v H' => ∃ d, Rp (Gs sa ca) H' v d ∧ Th d ∧ okTh d ∧ Go sa ca (n + 1) H H' := by
  intro R k
  obtain ⟨xs, hp, gp, ra, hlx⟩ := ed_row rp
  have lvs := rv.length
  refine ⟨_, h1, _, h15, evD_lst (evD_cons (evD_end h3 lt) evD_nil) (by simp) H _ fun v1 H1 s1 r0 => ?_⟩
  have r1 := r0.wide (G' := Gs sa ca) fun a e => hs.at_none e
  obtain ⟨p1, ws, rfl, hw, rw_⟩ : ∃ p1 ws, v1 = .ref p1 ∧ H1 p1 = some (.lst ws) ∧ RpAll (Gs sa ca) H1 ws [endT t] := by
    cases r1 with
    | lst g h r => exact ⟨_, _, rfl, h, r⟩
  have lws := rw_.length
  simp only [List.length_cons, List.length_nil] at lws
  refine cat_ok (s1 _ _ hv) hw (by omega) fun D1 hD1 => ?_
  have s2 : Same H1 (upd H1 D1 (.lst (vs ++ ws))) := same_new hD1
  have q2 : upd H1 D1 (.lst (vs ++ ws)) D1 = some (.lst (vs ++ ws)) := upd_same
  generalize upd H1 D1 (.lst (vs ++ ws)) = H2 at s2 q2 ⊢
  have s02 := s1.trans s2
  refine ⟨_, h4, 1, rfl, p, xs, rfl, SqL.of (s02 _ _ hp), fun D2 hD2 => ?_⟩
  rw [cutV_one]
  have s3 : Same H2 (upd H2 D2 (.lst (xs.take 1))) := same_new hD2
  have q3 : upd H2 D2 (.lst (xs.take 1)) D2 = some (.lst (xs.take 1)) := upd_same
  generalize upd H2 D2 (.lst (xs.take 1)) = H3 at s3 q3 ⊢
  have s03 := s02.trans s3
  have lt1 : (xs.take 1).length ≤ 1 := by rw [List.length_take]; omega
  refine cat_ok (s3 _ _ q2) q3 (by rw [List.length_append]; omega) fun D3 hD3 => ?_
  have s4 : Same H3 (upd H3 D3 (.lst (vs ++ ws ++ xs.take 1))) := same_new hD3
  have s04 := s03.trans s4
  have all : RpAll (Gs sa ca) (upd H3 D3 (.lst (vs ++ ws ++ xs.take 1))) (vs ++ ws ++ xs.take 1) (ds ++ [endT t] ++ (es.map edD).take 1) :=
    RpAll.append (RpAll.append (rv.mono (Kp.of s04)) (rw_.mono (Kp.of ((s2.trans s3).trans s4)))) ((RpAll.take' 1 ra).mono (Kp.of s04))
  refine pick_ok (E := E0) (hs.keep s04) upd_same ((hs.keep s03).at_none hD3) ?_ ?_ (by omega) fun H5 i v k5 hv5 s5 => ?_
  · intro e
    have l := congrArg List.length e
    simp only [List.length_append, List.length_nil] at l
    omega
  · simp only [List.length_append]
    omega
  · obtain ⟨d, hd, rd⟩ := all.get hv5
    have md := List.mem_of_getElem? hd
    have ok : Th d ∧ okTh d := by
      rcases List.mem_append.mp md with h | h
      · rcases List.mem_append.mp h with h | h
        · exact th d h
        · cases List.mem_singleton.mp h
          exact ⟨th_end lt, ok_end lt ht⟩
      · obtain ⟨e, he, rfl⟩ := List.mem_map.mp (List.mem_of_mem_take h)
        obtain ⟨i, hi⟩ := List.getElem?_of_mem he
        exact ⟨th_ed1 e, okTh_ed (Vo_at vo hi) rfl⟩
    exact k _ _ ⟨d, rd.mono k5, ok.1, ok.2, Kp.trans (Kp.of s04) k5, s5⟩
/-- what the bent script holds -/
def bentD (es : List Ed) (j : Nat) (d : PyData) : List PyData := (es.map edD).take j ++ [d] ++ (es.map edD).drop j
theorem ev_bent {H : Hp} {p : Addr} {es : List Ed} {j : Nat} {v14 : V} {d : PyData} (h4 : At σ 4 (.ref p)) (h14 : At σ 14 v14) (h16 : At σ 16 (.int (j : Nat))) (hj : j ≤ es.length) (rd : Rp (Gs sa ca) H v14 d)
    (rp : Rp (Gs sa ca) H (.ref p) (.list (es.map edD))) (le : es.length ≤ 30) (hs : Strm H sa ca n) :
    EvG (tOp rCat (tOp rCat (tSl (rSlL K) (tVar 4) tNoPart (tPart (tVar 16))) (tLst (tCons (tVar 14) tNil))) (tSl (rSlL K) (tVar 4) (tPart (tVar 16)) tNoPart)) σ H
      fun v H' => ∃ pb, v = .ref pb ∧ Rp (Gs sa ca) H' (.ref pb) (.list (bentD es j d)) ∧ Go sa ca n H H' := by
  intro R k
  obtain ⟨xs, hp, gp, ra, hlx⟩ := ed_row rp
  refine ⟨_, h4, _, h16, _, rfl, p, xs, rfl, SqL.of hp, fun D1 hD1 => ?_⟩
  rw [cutV_take (by omega)]
  have s1 : Same H (upd H D1 (.lst (xs.take j))) := same_new hD1
  have q1 : upd H D1 (.lst (xs.take j)) D1 = some (.lst (xs.take j)) := upd_same
  generalize upd H D1 (.lst (xs.take j)) = H1 at s1 q1 ⊢
  refine ⟨_, h14, (by decide : 1 ≤ sizeLine), fun D2 hD2 => ?_⟩
  have s2 : Same H1 (upd H1 D2 (.lst [v14])) := same_new hD2
  have q2 : upd H1 D2 (.lst [v14]) D2 = some (.lst [v14]) := upd_same
  generalize upd H1 D2 (.lst [v14]) = H2 at s2 q2 ⊢
  have lt1 : (xs.take j).length ≤ 30 := by rw [List.length_take]; omega
  refine cat_ok (s2 _ _ q1) q2 (by simp only [List.length_cons, List.length_nil]; omega) fun D3 hD3 => ?_
  have s3 : Same H2 (upd H2 D3 (.lst (xs.take j ++ [v14]))) := same_new hD3
  have q3 : upd H2 D3 (.lst (xs.take j ++ [v14])) D3 = some (.lst (xs.take j ++ [v14])) := upd_same
  generalize upd H2 D3 (.lst (xs.take j ++ [v14])) = H3 at s3 q3 ⊢
  have s03 := (s1.trans s2).trans s3
  refine ⟨_, h4, _, h16, _, rfl, p, xs, rfl, SqL.of (s03 _ _ hp), fun D4 hD4 => ?_⟩
  rw [cutV_drop (by omega)]
  have s4 : Same H3 (upd H3 D4 (.lst (xs.drop j))) := same_new hD4
  have q4 : upd H3 D4 (.lst (xs.drop j)) D4 = some (.lst (xs.drop j)) := upd_same
  generalize upd H3 D4 (.lst (xs.drop j)) = H4 at s4 q4 ⊢
  have s04 := s03.trans s4
  refine cat_ok (s4 _ _ q3) q4 (by simp only [List.length_append, List.length_take, List.length_drop, List.length_cons, List.length_nil]; omega) fun D5 hD5 => ?_
  have s5 : Same H4 (upd H4 D5 (.lst (xs.take j ++ [v14] ++ xs.drop j))) := same_new hD5
  have s05 := s04.trans s5
  refine k _ _ ⟨D5, rfl, .lst ((hs.keep s04).at_none hD5) upd_same ?_, Go.same hs s05⟩
  exact RpAll.append (RpAll.append ((RpAll.take' j ra).mono (Kp.of s05)) (.cons (rd.mono (Kp.of s05)) .nil)) ((RpAll.drop' j ra).mono (Kp.of s05))
theorem ev_wrong {H : Hp} {t : List Nat} {pb : Addr} {ds : List PyData} (h3 : At σ 3 (.str (S t))) (h17 : At σ 17 (.ref pb)) (rb : Rp (Gs sa ca) H (.ref pb) (.list ds)) (lt : t.length ≤ 100) (ld : ds.length ≤ 100) (th : ∀ d ∈ ds, Th d) (hs : Strm H sa ca n) :
    EvG (tCall sp_wrong [] E0 (tCons (tVar 3) (tCons (tVar 17) tNil))) σ H fun v H' => v = optV (wrongO 0 0 (ds.map (edIn (S t)))) ∧ Go sa ca n H H' := by
  intro R k
  exact ⟨_, h3, _, h17, Gs sa ca, t, ds, pb, rfl, rb, lt, ld, th, fun H' s => k _ _ ⟨rfl, Go.same hs s⟩⟩
def rLst (K : PySem.W.Frag) : List V → Hp → VK → Prop := fun xs H Q => ∃ p ys, xs = [.ref p] ∧ (SqL K H p ys ∨ SqT K H p ys) ∧ ∀ l, H l = none → Q (.ref l) (upd H l (.lst ys))
theorem tst_bent {H : Hp} {t : List Nat} {pb : Addr} {ds : List PyData} (h3 : At σ 3 (.str (S t))) (h17 : At σ 17 (.ref pb)) (h18 : At σ 18 (optV (wrongO 0 0 (ds.map (edIn (S t)))))) (rb : Rp (Gs sa ca) H (.ref pb) (.list ds)) (lt : t.length ≤ 100) (ht : ∀ c ∈ t, c ∈ tl SG)
    (ld : ds.length ≤ 100) (th : ∀ d ∈ ds, Th d) (ok : ∀ d ∈ ds, okTh d) (hs : Strm H sa ca n) :
    TstG (tNot (tB (tCall (sp_same 3) [] E0 (tCons (tCall sp_told [] E0 (tCons (tVar 3) (tCons (tCB (rLst K) (tCons (tVar 17) tNil)) tNil)))
      (tCons (tIf (tTest (tOp (fun x y H Q => y = V.non ∧ Q (V.bl (decide (x = V.non))) H) (tVar 18) (tC V.non))) (tTup (tCons (tC (V.str (Str.ofString "told"))) (tCons (tCall sp_done [] E0 (tCons (tVar 3) (tCons (tVar 17) tNil))) tNil)))
        (tTup (tCons (tC (V.str (Str.ofString "script"))) (tCons (tVar 18) tNil)))) tNil))))) σ H false (fun H' => Go sa ca n H H') := by
  intro R k
  obtain ⟨ys, hp, gp, ra⟩ : ∃ ys, H pb = some (.lst ys) ∧ Gs sa ca pb ∧ RpAll (Gs sa ca) H ys ds := by
    cases rb with
    | lst g h r => exact ⟨_, h, g, r⟩
  walk_at "e"
  refine ⟨_, h3, _, h17, pb, ys, rfl, .inl (SqL.of hp), fun l hl => ?_⟩
  have s1 : Same H (upd H l (.lst ys)) := same_new hl
  have rl : Rp (Gs sa ca) (upd H l (.lst ys)) (.ref l) (.list ds) := .lst (hs.at_none hl) upd_same (ra.mono (Kp.of s1))
  have hs1 := hs.keep s1
  generalize upd H l (.lst ys) = H1 at s1 rl hs1 ⊢
  have q := run_of (S t) ds none [] 0
  cases c : wrongO 0 0 (ds.map (edIn (S t))) with
  | none =>
    obtain ⟨es, rfl, vo⟩ := wr_none ds 0 0 th c
    rw [List.length_map] at ld
    refine told_ok (l := es.map edD) (by omega) ht rl (fun a e => hs1.at_none e) rfl (by rw [List.length_map]; omega) ok (run_ok (edIn_all es 0 vo) vo) fun H2 a s2 fa ha => ?_
    rw [c] at h18
    refine ⟨_, h18, iteB (b := true) (by simp [optV]) (iteT ⟨_, h3, _, h17, Gs sa ca, t, es, pb, rfl, rb.mono (Kp.of (s1.trans s2)), lt, ld, vo, fun H3 s3 => ⟨by decide, fun b hb => ?_⟩⟩)⟩
    exact same_ok (two_rp trivial (same_new hb _ _ (s3 _ _ ha)) (.str _)) (two_rp trivial upd_same (.str _)) (sm_two (sm_str _)) fun H4 s4 => k _ (Go.same hs ((((s1.trans s2).trans s3).trans (same_new hb)).trans s4))
  | some j =>
    have c' : wrongO (lastAt none) 0 (ds.map (edIn (S t))) = some j := c
    rw [c'] at q
    refine told_no (by omega) ht rl (fun a e => hs1.at_none e) rfl (by omega) ok q fun H2 a s2 fa ha => ?_
    rw [c] at h18
    refine ⟨_, h18, iteB (b := false) (by simp [optV]) (iteF ⟨_, h18, by decide, fun b hb => ?_⟩)⟩
    exact same_ok (two_rp trivial (same_new hb _ _ ha) (.int _)) (two_rp trivial upd_same (.int _)) (sm_two (sm_int _)) fun H4 s4 => k _ (Go.same hs (((s1.trans s2).trans (same_new hb)).trans s4))
end
end K76
set_option Elab.async false
set_option linter.all false
set_option maxRecDepth 100000
set_option maxHeartbeats 4000000
namespace K76
open PySem PySem.Spec PyProof.Rows L2 TbA TbD TbL TbK TL RZ
local macro_rules | `(tactic| walk_at "u") => `(tactic| simp only [tRet, tRetN, tSeq, tNext, tIfS, tAsg, tDrop, tAndV, tOrV, tNotV, tAnd, tOr, tNot, tB, tTest, tIf, tCB, tCons, tNil, tC, tVar, tOp, tUn, tChain, tCall, tM1, tTup, tLst, tSl, tPart, tNoPart, gName, gSub, gCons, gNil, gTup, tBreak, tCont, tNever,
  rI0, rI, rEq, rNe, cxOf, Cx.nox, Cx.wish, L2.start, List.map_cons, List.map_nil, List.length_cons, List.length_nil, List.cons_append, List.nil_append, List.replicate, List.getElem?_cons_zero, List.getElem?_cons_succ, Option.some.injEq, List.cons.injEq, and_true, true_and, V.int.injEq, V.bl.injEq, V.str.injEq, V.ref.injEq,
  exists_eq_left', exists_and_left, exists_eq_left, Nat.reduceSub, Nat.reduceAdd, List.set_cons_zero, List.set_cons_succ])
local macro_rules | `(tactic| walk_at "e") => `(tactic| simp only [tAndV, tOrV, tNotV, tAnd, tOr, tNot, tB, tTest, tIf, tCB, tCons, tNil, tC, tVar, tOp, tUn, tChain, tCall, tM1, tTup, tLst, tSl, tPart, tNoPart, gName, gSub, gCons, gNil, gTup, 
  rI0, rI, rEq, rNe, cxOf, Cx.nox, Cx.wish, L2.start, List.map_cons, List.map_nil, List.length_cons, List.length_nil, List.cons_append, List.nil_append, List.replicate, List.getElem?_cons_zero, List.getElem?_cons_succ, Option.some.injEq, List.cons.injEq, and_true, true_and, V.int.injEq, V.bl.injEq, V.str.injEq, V.ref.injEq,
  exists_eq_left', exists_and_left, exists_eq_left, Nat.reduceSub, Nat.reduceAdd, List.set_cons_zero, List.set_cons_succ])

section
variable {P : Program} {w : World} {K : PySem.W.Frag} {mg : Str → Option Value} {base : Heap}
structure Fr (σ : L2.St) (sa : Addr) (t : List Nat) : Prop where
  len : σ.length = 21
  s1 : At σ 1 (.ref sa)
  s3 : At σ 3 (.str (S t))
theorem Fr.set {σ : L2.St} {sa : Addr} {t : List Nat} (f : Fr σ sa t) {i : Nat} {v : Option V} (h1 : i ≠ 1) (h3 : i ≠ 3) : Fr (σ.set i v) sa t :=
  ⟨by rw [List.length_set]; exact f.len, f.s1.old h1, f.s3.old h3⟩
def LpI (sa ca : Addr) (n : Nat) (t : List Nat) (H0 : Hp) (k : Nat) (σ : L2.St) (H' : Hp) : Prop := Fr σ sa t ∧ Go sa ca n H0 H'
theorem loop2 {σ : L2.St} {H : Hp} {sa ca : Addr} {n : Nat} {t : List Nat} {D : Ends} {r : TS} (f : Fr σ sa t) (lt : t.length ≤ 100) (ht : ∀ c ∈ t, c ∈ tl SG) (hs : Strm H sa ca n)
    (k : ∀ σ' H', Fr σ' sa t → Go sa ca n H H' → r D σ' H') :
    tSeq (tFor (iTup K (tTup (tCons (tC V.non) (tCons (tC (V.int 5)) (tCons (tC (V.str (Str.ofString "in"))) (tCons tDNewK (tCons (tC (V.bl true)) tNil))))))) (gName 14)
      (tIfS (tNot (tB (tCall (sp_same 3) [] E0 (tCons (tCall sp_told [] E0 (tCons (tVar 3) (tCons (tVar 14) tNil))) (tCons (tTup (tCons (tC (V.str (Str.ofString "script"))) (tCons (tC (V.int 0)) tNil))) tNil))))) (tRet (tC (V.bl false))) tNext)) r D σ H := by
  refine seqFor (for_tup ?_)
  have ev : EvDs (tCons (tC V.non) (tCons (tC (V.int 5)) (tCons (tC (V.str (Str.ofString "in"))) (tCons tDNewK (tCons (tC (V.bl true)) tNil))))) σ [.none, .int 5, .str "in", .dict [], .bool true] :=
    evD_cons evD_n (evD_cons (evD_i _) (evD_cons (evD_s _) (evD_cons evD_dic (evD_cons (evD_b _) evD_nil))))
  refine ev H _ fun vs H1 s1 r0 => ⟨by rw [r0.length]; decide, fun p hp => ⟨p, rfl, ⟨vs, SqT.of upd_same⟩, ?_⟩⟩
  have r1 := r0.wide (G' := Gs sa ca) fun a e => hs.at_none e
  have s2 : Same H (upd H1 p (.tup vs)) := Same.new s1 hp
  have q2 : upd H1 p (.tup vs) p = some (.tup vs) := upd_same
  have g2_ : Gs sa ca p := (hs.keep s1).at_none hp
  have r2 : RpAll (Gs sa ca) (upd H1 p (.tup vs)) vs [.none, .int 5, .str "in", .dict [], .bool true] := r1.mono (Kp.of (same_new hp))
  generalize upd H1 p (.tup vs) = H2 at s2 q2 r2 ⊢
  refine forN (walk_tup (K := K) (a := p) (xs := vs)) (LpI sa ca n t H2) ⟨f, L2.Same.refl _ |> Kp.of, hs.keep s2⟩ (fun k σ' H' h => SqT.of (h.2.kp _ _ g2_ q2)) ?_ ?_
  · rintro j x σ' H3 H4 hj ⟨f', go⟩ ⟨rfl, hx⟩
    obtain ⟨d, hd, rd⟩ := r2.get hx
    have nr : row? d = none := by
      have := List.mem_of_getElem? hd
      simp only [List.mem_cons, List.not_mem_nil, or_false] at this
      rcases this with rfl | rfl | rfl | rfl | rfl <;> rfl
    have f2 : Fr (σ'.set 14 (some x)) sa t := f'.set (by decide) (by decide)
    have h14 : At (σ'.set 14 (some x)) 14 x := At.new (by rw [f'.len]; decide)
    generalize σ'.set 14 (some x) = σ2 at f2 h14 ⊢
    refine oneIfF (Pp := fun H' => Go sa ca n H4 H') (fun R kk => ?_) fun H5 g5 => ⟨f2, go.trans g5⟩
    walk_at "e"
    refine ⟨_, f2.s3, _, h14, told_row (by omega) ht (rd.mono go.kp) (fun a e => go.st.at_none e) nr fun H5 a s5 fa ha => ⟨by decide, fun b hb => ?_⟩⟩
    exact same_ok (two_rp trivial (same_new hb _ _ ha) (.int _)) (two_rp trivial upd_same (.int _)) (sm_two (sm_int _)) fun H6 s6 => kk _ (Go.same go.st ((Same.new s5 hb).trans s6))
  · rintro σ' H3 ⟨f', go⟩
    exact k σ' H3 f' ((Go.same hs s2).trans go)
/-! the texts that are none -/
def Bad (d : PyData) : Prop := isText SG 200 d = false ∧ okD d ∧ sm 2 d
theorem bad_q {t : List Nat} (lt : t.length ≤ 100) (ht : ∀ c ∈ t, c ∈ tl SG) : Bad (.str (S (t ++ [63]))) := by
  refine ⟨?_, ⟨?_, fun c hc => ?_⟩, sm_str _⟩
  · show (decide (((S (t ++ [63])).length : Int) ≤ 200) && ((t ++ [63]).filter fun c => !decide (c ∈ SG.cps.toList)).isEmpty) = false
    have e : ((t ++ [63]).filter fun c => !decide (c ∈ SG.cps.toList)).isEmpty = false := by
      rw [List.filter_append]
      have e2 : ([63].filter fun c => !decide (c ∈ SG.cps.toList)) = [63] := by decide +kernel
      rw [e2]
      simp
    rw [e, Bool.and_false]
  · rw [lenSS, List.length_append]
    simp only [List.length_cons, List.length_nil]
    omega
  · rcases List.mem_append.mp (show c ∈ t ++ [63] from hc) with h | h
    · exact sg_ok c (ht c h)
    · cases List.mem_singleton.mp h
      exact (by decide : 63 < 1114112)
theorem bad_A : Bad (.str "A") := ⟨by decide +kernel, ⟨by decide +kernel, by show ∀ c ∈ _, c < 1114112; decide +kernel⟩, sm_str _⟩
theorem bad_a : Bad (.str (Txt.mul "a" 201)) := ⟨by decide +kernel, ⟨by decide +kernel, by show ∀ c ∈ _, c < 1114112; decide +kernel⟩, sm_str _⟩
theorem bad_n : Bad .none := ⟨rfl, trivial, by show sm (1 + 1) _; unfold sm; trivial⟩
theorem bad_5 : Bad (.int 5) := ⟨rfl, trivial, sm_int _⟩
theorem bad_l (t : List Nat) : Bad (.list [.str (S t)]) := ⟨rfl, trivial, by
  show sm (1 + 1) _
  unfold sm
  refine ⟨by simp, fun x hx => ?_⟩
  cases List.mem_singleton.mp hx
  show sm (0 + 1) _
  unfold sm
  trivial⟩
theorem loop3 {σ : L2.St} {H : Hp} {sa ca : Addr} {n : Nat} {t : List Nat} {D : Ends} (f : Fr σ sa t) (lt : t.length ≤ 100) (ht : ∀ c ∈ t, c ∈ tl SG) (hs : Strm H sa ca n)
    (k : ∀ σ' H', Fr σ' sa t → Go sa ca n H H' → D.nx σ' H') :
    tFor (iTup K (tTup (tCons (tC V.non) (tCons (tC (V.int 5)) (tCons (tC (V.str (Str.ofString "A"))) (tCons (tOp catR (tVar 3) (tC (V.str (Str.ofString "?")))) (tCons (tOp rMulS (tC (V.str (Str.ofString "a"))) (tC (V.int 201))) (tCons (tLst (tCons (tVar 3) tNil)) tNil)))))))) (gName 14)
      (tIfS (tNot (tB (tCall (sp_same 3) [] E0 (tCons (tCall sp_told [] E0 (tCons (tVar 14) (tCons (tC V.non) tNil))) (tCons (tTup (tCons (tC (V.str (Str.ofString "input"))) (tCons (tVar 14) tNil))) tNil))))) (tRet (tC (V.bl false))) tNext) D σ H := by
  refine for_tup ?_
  have e1 : EvD (tOp catR (tVar 3) (tC (V.str (Str.ofString "?")))) σ (.str (S (t ++ [63]))) := fun H R k => by
    have q : (Str.ofString "?") = S [63] := tl_inj (by decide +kernel)
    refine ⟨_, f.s3, ?_⟩
    rw [q]
    exact catS_ok (by simp only [List.length_cons, List.length_nil]; omega) (k _ _ (L2.Same.refl _) (.str _))
  have e2 : EvD (tOp rMulS (tC (V.str (Str.ofString "a"))) (tC (V.int 201))) σ (.str (Txt.mul "a" 201)) := fun H R k =>
    ⟨_, 201, rfl, rfl, by unfold MulOk; decide +kernel, k _ _ (L2.Same.refl _) (.str _)⟩
  have e3 : EvD (tLst (tCons (tVar 3) tNil)) σ (.list [.str (S t)]) := evD_lst (evD_cons (fun H R k => ⟨_, f.s3, k _ _ (L2.Same.refl _) (.str _)⟩) evD_nil) (by simp)
  have ev : EvDs (tCons (tC V.non) (tCons (tC (V.int 5)) (tCons (tC (V.str (Str.ofString "A"))) (tCons (tOp catR (tVar 3) (tC (V.str (Str.ofString "?")))) (tCons (tOp rMulS (tC (V.str (Str.ofString "a"))) (tC (V.int 201))) (tCons (tLst (tCons (tVar 3) tNil)) tNil)))))) σ
      [.none, .int 5, .str "A", .str (S (t ++ [63])), .str (Txt.mul "a" 201), .list [.str (S t)]] :=
    evD_cons evD_n (evD_cons (evD_i _) (evD_cons (evD_s _) (evD_cons e1 (evD_cons e2 (evD_cons e3 evD_nil)))))
  refine ev H _ fun vs H1 s1 r0 => ⟨by rw [r0.length]; exact (by decide : 6 ≤ sizeLine), fun p hp => ⟨p, rfl, ⟨vs, SqT.of upd_same⟩, ?_⟩⟩
  have r1 := r0.wide (G' := Gs sa ca) fun a e => hs.at_none e
  have s2 : Same H (upd H1 p (.tup vs)) := Same.new s1 hp
  have q2 : upd H1 p (.tup vs) p = some (.tup vs) := upd_same
  have g2_ : Gs sa ca p := (hs.keep s1).at_none hp
  have r2 : RpAll (Gs sa ca) (upd H1 p (.tup vs)) vs [.none, .int 5, .str "A", .str (S (t ++ [63])), .str (Txt.mul "a" 201), .list [.str (S t)]] := r1.mono (Kp.of (same_new hp))
  generalize upd H1 p (.tup vs) = H2 at s2 q2 r2 ⊢
  refine forN (walk_tup (K := K) (a := p) (xs := vs)) (LpI sa ca n t H2) ⟨f, L2.Same.refl _ |> Kp.of, hs.keep s2⟩ (fun k σ' H' h => SqT.of (h.2.kp _ _ g2_ q2)) ?_ ?_
  · rintro j x σ' H3 H4 hj ⟨f', go⟩ ⟨rfl, hx⟩
    obtain ⟨d, hd, rd⟩ := r2.get hx
    have bd : Bad d := by
      have := List.mem_of_getElem? hd
      simp only [List.mem_cons, List.not_mem_nil, or_false] at this
      rcases this with rfl | rfl | rfl | rfl | rfl | rfl
      · exact bad_n
      · exact bad_5
      · exact bad_A
      · exact bad_q lt ht
      · exact bad_a
      · exact bad_l t
    have f2 : Fr (σ'.set 14 (some x)) sa t := f'.set (by decide) (by decide)
    have h14 : At (σ'.set 14 (some x)) 14 x := At.new (by rw [f'.len]; decide)
    generalize σ'.set 14 (some x) = σ2 at f2 h14 ⊢
    refine oneIfF (Pp := fun H' => Go sa ca n H4 H') (fun R kk => ?_) fun H5 g5 => ⟨f2, go.trans g5⟩
    walk_at "e"
    refine ⟨_, h14, told_text (rd.mono go.kp) bd.2.1 .non (fun a e => go.st.at_none e) bd.1 fun H5 a s5 fa ha => ⟨_, h14, by decide, fun b hb => ?_⟩⟩
    have rd5 : Rp All (upd H5 b (.tup [V.str (Str.ofString "input"), x])) x d := K76.Rp.all ((rd.mono go.kp).mono (Kp.of (Same.new s5 hb)))
    exact same_ok (two_rp trivial (same_new hb _ _ ha) rd5) (two_rp trivial upd_same rd5) (sm_two bd.2.2) fun H6 s6 => kk _ (Go.same go.st ((Same.new s5 hb).trans s6))
  · rintro σ' H3 ⟨f', go⟩
    exact k σ' H3 f' ((Go.same hs s2).trans go)
/-! ### the bent scripts, six times -/
structure Fr4 (σ : L2.St) (sa : Addr) (t : List Nat) (p : Addr) : Prop where
  f : Fr σ sa t
  s4 : At σ 4 (.ref p)
theorem Fr4.set {σ : L2.St} {sa p : Addr} {t : List Nat} (f : Fr4 σ sa t p) {i : Nat} {v : Option V} (h1 : i ≠ 1) (h3 : i ≠ 3) (h4 : i ≠ 4) : Fr4 (σ.set i v) sa t p := ⟨f.f.set h1 h3, f.s4.old h4⟩
def LqI (sa ca : Addr) (n : Nat) (t : List Nat) (p : Addr) (H0 : Hp) (k : Nat) (σ : L2.St) (H' : Hp) : Prop := Fr4 σ sa t p ∧ Go sa ca (n + 2 * k) H0 H'
theorem seq_odds {σ : L2.St} {sa ca : Addr} {n : Nat} {t : List Nat} {p : Addr} {H : Hp} {r : TS} {D : Ends} (f : Fr4 σ sa t p) (lt : t.length ≤ 1000) (hs : Strm H sa ca n)
    (k : ∀ σ' H' po ws, Fr4 σ' sa t p → At σ' 15 (.ref po) → Gs sa ca po → Go sa ca n H H' → H' po = some (.lst ws) → RpAll (Gs sa ca) H' ws (odds11 t ++ odds2) → r D σ' H') :
    tSeq (tAsg (tLst (tCons (tC V.non) (tCons (tC (V.int 5)) (tCons (tC (V.str (Str.ofString "out"))) (tCons (tTup (tCons (tC (V.str (Str.ofString "out"))) tNil)) (tCons (tTup (tCons (tC (V.str (Str.ofString "in"))) (tCons (tC (V.int 0)) tNil)))
      (tCons (tTup (tCons (tC (V.str (Str.ofString "for"))) (tCons (tC (V.int 0)) (tCons (tC (V.str (Str.ofString "ab"))) tNil))))
      (tCons (tTup (tCons (tC (V.str (Str.ofString "in"))) (tCons (tOp (rI0 fun i j => V.int (i + j)) (tCB (rLenK K) (tCons (tVar 3) tNil)) (tC (V.int 1))) (tCons (tC (V.str (Str.ofString "a"))) tNil))))
      (tCons (tTup (tCons (tC (V.str (Str.ofString "out"))) (tCons (tCB (rLenK K) (tCons (tVar 3) tNil)) tNil)))
      (tCons (tTup (tCons (tC (V.str (Str.ofString "out"))) (tCons (tUn (rU fun i => V.int (-i)) (tC (V.int 1))) tNil)))
      (tCons (tTup (tCons (tC (V.str (Str.ofString "out"))) (tCons (tC (V.bl true)) tNil)))
      (tCons (tTup (tCons (tC (V.str (Str.ofString "in"))) (tCons (tC (V.int 0)) (tCons (tC (V.str (Str.ofString "A"))) tNil)))) tNil)))))))))))) (gName 15))
      (tSeq (tDrop (tBM K "list" rExtend (tVar 15) (tCons (tLst (tCons (tTup (tCons (tC (V.str (Str.ofString "in"))) (tCons (tC (V.int 0)) (tCons (tC (V.str (Str.ofString ""))) tNil)))) (tCons (tTup (tCons (tC (V.str (Str.ofString "put"))) (tCons (tC (V.int 0)) (tCons (tC (V.str (Str.ofString "a"))) tNil)))) tNil))) tNil))) r) D σ H := by
  refine seqAsgE (ev_odds f.f.s3 lt) ?_
  rintro v H1 ⟨po, vs, rfl, f0, h1, r1, s1⟩
  have f2 : Fr4 (σ.set 15 (some (.ref po))) sa t p := f.set (by decide) (by decide) (by decide)
  have h15 : At (σ.set 15 (some (.ref po))) 15 (.ref po) := At.new (by rw [f.f.len]; decide)
  generalize σ.set 15 (some (.ref po)) = σ2 at f2 h15 ⊢
  refine seqExt h15 h1 (ev_odds2 _ ?_)
  rintro v H2 ⟨p2, ws, rfl, f2_, h2, r2, s2⟩
  have lv := r1.length
  have lw := r2.length
  refine r_ext (s2 _ _ h1) h2 (by rw [lv, lw]; simp [odds11, odds2]) (k _ _ po (vs ++ ws) f2 h15 (hs.at_none f0) ⟨Kp.own (Kp.of (s1.trans s2)) f0, ?_⟩ upd_same ?_)
  · exact (hs.keep (s1.trans s2)).own (hs.at_none f0)
  · refine RpAll.append ((r1.mono (Kp.of s2)).mono (Kp.out (Kp.refl _ _) fun g => g.2 rfl) |>.wide fun a g => hs.at_none g.1) ((r2.mono (Kp.out (Kp.refl _ _) fun g => ?_)).wide fun a g => (hs.keep s1).at_none g.1)
    rw [h1] at g
    cases g.1
theorem loop1 {σ : L2.St} {H : Hp} {sa ca p : Addr} {n : Nat} {t : List Nat} {es : List Ed} {D : Ends} {r : TS} (f : Fr4 σ sa t p) (lt : t.length ≤ 100) (ht : ∀ c ∈ t, c ∈ tl SG) (vo : Vo t 0 es) (le : es.length ≤ 30)
    (rp : Rp (Gs sa ca) H (.ref p) (.list (es.map edD))) (hs : Strm H sa ca n) (hn : n ≤ 800000000)
    (k : ∀ σ' H', Fr σ' sa t → Go sa ca (n + 12) H H' → r D σ' H') :
    tSeq (tFor (iRng1 (tCons (tC (V.int 6)) tNil)) (gName 13)
      (tSeq (tAsg (tLst (tCons (tC V.non) (tCons (tC (V.int 5)) (tCons (tC (V.str (Str.ofString "out"))) (tCons (tTup (tCons (tC (V.str (Str.ofString "out"))) tNil)) (tCons (tTup (tCons (tC (V.str (Str.ofString "in"))) (tCons (tC (V.int 0)) tNil)))
      (tCons (tTup (tCons (tC (V.str (Str.ofString "for"))) (tCons (tC (V.int 0)) (tCons (tC (V.str (Str.ofString "ab"))) tNil))))
      (tCons (tTup (tCons (tC (V.str (Str.ofString "in"))) (tCons (tOp (rI0 fun i j => V.int (i + j)) (tCB (rLenK K) (tCons (tVar 3) tNil)) (tC (V.int 1))) (tCons (tC (V.str (Str.ofString "a"))) tNil))))
      (tCons (tTup (tCons (tC (V.str (Str.ofString "out"))) (tCons (tCB (rLenK K) (tCons (tVar 3) tNil)) tNil)))
      (tCons (tTup (tCons (tC (V.str (Str.ofString "out"))) (tCons (tUn (rU fun i => V.int (-i)) (tC (V.int 1))) tNil)))
      (tCons (tTup (tCons (tC (V.str (Str.ofString "out"))) (tCons (tC (V.bl true)) tNil)))
      (tCons (tTup (tCons (tC (V.str (Str.ofString "in"))) (tCons (tC (V.int 0)) (tCons (tC (V.str (Str.ofString "A"))) tNil)))) tNil)))))))))))) (gName 15))
      (tSeq (tDrop (tBM K "list" rExtend (tVar 15) (tCons (tLst (tCons (tTup (tCons (tC (V.str (Str.ofString "in"))) (tCons (tC (V.int 0)) (tCons (tC (V.str (Str.ofString ""))) tNil)))) (tCons (tTup (tCons (tC (V.str (Str.ofString "put"))) (tCons (tC (V.int 0)) (tCons (tC (V.str (Str.ofString "a"))) tNil)))) tNil))) tNil)))
      (tSeq (tAsg (tCall sp_below [] E0 (tCons (tVar 1) (tCons (tOp (rI0 fun i j => V.int (i + j)) (tCB (rLenK K) (tCons (tVar 4) tNil)) (tC (V.int 1))) tNil))) (gName 16))
      (tSeq (tAsg (tCall sp_pick [] E0 (tCons (tVar 1) (tCons (tOp rCat (tOp rCat (tVar 15) (tLst (tCons (tTup (tCons (tC (V.str (Str.ofString "for"))) (tCons (tOp (rI0 fun i j => V.int (i - j)) (tCB (rLenK K) (tCons (tVar 3) tNil)) (tC (V.int 1)))
      (tCons (tSl rSlS (tVar 3) (tPart (tUn (rU fun i => V.int (-i)) (tC (V.int 1)))) tNoPart) tNil)))) tNil))) (tSl (rSlL K) (tVar 4) tNoPart (tPart (tC (V.int 1))))) tNil))) (gName 14))
      (tSeq (tAsg (tOp rCat (tOp rCat (tSl (rSlL K) (tVar 4) tNoPart (tPart (tVar 16))) (tLst (tCons (tVar 14) tNil))) (tSl (rSlL K) (tVar 4) (tPart (tVar 16)) tNoPart)) (gName 17))
      (tSeq (tAsg (tCall sp_wrong [] E0 (tCons (tVar 3) (tCons (tVar 17) tNil))) (gName 18))
      (tIfS (tNot (tB (tCall (sp_same 3) [] E0 (tCons (tCall sp_told [] E0 (tCons (tVar 3) (tCons (tCB (rLst K) (tCons (tVar 17) tNil)) tNil)))
      (tCons (tIf (tTest (tOp (fun x y H Q => y = V.non ∧ Q (V.bl (decide (x = V.non))) H) (tVar 18) (tC V.non))) (tTup (tCons (tC (V.str (Str.ofString "told"))) (tCons (tCall sp_done [] E0 (tCons (tVar 3) (tCons (tVar 17) tNil))) tNil)))
        (tTup (tCons (tC (V.str (Str.ofString "script"))) (tCons (tVar 18) tNil)))) tNil))))) (tRet (tC (V.bl false))) tNext)))))))) r D σ H := by
  refine seqFor (for_rng1 ⟨6, rfl, by decide, by decide, ?_⟩)
  refine forN walk_range (LqI sa ca n t p H) ⟨f, L2.Same.refl _ |> Kp.of, hs⟩ (fun _ _ _ _ => trivial) ?_ ?_
  · rintro j x σ' H1 H2 hj ⟨f', go⟩ ⟨rfl, rfl⟩
    have hj' : j < 6 := hj
    have f2 : Fr4 (σ'.set 13 (some (.int (0 + (j : Nat))))) sa t p := f'.set (by decide) (by decide) (by decide)
    generalize σ'.set 13 (some (.int (0 + (j : Nat)))) = σ2 at f2 ⊢
    refine seq_odds f2 (by omega) go.st ?_
    intro σ3 H3 po ws f3 h15 gpo g3 hw rw_
    have rp3 := rp.mono (go.trans g3).kp
    refine seqAsgE (ev_at f3.f.s1 f3.s4 rp3 le g3.st (by omega)) ?_
    rintro v H4 ⟨i, rfl, hi, g4⟩
    have f4 : Fr4 (σ3.set 16 (some (.int (i : Nat)))) sa t p := f3.set (by decide) (by decide) (by decide)
    have a15 : At (σ3.set 16 (some (.int (i : Nat)))) 15 (.ref po) := h15.old (by decide)
    have a16 : At (σ3.set 16 (some (.int (i : Nat)))) 16 (.int (i : Nat)) := At.new (by rw [f3.f.len]; decide)
    generalize σ3.set 16 (some (.int (i : Nat))) = σ4 at f4 a15 a16 ⊢
    have rp4 := rp3.mono g4.kp
    refine seqAsgE (ev_odd (ds := odds11 t ++ odds2) f4.f.s1 f4.f.s3 f4.s4 a15 (by omega) ht (g4.kp _ _ gpo hw) (rw_.mono g4.kp) ?_ (by simp [odds11, odds2]) vo rp4 le g4.st (by omega)) ?_
    · intro d hd
      rcases List.mem_append.mp hd with h | h
      · exact ⟨th_odds11 t d h, ok_odds11 t d h⟩
      · exact ⟨th_odds2 d h, ok_odds2 d h⟩
    rintro v H5 ⟨d, rd, th, ok, g5⟩
    have f5 : Fr4 (σ4.set 14 (some v)) sa t p := f4.set (by decide) (by decide) (by decide)
    have b14 : At (σ4.set 14 (some v)) 14 v := At.new (by rw [f4.f.len]; decide)
    have b16 : At (σ4.set 14 (some v)) 16 (.int (i : Nat)) := a16.old (by decide)
    generalize σ4.set 14 (some v) = σ5 at f5 b14 b16 ⊢
    have rp5 := rp4.mono g5.kp
    refine seqAsgE (ev_bent f5.s4 b14 b16 hi rd rp5 le g5.st) ?_
    rintro v H6 ⟨pb, rfl, rb, g6⟩
    have f6 : Fr4 (σ5.set 17 (some (.ref pb))) sa t p := f5.set (by decide) (by decide) (by decide)
    have c17 : At (σ5.set 17 (some (.ref pb))) 17 (.ref pb) := At.new (by rw [f5.f.len]; decide)
    generalize σ5.set 17 (some (.ref pb)) = σ6 at f6 c17 ⊢
    have lb : (bentD es i d).length ≤ 100 := by
      simp only [bentD, List.length_append, List.length_take, List.length_drop, List.length_map, List.length_cons, List.length_nil]
      omega
    have mem : ∀ x ∈ bentD es i d, x = d ∨ ∃ e ∈ es, edD e = x := fun x hx => by
      rcases List.mem_append.mp hx with h | h
      · rcases List.mem_append.mp h with h | h
        · exact .inr (List.mem_map.mp (List.mem_of_mem_take h))
        · exact .inl (List.mem_singleton.mp h)
      · exact .inr (List.mem_map.mp (List.mem_of_mem_drop h))
    have thb : ∀ x ∈ bentD es i d, Th x := fun x hx => by
      rcases mem x hx with rfl | ⟨e, _, rfl⟩
      · exact th
      · exact th_ed1 e
    have okb : ∀ x ∈ bentD es i d, okTh x := fun x hx => by
      rcases mem x hx with rfl | ⟨e, he, rfl⟩
      · exact ok
      · obtain ⟨i, hi⟩ := List.getElem?_of_mem he
        exact okTh_ed (Vo_at vo hi) rfl
    refine seqAsgE (ev_wrong f6.f.s3 c17 rb lt lb thb g6.st) ?_
    rintro v H7 ⟨rfl, g7⟩
    have f7 : Fr4 (σ6.set 18 (some (optV (wrongO 0 0 ((bentD es i d).map (edIn (S t))))))) sa t p := f6.set (by decide) (by decide) (by decide)
    have d17 : At (σ6.set 18 (some (optV (wrongO 0 0 ((bentD es i d).map (edIn (S t))))))) 17 (.ref pb) := c17.old (by decide)
    have d18 : At (σ6.set 18 (some (optV (wrongO 0 0 ((bentD es i d).map (edIn (S t))))))) 18 (optV (wrongO 0 0 ((bentD es i d).map (edIn (S t))))) := At.new (by rw [f6.f.len]; decide)
    generalize σ6.set 18 (some (optV (wrongO 0 0 ((bentD es i d).map (edIn (S t)))))) = σ7 at f7 d17 d18 ⊢
    refine oneIfF (tst_bent f7.f.s3 d17 d18 (rb.mono g7.kp) lt ht lb thb okb g7.st) fun H8 g8 => ?_
    have all := ((((((go.trans g3).trans g4).trans g5).trans g6).trans g7).trans g8)
    exact ⟨f7, all.kp, all.st.mono (by omega)⟩
  · rintro σ' H1 ⟨f', go⟩
    exact k σ' H1 f'.f ⟨go.kp, go.st⟩
end
end K76
set_option Elab.async false
set_option linter.all false
set_option maxRecDepth 100000
set_option maxHeartbeats 4000000
namespace K76
open PySem PySem.Spec PyProof.Rows L2 TbA TbD TbL TbK TL RZ
local macro_rules | `(tactic| walk_at "u") => `(tactic| simp only [tRet, tRetN, tSeq, tNext, tIfS, tAsg, tDrop, tAndV, tOrV, tNotV, tAnd, tOr, tNot, tB, tTest, tIf, tCB, tCons, tNil, tC, tVar, tOp, tUn, tChain, tCall, tM1, tTup, tLst, tSl, tPart, tNoPart, gName, gSub, gCons, gNil, gTup, tBreak, tCont, tNever,
  rI0, rI, rEq, rNe, cxOf, Cx.nox, Cx.wish, L2.start, List.map_cons, List.map_nil, List.length_cons, List.length_nil, List.cons_append, List.nil_append, List.replicate, List.getElem?_cons_zero, List.getElem?_cons_succ, Option.some.injEq, List.cons.injEq, and_true, true_and, V.int.injEq, V.bl.injEq, V.str.injEq, V.ref.injEq,
  exists_eq_left', exists_and_left, exists_eq_left, Nat.reduceSub, Nat.reduceAdd, List.set_cons_zero, List.set_cons_succ])
local macro_rules | `(tactic| walk_at "e") => `(tactic| simp only [tAndV, tOrV, tNotV, tAnd, tOr, tNot, tB, tTest, tIf, tCB, tCons, tNil, tC, tVar, tOp, tUn, tChain, tCall, tM1, tTup, tLst, tSl, tPart, tNoPart, gName, gSub, gCons, gNil, gTup, 
  rI0, rI, rEq, rNe, cxOf, Cx.nox, Cx.wish, L2.start, List.map_cons, List.map_nil, List.length_cons, List.length_nil, List.cons_append, List.nil_append, List.replicate, List.getElem?_cons_zero, List.getElem?_cons_succ, Option.some.injEq, List.cons.injEq, and_true, true_and, V.int.injEq, V.bl.injEq, V.str.injEq, V.ref.injEq,
  exists_eq_left', exists_and_left, exists_eq_left, Nat.reduceSub, Nat.reduceAdd, List.set_cons_zero, List.set_cons_succ])

section
variable {P : Program} {w : World} {K : PySem.W.Frag} {mg : Str → Option Value} {base : Heap}
/-! ### law -/
def sp_law (K : PySem.W.Frag) : Sp := fun vs H Q _ => ∃ (a : Addr) (ns : List Int), vs = [.ref a] ∧ SqL K H a (ns.map V.int) ∧ ∀ H', Q (.bl true) H'
structure LaI (sa ca : Addr) (k : Nat) (σ : L2.St) (H : Hp) : Prop where
  len : σ.length = 21
  s1 : At σ 1 (.ref sa)
  st : Strm H sa ca (1000 * k)
theorem ok_law (T : Tx K mg) : FnOk P w K mg base CX0 8 T.f_law T.d_law ["script"] (sp_law K) := by
  have G__law_start : FnOk P w K mg base CX0 1 T.f__law_start T.d__law_start ["script"] (sp_start K) := ok__law_start T
  have G__law_below : FnOk P w K mg base CX0 1 T.f__law_below T.d__law_below ["stream", "many"] sp_below := ok__law_below T
  have G__law_pick : FnOk P w K mg base CX0 2 T.f__law_pick T.d__law_pick ["stream", "some"] sp_pick := ok__law_pick T
  have G__law_ksigns : FnOk P w K mg base CX0 1 T.f__law_ksigns T.d__law_ksigns [] sp_ksigns := ok__law_ksigns T
  have G__law_xtext : FnOk P w K mg base CX0 3 T.f__law_xtext T.d__law_xtext ["stream", "signs", "most"] sp_xtext := ok__law_xtext T
  have G__law_script : FnOk P w K mg base CX0 3 T.f__law_script T.d__law_script ["stream", "text"] sp_script := ok__law_script T
  have G__law_done : FnOk P w K mg base CX0 1 T.f__law_done T.d__law_done ["text", "script"] sp_done := ok__law_done T
  have G__law_same : FnOk P w K mg base CX0 3 T.f__law_same T.d__law_same ["found", "due"] (sp_same 3) := ok__law_same T 3
  have G__law_told : FnOk P w K mg base CX0 7 T.f__law_told T.d__law_told ["text", "script"] sp_told := ok__law_told T
  have G__law_loose : FnOk P w K mg base CX0 4 T.f__law_loose T.d__law_loose ["stream", "thing"] (sp_loose 3) := ok__law_loose T 3
  have G__law_back : FnOk P w K mg base CX0 1 T.f__law_back T.d__law_back ["text", "script"] sp_back := ok__law_back T
  have G__law_in_order : FnOk P w K mg base CX0 1 T.f__law_in_order T.d__law_in_order ["script"] sp_in_order := ok__law_in_order T
  have G__law_wrong : FnOk P w K mg base CX0 2 T.f__law_wrong T.d__law_wrong ["text", "script"] sp_wrong := ok__law_wrong T
  have G_edited : FnOk P w K mg base (L2.CX P w) 6 T.f_edited T.d_edited ["text", "script"] (sp_edited T.C_BadInput T.C_BadScript) := ok_edited T
  refine T.F_law.ok sclaw (fun vs H Q E h => ?_) (fun cdv A outer s H vs Q E hr h => ?_)
  · obtain ⟨a, ns, rfl, _⟩ := h
    rfl
  · obtain ⟨a, ns, rfl, ha, q⟩ := h
    refine ⟨_, (pss_cons (ps_set (i := 1) sclaw.nd rfl (Or.inl rfl) (pe_call G__law_start (hr.mono (by decide)) (by rfl) T.g__law_start T.F__law_start.kp T.b__law_start .nil pass0 (pa_cons (pv 0) pa_nil)))
  (pss_cons (ps_for PassesOwn.never rfl (pi_range1 (by rfl) T.m_range (pa_cons pe_int pa_nil)) (pg_name (i := 2) sclaw.nd rfl (Or.inl rfl))
  (pss_cons (ps_set (i := 3) sclaw.nd rfl (Or.inr rfl) (pe_call G__law_xtext (hr.mono (by decide)) (by rfl) T.g__law_xtext T.F__law_xtext.kp T.b__law_xtext .nil pass0 (pa_cons (pv 1) (pa_cons (pe_call0 G__law_ksigns (hr.mono (by decide)) (by rfl) T.g__law_ksigns T.F__law_ksigns.kp T.b__law_ksigns .nil pass0) (pa_cons pe_int pa_nil)))))
  (pss_cons (ps_set (i := 4) sclaw.nd rfl (Or.inr rfl) (pe_call G__law_script (hr.mono (by decide)) (by rfl) T.g__law_script T.F__law_script.kp T.b__law_script .nil pass0 (pa_cons (pv 1) (pa_cons (pv 3) pa_nil))))
  (pss_cons (ps_set (i := 5) sclaw.nd rfl (Or.inl rfl) (pe_call G__law_done (hr.mono (by decide)) (by rfl) T.g__law_done T.F__law_done.kp T.b__law_done .nil pass0 (pa_cons (pv 3) (pa_cons (pv 4) pa_nil))))
  (pss_cons (ps_if (pt_not (pt_val (pe_call G__law_same (hr.mono (by decide)) (by rfl) T.g__law_same T.F__law_same.kp T.b__law_same .nil pass0 (pa_cons (pe_call G__law_told (hr.mono (by decide)) (by rfl) T.g__law_told T.F__law_told.kp T.b__law_told .nil pass0 (pa_cons (pv 3) (pa_cons (pe_call G__law_loose (hr.mono (by decide)) (by rfl) T.g__law_loose T.F__law_loose.kp T.b__law_loose .nil pass0 (pa_cons (pv 1) (pa_cons (pv 4) pa_nil))) pa_nil))) (pa_cons (pe_tup (pa_cons pe_str (pa_cons (pv 5) pa_nil))) pa_nil)))))
  (pss_one (ps_ret pe_bl)) pss_nil)
  (pss_cons (ps_set (i := 6) sclaw.nd rfl (Or.inl rfl) (pe_call G__law_back (hr.mono (by decide)) (by rfl) T.g__law_back T.F__law_back.kp T.b__law_back .nil pass0 (pa_cons (pv 3) (pa_cons (pv 4) pa_nil))))
  (pss_cons (ps_set (i := 7) sclaw.nd rfl (Or.inl rfl) (pe_ifExp (pt_val (pe_call G__law_in_order (hr.mono (by decide)) (by rfl) T.g__law_in_order T.F__law_in_order.kp T.b__law_in_order .nil pass0 (pa_cons (pv 6) pa_nil))) (pe_tup (pa_cons pe_str (pa_cons (pv 3) pa_nil))) (pe_tup (pa_cons pe_str (pa_cons (pe_call G__law_wrong (hr.mono (by decide)) (by rfl) T.g__law_wrong T.F__law_wrong.kp T.b__law_wrong .nil pass0 (pa_cons (pv 5) (pa_cons (pv 6) pa_nil))) pa_nil)))))
  (pss_cons (ps_if (pt_not (pt_val (pe_call G__law_same (hr.mono (by decide)) (by rfl) T.g__law_same T.F__law_same.kp T.b__law_same .nil pass0 (pa_cons (pe_call G__law_told (hr.mono (by decide)) (by rfl) T.g__law_told T.F__law_told.kp T.b__law_told .nil pass0 (pa_cons (pv 5) (pa_cons (pv 6) pa_nil))) (pa_cons (pv 7) pa_nil)))))
  (pss_one (ps_ret pe_bl)) pss_nil)
  (pss_cons (ps_setLc (i := 8) (own := [("word", 19)]) (g := gName 19) (by rfl) sclaw.nd rfl rfl (sw_true rfl rfl rfl (by decide +kernel)) (pi_tup (pe_tup (pa_cons pe_str (pa_cons pe_str pa_nil)))) (blkOk_by (own := [("word", 19)]) (N := Nlaw) (sc := defScope slaw) (by decide +kernel)) (fun _ _ _ _ _ => (pg_name (i := 19) sclaw.nd rfl (Or.inr rfl) (hf := .inl rfl))) (fun _ _ _ _ _ => (by exact pts_nil)) (fun _ _ _ _ _ => (by exact (pe_callB (call_lenK (K := K) rfl) (by rfl) T.m_len (by decide +kernel) (pa_cons (pe_lc (own := [("edit", 20)]) (g := gName 20) (by rfl) sclaw.nd (pi_listK (K := K) rfl (pv 4)) (blkOk_by (own := [("edit", 20)]) (by rfl)) (fun _ _ _ _ _ => (pg_name (i := 20) sclaw.nd rfl (Or.inl rfl))) (fun _ _ _ _ _ => (pts_one (pt_cmpR op_eq (pe_ix (ix_tupK (K := K) rfl) (pv 20) pe_int (fun _ _ => rfl)) (pv 19) (nomark _)))) (fun _ _ _ _ _ => (pv 20))) pa_nil)))))
  (pss_cons (ps_if (pt_cmpR op_ne (pe_callB call_len (by rfl) T.m_len (by decide +kernel) (pa_cons (pv 5) pa_nil)) (pe_op op_sub (pe_op op_add (pe_callB call_len (by rfl) T.m_len (by decide +kernel) (pa_cons (pv 3) pa_nil)) (pe_ix ix_list (pv 8) pe_int (fun _ _ => rfl))) (pe_ix ix_list (pv 8) pe_int (fun _ _ => rfl))) (nomark _))
  (pss_one (ps_ret pe_bl)) pss_nil)
  (pss_cons (ps_set (i := 9) sclaw.nd rfl (Or.inl rfl) (pe_call G__law_xtext (hr.mono (by decide)) (by rfl) T.g__law_xtext T.F__law_xtext.kp T.b__law_xtext .nil pass0 (pa_cons (pv 1) (pa_cons (pe_call0 G__law_ksigns (hr.mono (by decide)) (by rfl) T.g__law_ksigns T.F__law_ksigns.kp T.b__law_ksigns .nil pass0) (pa_cons pe_int pa_nil)))))
  (pss_cons (ps_set (i := 10) sclaw.nd rfl (Or.inl rfl) (pe_call G__law_script (hr.mono (by decide)) (by rfl) T.g__law_script T.F__law_script.kp T.b__law_script .nil pass0 (pa_cons (pv 1) (pa_cons (pv 9) pa_nil))))
  (pss_cons (ps_setLc (i := 11) (own := [("edit", 20)]) (g := gName 20) (by rfl) sclaw.nd rfl rfl (sw_true rfl rfl rfl (by decide +kernel)) (pi_list (pv 10)) (blkOk_by (own := [("edit", 20)]) (N := Nlaw) (sc := defScope slaw) (by decide +kernel)) (fun _ _ _ _ _ => (pg_name (i := 20) sclaw.nd rfl (Or.inl rfl))) (fun _ _ _ _ _ => (by exact pts_nil)) (fun _ _ _ _ _ => (by exact (pe_op (op_catAK (K := K) rfl) (pe_tup (pa_cons (pe_ix (ix_tupK (K := K) rfl) (pv 20) pe_int (fun _ _ => rfl)) (pa_cons (pe_op op_add (pe_ix (ix_tupK (K := K) rfl) (pv 20) pe_int (fun _ _ => rfl)) (pe_callB (call_lenK (K := K) rfl) (by rfl) T.m_len (by decide +kernel) (pa_cons (pv 3) pa_nil))) pa_nil))) (pe_slice (sl_tupAK (K := K) rfl) (pv 20) (po_some pe_int) po_none)))))
  (pss_cons (ps_set (i := 12) sclaw.nd rfl (Or.inl rfl) (pe_op op_add_str (pe_call G__law_done (hr.mono (by decide)) (by rfl) T.g__law_done T.F__law_done.kp T.b__law_done .nil pass0 (pa_cons (pv 3) (pa_cons (pv 4) pa_nil))) (pe_call G__law_done (hr.mono (by decide)) (by rfl) T.g__law_done T.F__law_done.kp T.b__law_done .nil pass0 (pa_cons (pv 9) (pa_cons (pv 10) pa_nil)))))
  (pss_cons (ps_if (PW.pt (pw_and (pt_val (pe_call G__law_in_order (hr.mono (by decide)) (by rfl) T.g__law_in_order T.F__law_in_order.kp T.b__law_in_order .nil pass0 (pa_cons (pe_op op_cat (pv 4) (pv 11)) pa_nil))) (pw_and1 (pt_not (pt_val (pe_call G__law_same (hr.mono (by decide)) (by rfl) T.g__law_same T.F__law_same.kp T.b__law_same .nil pass0 (pa_cons (pe_call G_edited (hr.mono (by decide)) (by rfl) T.g_edited T.F_edited.kp T.b_edited .nil passF (pa_cons (pe_op op_add_str (pv 3) (pv 9)) (pa_cons (pe_op op_cat (pv 4) (pv 11)) pa_nil))) (pa_cons (pv 12) pa_nil))))))))
  (pss_one (ps_ret pe_bl)) pss_nil)
  (pss_cons (ps_for PassesOwn.never rfl (pi_range1 (by rfl) T.m_range (pa_cons pe_int pa_nil)) (pg_name (i := 13) sclaw.nd rfl (Or.inl rfl))
  (pss_cons (ps_set (i := 15) sclaw.nd rfl (Or.inl rfl) (pe_lst (pa_cons pe_non (pa_cons pe_int (pa_cons pe_str (pa_cons (pe_tup (pa_cons pe_str pa_nil)) (pa_cons (pe_tup (pa_cons pe_str (pa_cons pe_int pa_nil))) (pa_cons (pe_tup (pa_cons pe_str (pa_cons pe_int (pa_cons pe_str pa_nil)))) (pa_cons (pe_tup (pa_cons pe_str (pa_cons (pe_op op_add (pe_callB call_len (by rfl) T.m_len (by decide +kernel) (pa_cons (pv 3) pa_nil)) pe_int) (pa_cons pe_str pa_nil)))) (pa_cons (pe_tup (pa_cons pe_str (pa_cons (pe_callB call_len (by rfl) T.m_len (by decide +kernel) (pa_cons (pv 3) pa_nil)) pa_nil))) (pa_cons (pe_tup (pa_cons pe_str (pa_cons (pe_un un_neg pe_int) pa_nil))) (pa_cons (pe_tup (pa_cons pe_str (pa_cons pe_bl pa_nil))) (pa_cons (pe_tup (pa_cons pe_str (pa_cons pe_int (pa_cons pe_str pa_nil)))) pa_nil)))))))))))))
  (pss_cons (ps_expr (pe_bm PySem.F.plainAttrs_list PySem.F.slot_list_extend PySem.F.type_list_extend mt_extend (pv 15) (pa_cons (pe_lst (pa_cons (pe_tup (pa_cons pe_str (pa_cons pe_int (pa_cons pe_str pa_nil)))) (pa_cons (pe_tup (pa_cons pe_str (pa_cons pe_int (pa_cons pe_str pa_nil)))) pa_nil))) pa_nil)))
  (pss_cons (ps_set (i := 16) sclaw.nd rfl (Or.inl rfl) (pe_call G__law_below (hr.mono (by decide)) (by rfl) T.g__law_below T.F__law_below.kp T.b__law_below .nil pass0 (pa_cons (pv 1) (pa_cons (pe_op op_add (pe_callB call_len (by rfl) T.m_len (by decide +kernel) (pa_cons (pv 4) pa_nil)) pe_int) pa_nil))))
  (pss_cons (ps_set (i := 14) sclaw.nd rfl (Or.inl rfl) (pe_call G__law_pick (hr.mono (by decide)) (by rfl) T.g__law_pick T.F__law_pick.kp T.b__law_pick .nil pass0 (pa_cons (pv 1) (pa_cons (pe_op op_cat (pe_op op_cat (pv 15) (pe_lst (pa_cons (pe_tup (pa_cons pe_str (pa_cons (pe_op op_sub (pe_callB call_len (by rfl) T.m_len (by decide +kernel) (pa_cons (pv 3) pa_nil)) pe_int) (pa_cons (pe_slice sl_str (pv 3) (po_some (pe_un un_neg pe_int)) po_none) pa_nil)))) pa_nil))) (pe_slice sl_list (pv 4) po_none (po_some pe_int))) pa_nil))))
  (pss_cons (ps_set (i := 17) sclaw.nd rfl (Or.inl rfl) (pe_op op_cat (pe_op op_cat (pe_slice sl_list (pv 4) po_none (po_some (pv 16))) (pe_lst (pa_cons (pv 14) pa_nil))) (pe_slice sl_list (pv 4) (po_some (pv 16)) po_none)))
  (pss_cons (ps_set (i := 18) sclaw.nd rfl (Or.inl rfl) (pe_call G__law_wrong (hr.mono (by decide)) (by rfl) T.g__law_wrong T.F__law_wrong.kp T.b__law_wrong .nil pass0 (pa_cons (pv 3) (pa_cons (pv 17) pa_nil))))
  (pss_one (ps_if (pt_not (pt_val (pe_call G__law_same (hr.mono (by decide)) (by rfl) T.g__law_same T.F__law_same.kp T.b__law_same .nil pass0 (pa_cons (pe_call G__law_told (hr.mono (by decide)) (by rfl) T.g__law_told T.F__law_told.kp T.b__law_told .nil pass0 (pa_cons (pv 3) (pa_cons (pe_callTy call_list_of (by rfl) T.m_list (by decide +kernel) (pa_cons (pv 17) pa_nil)) pa_nil))) (pa_cons (pe_ifExp (pt_cmpR op_isN (pv 18) pe_non (nomark _)) (pe_tup (pa_cons pe_str (pa_cons (pe_call G__law_done (hr.mono (by decide)) (by rfl) T.g__law_done T.F__law_done.kp T.b__law_done .nil pass0 (pa_cons (pv 3) (pa_cons (pv 17) pa_nil))) pa_nil))) (pe_tup (pa_cons pe_str (pa_cons (pv 18) pa_nil)))) pa_nil)))))
  (pss_one (ps_ret pe_bl)) pss_nil)))))))))
  (pss_cons (ps_for PassesOwn.never rfl (pi_tup (pe_tup (pa_cons pe_non (pa_cons pe_int (pa_cons pe_str (pa_cons pe_dnewK (pa_cons pe_bl pa_nil))))))) (pg_name (i := 14) sclaw.nd rfl (Or.inl rfl))
  (pss_one (ps_if (pt_not (pt_val (pe_call G__law_same (hr.mono (by decide)) (by rfl) T.g__law_same T.F__law_same.kp T.b__law_same .nil pass0 (pa_cons (pe_call G__law_told (hr.mono (by decide)) (by rfl) T.g__law_told T.F__law_told.kp T.b__law_told .nil pass0 (pa_cons (pv 3) (pa_cons (pv 14) pa_nil))) (pa_cons (pe_tup (pa_cons pe_str (pa_cons pe_int pa_nil))) pa_nil)))))
  (pss_one (ps_ret pe_bl)) pss_nil)))
  (pss_one (ps_for PassesOwn.never rfl (pi_tup (pe_tup (pa_cons pe_non (pa_cons pe_int (pa_cons pe_str (pa_cons (pe_op op_add_str (pv 3) pe_str) (pa_cons (pe_op op_mul_str pe_str pe_int) (pa_cons (pe_lst (pa_cons (pv 3) pa_nil)) pa_nil)))))))) (pg_name (i := 14) sclaw.nd rfl (Or.inl rfl))
  (pss_one (ps_if (pt_not (pt_val (pe_call G__law_same (hr.mono (by decide)) (by rfl) T.g__law_same T.F__law_same.kp T.b__law_same .nil pass0 (pa_cons (pe_call G__law_told (hr.mono (by decide)) (by rfl) T.g__law_told T.F__law_told.kp T.b__law_told .nil pass0 (pa_cons (pv 14) (pa_cons pe_non pa_nil))) (pa_cons (pe_tup (pa_cons pe_str (pa_cons (pv 14) pa_nil))) pa_nil)))))
  (pss_one (ps_ret pe_bl)) pss_nil)))))))))))))))))))))
  (pss_one (ps_ret pe_bl)))), ?_⟩
    refine seqAsgE (Pp := fun v H' => ∃ sa ca, v = .ref sa ∧ Strm H' sa ca 0) (fun R k => ⟨_, rfl, a, ns, rfl, ha, fun H' sa ca s _ _ st => k _ _ ⟨sa, ca, rfl, st⟩⟩) ?_
    rintro v H0 ⟨sa, ca, rfl, st0⟩
    have i0 : LaI sa ca 0 ((L2.start Nlaw [V.ref a]).set 1 (some (.ref sa))) H0 := ⟨rfl, rfl, st0⟩
    generalize (L2.start Nlaw [V.ref a]).set 1 (some (.ref sa)) = σ0 at i0 ⊢
    refine seqFor (for_rng1 ⟨8, rfl, by decide, by decide, ?_⟩)
    refine forN walk_range (LaI sa ca) i0 (fun _ _ _ _ => trivial) ?_ ?_
    · rintro j x σ1 H1 H2 hj ⟨l1, s1, st1⟩ ⟨rfl, rfl⟩
      have hj' : j < 8 := hj
      -- turn
      have l2 : (σ1.set 2 (some (.int (0 + (j : Nat))))).length = 21 := by rw [List.length_set]; exact l1
      have s2 : At (σ1.set 2 (some (.int (0 + (j : Nat))))) 1 (.ref sa) := s1.old (by decide)
      generalize σ1.set 2 (some (.int (0 + (j : Nat)))) = σ2 at l2 s2 ⊢
      -- text
      refine seqAsgE (ev_text s2 st1 (by omega)) ?_
      rintro v H3 ⟨t, rfl, xt, g3⟩
      have f3 : Fr (σ2.set 3 (some (.str (S t)))) sa t := ⟨by rw [List.length_set]; exact l2, s2.old (by decide), At.new (by omega)⟩
      generalize σ2.set 3 (some (.str (S t))) = σ3 at f3 ⊢
      have lt9 := xt.1
      -- some
      refine seqAsgE (ev_script f3.s1 f3.s3 xt g3.st (by omega)) ?_
      rintro v H4 ⟨p, es, rfl, vo, le, rp4, g4⟩
      have f4 : Fr4 (σ3.set 4 (some (.ref p))) sa t p := ⟨f3.set (by decide) (by decide), At.new (by rw [f3.len]; decide)⟩
      generalize σ3.set 4 (some (.ref p)) = σ4 at f4 ⊢
      -- there
      refine seqAsgE (ev_done f4.f.s3 f4.s4 rp4 (by omega) (by omega) vo) ?_
      rintro v H5 ⟨rfl, e5⟩
      have g5 := Go.same g4.st e5
      have rp5 := rp4.mono g5.kp
      have f5 : Fr4 (σ4.set 5 (some (.str (S (fw t 0 es))))) sa t p := f4.set (by decide) (by decide) (by decide)
      have s5 : At (σ4.set 5 (some (.str (S (fw t 0 es))))) 5 (.str (S (fw t 0 es))) := At.new (by rw [f4.f.len]; decide)
      generalize σ4.set 5 (some (.str (S (fw t 0 es)))) = σ5 at f5 s5 ⊢
      -- told of it, loosened
      refine seqIfF (tst_loose f5.f.s1 f5.f.s3 f5.s4 s5 xt vo le rp5 g5.st (by omega)) fun H6 g6 => ?_
      have rp6 := rp5.mono g6.kp
      -- back
      refine seqAsgE (ev_back f5.f.s3 f5.s4 xt vo le rp6 g6.st) ?_
      rintro v H7 ⟨pb, rfl, rb7, g7⟩
      have rp7 := rp6.mono g7.kp
      have f7 : Fr4 (σ5.set 6 (some (.ref pb))) sa t p := f5.set (by decide) (by decide) (by decide)
      have a5 : At (σ5.set 6 (some (.ref pb))) 5 (.str (S (fw t 0 es))) := s5.old (by decide)
      have a6 : At (σ5.set 6 (some (.ref pb))) 6 (.ref pb) := At.new (by rw [f5.f.len]; decide)
      generalize σ5.set 6 (some (.ref pb)) = σ6 at f7 a5 a6 ⊢
      have bo := back_ok xt.2 es 0 0 [] (Nat.zero_le _) vo rfl
      have bo1 : Vo (fw t 0 es) 0 (bk t 0 0 es) := bo.1
      have bo2 : fw (fw t 0 es) 0 (bk t 0 0 es) = t := bo.2
      have lbk : (bk t 0 0 es).length ≤ 30 := by rw [bk_len]; exact le
      -- due
      refine seqAsgE (ev_due f7.f.s3 a6 bo1 lbk rb7 g7.st) ?_
      rintro v H8 ⟨pd, rfl, rd8, g8⟩
      have rp8 := rp7.mono g8.kp
      have rb8 := rb7.mono g8.kp
      have f8 : Fr4 (σ6.set 7 (some (.ref pd))) sa t p := f7.set (by decide) (by decide) (by decide)
      have b5 : At (σ6.set 7 (some (.ref pd))) 5 (.str (S (fw t 0 es))) := a5.old (by decide)
      have b6 : At (σ6.set 7 (some (.ref pd))) 6 (.ref pb) := a6.old (by decide)
      have b7 : At (σ6.set 7 (some (.ref pd))) 7 (.ref pd) := At.new (by rw [f7.f.len]; decide)
      generalize σ6.set 7 (some (.ref pd)) = σ7 at f8 b5 b6 b7 ⊢
      have flen := fw_len es 0 (Nat.zero_le _) vo
      have nle := nI_le es
      refine seqIfF (tst_back b5 b6 b7 (by omega) (fw_mem xt.2 es 0 vo) bo1 lbk bo2 rb8 rd8 g8.st) fun H9 g9 => ?_
      have rp9 := rp8.mono g9.kp
      -- sizes
      refine seqAsgE (ev_sizes (K := K) f8.s4 f8.f.len rp9 le) ?_
      rintro v H10 ⟨pz, rfl, hz, e10⟩
      have g10 := Go.same g9.st e10
      have rp10 := rp9.mono g10.kp
      have f10 : Fr4 (σ7.set 8 (some (.ref pz))) sa t p := f8.set (by decide) (by decide) (by decide)
      have c5 : At (σ7.set 8 (some (.ref pz))) 5 (.str (S (fw t 0 es))) := b5.old (by decide)
      have c8 : At (σ7.set 8 (some (.ref pz))) 8 (.ref pz) := At.new (by rw [f8.f.len]; decide)
      generalize σ7.set 8 (some (.ref pz)) = σ8 at f10 c5 c8 ⊢
      refine seqIfF (tst_sizes (K := K) c5 f10.f.s3 c8 hz (by omega) (by omega) (by omega) g10.st) fun H11 g11 => ?_
      have rp11 := rp10.mono g11.kp
      -- more
      refine seqAsgE (ev_text f10.f.s1 g11.st (by omega)) ?_
      rintro v H12 ⟨u, rfl, xu, g12⟩
      have rp12 := rp11.mono g12.kp
      have f12 : Fr4 (σ8.set 9 (some (.str (S u)))) sa t p := f10.set (by decide) (by decide) (by decide)
      have d9 : At (σ8.set 9 (some (.str (S u)))) 9 (.str (S u)) := At.new (by rw [f10.f.len]; decide)
      generalize σ8.set 9 (some (.str (S u))) = σ9 at f12 d9 ⊢
      have lu9 := xu.1
      -- behind
      refine seqAsgE (ev_script f12.f.s1 d9 xu g12.st (by omega)) ?_
      rintro v H13 ⟨p2, fs, rfl, vf, lf, rq13, g13⟩
      have rp13 := rp12.mono g13.kp
      have f13 : Fr4 (σ9.set 10 (some (.ref p2))) sa t p := f12.set (by decide) (by decide) (by decide)
      have e9 : At (σ9.set 10 (some (.ref p2))) 9 (.str (S u)) := d9.old (by decide)
      have e10' : At (σ9.set 10 (some (.ref p2))) 10 (.ref p2) := At.new (by rw [f12.f.len]; decide)
      generalize σ9.set 10 (some (.ref p2)) = σ10 at f13 e9 e10' ⊢
      -- shifted
      refine seqAsgE (ev_shifted (K := K) f13.f.s3 e10' f13.f.len rq13 lf (by omega)) ?_
      rintro v H14 ⟨p3, rfl, rs, e14⟩
      have g14 := Go.same g13.st e14
      have rp14 := rp13.mono g14.kp
      have rq14 := rq13.mono g14.kp
      have rs14 := rs.wide (G' := Gs sa ca) fun a e => g13.st.at_none e
      have f14 : Fr4 (σ10.set 11 (some (.ref p3))) sa t p := f13.set (by decide) (by decide) (by decide)
      have h9 : At (σ10.set 11 (some (.ref p3))) 9 (.str (S u)) := e9.old (by decide)
      have h10 : At (σ10.set 11 (some (.ref p3))) 10 (.ref p2) := e10'.old (by decide)
      have h11 : At (σ10.set 11 (some (.ref p3))) 11 (.ref p3) := At.new (by rw [f13.f.len]; decide)
      generalize σ10.set 11 (some (.ref p3)) = σ11 at f14 h9 h10 h11 ⊢
      -- both
      refine seqAsgE (ev_both f14.f.s3 f14.s4 h9 h10 xt xu vo vf le lf rp14 rq14 g14.st) ?_
      rintro v H15 ⟨rfl, g15⟩
      have rp15 := rp14.mono g15.kp
      have rs15 := rs14.mono g15.kp
      have f15 : Fr4 (σ11.set 12 (some (.str (S (fw t 0 es ++ fw u 0 fs))))) sa t p := f14.set (by decide) (by decide) (by decide)
      have k9 : At (σ11.set 12 (some (.str (S (fw t 0 es ++ fw u 0 fs))))) 9 (.str (S u)) := h9.old (by decide)
      have k11 : At (σ11.set 12 (some (.str (S (fw t 0 es ++ fw u 0 fs))))) 11 (.ref p3) := h11.old (by decide)
      have k12 : At (σ11.set 12 (some (.str (S (fw t 0 es ++ fw u 0 fs))))) 12 (.str (S (fw t 0 es ++ fw u 0 fs))) := At.new (by rw [f14.f.len]; decide)
      generalize σ11.set 12 (some (.str (S (fw t 0 es ++ fw u 0 fs)))) = σ12 at f15 k9 k11 k12 ⊢
      refine seqIfF (tst_both f15.f.s3 f15.s4 k9 k11 k12 xt xu vo vf le lf rp15 rs15 g15.st) fun H16 g16 => ?_
      have rp16 := rp15.mono g16.kp
      -- the bent ones
      refine loop1 (K := K) f15 (by omega) xt.2 vo le rp16 g16.st (by omega) ?_
      intro σ13 H17 f17 g17
      refine loop2 (K := K) f17 (by omega) xt.2 g17.st ?_
      intro σ14 H18 f18 g18
      refine loop3 (K := K) f18 (by omega) xt.2 g18.st ?_
      intro σ15 H19 f19 g19
      exact ⟨f19.len, f19.s1, g19.st.mono (by omega)⟩
    · rintro σ1 H1 ⟨l1, s1, st1⟩
      walk_at "u"
      exact q H1
end
end K76
set_option Elab.async false
set_option linter.all false
set_option maxRecDepth 100000
set_option maxHeartbeats 4000000
namespace K76
open PySem PySem.Spec PyProof.Rows L2
/-- an error of the class at A under «except B» -/
theorem exm_of {K : PySem.W.Frag} {A B : Addr} {b : Bool} (h1 : PySem.W.subIn K (.ref B) (.type "BaseException") = some true) (h2 : PySem.W.isClsIn K B = true) (h3 : PySem.W.typeIn K (.ref B) = some (.type "type")) (h4 : PySem.W.subIn K (.ref A) (.ref B) = some b) :
    PySem.W.exmOne K (.ref A) (.ref B) = some b := by
  have e1 : (PySem.W.subIn K (.ref B) (.type "BaseException") == some true) = true := by rw [h1] <;> rfl
  have e2 : ((PySem.W.clsIn K B).isSome && PySem.W.typeIn K (.ref B) == some (.type "type")) = true := by
    have h2' : (PySem.W.clsIn K B).isSome = true := h2
    rw [h2', h3] <;> rfl
  show (if (PySem.W.subIn K (.ref B) (.type "BaseException") == some true) = true then (if ((PySem.W.clsIn K B).isSome && PySem.W.typeIn K (.ref B) == some (.type "type")) = true then PySem.W.subIn K (.ref A) (.ref B) else none) else none) = some b
  rw [if_pos e1, if_pos e2]
  exact h4
theorem all_mk {P : Program} {w : World} {K : PySem.W.Frag} {h : Heap} {mg : Str → Option Value} {fa : Addr} (X : K.In h) (G : h.Ns mainGlobals mg) (hfa : mg "law" = some (.ref fa))
    {C_BadInput : Addr} {nm_BadInput q_BadInput : Str} {N_BadInput : Addr} {bs_BadInput bm_BadInput : List Value} {sn_BadInput : List Str} {sub_BadInput : List Value} {ab_BadInput : Bool} {col_BadInput : Option Bool} {dd_BadInput : Option Addr} {m0_BadInput m1_BadInput m2_BadInput m3_BadInput m5_BadInput : Option Value}
    (a_BadInput : PySem.W.nsIn K mainGlobals "BadInput" = some (some (.ref C_BadInput)))
    (xL_BadInput : K.lookup C_BadInput = some (excClassObj nm_BadInput q_BadInput C_BadInput N_BadInput bs_BadInput bm_BadInput true sn_BadInput sub_BadInput ab_BadInput col_BadInput dd_BadInput m0_BadInput m1_BadInput m2_BadInput m3_BadInput m5_BadInput "ValueError.__new__")) (vb_BadInput : PySem.HandSPX.refsVE bm_BadInput = true)
    (sa_BadInput : PySem.W.findIn K (.ref C_BadInput) "__setattr__" = some (some (.builtin "object.__setattr__"))) (ga_BadInput : PySem.W.findIn K (.ref C_BadInput) "__getattribute__" = some (some (.builtin "BaseException.__getattribute__"))) (gg_BadInput : PySem.W.findIn K (.ref C_BadInput) "__getattr__" = some none) (no_BadInput : PySem.W.findIn K (.ref C_BadInput) "thing" = some none)
    (kC_BadInput : PySem.W.keepIn K (.ref C_BadInput) = true) (eC_BadInput : PySem.W.subIn K (.ref C_BadInput) (.type "BaseException") = some true) (tC_BadInput : PySem.W.typeIn K (.ref C_BadInput) = some (.type "type")) (hC_BadInput : PySem.W.hasDictIn K C_BadInput = true) (iC_BadInput : PySem.W.isClsIn K C_BadInput = true)
    {f_BadInput_init : Addr} {od_BadInput_init an_BadInput_init : Option Addr} {sl_BadInput_init : Array (Option Value)} {oc_BadInput_init kV_BadInput_init dc_BadInput_init pm_BadInput_init cd_BadInput_init ct_BadInput_init : Value}
    (a_BadInput_init : PySem.W.findIn K (.ref C_BadInput) "__init__" = some (some (.ref f_BadInput_init)))
    (l_BadInput_init : K.lookup f_BadInput_init = some ⟨oc_BadInput_init, od_BadInput_init, .func (PySem.W.fnOf "__init__" "BadInput.__init__" (defArgs sBadInput_init) (defBody sBadInput_init) (defScope sBadInput_init) .none kV_BadInput_init dc_BadInput_init pm_BadInput_init an_BadInput_init cd_BadInput_init ct_BadInput_init), sl_BadInput_init⟩)
    (c_BadInput_init : PySem.W.codeIn K cd_BadInput_init "BadInput.__init__" = true) (k_BadInput_init : PySem.W.keepIn K (.ref f_BadInput_init) = true)
    (tI_BadInput : PySem.W.typeIn K (.ref f_BadInput_init) = some (.type "function"))
    {C_BadScript : Addr} {nm_BadScript q_BadScript : Str} {N_BadScript : Addr} {bs_BadScript bm_BadScript : List Value} {sn_BadScript : List Str} {sub_BadScript : List Value} {ab_BadScript : Bool} {col_BadScript : Option Bool} {dd_BadScript : Option Addr} {m0_BadScript m1_BadScript m2_BadScript m3_BadScript m5_BadScript : Option Value}
    (a_BadScript : PySem.W.nsIn K mainGlobals "BadScript" = some (some (.ref C_BadScript)))
    (xL_BadScript : K.lookup C_BadScript = some (excClassObj nm_BadScript q_BadScript C_BadScript N_BadScript bs_BadScript bm_BadScript true sn_BadScript sub_BadScript ab_BadScript col_BadScript dd_BadScript m0_BadScript m1_BadScript m2_BadScript m3_BadScript m5_BadScript "ValueError.__new__")) (vb_BadScript : PySem.HandSPX.refsVE bm_BadScript = true)
    (sa_BadScript : PySem.W.findIn K (.ref C_BadScript) "__setattr__" = some (some (.builtin "object.__setattr__"))) (ga_BadScript : PySem.W.findIn K (.ref C_BadScript) "__getattribute__" = some (some (.builtin "BaseException.__getattribute__"))) (gg_BadScript : PySem.W.findIn K (.ref C_BadScript) "__getattr__" = some none) (no_BadScript : PySem.W.findIn K (.ref C_BadScript) "index" = some none)
    (kC_BadScript : PySem.W.keepIn K (.ref C_BadScript) = true) (eC_BadScript : PySem.W.subIn K (.ref C_BadScript) (.type "BaseException") = some true) (tC_BadScript : PySem.W.typeIn K (.ref C_BadScript) = some (.type "type")) (hC_BadScript : PySem.W.hasDictIn K C_BadScript = true) (iC_BadScript : PySem.W.isClsIn K C_BadScript = true)
    {f_BadScript_init : Addr} {od_BadScript_init an_BadScript_init : Option Addr} {sl_BadScript_init : Array (Option Value)} {oc_BadScript_init kV_BadScript_init dc_BadScript_init pm_BadScript_init cd_BadScript_init ct_BadScript_init : Value}
    (a_BadScript_init : PySem.W.findIn K (.ref C_BadScript) "__init__" = some (some (.ref f_BadScript_init)))
    (l_BadScript_init : K.lookup f_BadScript_init = some ⟨oc_BadScript_init, od_BadScript_init, .func (PySem.W.fnOf "__init__" "BadScript.__init__" (defArgs sBadScript_init) (defBody sBadScript_init) (defScope sBadScript_init) .none kV_BadScript_init dc_BadScript_init pm_BadScript_init an_BadScript_init cd_BadScript_init ct_BadScript_init), sl_BadScript_init⟩)
    (c_BadScript_init : PySem.W.codeIn K cd_BadScript_init "BadScript.__init__" = true) (k_BadScript_init : PySem.W.keepIn K (.ref f_BadScript_init) = true)
    (tI_BadScript : PySem.W.typeIn K (.ref f_BadScript_init) = some (.type "function"))
    (su_BadInput_BadInput : PySem.W.subIn K (.ref C_BadInput) (.ref C_BadInput) = some true)
    (su_BadInput_BadScript : PySem.W.subIn K (.ref C_BadInput) (.ref C_BadScript) = some false)
    (su_BadScript_BadInput : PySem.W.subIn K (.ref C_BadScript) (.ref C_BadInput) = some false)
    (su_BadScript_BadScript : PySem.W.subIn K (.ref C_BadScript) (.ref C_BadScript) = some true)
    {f_is_row : Addr} {od_is_row an_is_row : Option Addr} {sl_is_row : Array (Option Value)} {oc_is_row kV_is_row dc_is_row pm_is_row cd_is_row ct_is_row : Value}
    (a_is_row : PySem.W.nsIn K mainGlobals "is_row" = some (some (.ref f_is_row)))
    (l_is_row : K.lookup f_is_row = some ⟨oc_is_row, od_is_row, .func (PySem.W.fnOf "is_row" "is_row" (defArgs sis_row) (defBody sis_row) (defScope sis_row) .none kV_is_row dc_is_row pm_is_row an_is_row cd_is_row ct_is_row), sl_is_row⟩)
    (c_is_row : PySem.W.codeIn K cd_is_row "is_row" = true) (k_is_row : PySem.W.keepIn K (.ref f_is_row) = true)
    {f_is_number : Addr} {od_is_number an_is_number : Option Addr} {sl_is_number : Array (Option Value)} {oc_is_number kV_is_number dc_is_number pm_is_number cd_is_number ct_is_number : Value}
    (a_is_number : PySem.W.nsIn K mainGlobals "is_number" = some (some (.ref f_is_number)))
    (l_is_number : K.lookup f_is_number = some ⟨oc_is_number, od_is_number, .func (PySem.W.fnOf "is_number" "is_number" (defArgs sis_number) (defBody sis_number) (defScope sis_number) .none kV_is_number dc_is_number pm_is_number an_is_number cd_is_number ct_is_number), sl_is_number⟩)
    (c_is_number : PySem.W.codeIn K cd_is_number "is_number" = true) (k_is_number : PySem.W.keepIn K (.ref f_is_number) = true)
    {f_is_text : Addr} {od_is_text an_is_text : Option Addr} {sl_is_text : Array (Option Value)} {oc_is_text kV_is_text dc_is_text pm_is_text cd_is_text ct_is_text : Value}
    (a_is_text : PySem.W.nsIn K mainGlobals "is_text" = some (some (.ref f_is_text)))
    (l_is_text : K.lookup f_is_text = some ⟨oc_is_text, od_is_text, .func (PySem.W.fnOf "is_text" "is_text" (defArgs sis_text) (defBody sis_text) (defScope sis_text) .none kV_is_text dc_is_text pm_is_text an_is_text cd_is_text ct_is_text), sl_is_text⟩)
    (c_is_text : PySem.W.codeIn K cd_is_text "is_text" = true) (k_is_text : PySem.W.keepIn K (.ref f_is_text) = true)
    {f_need_written : Addr} {od_need_written an_need_written : Option Addr} {sl_need_written : Array (Option Value)} {oc_need_written kV_need_written dc_need_written pm_need_written cd_need_written ct_need_written : Value}
    (a_need_written : PySem.W.nsIn K mainGlobals "need_written" = some (some (.ref f_need_written)))
    (l_need_written : K.lookup f_need_written = some ⟨oc_need_written, od_need_written, .func (PySem.W.fnOf "need_written" "need_written" (defArgs sneed_written) (defBody sneed_written) (defScope sneed_written) .none kV_need_written dc_need_written pm_need_written an_need_written cd_need_written ct_need_written), sl_need_written⟩)
    (c_need_written : PySem.W.codeIn K cd_need_written "need_written" = true) (k_need_written : PySem.W.keepIn K (.ref f_need_written) = true)
    {f_is_sign : Addr} {od_is_sign an_is_sign : Option Addr} {sl_is_sign : Array (Option Value)} {oc_is_sign kV_is_sign dc_is_sign pm_is_sign cd_is_sign ct_is_sign : Value}
    (a_is_sign : PySem.W.nsIn K mainGlobals "is_sign" = some (some (.ref f_is_sign)))
    (l_is_sign : K.lookup f_is_sign = some ⟨oc_is_sign, od_is_sign, .func (PySem.W.fnOf "is_sign" "is_sign" (defArgs sis_sign) (defBody sis_sign) (defScope sis_sign) .none kV_is_sign dc_is_sign pm_is_sign an_is_sign cd_is_sign ct_is_sign), sl_is_sign⟩)
    (c_is_sign : PySem.W.codeIn K cd_is_sign "is_sign" = true) (k_is_sign : PySem.W.keepIn K (.ref f_is_sign) = true)
    {f_edit_in : Addr} {od_edit_in an_edit_in : Option Addr} {sl_edit_in : Array (Option Value)} {oc_edit_in kV_edit_in dc_edit_in pm_edit_in cd_edit_in ct_edit_in : Value}
    (a_edit_in : PySem.W.nsIn K mainGlobals "edit_in" = some (some (.ref f_edit_in)))
    (l_edit_in : K.lookup f_edit_in = some ⟨oc_edit_in, od_edit_in, .func (PySem.W.fnOf "edit_in" "edit_in" (defArgs sedit_in) (defBody sedit_in) (defScope sedit_in) .none kV_edit_in dc_edit_in pm_edit_in an_edit_in cd_edit_in ct_edit_in), sl_edit_in⟩)
    (c_edit_in : PySem.W.codeIn K cd_edit_in "edit_in" = true) (k_edit_in : PySem.W.keepIn K (.ref f_edit_in) = true)
    {f_may_follow : Addr} {od_may_follow an_may_follow : Option Addr} {sl_may_follow : Array (Option Value)} {oc_may_follow kV_may_follow dc_may_follow pm_may_follow cd_may_follow ct_may_follow : Value}
    (a_may_follow : PySem.W.nsIn K mainGlobals "may_follow" = some (some (.ref f_may_follow)))
    (l_may_follow : K.lookup f_may_follow = some ⟨oc_may_follow, od_may_follow, .func (PySem.W.fnOf "may_follow" "may_follow" (defArgs smay_follow) (defBody smay_follow) (defScope smay_follow) .none kV_may_follow dc_may_follow pm_may_follow an_may_follow cd_may_follow ct_may_follow), sl_may_follow⟩)
    (c_may_follow : PySem.W.codeIn K cd_may_follow "may_follow" = true) (k_may_follow : PySem.W.keepIn K (.ref f_may_follow) = true)
    {f_edited : Addr} {od_edited an_edited : Option Addr} {sl_edited : Array (Option Value)} {oc_edited kV_edited dc_edited pm_edited cd_edited ct_edited : Value}
    (a_edited : PySem.W.nsIn K mainGlobals "edited" = some (some (.ref f_edited)))
    (l_edited : K.lookup f_edited = some ⟨oc_edited, od_edited, .func (PySem.W.fnOf "edited" "edited" (defArgs sedited) (defBody sedited) (defScope sedited) .none kV_edited dc_edited pm_edited an_edited cd_edited ct_edited), sl_edited⟩)
    (c_edited : PySem.W.codeIn K cd_edited "edited" = true) (k_edited : PySem.W.keepIn K (.ref f_edited) = true)
    {f__law_start : Addr} {od__law_start an__law_start : Option Addr} {sl__law_start : Array (Option Value)} {oc__law_start kV__law_start dc__law_start pm__law_start cd__law_start ct__law_start : Value}
    (a__law_start : PySem.W.nsIn K mainGlobals "_law_start" = some (some (.ref f__law_start)))
    (l__law_start : K.lookup f__law_start = some ⟨oc__law_start, od__law_start, .func (PySem.W.fnOf "_law_start" "_law_start" (defArgs s_law_start) (defBody s_law_start) (defScope s_law_start) .none kV__law_start dc__law_start pm__law_start an__law_start cd__law_start ct__law_start), sl__law_start⟩)
    (c__law_start : PySem.W.codeIn K cd__law_start "_law_start" = true) (k__law_start : PySem.W.keepIn K (.ref f__law_start) = true)
    {f__law_below : Addr} {od__law_below an__law_below : Option Addr} {sl__law_below : Array (Option Value)} {oc__law_below kV__law_below dc__law_below pm__law_below cd__law_below ct__law_below : Value}
    (a__law_below : PySem.W.nsIn K mainGlobals "_law_below" = some (some (.ref f__law_below)))
    (l__law_below : K.lookup f__law_below = some ⟨oc__law_below, od__law_below, .func (PySem.W.fnOf "_law_below" "_law_below" (defArgs s_law_below) (defBody s_law_below) (defScope s_law_below) .none kV__law_below dc__law_below pm__law_below an__law_below cd__law_below ct__law_below), sl__law_below⟩)
    (c__law_below : PySem.W.codeIn K cd__law_below "_law_below" = true) (k__law_below : PySem.W.keepIn K (.ref f__law_below) = true)
    {f__law_chance : Addr} {od__law_chance an__law_chance : Option Addr} {sl__law_chance : Array (Option Value)} {oc__law_chance kV__law_chance dc__law_chance pm__law_chance cd__law_chance ct__law_chance : Value}
    (a__law_chance : PySem.W.nsIn K mainGlobals "_law_chance" = some (some (.ref f__law_chance)))
    (l__law_chance : K.lookup f__law_chance = some ⟨oc__law_chance, od__law_chance, .func (PySem.W.fnOf "_law_chance" "_law_chance" (defArgs s_law_chance) (defBody s_law_chance) (defScope s_law_chance) .none kV__law_chance dc__law_chance pm__law_chance an__law_chance cd__law_chance ct__law_chance), sl__law_chance⟩)
    (c__law_chance : PySem.W.codeIn K cd__law_chance "_law_chance" = true) (k__law_chance : PySem.W.keepIn K (.ref f__law_chance) = true)
    {f__law_pick : Addr} {od__law_pick an__law_pick : Option Addr} {sl__law_pick : Array (Option Value)} {oc__law_pick kV__law_pick dc__law_pick pm__law_pick cd__law_pick ct__law_pick : Value}
    (a__law_pick : PySem.W.nsIn K mainGlobals "_law_pick" = some (some (.ref f__law_pick)))
    (l__law_pick : K.lookup f__law_pick = some ⟨oc__law_pick, od__law_pick, .func (PySem.W.fnOf "_law_pick" "_law_pick" (defArgs s_law_pick) (defBody s_law_pick) (defScope s_law_pick) .none kV__law_pick dc__law_pick pm__law_pick an__law_pick cd__law_pick ct__law_pick), sl__law_pick⟩)
    (c__law_pick : PySem.W.codeIn K cd__law_pick "_law_pick" = true) (k__law_pick : PySem.W.keepIn K (.ref f__law_pick) = true)
    {f__law_mixed : Addr} {od__law_mixed an__law_mixed : Option Addr} {sl__law_mixed : Array (Option Value)} {oc__law_mixed kV__law_mixed dc__law_mixed pm__law_mixed cd__law_mixed ct__law_mixed : Value}
    (a__law_mixed : PySem.W.nsIn K mainGlobals "_law_mixed" = some (some (.ref f__law_mixed)))
    (l__law_mixed : K.lookup f__law_mixed = some ⟨oc__law_mixed, od__law_mixed, .func (PySem.W.fnOf "_law_mixed" "_law_mixed" (defArgs s_law_mixed) (defBody s_law_mixed) (defScope s_law_mixed) .none kV__law_mixed dc__law_mixed pm__law_mixed an__law_mixed cd__law_mixed ct__law_mixed), sl__law_mixed⟩)
    (c__law_mixed : PySem.W.codeIn K cd__law_mixed "_law_mixed" = true) (k__law_mixed : PySem.W.keepIn K (.ref f__law_mixed) = true)
    {f__law_same : Addr} {od__law_same an__law_same : Option Addr} {sl__law_same : Array (Option Value)} {oc__law_same kV__law_same dc__law_same pm__law_same cd__law_same ct__law_same : Value}
    (a__law_same : PySem.W.nsIn K mainGlobals "_law_same" = some (some (.ref f__law_same)))
    (l__law_same : K.lookup f__law_same = some ⟨oc__law_same, od__law_same, .func (PySem.W.fnOf "_law_same" "_law_same" (defArgs s_law_same) (defBody s_law_same) (defScope s_law_same) .none kV__law_same dc__law_same pm__law_same an__law_same cd__law_same ct__law_same), sl__law_same⟩)
    (c__law_same : PySem.W.codeIn K cd__law_same "_law_same" = true) (k__law_same : PySem.W.keepIn K (.ref f__law_same) = true)
    {f__law_loose : Addr} {od__law_loose an__law_loose : Option Addr} {sl__law_loose : Array (Option Value)} {oc__law_loose kV__law_loose dc__law_loose pm__law_loose cd__law_loose ct__law_loose : Value}
    (a__law_loose : PySem.W.nsIn K mainGlobals "_law_loose" = some (some (.ref f__law_loose)))
    (l__law_loose : K.lookup f__law_loose = some ⟨oc__law_loose, od__law_loose, .func (PySem.W.fnOf "_law_loose" "_law_loose" (defArgs s_law_loose) (defBody s_law_loose) (defScope s_law_loose) .none kV__law_loose dc__law_loose pm__law_loose an__law_loose cd__law_loose ct__law_loose), sl__law_loose⟩)
    (c__law_loose : PySem.W.codeIn K cd__law_loose "_law_loose" = true) (k__law_loose : PySem.W.keepIn K (.ref f__law_loose) = true)
    {f__law_ksigns : Addr} {od__law_ksigns an__law_ksigns : Option Addr} {sl__law_ksigns : Array (Option Value)} {oc__law_ksigns kV__law_ksigns dc__law_ksigns pm__law_ksigns cd__law_ksigns ct__law_ksigns : Value}
    (a__law_ksigns : PySem.W.nsIn K mainGlobals "_law_ksigns" = some (some (.ref f__law_ksigns)))
    (l__law_ksigns : K.lookup f__law_ksigns = some ⟨oc__law_ksigns, od__law_ksigns, .func (PySem.W.fnOf "_law_ksigns" "_law_ksigns" (defArgs s_law_ksigns) (defBody s_law_ksigns) (defScope s_law_ksigns) .none kV__law_ksigns dc__law_ksigns pm__law_ksigns an__law_ksigns cd__law_ksigns ct__law_ksigns), sl__law_ksigns⟩)
    (c__law_ksigns : PySem.W.codeIn K cd__law_ksigns "_law_ksigns" = true) (k__law_ksigns : PySem.W.keepIn K (.ref f__law_ksigns) = true)
    {f__law_xtext : Addr} {od__law_xtext an__law_xtext : Option Addr} {sl__law_xtext : Array (Option Value)} {oc__law_xtext kV__law_xtext dc__law_xtext pm__law_xtext cd__law_xtext ct__law_xtext : Value}
    (a__law_xtext : PySem.W.nsIn K mainGlobals "_law_xtext" = some (some (.ref f__law_xtext)))
    (l__law_xtext : K.lookup f__law_xtext = some ⟨oc__law_xtext, od__law_xtext, .func (PySem.W.fnOf "_law_xtext" "_law_xtext" (defArgs s_law_xtext) (defBody s_law_xtext) (defScope s_law_xtext) .none kV__law_xtext dc__law_xtext pm__law_xtext an__law_xtext cd__law_xtext ct__law_xtext), sl__law_xtext⟩)
    (c__law_xtext : PySem.W.codeIn K cd__law_xtext "_law_xtext" = true) (k__law_xtext : PySem.W.keepIn K (.ref f__law_xtext) = true)
    {f__law_script : Addr} {od__law_script an__law_script : Option Addr} {sl__law_script : Array (Option Value)} {oc__law_script kV__law_script dc__law_script pm__law_script cd__law_script ct__law_script : Value}
    (a__law_script : PySem.W.nsIn K mainGlobals "_law_script" = some (some (.ref f__law_script)))
    (l__law_script : K.lookup f__law_script = some ⟨oc__law_script, od__law_script, .func (PySem.W.fnOf "_law_script" "_law_script" (defArgs s_law_script) (defBody s_law_script) (defScope s_law_script) .none kV__law_script dc__law_script pm__law_script an__law_script cd__law_script ct__law_script), sl__law_script⟩)
    (c__law_script : PySem.W.codeIn K cd__law_script "_law_script" = true) (k__law_script : PySem.W.keepIn K (.ref f__law_script) = true)
    {f__law_done : Addr} {od__law_done an__law_done : Option Addr} {sl__law_done : Array (Option Value)} {oc__law_done kV__law_done dc__law_done pm__law_done cd__law_done ct__law_done : Value}
    (a__law_done : PySem.W.nsIn K mainGlobals "_law_done" = some (some (.ref f__law_done)))
    (l__law_done : K.lookup f__law_done = some ⟨oc__law_done, od__law_done, .func (PySem.W.fnOf "_law_done" "_law_done" (defArgs s_law_done) (defBody s_law_done) (defScope s_law_done) .none kV__law_done dc__law_done pm__law_done an__law_done cd__law_done ct__law_done), sl__law_done⟩)
    (c__law_done : PySem.W.codeIn K cd__law_done "_law_done" = true) (k__law_done : PySem.W.keepIn K (.ref f__law_done) = true)
    {f__law_back : Addr} {od__law_back an__law_back : Option Addr} {sl__law_back : Array (Option Value)} {oc__law_back kV__law_back dc__law_back pm__law_back cd__law_back ct__law_back : Value}
    (a__law_back : PySem.W.nsIn K mainGlobals "_law_back" = some (some (.ref f__law_back)))
    (l__law_back : K.lookup f__law_back = some ⟨oc__law_back, od__law_back, .func (PySem.W.fnOf "_law_back" "_law_back" (defArgs s_law_back) (defBody s_law_back) (defScope s_law_back) .none kV__law_back dc__law_back pm__law_back an__law_back cd__law_back ct__law_back), sl__law_back⟩)
    (c__law_back : PySem.W.codeIn K cd__law_back "_law_back" = true) (k__law_back : PySem.W.keepIn K (.ref f__law_back) = true)
    {f__law_in_order : Addr} {od__law_in_order an__law_in_order : Option Addr} {sl__law_in_order : Array (Option Value)} {oc__law_in_order kV__law_in_order dc__law_in_order pm__law_in_order cd__law_in_order ct__law_in_order : Value}
    (a__law_in_order : PySem.W.nsIn K mainGlobals "_law_in_order" = some (some (.ref f__law_in_order)))
    (l__law_in_order : K.lookup f__law_in_order = some ⟨oc__law_in_order, od__law_in_order, .func (PySem.W.fnOf "_law_in_order" "_law_in_order" (defArgs s_law_in_order) (defBody s_law_in_order) (defScope s_law_in_order) .none kV__law_in_order dc__law_in_order pm__law_in_order an__law_in_order cd__law_in_order ct__law_in_order), sl__law_in_order⟩)
    (c__law_in_order : PySem.W.codeIn K cd__law_in_order "_law_in_order" = true) (k__law_in_order : PySem.W.keepIn K (.ref f__law_in_order) = true)
    {f__law_wrong : Addr} {od__law_wrong an__law_wrong : Option Addr} {sl__law_wrong : Array (Option Value)} {oc__law_wrong kV__law_wrong dc__law_wrong pm__law_wrong cd__law_wrong ct__law_wrong : Value}
    (a__law_wrong : PySem.W.nsIn K mainGlobals "_law_wrong" = some (some (.ref f__law_wrong)))
    (l__law_wrong : K.lookup f__law_wrong = some ⟨oc__law_wrong, od__law_wrong, .func (PySem.W.fnOf "_law_wrong" "_law_wrong" (defArgs s_law_wrong) (defBody s_law_wrong) (defScope s_law_wrong) .none kV__law_wrong dc__law_wrong pm__law_wrong an__law_wrong cd__law_wrong ct__law_wrong), sl__law_wrong⟩)
    (c__law_wrong : PySem.W.codeIn K cd__law_wrong "_law_wrong" = true) (k__law_wrong : PySem.W.keepIn K (.ref f__law_wrong) = true)
    {f__law_told : Addr} {od__law_told an__law_told : Option Addr} {sl__law_told : Array (Option Value)} {oc__law_told kV__law_told dc__law_told pm__law_told cd__law_told ct__law_told : Value}
    (a__law_told : PySem.W.nsIn K mainGlobals "_law_told" = some (some (.ref f__law_told)))
    (l__law_told : K.lookup f__law_told = some ⟨oc__law_told, od__law_told, .func (PySem.W.fnOf "_law_told" "_law_told" (defArgs s_law_told) (defBody s_law_told) (defScope s_law_told) .none kV__law_told dc__law_told pm__law_told an__law_told cd__law_told ct__law_told), sl__law_told⟩)
    (c__law_told : PySem.W.codeIn K cd__law_told "_law_told" = true) (k__law_told : PySem.W.keepIn K (.ref f__law_told) = true)
    {f_law : Addr} {od_law an_law : Option Addr} {sl_law : Array (Option Value)} {oc_law kV_law dc_law pm_law cd_law ct_law : Value}
    (a_law : PySem.W.nsIn K mainGlobals "law" = some (some (.ref f_law)))
    (l_law : K.lookup f_law = some ⟨oc_law, od_law, .func (PySem.W.fnOf "law" "law" (defArgs slaw) (defBody slaw) (defScope slaw) .none kV_law dc_law pm_law an_law cd_law ct_law), sl_law⟩)
    (c_law : PySem.W.codeIn K cd_law "law" = true) (k_law : PySem.W.keepIn K (.ref f_law) = true)
    {t_SIGNS : Tok} (v_SIGNS : PySem.W.nsIn K mainGlobals "SIGNS" = some (some (Value.str "abcdefghijklmnopqrstuvwxyz0123456789<>()[],;:=+-./ " t_SIGNS)))
    {t_LONGEST : Tok} (v_LONGEST : PySem.W.nsIn K mainGlobals "LONGEST" = some (some (Value.int 200 t_LONGEST)))
    (z_isinstance : PySem.W.nsIn K mainGlobals "isinstance" = some none)
    (z_len : PySem.W.nsIn K mainGlobals "len" = some none)
    (z_list : PySem.W.nsIn K mainGlobals "list" = some none)
    (z_tuple : PySem.W.nsIn K mainGlobals "tuple" = some none)
    (z_int : PySem.W.nsIn K mainGlobals "int" = some none)
    (z_bool : PySem.W.nsIn K mainGlobals "bool" = some none)
    (z_str : PySem.W.nsIn K mainGlobals "str" = some none)
    (z_dict : PySem.W.nsIn K mainGlobals "dict" = some none)
    (z_all : PySem.W.nsIn K mainGlobals "all" = some none)
    (z_zip : PySem.W.nsIn K mainGlobals "zip" = some none)
    (z_enumerate : PySem.W.nsIn K mainGlobals "enumerate" = some none)
    (z_range : PySem.W.nsIn K mainGlobals "range" = some none) :
    ∃ fd : FuncData, (∀ (s : Shared) (v : Value), BindsTo s fd ⟨[v], []⟩ [("script", v)]) ∧ ∀ base : Heap, K.In base → base.Ns mainGlobals mg → FnOk P w K mg base CX0 8 fa fd ["script"] (sp_law K) := by
  have e := hfa.symm.trans (PySem.W.mg_of X G a_law)
  cases e
  have F_BadInput_init := fun_mk (st := sBadInput_init) l_BadInput_init c_BadInput_init k_BadInput_init
  have b_BadInput_init := F_BadInput_init.binds (ps := ["self", "thing"]) fun _ _ _ _ _ _ us hl => match us, hl with | [_, _], _ => rfl
  have F_BadScript_init := fun_mk (st := sBadScript_init) l_BadScript_init c_BadScript_init k_BadScript_init
  have b_BadScript_init := F_BadScript_init.binds (ps := ["self", "index"]) fun _ _ _ _ _ _ us hl => match us, hl with | [_, _], _ => rfl
  have F_is_row := fun_mk (st := sis_row) l_is_row c_is_row k_is_row
  have b_is_row := F_is_row.binds (ps := ["thing"]) fun _ _ _ _ _ _ us hl => match us, hl with | [_], _ => rfl
  have F_is_number := fun_mk (st := sis_number) l_is_number c_is_number k_is_number
  have b_is_number := F_is_number.binds (ps := ["thing", "low", "high"]) fun _ _ _ _ _ _ us hl => match us, hl with | [_, _, _], _ => rfl
  have F_is_text := fun_mk (st := sis_text) l_is_text c_is_text k_is_text
  have b_is_text := F_is_text.binds (ps := ["thing", "alphabet", "most"]) fun _ _ _ _ _ _ us hl => match us, hl with | [_, _, _], _ => rfl
  have F_need_written := fun_mk (st := sneed_written) l_need_written c_need_written k_need_written
  have b_need_written := F_need_written.binds (ps := ["text"]) fun _ _ _ _ _ _ us hl => match us, hl with | [_], _ => rfl
  have F_is_sign := fun_mk (st := sis_sign) l_is_sign c_is_sign k_is_sign
  have b_is_sign := F_is_sign.binds (ps := ["thing"]) fun _ _ _ _ _ _ us hl => match us, hl with | [_], _ => rfl
  have F_edit_in := fun_mk (st := sedit_in) l_edit_in c_edit_in k_edit_in
  have b_edit_in := F_edit_in.binds (ps := ["text", "thing"]) fun _ _ _ _ _ _ us hl => match us, hl with | [_, _], _ => rfl
  have F_may_follow := fun_mk (st := smay_follow) l_may_follow c_may_follow k_may_follow
  have b_may_follow := F_may_follow.binds (ps := ["last", "edit"]) fun _ _ _ _ _ _ us hl => match us, hl with | [_, _], _ => rfl
  have F_edited := fun_mk (st := sedited) l_edited c_edited k_edited
  have b_edited := F_edited.binds (ps := ["text", "script"]) fun _ _ _ _ _ _ us hl => match us, hl with | [_, _], _ => rfl
  have F__law_start := fun_mk (st := s_law_start) l__law_start c__law_start k__law_start
  have b__law_start := F__law_start.binds (ps := ["script"]) fun _ _ _ _ _ _ us hl => match us, hl with | [_], _ => rfl
  have F__law_below := fun_mk (st := s_law_below) l__law_below c__law_below k__law_below
  have b__law_below := F__law_below.binds (ps := ["stream", "many"]) fun _ _ _ _ _ _ us hl => match us, hl with | [_, _], _ => rfl
  have F__law_chance := fun_mk (st := s_law_chance) l__law_chance c__law_chance k__law_chance
  have b__law_chance := F__law_chance.binds (ps := ["stream", "many"]) fun _ _ _ _ _ _ us hl => match us, hl with | [_, _], _ => rfl
  have F__law_pick := fun_mk (st := s_law_pick) l__law_pick c__law_pick k__law_pick
  have b__law_pick := F__law_pick.binds (ps := ["stream", "some"]) fun _ _ _ _ _ _ us hl => match us, hl with | [_, _], _ => rfl
  have F__law_mixed := fun_mk (st := s_law_mixed) l__law_mixed c__law_mixed k__law_mixed
  have b__law_mixed := F__law_mixed.binds (ps := ["stream", "some"]) fun _ _ _ _ _ _ us hl => match us, hl with | [_, _], _ => rfl
  have F__law_same := fun_mk (st := s_law_same) l__law_same c__law_same k__law_same
  have b__law_same := F__law_same.binds (ps := ["found", "due"]) fun _ _ _ _ _ _ us hl => match us, hl with | [_, _], _ => rfl
  have F__law_loose := fun_mk (st := s_law_loose) l__law_loose c__law_loose k__law_loose
  have b__law_loose := F__law_loose.binds (ps := ["stream", "thing"]) fun _ _ _ _ _ _ us hl => match us, hl with | [_, _], _ => rfl
  have F__law_ksigns := fun_mk (st := s_law_ksigns) l__law_ksigns c__law_ksigns k__law_ksigns
  have b__law_ksigns := F__law_ksigns.binds (ps := []) fun _ _ _ _ _ _ us hl => match us, hl with | [], _ => rfl
  have F__law_xtext := fun_mk (st := s_law_xtext) l__law_xtext c__law_xtext k__law_xtext
  have b__law_xtext := F__law_xtext.binds (ps := ["stream", "signs", "most"]) fun _ _ _ _ _ _ us hl => match us, hl with | [_, _, _], _ => rfl
  have F__law_script := fun_mk (st := s_law_script) l__law_script c__law_script k__law_script
  have b__law_script := F__law_script.binds (ps := ["stream", "text"]) fun _ _ _ _ _ _ us hl => match us, hl with | [_, _], _ => rfl
  have F__law_done := fun_mk (st := s_law_done) l__law_done c__law_done k__law_done
  have b__law_done := F__law_done.binds (ps := ["text", "script"]) fun _ _ _ _ _ _ us hl => match us, hl with | [_, _], _ => rfl
  have F__law_back := fun_mk (st := s_law_back) l__law_back c__law_back k__law_back
  have b__law_back := F__law_back.binds (ps := ["text", "script"]) fun _ _ _ _ _ _ us hl => match us, hl with | [_, _], _ => rfl
  have F__law_in_order := fun_mk (st := s_law_in_order) l__law_in_order c__law_in_order k__law_in_order
  have b__law_in_order := F__law_in_order.binds (ps := ["script"]) fun _ _ _ _ _ _ us hl => match us, hl with | [_], _ => rfl
  have F__law_wrong := fun_mk (st := s_law_wrong) l__law_wrong c__law_wrong k__law_wrong
  have b__law_wrong := F__law_wrong.binds (ps := ["text", "script"]) fun _ _ _ _ _ _ us hl => match us, hl with | [_, _], _ => rfl
  have F__law_told := fun_mk (st := s_law_told) l__law_told c__law_told k__law_told
  have b__law_told := F__law_told.binds (ps := ["text", "script"]) fun _ _ _ _ _ _ us hl => match us, hl with | [_, _], _ => rfl
  have F_law := fun_mk (st := slaw) l_law c_law k_law
  have b_law := F_law.binds (ps := ["script"]) fun _ _ _ _ _ _ us hl => match us, hl with | [_], _ => rfl
  let T : Tx K mg := { C_BadInput := C_BadInput, fi_BadInput := f_BadInput_init, di_BadInput := _, g_BadInput := PySem.W.mg_of X G a_BadInput, o_BadInput := ⟨⟨_, _, _, _, _, _, _, _, _, _, _, _, _, _, _, xL_BadInput, vb_BadInput⟩, sa_BadInput, eC_BadInput, tC_BadInput, kC_BadInput⟩, iC_BadInput := a_BadInput_init, tI_BadInput := tI_BadInput, Fi_BadInput := F_BadInput_init, bi_BadInput := b_BadInput_init, xf_BadInput := ⟨ga_BadInput, gg_BadInput, eC_BadInput, hC_BadInput⟩, no_BadInput_thing := no_BadInput, C_BadScript := C_BadScript, fi_BadScript := f_BadScript_init, di_BadScript := _, g_BadScript := PySem.W.mg_of X G a_BadScript, o_BadScript := ⟨⟨_, _, _, _, _, _, _, _, _, _, _, _, _, _, _, xL_BadScript, vb_BadScript⟩, sa_BadScript, eC_BadScript, tC_BadScript, kC_BadScript⟩, iC_BadScript := a_BadScript_init, tI_BadScript := tI_BadScript, Fi_BadScript := F_BadScript_init, bi_BadScript := b_BadScript_init, xf_BadScript := ⟨ga_BadScript, gg_BadScript, eC_BadScript, hC_BadScript⟩, no_BadScript_index := no_BadScript, em_BadInput_BadInput := exm_of eC_BadInput iC_BadInput tC_BadInput su_BadInput_BadInput, em_BadInput_BadScript := exm_of eC_BadScript iC_BadScript tC_BadScript su_BadInput_BadScript, em_BadScript_BadInput := exm_of eC_BadInput iC_BadInput tC_BadInput su_BadScript_BadInput, em_BadScript_BadScript := exm_of eC_BadScript iC_BadScript tC_BadScript su_BadScript_BadScript, f_is_row := _, d_is_row := _, F_is_row := F_is_row, g_is_row := PySem.W.mg_of X G a_is_row, b_is_row := b_is_row, f_is_number := _, d_is_number := _, F_is_number := F_is_number, g_is_number := PySem.W.mg_of X G a_is_number, b_is_number := b_is_number, f_is_text := _, d_is_text := _, F_is_text := F_is_text, g_is_text := PySem.W.mg_of X G a_is_text, b_is_text := b_is_text, f_need_written := _, d_need_written := _, F_need_written := F_need_written, g_need_written := PySem.W.mg_of X G a_need_written, b_need_written := b_need_written, f_is_sign := _, d_is_sign := _, F_is_sign := F_is_sign, g_is_sign := PySem.W.mg_of X G a_is_sign, b_is_sign := b_is_sign, f_edit_in := _, d_edit_in := _, F_edit_in := F_edit_in, g_edit_in := PySem.W.mg_of X G a_edit_in, b_edit_in := b_edit_in, f_may_follow := _, d_may_follow := _, F_may_follow := F_may_follow, g_may_follow := PySem.W.mg_of X G a_may_follow, b_may_follow := b_may_follow, f_edited := _, d_edited := _, F_edited := F_edited, g_edited := PySem.W.mg_of X G a_edited, b_edited := b_edited, f__law_start := _, d__law_start := _, F__law_start := F__law_start, g__law_start := PySem.W.mg_of X G a__law_start, b__law_start := b__law_start, f__law_below := _, d__law_below := _, F__law_below := F__law_below, g__law_below := PySem.W.mg_of X G a__law_below, b__law_below := b__law_below, f__law_chance := _, d__law_chance := _, F__law_chance := F__law_chance, g__law_chance := PySem.W.mg_of X G a__law_chance, b__law_chance := b__law_chance, f__law_pick := _, d__law_pick := _, F__law_pick := F__law_pick, g__law_pick := PySem.W.mg_of X G a__law_pick, b__law_pick := b__law_pick, f__law_mixed := _, d__law_mixed := _, F__law_mixed := F__law_mixed, g__law_mixed := PySem.W.mg_of X G a__law_mixed, b__law_mixed := b__law_mixed, f__law_same := _, d__law_same := _, F__law_same := F__law_same, g__law_same := PySem.W.mg_of X G a__law_same, b__law_same := b__law_same, f__law_loose := _, d__law_loose := _, F__law_loose := F__law_loose, g__law_loose := PySem.W.mg_of X G a__law_loose, b__law_loose := b__law_loose, f__law_ksigns := _, d__law_ksigns := _, F__law_ksigns := F__law_ksigns, g__law_ksigns := PySem.W.mg_of X G a__law_ksigns, b__law_ksigns := b__law_ksigns, f__law_xtext := _, d__law_xtext := _, F__law_xtext := F__law_xtext, g__law_xtext := PySem.W.mg_of X G a__law_xtext, b__law_xtext := b__law_xtext, f__law_script := _, d__law_script := _, F__law_script := F__law_script, g__law_script := PySem.W.mg_of X G a__law_script, b__law_script := b__law_script, f__law_done := _, d__law_done := _, F__law_done := F__law_done, g__law_done := PySem.W.mg_of X G a__law_done, b__law_done := b__law_done, f__law_back := _, d__law_back := _, F__law_back := F__law_back, g__law_back := PySem.W.mg_of X G a__law_back, b__law_back := b__law_back, f__law_in_order := _, d__law_in_order := _, F__law_in_order := F__law_in_order, g__law_in_order := PySem.W.mg_of X G a__law_in_order, b__law_in_order := b__law_in_order, f__law_wrong := _, d__law_wrong := _, F__law_wrong := F__law_wrong, g__law_wrong := PySem.W.mg_of X G a__law_wrong, b__law_wrong := b__law_wrong, f__law_told := _, d__law_told := _, F__law_told := F__law_told, g__law_told := PySem.W.mg_of X G a__law_told, b__law_told := b__law_told, f_law := _, d_law := _, F_law := F_law, g_law := PySem.W.mg_of X G a_law, b_law := b_law, t_SIGNS := t_SIGNS, v_SIGNS := PySem.W.mg_of X G v_SIGNS, t_LONGEST := t_LONGEST, v_LONGEST := PySem.W.mg_of X G v_LONGEST, m_isinstance := PySem.W.mg_none_of X G z_isinstance, m_len := PySem.W.mg_none_of X G z_len, m_list := PySem.W.mg_none_of X G z_list, m_tuple := PySem.W.mg_none_of X G z_tuple, m_int := PySem.W.mg_none_of X G z_int, m_bool := PySem.W.mg_none_of X G z_bool, m_str := PySem.W.mg_none_of X G z_str, m_dict := PySem.W.mg_none_of X G z_dict, m_all := PySem.W.mg_none_of X G z_all, m_zip := PySem.W.mg_none_of X G z_zip, m_enumerate := PySem.W.mg_none_of X G z_enumerate, m_range := PySem.W.mg_none_of X G z_range }
  exact ⟨T.d_law, fun s v => .of_eq rfl, fun base _ _ => ok_law T⟩

end K76
open PySem PySem.W PyProof.Rows
set_option maxHeartbeats 0 in
theorem PySem.Challenge.cw_tellback_k76_whole_scripts_turned_about_holds : PySem.Challenge.rw_tellback_k76_whole_scripts_turned_about.Holds := by
  w_on; o_law; k_head; (case hw => w_witness2)
  k_fill
  refine L2.walk_of (l := PySem.Challenge.rw_tellback_k76_whole_scripts_turned_about) (n := 63) (k := 8) (x := "script") (CX := fun _ => L2.CX0) (sp := fun w => K76.sp_law _) rfl (by decide) rfl ⟨rfl, by decide, by decide⟩ (fun w h Y => PySem.W.kIn_of Y) ?F (fun _ _ a ns hl _ hS => ⟨a, ns, rfl, hS, fun _ => rfl⟩) (fun _ _ _ _ _ h => h)
  case F =>
    intro w mg fa h KX G hmg
    refine' K76.all_mk KX G hmg ?a_BadInput ?xL_BadInput ?vb_BadInput ?sa_BadInput ?ga_BadInput ?gg_BadInput ?no_BadInput ?kC_BadInput ?eC_BadInput ?tC_BadInput ?hC_BadInput ?iC_BadInput ?a_BadInput_init ?l_BadInput_init ?c_BadInput_init ?k_BadInput_init ?tI_BadInput ?a_BadScript ?xL_BadScript ?vb_BadScript ?sa_BadScript ?ga_BadScript ?gg_BadScript ?no_BadScript ?kC_BadScript ?eC_BadScript ?tC_BadScript ?hC_BadScript ?iC_BadScript ?a_BadScript_init ?l_BadScript_init ?c_BadScript_init ?k_BadScript_init ?tI_BadScript ?su_BadInput_BadInput ?su_BadInput_BadScript ?su_BadScript_BadInput ?su_BadScript_BadScript ?a_is_row ?l_is_row ?c_is_row ?k_is_row ?a_is_number ?l_is_number ?c_is_number ?k_is_number ?a_is_text ?l_is_text ?c_is_text ?k_is_text ?a_need_written ?l_need_written ?c_need_written ?k_need_written ?a_is_sign ?l_is_sign ?c_is_sign ?k_is_sign ?a_edit_in ?l_edit_in ?c_edit_in ?k_edit_in ?a_may_follow ?l_may_follow ?c_may_follow ?k_may_follow ?a_edited ?l_edited ?c_edited ?k_edited ?a__law_start ?l__law_start ?c__law_start ?k__law_start ?a__law_below ?l__law_below ?c__law_below ?k__law_below ?a__law_chance ?l__law_chance ?c__law_chance ?k__law_chance ?a__law_pick ?l__law_pick ?c__law_pick ?k__law_pick ?a__law_mixed ?l__law_mixed ?c__law_mixed ?k__law_mixed ?a__law_same ?l__law_same ?c__law_same ?k__law_same ?a__law_loose ?l__law_loose ?c__law_loose ?k__law_loose ?a__law_ksigns ?l__law_ksigns ?c__law_ksigns ?k__law_ksigns ?a__law_xtext ?l__law_xtext ?c__law_xtext ?k__law_xtext ?a__law_script ?l__law_script ?c__law_script ?k__law_script ?a__law_done ?l__law_done ?c__law_done ?k__law_done ?a__law_back ?l__law_back ?c__law_back ?k__law_back ?a__law_in_order ?l__law_in_order ?c__law_in_order ?k__law_in_order ?a__law_wrong ?l__law_wrong ?c__law_wrong ?k__law_wrong ?a__law_told ?l__law_told ?c__law_told ?k__law_told ?a_law ?l_law ?c_law ?k_law ?v_SIGNS ?v_LONGEST ?z_isinstance ?z_len ?z_list ?z_tuple ?z_int ?z_bool ?z_str ?z_dict ?z_all ?z_zip ?z_enumerate ?z_range
    (case a_BadInput => first | k_is | rfl | decide +kernel)
    (case xL_BadInput => first | k_is | rfl | decide +kernel)
    (case vb_BadInput => first | k_is | rfl | decide +kernel)
    (case sa_BadInput => first | k_is | rfl | decide +kernel)
    (case ga_BadInput => first | k_is | rfl | decide +kernel)
    (case gg_BadInput => first | k_is | rfl | decide +kernel)
    (case no_BadInput => first | k_is | rfl | decide +kernel)
    (case kC_BadInput => first | k_is | rfl | decide +kernel)
    (case eC_BadInput => first | k_is | rfl | decide +kernel)
    (case tC_BadInput => first | k_is | rfl | decide +kernel)
    (case hC_BadInput => first | k_is | rfl | decide +kernel)
    (case iC_BadInput => first | k_is | rfl | decide +kernel)
    (case a_BadInput_init => first | k_is | rfl | decide +kernel)
    (case l_BadInput_init => first | k_is | rfl | decide +kernel)
    (case c_BadInput_init => first | k_is | rfl | decide +kernel)
    (case k_BadInput_init => first | k_is | rfl | decide +kernel)
    (case tI_BadInput => first | k_is | rfl | decide +kernel)
    (case a_BadScript => first | k_is | rfl | decide +kernel)
    (case xL_BadScript => first | k_is | rfl | decide +kernel)
    (case vb_BadScript => first | k_is | rfl | decide +kernel)
    (case sa_BadScript => first | k_is | rfl | decide +kernel)
    (case ga_BadScript => first | k_is | rfl | decide +kernel)
    (case gg_BadScript => first | k_is | rfl | decide +kernel)
    (case no_BadScript => first | k_is | rfl | decide +kernel)
    (case kC_BadScript => first | k_is | rfl | decide +kernel)
    (case eC_BadScript => first | k_is | rfl | decide +kernel)
    (case tC_BadScript => first | k_is | rfl | decide +kernel)
    (case hC_BadScript => first | k_is | rfl | decide +kernel)
    (case iC_BadScript => first | k_is | rfl | decide +kernel)
    (case a_BadScript_init => first | k_is | rfl | decide +kernel)
    (case l_BadScript_init => first | k_is | rfl | decide +kernel)
    (case c_BadScript_init => first | k_is | rfl | decide +kernel)
    (case k_BadScript_init => first | k_is | rfl | decide +kernel)
    (case tI_BadScript => first | k_is | rfl | decide +kernel)
    (case su_BadInput_BadInput => first | k_is | rfl | decide +kernel)
    (case su_BadInput_BadScript => first | k_is | rfl | decide +kernel)
    (case su_BadScript_BadInput => first | k_is | rfl | decide +kernel)
    (case su_BadScript_BadScript => first | k_is | rfl | decide +kernel)
    (case a_is_row => first | k_is | rfl | decide +kernel)
    (case l_is_row => first | k_is | rfl | decide +kernel)
    (case c_is_row => first | k_is | rfl | decide +kernel)
    (case k_is_row => first | k_is | rfl | decide +kernel)
    (case a_is_number => first | k_is | rfl | decide +kernel)
    (case l_is_number => first | k_is | rfl | decide +kernel)
    (case c_is_number => first | k_is | rfl | decide +kernel)
    (case k_is_number => first | k_is | rfl | decide +kernel)
    (case a_is_text => first | k_is | rfl | decide +kernel)
    (case l_is_text => first | k_is | rfl | decide +kernel)
    (case c_is_text => first | k_is | rfl | decide +kernel)
    (case k_is_text => first | k_is | rfl | decide +kernel)
    (case a_need_written => first | k_is | rfl | decide +kernel)
    (case l_need_written => first | k_is | rfl | decide +kernel)
    (case c_need_written => first | k_is | rfl | decide +kernel)
    (case k_need_written => first | k_is | rfl | decide +kernel)
    (case a_is_sign => first | k_is | rfl | decide +kernel)
    (case l_is_sign => first | k_is | rfl | decide +kernel)
    (case c_is_sign => first | k_is | rfl | decide +kernel)
    (case k_is_sign => first | k_is | rfl | decide +kernel)
    (case a_edit_in => first | k_is | rfl | decide +kernel)
    (case l_edit_in => first | k_is | rfl | decide +kernel)
    (case c_edit_in => first | k_is | rfl | decide +kernel)
    (case k_edit_in => first | k_is | rfl | decide +kernel)
    (case a_may_follow => first | k_is | rfl | decide +kernel)
    (case l_may_follow => first | k_is | rfl | decide +kernel)
    (case c_may_follow => first | k_is | rfl | decide +kernel)
    (case k_may_follow => first | k_is | rfl | decide +kernel)
    (case a_edited => first | k_is | rfl | decide +kernel)
    (case l_edited => first | k_is | rfl | decide +kernel)
    (case c_edited => first | k_is | rfl | decide +kernel)
    (case k_edited => first | k_is | rfl | decide +kernel)
    (case a__law_start => first | k_is | rfl | decide +kernel)
    (case l__law_start => first | k_is | rfl | decide +kernel)
    (case c__law_start => first | k_is | rfl | decide +kernel)
    (case k__law_start => first | k_is | rfl | decide +kernel)
    (case a__law_below => first | k_is | rfl | decide +kernel)
    (case l__law_below => first | k_is | rfl | decide +kernel)
    (case c__law_below => first | k_is | rfl | decide +kernel)
    (case k__law_below => first | k_is | rfl | decide +kernel)
    (case a__law_chance => first | k_is | rfl | decide +kernel)
    (case l__law_chance => first | k_is | rfl | decide +kernel)
    (case c__law_chance => first | k_is | rfl | decide +kernel)
    (case k__law_chance => first | k_is | rfl | decide +kernel)
    (case a__law_pick => first | k_is | rfl | decide +kernel)
    (case l__law_pick => first | k_is | rfl | decide +kernel)
    (case c__law_pick => first | k_is | rfl | decide +kernel)
    (case k__law_pick => first | k_is | rfl | decide +kernel)
    (case a__law_mixed => first | k_is | rfl | decide +kernel)
    (case l__law_mixed => first | k_is | rfl | decide +kernel)
    (case c__law_mixed => first | k_is | rfl | decide +kernel)
    (case k__law_mixed => first | k_is | rfl | decide +kernel)
    (case a__law_same => first | k_is | rfl | decide +kernel)
    (case l__law_same => first | k_is | rfl | decide +kernel)
    (case c__law_same => first | k_is | rfl | decide +kernel)
    (case k__law_same => first | k_is | rfl | decide +kernel)
    (case a__law_loose => first | k_is | rfl | decide +kernel)
    (case l__law_loose => first | k_is | rfl | decide +kernel)
    (case c__law_loose => first | k_is | rfl | decide +kernel)
    (case k__law_loose => first | k_is | rfl | decide +kernel)
    (case a__law_ksigns => first | k_is | rfl | decide +kernel)
    (case l__law_ksigns => first | k_is | rfl | decide +kernel)
    (case c__law_ksigns => first | k_is | rfl | decide +kernel)
    (case k__law_ksigns => first | k_is | rfl | decide +kernel)
    (case a__law_xtext => first | k_is | rfl | decide +kernel)
    (case l__law_xtext => first | k_is | rfl | decide +kernel)
    (case c__law_xtext => first | k_is | rfl | decide +kernel)
    (case k__law_xtext => first | k_is | rfl | decide +kernel)
    (case a__law_script => first | k_is | rfl | decide +kernel)
    (case l__law_script => first | k_is | rfl | decide +kernel)
    (case c__law_script => first | k_is | rfl | decide +kernel)
    (case k__law_script => first | k_is | rfl | decide +kernel)
    (case a__law_done => first | k_is | rfl | decide +kernel)
    (case l__law_done => first | k_is | rfl | decide +kernel)
    (case c__law_done => first | k_is | rfl | decide +kernel)
    (case k__law_done => first | k_is | rfl | decide +kernel)
    (case a__law_back => first | k_is | rfl | decide +kernel)
    (case l__law_back => first | k_is | rfl | decide +kernel)
    (case c__law_back => first | k_is | rfl | decide +kernel)
    (case k__law_back => first | k_is | rfl | decide +kernel)
    (case a__law_in_order => first | k_is | rfl | decide +kernel)
    (case l__law_in_order => first | k_is | rfl | decide +kernel)
    (case c__law_in_order => first | k_is | rfl | decide +kernel)
    (case k__law_in_order => first | k_is | rfl | decide +kernel)
    (case a__law_wrong => first | k_is | rfl | decide +kernel)
    (case l__law_wrong => first | k_is | rfl | decide +kernel)
    (case c__law_wrong => first | k_is | rfl | decide +kernel)
    (case k__law_wrong => first | k_is | rfl | decide +kernel)
    (case a__law_told => first | k_is | rfl | decide +kernel)
    (case l__law_told => first | k_is | rfl | decide +kernel)
    (case c__law_told => first | k_is | rfl | decide +kernel)
    (case k__law_told => first | k_is | rfl | decide +kernel)
    (case a_law => first | k_is | rfl | decide +kernel)
    (case l_law => first | k_is | rfl | decide +kernel)
    (case c_law => first | k_is | rfl | decide +kernel)
    (case k_law => first | k_is | rfl | decide +kernel)
    (case v_SIGNS => first | k_is | rfl | decide +kernel)
    (case v_LONGEST => first | k_is | rfl | decide +kernel)
    (case z_isinstance => first | k_is | rfl | decide +kernel)
    (case z_len => first | k_is | rfl | decide +kernel)
    (case z_list => first | k_is | rfl | decide +kernel)
    (case z_tuple => first | k_is | rfl | decide +kernel)
    (case z_int => first | k_is | rfl | decide +kernel)
    (case z_bool => first | k_is | rfl | decide +kernel)
    (case z_str => first | k_is | rfl | decide +kernel)
    (case z_dict => first | k_is | rfl | decide +kernel)
    (case z_all => first | k_is | rfl | decide +kernel)
    (case z_zip => first | k_is | rfl | decide +kernel)
    (case z_enumerate => first | k_is | rfl | decide +kernel)
    (case z_range => first | k_is | rfl | decide +kernel)
