import PyProof.Rows.All
import Wide.All
import OpenK.AllK
import Wide.FinOn
import PyProof.EqAt
import PyProof.EqKinds
import PyProof.NeKinds
import PyProof.TupleCall
import HandS.ForMost
import HandS.ForExc
import HandS.Flow
import HandS.Codes
import HandS.ClsMeth
import HandS.CallSlots
import HandS.IsInst
import HandS.ExcIs
import HandS.Deep
import HandS.TupSets
import HandS.Strs
import HandS.Steps
import HandS.Defaults
import HandS.Conv
import HandS.HeadHook1
import HandS.HeadHook2
import HandS.HeadHook4
import PySem.Challenge.RW_wirefloor_k12_board
import HandS.Walk
import HandS.Evl
import HandS.WordsExc
import KE.KStateDown
import HandS.Head0
import HandS.Head1
import HandS.Head2
import HandS.HeadEnd
set_option Elab.async false
set_option linter.all false
set_option maxRecDepth 100000
set_option maxHeartbeats 0
/-! K12A: rules that the layer lacks: one of two readings, C.m(..) off a class, a making within a try, len(set(..)) of texts and of tuples, != of two lists of the same objects. -/
namespace Wf
open PySem PySem.Spec PyProof.Rows L2

section
variable {X : Cx} {CX : CXT} {k : Nat} {f C : Addr} {fd : FuncData} {ps : List Str} {sp : Sp} {E : XK} {x m : Str} {p pos apos : Pos} {e o : Expr} {es : List Expr} {ta t1 t2 : TE} {t : TA} {mc : Value}

/-- an expression that has two readings: the prover picks -/
def tEither (t1 t2 : TE) : TE := fun σ H Q => t1 σ H Q ∨ t2 σ H Q
theorem pe_either (h1 : PE X e t1) (h2 : PE X e t2) : PE X e (tEither t1 t2) :=
  ⟨fun pins s σ H Q I h => Or.elim h (fun a => h1.run pins s σ H Q I a) (fun a => h2.run pins s σ H Q I a)⟩

/-- C.m(..), C a class and m a def of it: all arguments are written -/
def tOffCls (C : Addr) (sp : Sp) (E : XK) (ta : TE) (t : TA) : TE := fun σ H Q => ta σ H fun v H1 => v = .ref C ∧ t σ H1 fun vs H2 => sp vs H2 Q E
theorem pe_offCls {pl : Sem Bool} (he : PE X o ta) (r : ClX.CRead X.K C mc) (cv : PySem.W.findCls X.K (.ref C) mc m = some (.val (.ref f))) (F : FnOk X.prog X.w X.K X.mg X.base CX k f fd ps sp) (hr : Room k X.A)
    (hk : PySem.W.keepIn X.K (.ref f) = true) (hb : Binds X.K fd ps []) (hx : Passes CX X E) (ha : PA X (e :: es) t)
    (hst : starEach (e :: es) X.env = (false, eval e X.env) :: starEach es X.env := by rfl) (hpl : (backTo pos (starEach es X.env)).any (·.1) = false := by rfl)
    (ht : eval (.Call (.Attribute o m apos) (e :: es) [] pos) X.env = (do
      let ov ← eval o X.env
      standAt apos.atName
      let (f, first) ← holding [ov] (getMethod ov m pl)
      callWith pos f first (backTo pos (starEach (e :: es) X.env)) (backToKw pos (keywordEach [] X.env))) := by rfl) :
    PE X (.Call (.Attribute o m apos) (e :: es) [] pos) (tOffCls C sp E ta t) := by
  constructor
  intro pins s σ H Q I h
  refine PySem.W.methodCall_KW (pl := pl) (thn (he.run pins s σ H _ I h) fun u s1 hh => ?_) ht
  obtain ⟨v, H1, I1, rv, ev, q⟩ := hh
  subst ev
  cases (show u = Value.ref C from rv)
  refine PySem.W.method_cls I1.kIn r.ga (PySem.W.cls_value I1.kIn r.rd cv (handed_of (v := .ref f) rfl) ?_)
  refine PySem.W.callWith_K (first := []) (h₀ := X.base) I.ok.mod.kin hk (thn (ha.run pos pins _ σ H1 _ (I1.tok (s1.toks + 1)) q) fun us s2 hh2 => ?_) hst hpl
  obtain ⟨vs, H2, I2, rs, q2⟩ := hh2
  refine ⟨I2.kIn, ?_⟩
  refine run_fn (dvs := []) (ds := []) F hr hb .nil hx I2 rs ?_
  rw [List.append_nil]
  exact q2

/-- C(..) whose __init__ may raise: what is wished may lean on the slots -/
def tMakeS (C : Addr) (sp : Sp) (E : L2.St → XK) (t : TA) : TE := fun σ H Q => t σ H fun vs H1 => ∀ x dx, H1 x = none → H1 dx = none → dx ≠ x →
  sp (.ref x :: vs) (upd (upd H1 dx (.own x)) x (.ins C dx [])) (fun v H2 => v = .non ∧ Q (.ref x) H2) (E σ)
theorem pe_makeS {E : L2.St → XK} (M : Mk X.K C f) (F : FnOk X.prog X.w X.K X.mg X.base CX k f fd ps sp) (hr : Room (k + 1) X.A) (hg : Gl X x) (hm : X.mg x = some (.ref C)) (hb : Binds X.K fd ps [])
    (hx : ∀ σ, PassesAt CX X σ (E σ)) (ha : PA X (e :: es) t) (hdb : (x == ("__debug__" : Str)) = false := by decide) (he : starEach (e :: es) X.env = (false, eval e X.env) :: starEach es X.env := by rfl)
    (hpl : (backTo pos (starEach es X.env)).any (·.1) = false := by rfl) : PE X (.Call (.Name x p) (e :: es) [] pos) (tMakeS C sp E t) := by
  constructor
  intro pins s σ H Q I h
  refine wpAny_Call_Name_kw (ld_glob I hg hm ?_ hdb)
  refine PySem.W.callWith_K (h₀ := X.base) I.ok.mod.kin M.kp (thn (ha.run pos pins s σ H _ I h) fun us s1 hh => ?_) he hpl
  obtain ⟨vs, H1, I1, rs, q⟩ := hh
  refine ⟨I1.kIn, ?_⟩
  -- the new instance and its dict stand behind the heap's end
  have hq := q (s1.heap.objs.size + 1) s1.heap.objs.size (I1.hok.fresh (Nat.le_succ _)) (I1.hok.fresh (Nat.le_refl _)) (Nat.ne_of_lt (Nat.lt_succ_self _))
  have I2 := Inv.made (C := C) I1
  have r2 : Vals (V.ref (s1.heap.objs.size + 1) :: vs) (Value.ref (s1.heap.objs.size + 1) :: us) := .cons rfl rs
  have hl : (Value.ref (s1.heap.objs.size + 1) :: us).length = ps.length := by
    rw [← r2.length]
    exact F.len _ _ _ _ hq
  have b := hb _ (Value.ref (s1.heap.objs.size + 1) :: us) I2.kIn (by rw [List.append_nil]; exact hl)
  rw [List.append_nil] at b
  refine wpAny_call (make_map (f := f) I1.kIn M.makes M.init (beq_iff_eq.mp M.fn) (codeAny_mono (F.run _ X.stack _ _ ⟨Value.ref (s1.heap.objs.size + 1) :: us, []⟩ (Value.ref (s1.heap.objs.size + 1) :: us) _ _ (E σ) (hr.make C us [])
    (I2.env0.make C us []) b r2 hq) fun r s' hq' => ?_))
  cases r with
  | error e => exact hx σ pins _ _ e s' I2 hq'
  | ok fl =>
    cases fl with
    | ret u =>
      obtain ⟨v, H', I3, rv, ev, q3⟩ := I2.after hq'
      subst ev
      exact ⟨rv, V.ref (s1.heap.objs.size + 1), H', I3, rfl, q3⟩
    | next => exact False.elim hq'
    | brk => exact False.elim hq'
    | cont => exact False.elim hq'

/-- xs != ys, two lists of the same objects -/
def rNeSame (K : PySem.W.Frag) : R2 := fun x y H Q => ∃ (a b : Addr) (xs : List V), x = .ref a ∧ y = .ref b ∧ SqL K H a xs ∧ SqL K H b xs ∧ (∀ v ∈ xs, ∃ c, v = V.ref c) ∧ Q (.bl false) H
theorem vals_refs : ∀ {xs : List V} {us ws : List Value}, (∀ v ∈ xs, ∃ c, v = V.ref c) → Vals xs us → Vals xs ws → us = ws
  | _, _, _, _, .nil, .nil => rfl
  | v :: vs, _, _, h, .cons r1 t1, .cons r2 t2 => by
    obtain ⟨c, rfl⟩ := h v List.mem_cons_self
    cases r1
    cases r2
    rw [vals_refs (fun z hz => h z (List.mem_cons_of_mem _ hz)) t1 t2]
theorem op_neSame (hu : X.A.units < cLine) : OpR X (compareOp .NotEq) (rNeSame X.K) := by
  intro pins s σ H x y v u Q I rx ry h
  obtain ⟨a, b, xs, rfl, rfl, ha, hb, hx, q⟩ := h
  cases (show v = Value.ref a from rx)
  cases (show u = Value.ref b from ry)
  obtain ⟨us, r1, p1, _⟩ := I.list ha
  obtain ⟨ws, r2, p2, _⟩ := I.list hb
  have e : us = ws := vals_refs hx r1 r2
  subst e
  have z := SeqAt.RcNeAt.lists (A := X.A) (e := fun _ => true) p1.isList p2.isList rfl hu (fun j h1 h2 => SeqAt.EqAt.same _)
  refine z X.prog X.w _ _ ?_
  rw [show ((List.range us.toArray.size).all fun _ => true) = true from List.all_eq_true.mpr fun _ _ => rfl]
  exact ⟨.bl false, H, I, rfl, q⟩

/-- len(s), s a set of tuples of ints -/
def rLenSetT (K : PySem.W.Frag) (P : Program) (w : World) : List V → Hp → VK → Prop := fun xs H Q => ∃ (a : Addr) (L : List (Addr × List Int)), xs = [V.ref a] ∧ H a = some (SetTO P w a L) ∧ (∀ p ∈ L, SqT K H p.1 (p.2.map V.int)) ∧
  ((L.map (·.2)).Nodup → Q (.int (L.length : Nat)) H)
theorem call_len_setT : CallR X (.builtin "len") (rLenSetT X.K X.prog X.w) := by
  intro pins s σ H xs us Q I r h
  obtain ⟨a, L, rfl, ha, hk, q⟩ := h
  rw [Vals.ref1 r]
  have R0 : SetT0 X.prog X.w s.heap a L := (I.hok a _ ha).1
  obtain ⟨es, ep, t, R⟩ := R0.full fun p hp => I.isT (hk p hp)
  obtain ⟨o, ho, hex, hd⟩ := R.ob
  have few := R.few
  refine call_len_set ho hex hd R.fits (by rw [R.size]; omega) ⟨.int ((L.length : Nat) : Int), H, I.tok _, ⟨_, by rw [R.size]⟩, q R.nd⟩
end
end Wf

/-! K12B: len(set(xs)), xs a list of texts. -/
namespace Wf
open PySem PySem.Spec PyProof.Rows L2

/-! ### the items met, each once -/
def addD (σ : List Str) (v : Str) : List Str := if σ.any (· == v) = true then σ else σ ++ [v]
def metD (l : List Str) : List Str := l.foldl addD []
theorem metD_snoc (l : List Str) (v : Str) : metD (l ++ [v]) = addD (metD l) v := by
  unfold metD
  rw [List.foldl_append]
  rfl
theorem addD_any (σ : List Str) (v k : Str) : (addD σ v).any (· == k) = (σ.any (· == k) || decide (k = v)) := by
  unfold addD
  by_cases h : σ.any (· == v) = true
  · rw [if_pos h]
    by_cases e : k = v
    · subst e
      simp [h]
    · simp [e]
  · rw [if_neg h, List.any_append]
    by_cases e : k = v
    · subst e
      simp
    · have e2 : (v == k) = false := beq_eq_false_iff_ne.mpr fun z => e z.symm
      simp [e, e2]
theorem addD_len (σ : List Str) (v : Str) : (addD σ v).length = if σ.any (· == v) = true then σ.length else σ.length + 1 := by
  unfold addD
  by_cases h : σ.any (· == v) = true
  · rw [if_pos h, if_pos h]
  · rw [if_neg h, if_neg h, List.length_append, List.length_singleton]
theorem foldl_any : ∀ (l σ : List Str) (k : Str), (l.foldl addD σ).any (· == k) = (σ.any (· == k) || l.any (· == k))
  | [], σ, k => by simp
  | v :: l, σ, k => by
    rw [List.foldl_cons, foldl_any l (addD σ v) k, addD_any, List.any_cons, Bool.or_assoc]
    congr 1
    congr 1
    by_cases e : k = v
    · subst e
      simp
    · have e2 : (v == k) = false := beq_eq_false_iff_ne.mpr fun z => e z.symm
      simp [e, e2]
theorem metD_any (l : List Str) (k : Str) : (metD l).any (· == k) = l.any (· == k) := by
  unfold metD
  rw [foldl_any]
  simp
theorem metD_le (l : List Str) : (metD l).length ≤ l.length := by
  unfold metD
  have gen : ∀ (l σ : List Str), (l.foldl addD σ).length ≤ σ.length + l.length := by
    intro l
    induction l with
    | nil => intro σ; simp
    | cons v l ih =>
      intro σ
      rw [List.foldl_cons, List.length_cons]
      have h1 := ih (addD σ v)
      have h2 : (addD σ v).length ≤ σ.length + 1 := by
        rw [addD_len]
        split <;> omega
      omega
  have h := gen l []
  simpa using h
/-- as many as items: no item twice -/
theorem metD_full (l : List Str) : (metD l).length = l.length ↔ l.Nodup := by
  have gen : ∀ (r l : List Str), l.Nodup → metD l = l → ((metD (l ++ r)).length = (l ++ r).length ↔ (l ++ r).Nodup) := by
    intro r
    induction r with
    | nil =>
      intro l hn e
      rw [List.append_nil, e]
      exact ⟨fun _ => hn, fun _ => rfl⟩
    | cons v r ih =>
      intro l hn e
      by_cases h : v ∈ l
      · have nn : ¬ (l ++ v :: r).Nodup := fun z => by
          have q := (List.nodup_append.mp z).2.2 v h v List.mem_cons_self
          exact q rfl
        refine ⟨fun z => ?_, fun z => absurd z nn⟩
        exfalso
        have e1 : metD (l ++ [v]) = l := by
          rw [metD_snoc, e]
          unfold addD
          have yes : l.any (· == v) = true := List.any_eq_true.mpr ⟨v, h, beq_self_eq_true v⟩
          rw [if_pos yes]
        have e2 : metD (l ++ v :: r) = r.foldl addD l := by
          have a : l ++ v :: r = (l ++ [v]) ++ r := by simp
          rw [a]
          unfold metD at e1 ⊢
          rw [List.foldl_append, e1]
        have gl : ∀ (r σ : List Str), (r.foldl addD σ).length ≤ σ.length + r.length := by
          intro r
          induction r with
          | nil => intro σ; simp
          | cons w r ih2 =>
            intro σ
            rw [List.foldl_cons, List.length_cons]
            have h1 := ih2 (addD σ w)
            have h2 : (addD σ w).length ≤ σ.length + 1 := by
              rw [addD_len]
              split <;> omega
            omega
        have h3 := gl r l
        rw [e2, List.length_append, List.length_cons] at z
        omega
      · have e1 : metD (l ++ [v]) = l ++ [v] := by
          rw [metD_snoc, e]
          unfold addD
          have no : ¬ l.any (· == v) = true := fun z => by
            obtain ⟨w, hw, q⟩ := List.any_eq_true.mp z
            rw [beq_iff_eq] at q
            subst q
            exact h hw
          rw [if_neg no]
        have n1 : (l ++ [v]).Nodup := by
          rw [List.nodup_append]
          refine ⟨hn, by simp, fun a ha b hb => ?_⟩
          rw [List.mem_singleton] at hb
          subst hb
          intro z
          subst z
          exact h ha
        have a : l ++ v :: r = (l ++ [v]) ++ r := by simp
        rw [a]
        exact ih (l ++ [v]) n1 e1
  have h := gen l [] List.nodup_nil rfl
  simpa using h

/-! ### the machine's loop -/
section
variable {prog : Program} {w : World} {A : Around} {R : Result → Shared → Prop} {I : Addr} {fp wr : List Addr} {G : Array GenState → Array GenState → Prop} {n : Nat} {P : Nat → Value → Prop} {St : Nat → Shared → Prop}
/-- the set at S holds what the first i items are -/
def SetMet (prog : Program) (w : World) (h : Heap) (S : Addr) (xs : List Str) (i : Nat) : Prop := h.SetOf (PySem.strKind prog w) S (fun k => (metD (xs.take i)).any (· == k)) (metD (xs.take i)).length
theorem SetMet.next {h : Heap} {S : Addr} {xs : List Str} {i : Nat} {v : Str} (hv : xs[i]? = some v)
    (hS : h.SetOf (PySem.strKind prog w) S (fun k => (metD (xs.take i)).any (· == k) || decide (k = v)) (if (metD (xs.take i)).any (· == v) = true then (metD (xs.take i)).length else (metD (xs.take i)).length + 1)) : SetMet prog w h S xs (i + 1) := by
  have e : xs.take (i + 1) = xs.take i ++ [v] := by
    rw [List.take_succ, hv]
    rfl
  unfold SetMet
  rw [e, metD_snoc]
  exact SetOf_congr hS (fun k => (addD_any _ _ _).symm) (addD_len _ _).symm
theorem SetMet.moved {s s' : Shared} {S : Addr} {xs : List Str} {i : Nat} (k : ∀ o, s.heap.get? S = some o → s'.heap.get? S = some o) (hS : SetMet prog w s.heap S xs i) : SetMet prog w s'.heap S xs i := by
  obtain ⟨o, es, ep, t, ho, z⟩ := hS
  exact ⟨o, es, ep, t, k o ho, z⟩
theorem loop_texts (W : WalksS prog w A.in1 I fp wr G n P St) (S : Addr) (hSf : S ∉ fp) (xs : List Str) (hsz : xs.length = n) (hval : ∀ i v, P i v → ∃ x t, xs[i]? = some x ∧ v = .str x t) (hb : n + 1 < scanBound) :
    ∀ (k i : Nat) (s : Shared), n - i = k → i ≤ n → St i s → SetMet prog w s.heap S xs i →
      (∀ s', Moved (S :: wr) G s s' → SetMet prog w s'.heap S xs n → R (.ok (.ret .none)) s') →
      codeAny (model prog w) A (.builtin "set.update.loop" ⟨[.ref S, .ref I], []⟩) R s := by
  have out : S ∉ wr := fun h => hSf (W.sub _ h)
  have wide : ∀ b ∈ wr, b ∈ S :: wr := fun b hb => List.mem_cons_of_mem _ hb
  intro k
  induction k with
  | zero =>
    intro i s hk hi hst hS hR
    obtain rfl : i = n := by omega
    refine codeAny_builtin PyProof.Rows.F.entry_set_update_loop ?_
    rw [Around.under_plainId PyProof.Rows.F.plain_set_update_loop _]
    show wpAny _ A.in1 (pyNext (.ref I) >>= _) _ _ s
    refine wpAny_bind (W.done s _ _ hst fun s1 mv => ?_)
    show wpAny _ A.in1 (ret Value.none) _ _ s1
    exact wpAny_pure (hR s1 (mv.mono wide) (hS.moved fun o => mv.heap S o out))
  | succ k ih =>
    intro i s hk hi hst hS hR
    have hlt : i < n := by omega
    refine codeAny_builtin PyProof.Rows.F.entry_set_update_loop ?_
    rw [Around.under_plainId PyProof.Rows.F.plain_set_update_loop _]
    show wpAny _ A.in1 (pyNext (.ref I) >>= _) _ _ s
    refine wpAny_bind (W.item i s _ _ hlt hst fun v s1 hP hst1 mv => ?_)
    obtain ⟨x, t, hx, rfl⟩ := hval i v hP
    have hS1 : SetMet prog w s1.heap S xs i := hS.moved fun o => mv.heap S o out
    show wpAny _ A.in1 (holding [Value.str x t] (setAdd S (.str x t)) >>= _) _ _ s1
    refine wpAny_bind (wpAny_holding ?_)
    unfold setAdd
    refine wpAny_holding (wpAny_bind ((PySem.strKind prog w).pyHash (k := x) (strKind_is _ _ _ _) ?_))
    have room : (metD (xs.take i)).length + 1 < scanBound := by
      have h1 := metD_le (xs.take i)
      rw [List.length_take] at h1
      omega
    refine wpAny_setAddHashed_of (knd := PySem.strKind prog w) (s := { s1 with toks := s1.toks + 1 }) (strKind_is _ _ _ _) rfl hS1 room fun h2 sb hS2 => ?_
    have keepI : ∀ b ∈ fp, ∀ o, s1.heap.get? b = some o → h2.get? b = some o := fun b hb o e => by
      rw [sb.2 b fun z => hSf (by rw [← z]; exact hb)]
      exact e
    refine wpAny_pure ⟨plainId_quiet PyProof.Rows.F.plain_set_update_loop _, ih (i + 1) _ (by omega) hlt (W.frame _ s1 _ _ hst1 (Nat.le_succ _) keepI) (SetMet.next hx hS2) fun s3 mv3 hS3 => ?_⟩
    refine hR s3 (Moved.trans W.gtrans ((mv.mono wide).then_heap (Nat.le_succ _) fun b o hb e => ?_) mv3) hS3
    rw [sb.2 b fun z => hb (by rw [z]; exact List.mem_cons_self)]
    exact e
end

section
variable {prog : Program} {w : World} {A : Around} {E : Value → Shared → Prop} {s : Shared}
theorem texts_at {us : List Value} : ∀ {xs : List Str}, Vals (xs.map V.str) us → ∀ (i : Nat) (v : Value), us[i]? = some v → ∃ x t, xs[i]? = some x ∧ v = .str x t := by
  intro xs r i v h
  cases e : xs[i]? with
  | none =>
    have h1 : (xs.map V.str)[i]? = none := by rw [List.getElem?_map, e]; rfl
    rw [r.none_of h1] at h
    cases h
  | some x =>
    obtain ⟨u, h1, h2⟩ := r.get (i := i) (x := V.str x) (by rw [List.getElem?_map, e]; rfl)
    rw [h] at h1
    obtain rfl : v = u := Option.some.inj h1
    obtain ⟨t, e2⟩ := h2
    exact ⟨x, t, rfl, e2⟩
/-- set(l), l a list of texts -/
theorem call_set_texts {l : Addr} {us : List Value} {xs : List Str} {Q : Value → Shared → Prop} (hh : A.handled = none) (hl : s.heap.IsList l us.toArray) (hi : Vals (xs.map V.str) us) (hb : xs.length + 1 < scanBound)
    (h : ∀ (h' : Heap) (tk : Nat), SetMet prog w h' s.heap.objs.size xs xs.length → (∀ b o, b < s.heap.objs.size → s.heap.get? b = some o → h'.get? b = some o) → Q (.ref s.heap.objs.size) { s with heap := h', toks := tk }) :
    wpAny (model prog w) A (call (.type "set") [.ref l]) Q E s := by
  have sz : xs.length = us.toArray.size := by
    rw [List.size_toArray, ← hi.length, List.length_map]
  obtain ⟨c, tl, hmro⟩ := PySem.F.called_set.mro
  have hmade := PySem.F.called_set.made
  have hsub := PySem.F.called_set.sub
  have h1 := PySem.F.called_set.notType
  have h2 := PySem.F.called_set.canCreate
  have hct := PySem.F.typeCall_set_1 (.ref l)
  have hli := PySem.F.called_set.init.lookup
  have hbi := PySem.F.called_set.init.bind (.ref s.heap.objs.size)
  refine wpAny_call (codeAny_of_tree ?_)
  show wpAny _ _ (callAny (.type "set") _) _ _ _
  refine wpAny_pure ⟨Code.quiet_builtin _ (by decide +kernel), codeAny_builtin PySem.F.entry_type_call ?_⟩
  rw [Around.under_plain (weight_type_call_type "set" [.ref l] []) rfl]
  repeat (any_goals (first | assumption | wp_step))
  refine codeAny_mono (code_set_new_1 (.ref l) (E := E) (Q₁ := fun obj s1 => ∃ led : Bool, obj = .ref s.heap.objs.size ∧ s1 = { s with heap := s.heap.push { cls := .type "set", dict := none, data := .set #[] 0 (.fresh 0 0 led) } }) fun led => ⟨led, rfl, rfl⟩) fun r s1 hr => ?_
  cases r with
  | error e => exact hr
  | ok fl =>
    cases fl with
    | next => exact hr.elim
    | brk => exact hr.elim
    | cont => exact hr.elim
    | ret obj =>
      obtain ⟨led, rfl, rfl⟩ := hr
      -- the empty set stands at the heap's end
      generalize hg : s.heap.push { cls := .type "set", dict := none, data := .set #[] 0 (.fresh 0 0 led) } = g
      have gS : g.get? s.heap.objs.size = some { cls := .type "set", dict := none, data := .set #[] 0 (.fresh 0 0 led) } := by
        rw [← hg]
        exact Heap.get?_push_size _ rfl
      have gold : ∀ b o, s.heap.get? b = some o → g.get? b = some o := fun b o e => by
        rw [← hg]
        exact Heap.get?_push_of_some _ e
      have gsz : g.objs.size = s.heap.objs.size + 1 := by
        rw [← hg, Heap.size_push]
      have hT : Shared.TypeIs { s with heap := g } (.ref s.heap.objs.size) "set" := ⟨_, gS, rfl⟩
      repeat (any_goals (first | assumption | wp_step))
      refine codeAny_mono (codeAny_call_builtin (R := wants (fun r s2 => r = .none ∧ ∃ h' tk, s2 = { s with heap := h', toks := tk } ∧ SetMet prog w h' s.heap.objs.size xs xs.length ∧
          (∀ b o, b < s.heap.objs.size → s.heap.get? b = some o → h'.get? b = some o)) E) PySem.F.called_set.init.plain PySem.F.entry_set_init (check_set_init_1 hT ?_)) fun r2 s2 hr2 => ?_
      · obtain ⟨⟨oc, od, dt, sl⟩, hol, hcl, nl, hdl⟩ := hl
        simp only at hcl hdl
        subst hcl hdl
        have gl : g.get? l = some { cls := .type "list", dict := od, data := .seq us.toArray nl, slots := sl } := gold _ _ hol
        have hsls := PySem.F.sub_list_set
        have hslf := PySem.F.sub_list_frozenset
        have hne : (Value.type "list" == Value.type "dict") = false := by decide
        have gL : g.IsList l us.toArray := ⟨_, gl, rfl, nl, rfl⟩
        unfold Builtin.«set.__init__» noKeywords Builtin.Frozenset.updateFrom
        generalize hPI : pyIter = PI
        wp_walk
        subst hPI
        refine wpAny_pyIter_list gL (wpAny_bind (wpAny_runValue ?_))
        have lS : l < s.heap.objs.size := Heap.lt_size hol
        have hh3 : A.in1.in1.in1.handled = none := by simp [hh]
        have lI : l ≠ g.objs.size := by
          rw [gsz]
          exact Nat.ne_of_lt (Nat.lt_succ_of_lt lS)
        have SI : s.heap.objs.size ∉ [g.objs.size, l] := by
          simp only [List.mem_cons, List.not_mem_nil, or_false, not_or]
          rw [gsz]
          exact ⟨Nat.ne_of_lt (Nat.lt_succ_self _), Nat.ne_of_gt lS⟩
        have hval : ∀ (i : Nat) (v : Value), us.toArray[i]? = some v → ∃ x t, xs[i]? = some x ∧ v = .str x t := fun i v e => texts_at hi i v (by simpa using e)
        have start : (g.push { cls := .type "list_iterator", data := .fields #[.ref l, .int 0 0] }).get? s.heap.objs.size = some { cls := .type "set", dict := none, data := .set #[] 0 (.fresh 0 0 led) } := Heap.get?_push_of_some _ gS
        refine loop_texts ((Walks.list hh3 _ l lI us.toArray).toS) s.heap.objs.size SI xs sz hval (by rw [← sz]; exact hb) (us.toArray.size - 0) 0 _ (by omega) (Nat.zero_le _)
          ⟨⟨_, Heap.get?_push_size _ rfl, rfl, rfl⟩, gL.push _⟩ ?first ?last
        case first =>
          exact PyProof.Rows.SetOf_congr ((PyProof.Rows.setObjOf_fresh (knd := PySem.strKind prog w) led).setOf start (by unfold scanBound; omega)) (fun _ => rfl) rfl
        case last =>
          intro s3 mv hS
          rw [← sz] at hS
          obtain ⟨h3, g3, d3, t3, o3⟩ := s3
          obtain rfl : g3 = s.gens := mv.gens
          obtain rfl : d3 = s.drawn := mv.drawn
          obtain rfl : o3 = s.os := mv.os
          show wpAny _ _ _ _ _ _
          refine wpAny_pure ?_
          show wpAny _ _ (ret Value.none) _ _ _
          refine wpAny_pure ⟨rfl, h3, t3, rfl, hS, fun b o hb e => ?_⟩
          refine mv.heap b o ?_ (Heap.get?_push_of_some _ (gold b o e))
          simp only [List.mem_cons, List.not_mem_nil, or_false, not_or]
          rw [gsz]
          exact ⟨Nat.ne_of_lt hb, Nat.ne_of_lt (Nat.lt_succ_of_lt hb)⟩
      · cases r2 with
        | error e => exact hr2
        | ok fl2 =>
          cases fl2 with
          | next => exact hr2.elim
          | brk => exact hr2.elim
          | cont => exact hr2.elim
          | ret r =>
            obtain ⟨rfl, h3, t3, rfl, hS, hk⟩ := hr2
            repeat (any_goals (first | assumption | wp_step))
            exact h _ _ hS hk
end
end Wf

/-! K12C: the rule for len(set(xs)) of texts; spots and lists of spots in the heap. -/
namespace Wf
open PySem PySem.Spec PyProof.Rows L2
section
variable {X : Cx}
/-- len(set(a)), a a list of texts -/
def tLenSetS (K : PySem.W.Frag) (ta : TE) : TE := fun σ H Q => ta σ H fun x H1 => ∃ (l : Addr) (xs : List Str), x = V.ref l ∧ SqL K H1 l (xs.map V.str) ∧ xs.length < 1000 ∧ Q (.int ((metD xs).length : Nat)) H1
theorem pe_lenSetS {a : Expr} {ta : TE} {p p2 q pos : Pos} (hc : X.calm = true) (hg : Gl X "len") (hm : X.mg "len" = none) (hg2 : Gl X "set") (hm2 : X.mg "set" = none) (ha : PE X a ta)
    (na : starEach [a] X.env = (false, eval a X.env) :: starEach [] X.env := by rfl) : PE X (.Call (.Name "len" p) [.Call (.Name "set" p2) [a] [] q] [] pos) (tLenSetS X.K ta) := by
  constructor
  intro pins s σ H Q I h
  refine Call_ (ld_blt I hg hm PySem.boot_len (PyProof.Rows.callWith_builtin1 (PyProof.Rows.args_cons ?_ rfl) rfl rfl))
  refine Call_ (ld_blt I hg2 hm2 PyProof.Rows.boot_set (PyProof.Rows.callWith_type1 (PyProof.Rows.args_cons (thn (ha.run pins s σ H _ I h) fun v s1 hh => PyProof.Rows.args_nil ?_) na) na rfl))
  obtain ⟨x, H1, I1, r1, l, xs, rfl, hl, hn, q1⟩ := hh
  cases (show v = Value.ref l from r1)
  obtain ⟨us, r, pl, _⟩ := I1.list hl
  refine call_set_texts (I1.ok.hd hc) pl.isList r (by unfold scanBound; omega) fun h' tk hS hk => PyProof.Rows.args_nil ?_
  obtain ⟨o, es, ep, t, ho, hex, hd, _, _, _, hf, hlen⟩ := hS
  rw [List.take_length] at hlen
  have I2 : Inv X pins σ H1 { s1 with heap := h', toks := tk } := I1.kept fun b o e => hk b o (Heap.lt_size e) e
  have le := metD_le xs
  exact call_len_set ho hex hd hf (by rw [hlen]; omega) ⟨.int ((metD xs).length : Nat), H1, I2.tok _, ⟨_, by rw [hlen]⟩, q1⟩
end
end Wf

/-! K12D: the text by places; what the classes, names and built-ins are (Txt); spots, things, a floor in the heap. -/
namespace Wf
open PySem PySem.Spec PyProof.Rows L2

def top (i : Nat) : Stmt := PySem.Challenge.pw_wirefloor_k12_board.main.body.getD i (.Pass ⟨0, 0, 0, 0⟩)

/-! ### spots -/
abbrev Spot := Int × Int × Int
def sv (s : Spot) : List V := [.int s.1, .int s.2.1, .int s.2.2]
def spI (s : Spot) : List Int := [s.1, s.2.1, s.2.2]
theorem sv_ints (s : Spot) : (spI s).map V.int = sv s := rfl
/-- a spot's k-th number -/
def co (s : Spot) : Nat → Int
  | 0 => s.1
  | 1 => s.2.1
  | _ => s.2.2
theorem sv_at (s : Spot) {k : Nat} (h : k < 3) : (sv s)[k]? = some (.int (co s k)) := by
  match k, h with
  | 0, _ => rfl
  | 1, _ => rfl
  | 2, _ => rfl
theorem sv_atI (s : Spot) {k : Nat} (h : k < 3) : atI (sv s) (k : Int) = some (.int (co s k)) := atI_nat (sv_at s h)
/-- the tuple of a spot stands at a -/
def SpotAt (H : Hp) (a : Addr) (s : Spot) : Prop := H a = some (.tup (sv s))
abbrev SpotsAt (H : Hp) (as : List Addr) (ss : List Spot) : Prop := Paired (SpotAt H) as ss
def ListAt (H : Hp) (l : Addr) (ss : List Spot) : Prop := ∃ as : List Addr, H l = some (.lst (as.map V.ref)) ∧ SpotsAt H as ss
def TupAt (H : Hp) (l : Addr) (ss : List Spot) : Prop := ∃ as : List Addr, H l = some (.tup (as.map V.ref)) ∧ SpotsAt H as ss
theorem SpotAt.mono {H H' : Hp} {a : Addr} {s : Spot} (e : Same H H') (h : SpotAt H a s) : SpotAt H' a s := e _ _ h
theorem SpotsAt.mono {H H' : Hp} {as : List Addr} {ss : List Spot} (e : Same H H') (h : SpotsAt H as ss) : SpotsAt H' as ss := Paired.mapP h fun _ _ z => z.mono e
theorem ListAt.mono {H H' : Hp} {l : Addr} {ss : List Spot} (e : Same H H') (h : ListAt H l ss) : ListAt H' l ss := by
  obtain ⟨as, h1, h2⟩ := h
  exact ⟨as, e _ _ h1, h2.mono e⟩
theorem TupAt.mono {H H' : Hp} {l : Addr} {ss : List Spot} (e : Same H H') (h : TupAt H l ss) : TupAt H' l ss := by
  obtain ⟨as, h1, h2⟩ := h
  exact ⟨as, e _ _ h1, h2.mono e⟩
theorem Paired.at {α β : Type} {F : α → β → Prop} : ∀ {as : List α} {bs : List β}, Paired F as bs → ∀ {i : Nat} {a : α}, as[i]? = some a → ∃ b, bs[i]? = some b ∧ F a b
  | _, _, .nil, i, a, h => by simp at h
  | _, _, .cons r t, 0, a, h => by
    simp at h
    subst h
    exact ⟨_, rfl, r⟩
  | _, _, .cons r t, i + 1, a, h => by
    obtain ⟨b, h1, h2⟩ := Paired.at t (i := i) (a := a) (by simpa using h)
    exact ⟨b, by simpa using h1, h2⟩
theorem Paired.at2 {α β : Type} {F : α → β → Prop} : ∀ {as : List α} {bs : List β}, Paired F as bs → ∀ {i : Nat} {b : β}, bs[i]? = some b → ∃ a, as[i]? = some a ∧ F a b
  | _, _, .nil, i, a, h => by simp at h
  | _, _, .cons r t, 0, a, h => by
    simp at h
    subst h
    exact ⟨_, rfl, r⟩
  | _, _, .cons r t, i + 1, a, h => by
    obtain ⟨b, h1, h2⟩ := Paired.at2 t (i := i) (b := a) (by simpa using h)
    exact ⟨b, by simpa using h1, h2⟩
theorem Paired.snoc {α β : Type} {F : α → β → Prop} : ∀ {as : List α} {bs : List β} {a : α} {b : β}, Paired F as bs → F a b → Paired F (as ++ [a]) (bs ++ [b])
  | _, _, _, _, .nil, h => .cons h .nil
  | _, _, _, _, .cons r t, h => .cons r (Paired.snoc t h)
theorem Paired.app {α β : Type} {F : α → β → Prop} : ∀ {as as' : List α} {bs bs' : List β}, Paired F as bs → Paired F as' bs' → Paired F (as ++ as') (bs ++ bs')
  | _, _, _, _, .nil, h => h
  | _, _, _, _, .cons r t, h => .cons r (Paired.app t h)
theorem Paired.tk {α β : Type} {F : α → β → Prop} : ∀ {as : List α} {bs : List β} (n : Nat), Paired F as bs → Paired F (as.take n) (bs.take n)
  | _, _, 0, _ => .nil
  | _, _, _ + 1, .nil => .nil
  | _, _, n + 1, .cons r t => .cons r (Paired.tk n t)
theorem Paired.dr {α β : Type} {F : α → β → Prop} : ∀ {as : List α} {bs : List β} (n : Nat), Paired F as bs → Paired F (as.drop n) (bs.drop n)
  | _, _, 0, h => h
  | _, _, _ + 1, .nil => .nil
  | _, _, n + 1, .cons r t => Paired.dr n t
theorem map_at {as : List Addr} {i : Nat} {y : V} (h : (as.map V.ref)[i]? = some y) : ∃ a, as[i]? = some a ∧ y = V.ref a := by
  rw [List.getElem?_map] at h
  cases e : as[i]? with
  | none =>
    rw [e] at h
    cases h
  | some a =>
    rw [e] at h
    exact ⟨a, rfl, (Option.some.inj h).symm⟩
theorem Same.new {H : Hp} {p : Addr} {o : HO} (h : H p = none) : Same H (upd H p o) := fun b u e => by
  rw [upd_ne (ne_of_none e h)]
  exact e
/-- an object that H does not know is written -/
theorem Same.mut {H H' : Hp} {p : Addr} {o : HO} (e : Same H H') (h : H p = none) : Same H (upd H' p o) := fun b u q => by
  rw [upd_ne (ne_of_none q h)]
  exact e b u q

/-! ### things -/
structure Th where
  bundle : Bool
  name : Str
  half : Int
  room : Int
  one : List Spot
  two : List Spot
def Th.ends (t : Th) : List Spot := t.one ++ t.two
abbrev cFl (K : PySem.W.Frag) : Addr := He.ga K "Floor"
abbrev cTh (K : PySem.W.Frag) : Addr := He.ga K "Thing"
abbrev cNe (K : PySem.W.Frag) : Addr := He.ga K "Net"
abbrev cBu (K : PySem.W.Frag) : Addr := He.ga K "Bundle"
abbrev cBo (K : PySem.W.Frag) : Addr := He.ga K "Board"
def netF (t : Th) (a : Addr) : List (Str × V) := [("name", V.str t.name), ("half", V.int t.half), ("room", V.int t.room), ("pins", V.ref a)]
def bunF (t : Th) (a b : Addr) : List (Str × V) := [("name", V.str t.name), ("half", V.int t.half), ("room", V.int t.room), ("starts", V.ref a), ("goals", V.ref b)]
/-- the thing t stands at x -/
def ThAt (K : PySem.W.Frag) (H : Hp) (x : Addr) (t : Th) : Prop :=
  (t.bundle = false ∧ t.two = [] ∧ ∃ dx a, H x = some (.ins (cNe K) dx (netF t a)) ∧ TupAt H a t.one) ∨
  (t.bundle = true ∧ ∃ dx a b, H x = some (.ins (cBu K) dx (bunF t a b)) ∧ TupAt H a t.one ∧ TupAt H b t.two)
theorem ThAt.mono {K : PySem.W.Frag} {H H' : Hp} {x : Addr} {t : Th} (e : Same H H') (h : ThAt K H x t) : ThAt K H' x t := by
  rcases h with ⟨h1, h2, dx, a, h3, h4⟩ | ⟨h1, dx, a, b, h3, h4, h5⟩
  · exact .inl ⟨h1, h2, dx, a, e _ _ h3, h4.mono e⟩
  · exact .inr ⟨h1, dx, a, b, e _ _ h3, h4.mono e, h5.mono e⟩
abbrev ThsAt (K : PySem.W.Frag) (H : Hp) (xs : List Addr) (ts : List Th) : Prop := Paired (ThAt K H) xs ts
theorem ThsAt.mono {K : PySem.W.Frag} {H H' : Hp} {xs : List Addr} {ts : List Th} (e : Same H H') (h : ThsAt K H xs ts) : ThsAt K H' xs ts := Paired.mapP h fun _ _ z => z.mono e

/-! ### a floor -/
def skey (s : Spot) : List Key := [.inl s.1, .inl s.2.1, .inl s.2.2]
theorem skey_v (s : Spot) : (skey s).map kV = sv s := rfl
def floorF (a b c d e : Addr) : List (Str × V) := [("sizes", V.ref a), ("by_layer", V.ref b), ("by_via", V.ref c), ("rocks", V.ref d), ("tolls", V.ref e)]
/-- a floor of these sizes and rocks stands at x -/
def FlAt (K : PySem.W.Frag) (H : Hp) (x : Addr) (sz : Spot) (rs : List Spot) : Prop :=
  ∃ dx a b c d e kvs, H x = some (.ins (cFl K) dx (floorF a b c d e)) ∧ SpotAt H a sz ∧ H d = some (.dT kvs) ∧ ∀ s : Spot, (valV kvs (skey s)).isSome = decide (s ∈ rs)
theorem FlAt.mono {K : PySem.W.Frag} {H H' : Hp} {x : Addr} {sz : Spot} {rs : List Spot} (e : Same H H') (h : FlAt K H x sz rs) : FlAt K H' x sz rs := by
  obtain ⟨dx, a, b, c, d, q, kvs, h1, h2, h3, h4⟩ := h
  exact ⟨dx, a, b, c, d, q, kvs, e _ _ h1, h2.mono e, e _ _ h3, h4⟩

/-! ### what the top has written -/
def due3 : List Str := ["Twice", "NoFit", "Crowded"]
def due5 : List Str := ["Twice", "NoFit", "Crowded", "BadThing", "OutOfFloor"]
structure Txt (K : PySem.W.Frag) (mg : Str → Option Value) : Prop where
  range : mg "range" = none
  len : mg "len" = none
  max : mg "max" = none
  min : mg "min" = none
  abs : mg "abs" = none
  set : mg "set" = none
  list : mg "list" = none
  tuple : mg "tuple" = none
  dict : mg "dict" = none
  isinstance : mg "isinstance" = none
  vMOST_LAYERS : ∃ u, mg "MOST_LAYERS" = some u ∧ RelV (.int 4) u
  vMOST_ACROSS : ∃ u, mg "MOST_ACROSS" = some u ∧ RelV (.int 16) u
  vDEAREST : ∃ u, mg "DEAREST" = some u ∧ RelV (.int 1000000000000) u
  vLETTERS : ∃ u, mg "LETTERS" = some u ∧ RelV (.str "abcdefghijklmnopqrstuvwxyz") u
  vFIGURES : ∃ u, mg "FIGURES" = some u ∧ RelV (.str "0123456789") u
  clF : Cls K (cFl K)
  nF : ∀ f ∈ (["sizes", "by_layer", "by_via", "rocks", "tolls"] : List Str), NoAttr K (cFl K) f
  clN : Cls K (cNe K)
  nN : ∀ f ∈ (["name", "half", "room", "pins"] : List Str), NoAttr K (cNe K) f
  clB : Cls K (cBu K)
  nB : ∀ f ∈ (["name", "half", "room", "starts", "goals"] : List Str), NoAttr K (cBu K) f
  clD : Cls K (cBo K)
  nD : ∀ f ∈ (["floor", "kept"] : List Str), NoAttr K (cBo K) f
  gThing : mg "Thing" = some (.ref (cTh K))
  crT : ClX.CRead K (cTh K) (.type "type")
  cvT : PySem.W.findCls K (.ref (cTh K)) (.type "type") "__init__" = some (.val (.ref (He.ma K (cTh K) "__init__")))
  xTwice : PySem.W.excIn K (He.ga K "Twice") He.veBase "ValueError.__new__" = true
  gTwice : mg "Twice" = some (.ref (He.ga K "Twice"))
  kTwice : PySem.W.keepIn K (.ref (He.ga K "Twice")) = true
  bTwice : PySem.W.subIn K (.ref (He.ga K "Twice")) (.type "BaseException") = some true
  tTwice : PySem.W.typeIn K (.ref (He.ga K "Twice")) = some (.type "type")
  xNoFit : PySem.W.excIn K (He.ga K "NoFit") He.veBase "ValueError.__new__" = true
  gNoFit : mg "NoFit" = some (.ref (He.ga K "NoFit"))
  kNoFit : PySem.W.keepIn K (.ref (He.ga K "NoFit")) = true
  bNoFit : PySem.W.subIn K (.ref (He.ga K "NoFit")) (.type "BaseException") = some true
  tNoFit : PySem.W.typeIn K (.ref (He.ga K "NoFit")) = some (.type "type")
  xCrowded : PySem.W.excIn K (He.ga K "Crowded") He.veBase "ValueError.__new__" = true
  gCrowded : mg "Crowded" = some (.ref (He.ga K "Crowded"))
  kCrowded : PySem.W.keepIn K (.ref (He.ga K "Crowded")) = true
  bCrowded : PySem.W.subIn K (.ref (He.ga K "Crowded")) (.type "BaseException") = some true
  tCrowded : PySem.W.typeIn K (.ref (He.ga K "Crowded")) = some (.type "type")
  gWireError : mg "WireError" = some (.ref (He.ga K "WireError"))
  gBadThing : mg "BadThing" = some (.ref (He.ga K "BadThing"))
  gOutOfFloor : mg "OutOfFloor" = some (.ref (He.ga K "OutOfFloor"))
  blt : mg "ValueError" = none
  exm : ∀ D ∈ due3, PySem.W.exmOne K (.ref (He.ga K D)) (.ref (He.ga K "WireError")) = some true
  exc : ∀ D ∈ due3, ExcC K (He.ga K D)
  kit : ∀ D ∈ due3, ∀ E ∈ due5, PySem.W.kitOne K (.ref (He.ga K D)) (.ref (He.ga K E)) = some (decide (D = E))
  kitV : ∀ D ∈ due3, PySem.W.kitOne K (.ref (He.ga K D)) (.type "ValueError") = some true

/-- what of a thing is read alike, whatever its class -/
structure ThV (K : PySem.W.Frag) (H : Hp) (x : Addr) (t : Th) (C dx : Addr) (fs : List (Str × V)) : Prop where
  at_ : H x = some (.ins C dx fs)
  cl : Cls K C
  nn : NoAttr K C "name"
  nh : NoAttr K C "half"
  nr : NoAttr K C "room"
  ln : fs.lookup ("name" : Str) = some (V.str t.name)
  lh : fs.lookup ("half" : Str) = some (V.int t.half)
  lr : fs.lookup ("room" : Str) = some (V.int t.room)
  le : fs.lookup ("ends" : Str) = none
theorem ThAt.v {K : PySem.W.Frag} {mg : Str → Option Value} {H : Hp} {x : Addr} {t : Th} (T : Txt K mg) (h : ThAt K H x t) : ∃ C dx fs, ThV K H x t C dx fs := by
  rcases h with ⟨h1, h2, dx, a, h3, h4⟩ | ⟨h1, dx, a, b, h3, h4, h5⟩
  · exact ⟨_, dx, _, h3, T.clN, T.nN _ (by simp), T.nN _ (by simp), T.nN _ (by simp), rfl, rfl, rfl, rfl⟩
  · exact ⟨_, dx, _, h3, T.clB, T.nB _ (by simp), T.nB _ (by simp), T.nB _ (by simp), rfl, rfl, rfl, rfl⟩

/-! ### a def of the text and its promise -/
abbrev FnP (K : PySem.W.Frag) (x q : Str) (st : Stmt) (f : Addr) (fd : FuncData) : Prop := FunD K x q (defArgs st) (defBody st) (defScope st) [] [] f fd
abbrev BindP (x q : Str) (st : Stmt) (ps : List Str) : Prop := ∀ (kV doc pm : Value) (an : Option Addr) (cdv ct : Value) (us : List Value), us.length = ps.length →
  bindArgs (PySem.W.fnOf x q (defArgs st) (defBody st) (defScope st) .none kV doc pm an cdv ct) ⟨us, []⟩ = pure (ps.zip us)
section
variable {P : Program} {w : World} {K : PySem.W.Frag} {mg : Str → Option Value} {base : Heap}
theorem fn_mk {x q : Str} {st : Stmt} {f : Addr} {fd : FuncData} {dvs : List V} {N ps : List Str} {k : Nat} {sp : Sp} (F : FunD K x q (defArgs st) (defBody st) (defScope st) dvs [] f fd) (S : FnScope N ps (defScope st)) (len : ∀ vs H Q E, sp vs H Q E → vs.length = ps.length)
    (hbody : ∀ (cdv : Value) (A : Around) (outer : List Env) (s : Shared) (H : Hp) (vs : List V) (Q : VK) (E : XK), Room k (A.deeper (envOfC q (defScope st) s.heap.objs.size f cdv)) → sp vs H Q E →
      ∃ t, PSs (cxOf C8.CX0 P w K mg base N q (defScope st) f cdv A outer s H E).nox (defBody st) t ∧ t { nx := fun _ H' => Q .non H', rt := Q } (start N vs) H) : FnOk P w K mg base C8.CX0 (k + 1) f fd ps sp := by
  refine F.ok S len fun cdv A outer s H vs Q E hr h => ?_
  obtain ⟨t, h1, h2⟩ := hbody cdv A outer s H vs Q E hr h
  exact ⟨t, h1.nox, h2⟩
theorem cal_mk {x : Str} {st : Stmt} {f : Addr} {fd : FuncData} {N ps : List Str} {k : Nat} {sp : Sp} (F : FnP K x x st f fd) (hm : mg x = some (.ref f)) (b : BindP x x st ps) (S : FnScope N ps (defScope st)) (len : ∀ vs H Q E, sp vs H Q E → vs.length = ps.length)
    (hbody : ∀ (cdv : Value) (A : Around) (outer : List Env) (s : Shared) (H : Hp) (vs : List V) (Q : VK) (E : XK), Room k (A.deeper (envOfC x (defScope st) s.heap.objs.size f cdv)) → sp vs H Q E →
      ∃ t, PSs (cxOf C8.CX0 P w K mg base N x (defScope st) f cdv A outer s H E).nox (defBody st) t ∧ t { nx := fun _ H' => Q .non H', rt := Q } (start N vs) H) : C8.Cal P w K mg base (k + 1) x sp [] :=
  ⟨f, fd, ps, [], fn_mk F S len hbody, hm, F.kp, F.bindsN b, .nil⟩
theorem met_mk {m q : Str} {C : Addr} {st : Stmt} {f : Addr} {fd : FuncData} {N ps : List Str} {k : Nat} {sp : Sp} (c : Cls K C) (me : Meth K C m f) (F : FnP K m q st f fd) (b : BindP m q st ps) (S : FnScope N ps (defScope st)) (len : ∀ vs H Q E, sp vs H Q E → vs.length = ps.length)
    (hbody : ∀ (cdv : Value) (A : Around) (outer : List Env) (s : Shared) (H : Hp) (vs : List V) (Q : VK) (E : XK), Room k (A.deeper (envOfC q (defScope st) s.heap.objs.size f cdv)) → sp vs H Q E →
      ∃ t, PSs (cxOf C8.CX0 P w K mg base N q (defScope st) f cdv A outer s H E).nox (defBody st) t ∧ t { nx := fun _ H' => Q .non H', rt := Q } (start N vs) H) : C8.Met P w K mg base (k + 1) C m sp [] :=
  ⟨f, fd, ps, [], c, me, fn_mk F S len hbody, F.bindsN b, .nil⟩
end
end Wf

/-! K12E: spots.py and what a floor tells: inside, apart, square, Floor.look, Floor.is_rock. -/
namespace Wf
open PySem PySem.Spec PyProof.Rows L2

/-! ### inside -/
def Inside (sz s : Spot) : Prop := (0 ≤ s.1 ∧ s.1 < sz.1) ∧ (0 ≤ s.2.1 ∧ s.2.1 < sz.2.1) ∧ (0 ≤ s.2.2 ∧ s.2.2 < sz.2.2)
instance (sz s : Spot) : Decidable (Inside sz s) := by unfold Inside; exact inferInstance
def spInside : Sp := fun vs H Q _ => ∃ (a b : Addr) (sz s : Spot), vs = [.ref a, .ref b] ∧ SpotAt H a sz ∧ SpotAt H b s ∧ ∀ H', Same H H' → Q (.bl (decide (Inside sz s))) H'
theorem inside_all {sz s : Spot} (h : ∀ k, k < 3 → 0 ≤ co s k ∧ co s k < co sz k) : Inside sz s := ⟨h 0 (by decide), h 1 (by decide), h 2 (by decide)⟩
theorem inside_co {sz s : Spot} (h : Inside sz s) {k : Nat} (hk : k < 3) : 0 ≤ co s k ∧ co s k < co sz k := by
  obtain ⟨h0, h1, h2⟩ := h
  match k, hk with
  | 0, _ => exact h0
  | 1, _ => exact h1
  | 2, _ => exact h2
section
variable {P : Program} {w : World} {K : PySem.W.Frag} {mg : Str → Option Value} {base : Heap}
abbrev s_inside : Stmt := top 11
theorem sc_inside : FnScope ["sizes", "spot", "k"] ["sizes", "spot"] (defScope s_inside) := ⟨rfl, rfl, rfl, by decide +kernel, rfl, by decide +kernel, by decide +kernel⟩
theorem c_inside {f : Addr} {fd : FuncData} (T : Txt K mg) (F : FnP K "inside" "inside" s_inside f fd) (hm : mg "inside" = some (.ref f)) : C8.Cal P w K mg base 1 "inside" spInside [] := by
  refine cal_mk F hm (fun _ _ _ _ _ _ us hl => match us, hl with | [_, _], _ => rfl) sc_inside (fun vs H Q E h => ?_) (fun cdv A outer s H vs Q E hr h => ?_)
  · obtain ⟨a, b, sz, s, rfl, _⟩ := h
    rfl
  · obtain ⟨a, b, sz, s, rfl, ha, hb, k⟩ := h
    refine ⟨_, (pss_cons (ps_for PassesOwn.never rfl (pi_range1 rfl T.range (pa_cons pe_int pa_nil)) (pg_name (i := 2) sc_inside.nd rfl (Or.inl rfl))
      (pss_one (ps_if (PW.pt (pw_or (pt_cmpR op_lt (pe_ix ix_tup (pv 1) (pv 2) (fun _ _ => rfl)) pe_int (nomark _)) (pw_or1 (pt_cmpR op_ge (pe_ix ix_tup (pv 1) (pv 2) (fun _ _ => rfl)) (pe_ix ix_tup (pv 0) (pv 2) (fun _ _ => rfl)) (nomark _))))) (pss_one (ps_ret pe_bl)) pss_nil)))
      (pss_one (ps_ret pe_bl))), ?_⟩
    refine ⟨3, rfl, by decide, by decide, for_range (n := 3) (fun i σ H1 => ∃ v, σ = [some (.ref a), some (.ref b), v] ∧ Same H H1 ∧ ∀ j, j < i → 0 ≤ co s j ∧ co s j < co sz j)
      ⟨none, rfl, Same.refl _, fun j hj => absurd hj (Nat.not_lt_zero j)⟩ ?_ ?_⟩
    · rintro i σ H1 hi ⟨v, rfl, s1, hj⟩
      refine ⟨_, rfl, _, rfl, b, _, _, _, rfl, rfl, SqT.of (hb.mono s1), at_of (j := i) (by omega) (sv_at s hi), _, _, rfl, rfl, _, rfl, ?_⟩
      refine ite2 (fun h0 => ?_) (fun h0 => ?_)
      · have e : ¬ Inside sz s := fun z => by
          have := (inside_co z hi).1
          have := of_decide_eq_true h0
          omega
        have q := k H1 s1
        rw [decide_eq_false e] at q
        exact iteT q
      · refine ⟨_, rfl, _, rfl, b, _, _, _, rfl, rfl, SqT.of (hb.mono s1), at_of (j := i) (by omega) (sv_at s hi), _, rfl, _, rfl, a, _, _, _, rfl, rfl, SqT.of (ha.mono s1), at_of (j := i) (by omega) (sv_at sz hi), _, _, rfl, rfl, _, rfl, ?_⟩
        refine ite2 (fun h1 => ?_) (fun h1 => ?_)
        · have e : ¬ Inside sz s := fun z => by
            have := (inside_co z hi).2
            have := of_decide_eq_true h1
            omega
          have q := k H1 s1
          rw [decide_eq_false e] at q
          exact q
        · refine ⟨_, rfl, s1, fun j hj' => ?_⟩
          by_cases e : j = i
          · subst e
            have h2 : ¬ co s j < 0 := fun z => h0 (decide_eq_true z)
            have h3 : ¬ co sz j ≤ co s j := fun z => h1 (decide_eq_true z)
            omega
          · exact hj j (by omega)
    · rintro σ H1 ⟨v, rfl, s1, hj⟩
      have q := k H1 s1
      rw [decide_eq_true (inside_all hj)] at q
      exact q

/-! ### apart -/
theorem dec_ne {i j : Int} (h : (!decide (V.int i = V.int j)) = true) : i ≠ j := fun e => by
  rw [e] at h
  simp at h
theorem dec_eq {i j : Int} (h : ¬ (!decide (V.int i = V.int j)) = true) : i = j := Classical.byContradiction fun e => h (by
  have q : ¬ V.int i = V.int j := fun z => e (V.int.inj z)
  rw [decide_eq_false q]
  rfl)
def ab (i : Int) : Int := if i < 0 then -i else i
def mx (i j : Int) : Int := if j > i then j else i
def mn (i j : Int) : Int := if j < i then j else i
theorem mx_le {i j : Int} : i ≤ mx i j ∧ j ≤ mx i j ∧ (mx i j = i ∨ mx i j = j) := by
  unfold mx
  split <;> omega
theorem mn_le {i j : Int} : mn i j ≤ i ∧ mn i j ≤ j ∧ (mn i j = i ∨ mn i j = j) := by
  unfold mn
  split <;> omega
theorem big_ok {x : Int} (h : -5000 ≤ x ∧ x ≤ 5000) : -(2 ^ 62) ≤ x ∧ x < 2 ^ 62 := by omega
def gap (s t : Spot) : Int := mx (ab (s.2.1 - t.2.1)) (ab (s.2.2 - t.2.2))
def spApart : Sp := fun vs H Q _ => ∃ (a b : Addr) (s t : Spot), vs = [.ref a, .ref b] ∧ SpotAt H a s ∧ SpotAt H b t ∧ ∀ H', Same H H' → (s.1 ≠ t.1 → Q .non H') ∧ (s.1 = t.1 → Q (.int (gap s t)) H')
abbrev s_apart : Stmt := top 12
theorem sc_apart : FnScope ["one", "two"] ["one", "two"] (defScope s_apart) := ⟨rfl, rfl, rfl, by decide +kernel, rfl, by decide +kernel, by decide +kernel⟩
theorem c_apart {f : Addr} {fd : FuncData} (T : Txt K mg) (F : FnP K "apart" "apart" s_apart f fd) (hm : mg "apart" = some (.ref f)) : C8.Cal P w K mg base 1 "apart" spApart [] := by
  refine cal_mk F hm (fun _ _ _ _ _ _ us hl => match us, hl with | [_, _], _ => rfl) sc_apart (fun vs H Q E h => ?_) (fun cdv A outer s0 H vs Q E hr h => ?_)
  · obtain ⟨a, b, s, t, rfl, _⟩ := h
    rfl
  · obtain ⟨a, b, s, t, rfl, ha, hb, k⟩ := h
    have k := k H (Same.refl _)
    refine ⟨_, (pss_cons (ps_if (pt_cmpR op_ne (pe_ix ix_tup (pv 0) pe_int (fun _ _ => rfl)) (pe_ix ix_tup (pv 1) pe_int (fun _ _ => rfl)) (nomark _)) (pss_one (ps_ret pe_non)) pss_nil)
      (pss_one (ps_ret (pe_callB (call_max2 rfl) (by rfl) T.max (by decide +kernel) (pa_cons (pe_callB call_abs (by rfl) T.abs (by decide +kernel) (pa_cons (pe_op op_sub (pe_ix ix_tup (pv 0) pe_int (fun _ _ => rfl)) (pe_ix ix_tup (pv 1) pe_int (fun _ _ => rfl))) pa_nil)) (pa_cons (pe_callB call_abs (by rfl) T.abs (by decide +kernel) (pa_cons (pe_op op_sub (pe_ix ix_tup (pv 0) pe_int (fun _ _ => rfl)) (pe_ix ix_tup (pv 1) pe_int (fun _ _ => rfl))) pa_nil)) pa_nil)))))), ?_⟩
    refine ⟨_, rfl, a, _, _, _, rfl, rfl, SqT.of ha, rfl, _, rfl, b, _, _, _, rfl, rfl, SqT.of hb, rfl, rfl, _, rfl, ?_⟩
    refine ite2 (fun h => k.1 (dec_ne h)) (fun h => ?_)
    refine ⟨_, rfl, a, _, _, _, rfl, rfl, SqT.of ha, rfl, _, rfl, b, _, _, _, rfl, rfl, SqT.of hb, rfl, _, _, rfl, rfl, _, rfl, _, rfl, a, _, _, _, rfl, rfl, SqT.of ha, rfl, _, rfl, b, _, _, _, rfl, rfl, SqT.of hb, rfl, _, _, rfl, rfl, _, rfl, _, _, rfl, ?_⟩
    exact k.2 (dec_eq h)

/-! ### a list of spots grows -/
structure Grow (H H1 : Hp) (l : Addr) (ss : List Spot) : Prop where
  same : Same H H1
  fresh : H l = none
  lst : ListAt H1 l ss
theorem SpotsAt.off {H : Hp} {l : Addr} {xs : List V} {o : HO} {as : List Addr} {ss : List Spot} (hl : H l = some (.lst xs)) (h : SpotsAt H as ss) : SpotsAt (upd H l o) as ss :=
  Paired.mapP h fun a s z => by
    have ne : a ≠ l := ne_of (show H a = some _ from z) hl (fun q => by cases q)
    show upd H l o a = _
    rw [upd_ne ne]
    exact z
theorem Grow.start {H H1 : Hp} {l : Addr} (e : Same H H1) (h : H1 l = none) : Grow H (upd H1 l (.lst [])) l [] := ⟨fun b o q => by rw [upd_ne (ne_of_none (e b o q) h)]; exact e b o q, e.free h, [], upd_same, .nil⟩
theorem grow_more {H H1 : Hp} {l t : Addr} {as : List Addr} {ss : List Spot} {s : Spot} (e : Same H H1) (hf : H l = none) (h1 : H1 l = some (.lst (as.map V.ref))) (h2 : SpotsAt H1 as ss) (ht : H1 t = none) :
    Grow H (upd (upd H1 t (.tup (sv s))) l (.lst (as.map V.ref ++ [V.ref t]))) l (ss ++ [s]) := by
  have nlt : l ≠ t := ne_of_none h1 ht
  have e2 : Same H1 (upd H1 t (.tup (sv s))) := Same.new ht
  refine ⟨Same.mut (e.trans e2) hf, hf, as ++ [t], ?_, ?_⟩
  · rw [upd_same, List.map_append]
    rfl
  · refine Paired.snoc (SpotsAt.off (e2 _ _ h1) (h2.mono e2)) ?_
    show upd _ _ _ t = _
    rw [upd_ne nlt.symm, upd_same]

/-! ### square -/
/-- what the square round s with the reach r holds -/
def InSq (sz s : Spot) (r : Int) (p : Spot) : Prop := p.1 = s.1 ∧ (0 ≤ p.2.1 ∧ s.2.1 - r ≤ p.2.1 ∧ p.2.1 < sz.2.1 ∧ p.2.1 ≤ s.2.1 + r) ∧ (0 ≤ p.2.2 ∧ s.2.2 - r ≤ p.2.2 ∧ p.2.2 < sz.2.2 ∧ p.2.2 ≤ s.2.2 + r)
def Small (s : Spot) : Prop := (-1000 ≤ s.2.1 ∧ s.2.1 ≤ 1000) ∧ (-1000 ≤ s.2.2 ∧ s.2.2 ≤ 1000)
def spSquare : Sp := fun vs H Q _ => ∃ (a b : Addr) (sz s : Spot) (r : Int), vs = [.ref a, .ref b, .int r] ∧ SpotAt H a sz ∧ SpotAt H b s ∧ Small sz ∧ Small s ∧ 0 ≤ r ∧ r ≤ 2 ∧
  ∀ (H' : Hp) (l : Addr) (ss : List Spot), Same H H' → ListAt H' l ss → (∀ p, p ∈ ss ↔ InSq sz s r p) → Q (.ref l) H'
abbrev s_square : Stmt := top 13
theorem sc_square : FnScope ["sizes", "spot", "reach", "layer", "row", "column", "found", "down", "along"] ["sizes", "spot", "reach"] (defScope s_square) := ⟨rfl, rfl, rfl, by decide +kernel, rfl, by decide +kernel, by decide +kernel⟩
theorem c_square {f : Addr} {fd : FuncData} (T : Txt K mg) (F : FnP K "square" "square" s_square f fd) (hm : mg "square" = some (.ref f)) : C8.Cal P w K mg base 1 "square" spSquare [] := by
  refine cal_mk F hm (fun _ _ _ _ _ _ us hl => match us, hl with | [_, _, _], _ => rfl) sc_square (fun vs H Q E h => ?_) (fun cdv A outer s0 H vs Q E hr h => ?_)
  · obtain ⟨a, b, sz, s, r, rfl, _⟩ := h
    rfl
  · obtain ⟨a, b, sz, s, r, rfl, ha, hb, ⟨hz1, hz2⟩, ⟨hs1, hs2⟩, hr0, hr2, k⟩ := h
    refine ⟨_, (pss_cons (ps_asg (pv 1) (pg_tup rfl (pgs_cons (pg_name (i := 3) sc_square.nd rfl (Or.inl rfl)) (pgs_cons (pg_name (i := 4) sc_square.nd rfl (Or.inl rfl)) (pgs_cons (pg_name (i := 5) sc_square.nd rfl (Or.inl rfl)) pgs_nil)))))
      (pss_cons (ps_set (i := 6) sc_square.nd rfl (Or.inl rfl) (pe_lst pa_nil))
      (pss_cons (ps_for PassesOwn.never rfl (pi_range2 rfl T.range (pa_cons (pe_callB (call_max2 rfl) (by rfl) T.max (by decide +kernel) (pa_cons pe_int (pa_cons (pe_op op_sub (pv 4) (pv 2)) pa_nil))) (pa_cons (pe_callB (call_min2 rfl) (by rfl) T.min (by decide +kernel) (pa_cons (pe_ix ix_tup (pv 0) pe_int (fun _ _ => rfl)) (pa_cons (pe_op op_add (pe_op op_add (pv 4) (pv 2)) pe_int) pa_nil))) pa_nil))) (pg_name (i := 7) sc_square.nd rfl (Or.inl rfl))
      (pss_one (ps_for PassesOwn.never rfl (pi_range2 rfl T.range (pa_cons (pe_callB (call_max2 rfl) (by rfl) T.max (by decide +kernel) (pa_cons pe_int (pa_cons (pe_op op_sub (pv 5) (pv 2)) pa_nil))) (pa_cons (pe_callB (call_min2 rfl) (by rfl) T.min (by decide +kernel) (pa_cons (pe_ix ix_tup (pv 0) pe_int (fun _ _ => rfl)) (pa_cons (pe_op op_add (pe_op op_add (pv 5) (pv 2)) pe_int) pa_nil))) pa_nil))) (pg_name (i := 8) sc_square.nd rfl (Or.inl rfl))
      (pss_one (ps_expr (pe_bm PySem.F.plainAttrs_list PySem.F.slot_list_append PySem.F.type_list_append mt_append (pv 6) (pa_cons (pe_tup (pa_cons (pv 3) (pa_cons (pv 7) (pa_cons (pv 8) pa_nil)))) pa_nil)))))))
      (pss_one (ps_ret (pv 6)))))), ?_⟩
    -- layer, row, column = spot; found = []
    refine ⟨_, rfl, b, _, rfl, SqT.of hb, rfl, _, _, rfl, _, _, rfl, _, _, rfl, rfl, Nat.zero_le _, fun l hl => ?_⟩
    have hx1 := @mx_le 0 (s.2.1 - r)
    have hx2 := @mx_le 0 (s.2.2 - r)
    have hn1 := @mn_le sz.2.1 (s.2.1 + r + 1)
    have hn2 := @mn_le sz.2.2 (s.2.2 + r + 1)
    generalize hlo1 : mx 0 (s.2.1 - r) = lo1 at hx1
    generalize hlo2 : mx 0 (s.2.2 - r) = lo2 at hx2
    generalize hhi1 : mn sz.2.1 (s.2.1 + r + 1) = hi1 at hn1
    generalize hhi2 : mn sz.2.2 (s.2.2 + r + 1) = hi2 at hn2
    have n1 : (hi1 - lo1).toNat ≤ 5 := by omega
    have n2 : (hi2 - lo2).toNat ≤ 5 := by omega
    -- for down in range(..)
    refine ⟨_, rfl, _, rfl, _, _, rfl, rfl, _, _, rfl, _, rfl, a, _, _, _, rfl, rfl, SqT.of (Same.new hl _ _ ha), rfl, _, rfl, _, rfl, _, _, rfl, rfl, _, _, rfl, rfl, _, _, rfl, lo1, hi1,
      (by rw [← hlo1, ← hhi1]; rfl), ⟨(big_ok (by omega)).1, (big_ok (by omega)).2, (big_ok (by omega)).1, (big_ok (by omega)).2⟩, for_range (lo := lo1) (n := (hi1 - lo1).toNat)
      (fun i σ H1 => ∃ v7 v8 ss, σ = [some (V.ref a), some (V.ref b), some (V.int r), some (V.int s.1), some (V.int s.2.1), some (V.int s.2.2), some (V.ref l), v7, v8] ∧ Grow H H1 l ss ∧ ss.length ≤ 8 * i ∧
        ∀ p : Spot, p ∈ ss ↔ p.1 = s.1 ∧ (lo1 ≤ p.2.1 ∧ p.2.1 < lo1 + (i : Int)) ∧ (lo2 ≤ p.2.2 ∧ p.2.2 < hi2)) ?_ ?_ ?_⟩
    · refine ⟨none, none, [], rfl, Grow.start (Same.refl H) hl, Nat.zero_le _, fun p => ⟨fun z => (by cases z), fun z => (by omega)⟩⟩
    · rintro i σ H1 hi ⟨v7, v8, ss, rfl, g, hlen, hmem⟩
      refine ⟨_, rfl, _, rfl, _, _, rfl, rfl, _, _, rfl, _, rfl, a, _, _, _, rfl, rfl, SqT.of (g.same _ _ ha), rfl, _, rfl, _, rfl, _, _, rfl, rfl, _, _, rfl, rfl, _, _, rfl, lo2, hi2,
        (by rw [← hlo2, ← hhi2]; rfl), ⟨(big_ok (by omega)).1, (big_ok (by omega)).2, (big_ok (by omega)).1, (big_ok (by omega)).2⟩, for_range (lo := lo2) (n := (hi2 - lo2).toNat)
        (fun j σ H2 => ∃ v8 ss, σ = [some (V.ref a), some (V.ref b), some (V.int r), some (V.int s.1), some (V.int s.2.1), some (V.int s.2.2), some (V.ref l), some (V.int (lo1 + (i : Int))), v8] ∧ Grow H H2 l ss ∧ ss.length ≤ 8 * i + j ∧
          ∀ p : Spot, p ∈ ss ↔ p.1 = s.1 ∧ (((lo1 ≤ p.2.1 ∧ p.2.1 < lo1 + (i : Int)) ∧ (lo2 ≤ p.2.2 ∧ p.2.2 < hi2)) ∨ (p.2.1 = lo1 + (i : Int) ∧ lo2 ≤ p.2.2 ∧ p.2.2 < lo2 + (j : Int)))) ?_ ?_ ?_⟩
      · refine ⟨_, ss, rfl, g, by omega, fun p => ?_⟩
        rw [hmem p]
        omega
      · rintro j σ H2 hj ⟨v8', ss2, rfl, g2, hlen2, hmem2⟩
        obtain ⟨as, h1, h2⟩ := g2.lst
        have la : as.length = ss2.length := Paired.length h2
        refine ⟨_, rfl, .inl ⟨rfl, _, SqL.of h1⟩, _, rfl, _, rfl, _, rfl, (by show 3 ≤ sizeLine; decide), fun t ht => ⟨l, _, _, rfl, rfl, Same.new ht _ _ h1, (by rw [List.length_map]; exact small1000 (by omega)), ?_⟩⟩
        refine ⟨_, ss2 ++ [(s.1, lo1 + (i : Int), lo2 + (j : Int))], rfl, grow_more (s := (s.1, lo1 + (i : Int), lo2 + (j : Int))) g2.same g2.fresh h1 h2 ht, ?_, fun p => ?_⟩
        · rw [List.length_append, List.length_singleton]
          omega
        · rw [List.mem_append, hmem2 p, List.mem_singleton]
          obtain ⟨p0, p1, p2⟩ := p
          simp only [Prod.mk.injEq]
          push_cast
          omega
      · rintro σ H2 ⟨v8', ss2, rfl, g2, hlen2, hmem2⟩
        refine ⟨_, _, ss2, rfl, g2, by omega, fun p => ?_⟩
        rw [hmem2 p]
        omega
    · rintro σ H1 ⟨v7, v8, ss, rfl, g, hlen, hmem⟩
      refine ⟨_, rfl, k H1 l ss g.same g.lst fun p => ?_⟩
      rw [hmem p]
      unfold InSq
      omega
end
end Wf

/-! K12F: Floor.look, Floor.is_rock, fits, clash, clash_any. -/
namespace Wf
open PySem PySem.Spec PyProof.Rows L2
section
variable {P : Program} {w : World} {K : PySem.W.Frag} {mg : Str → Option Value} {base : Heap}

/-! ### Floor.look, Floor.is_rock -/
def spLook (K : PySem.W.Frag) : Sp := fun vs H Q _ => ∃ (x b : Addr) (sz : Spot) (rs : List Spot) (s : Spot), vs = [.ref x, .ref b] ∧ FlAt K H x sz rs ∧ SpotAt H b s ∧ Inside sz s ∧ ∀ H', Same H H' → Q .non H'
abbrev s_look : Stmt := inClass (top 29) 1
theorem sc_Floor_look : FnScope ["self", "spot"] ["self", "spot"] (defScope s_look) := ⟨rfl, rfl, rfl, by decide +kernel, rfl, by decide +kernel, by decide +kernel⟩
theorem c_look {f : Addr} {fd : FuncData} (T : Txt K mg) (c_inside : C8.Cal P w K mg base 1 "inside" spInside []) (me : Meth K (cFl K) "look" f) (F : FnP K "look" "Floor.look" s_look f fd) : C8.Met P w K mg base 2 (cFl K) "look" (spLook K) [] := by
  refine met_mk T.clF me F (fun _ _ _ _ _ _ us hl => match us, hl with | [_, _], _ => rfl) sc_Floor_look (fun vs H Q E h => ?_) (fun cdv A outer s0 H vs Q E hr h => ?_)
  · obtain ⟨x, b, sz, rs, s, rfl, _⟩ := h
    rfl
  · obtain ⟨x, b, sz, rs, s, rfl, ⟨dx, a, b1, c1, d1, e1, kvs, hx, ha, hd, hk⟩, hb, hin, k⟩ := h
    refine ⟨_, (pss_one (ps_if (pt_not (pt_val (C8.pe_c c_inside hr (by decide) rfl (pa_cons (pe_fld (pv 0) rfl) (pa_cons (pv 1) pa_nil))))) (pss_one ps_never) pss_nil)), ?_⟩
    refine ⟨_, rfl, x, _, dx, _, _, rfl, hx, T.clF, T.nF _ (by simp), rfl, _, rfl, a, b, sz, s, rfl, ha, hb, fun H1 s1 => ⟨_, rfl, iteNS hin (k H1 s1)⟩⟩
def spRock (K : PySem.W.Frag) : Sp := fun vs H Q _ => ∃ (x b : Addr) (sz : Spot) (rs : List Spot) (s : Spot), vs = [.ref x, .ref b] ∧ FlAt K H x sz rs ∧ SpotAt H b s ∧ Inside sz s ∧ ∀ H', Same H H' → Q (.bl (decide (s ∈ rs))) H'
abbrev s_is_rock : Stmt := inClass (top 29) 6
theorem sc_Floor_is_rock : FnScope ["self", "spot"] ["self", "spot"] (defScope s_is_rock) := ⟨rfl, rfl, rfl, by decide +kernel, rfl, by decide +kernel, by decide +kernel⟩
theorem c_is_rock {f : Addr} {fd : FuncData} (T : Txt K mg) (c_look : C8.Met P w K mg base 2 (cFl K) "look" (spLook K) []) (me : Meth K (cFl K) "is_rock" f) (F : FnP K "is_rock" "Floor.is_rock" s_is_rock f fd) : C8.Met P w K mg base 3 (cFl K) "is_rock" (spRock K) [] := by
  refine met_mk T.clF me F (fun _ _ _ _ _ _ us hl => match us, hl with | [_, _], _ => rfl) sc_Floor_is_rock (fun vs H Q E h => ?_) (fun cdv A outer s0 H vs Q E hr h => ?_)
  · obtain ⟨x, b, sz, rs, s, rfl, _⟩ := h
    rfl
  · obtain ⟨x, b, sz, rs, s, rfl, hfl, hb, hin, k⟩ := h
    obtain ⟨dx, a, b1, c1, d1, e1, kvs, hx, ha, hd, hk⟩ := id hfl
    refine ⟨_, (pss_cons (ps_expr (C8.pe_mt c_look hr (by decide) (pv 0) (pa_cons (pv 1) pa_nil)))
      (pss_one (ps_ret (pe_cmp (pc_din (hu_of hr) (pv 1) (pe_fld (pv 0) rfl)) rfl)))), ?_⟩
    refine ⟨_, rfl, x, dx, _, rfl, hx, rfl, _, rfl, x, b, sz, rs, s, rfl, hfl, hb, hin, fun H1 s1 => ?_⟩
    refine ⟨_, rfl, _, rfl, x, _, dx, _, _, rfl, s1 _ _ hx, T.clF, T.nF _ (by simp), rfl, d1, _, rfl, DGet.t (k := skey s) (s1 _ _ hd) (s1 _ _ hb), ?_⟩
    rw [hk s]
    exact k H1 s1

/-! ### fits -/
def Fits (sz : Spot) (rs : List Spot) (h : Int) (s : Spot) : Prop := Inside sz s ∧ (h ≤ s.2.1 ∧ s.2.1 + h < sz.2.1) ∧ (h ≤ s.2.2 ∧ s.2.2 + h < sz.2.2) ∧ ∀ p, InSq sz s h p → p ∉ rs
def spFits (K : PySem.W.Frag) : Sp := fun vs H Q _ => ∃ (x y b : Addr) (sz : Spot) (rs : List Spot) (t : Th) (s : Spot), vs = [.ref x, .ref y, .ref b] ∧ FlAt K H x sz rs ∧ ThAt K H y t ∧ SpotAt H b s ∧ Small sz ∧ Small s ∧ (0 ≤ t.half ∧ t.half ≤ 2) ∧
  ∀ H', Same H H' → (Fits sz rs t.half s → Q (.bl true) H') ∧ (¬ Fits sz rs t.half s → Q (.bl false) H')
abbrev s_fits : Stmt := top 15
theorem sc_fits : FnScope ["floor", "thing", "spot", "at", "place"] ["floor", "thing", "spot"] (defScope s_fits) := ⟨rfl, rfl, rfl, by decide +kernel, rfl, by decide +kernel, by decide +kernel⟩
theorem c_fits {f : Addr} {fd : FuncData} (T : Txt K mg) (c_inside : C8.Cal P w K mg base 1 "inside" spInside []) (c_square : C8.Cal P w K mg base 1 "square" spSquare []) (c_is_rock : C8.Met P w K mg base 3 (cFl K) "is_rock" (spRock K) [])
    (F : FnP K "fits" "fits" s_fits f fd) (hm : mg "fits" = some (.ref f)) : C8.Cal P w K mg base 4 "fits" (spFits K) [] := by
  refine cal_mk F hm (fun _ _ _ _ _ _ us hl => match us, hl with | [_, _, _], _ => rfl) sc_fits (fun vs H Q E h => ?_) (fun cdv A outer s0 H vs Q E hr h => ?_)
  · obtain ⟨x, y, b, sz, rs, t, s, rfl, _⟩ := h
    rfl
  · obtain ⟨x, y, b, sz, rs, t, s, rfl, hfl, hth, hb, hsz, hss, hh, k⟩ := h
    obtain ⟨C, dt, ft, tv⟩ := hth.v T
    obtain ⟨dx, a, b1, c1, d1, e1, kvs, hx, ha, hd, hk⟩ := id hfl
    refine ⟨_, (pss_cons (ps_if (pt_not (pt_val (C8.pe_c c_inside hr (by decide) rfl (pa_cons (pe_fld (pv 0) rfl) (pa_cons (pv 2) pa_nil))))) (pss_one (ps_ret pe_bl)) pss_nil)
      (pss_cons (ps_for PassesOwn.never rfl (pi_tup (pe_tup (pa_cons pe_int (pa_cons pe_int pa_nil)))) (pg_name (i := 3) sc_fits.nd rfl (Or.inl rfl))
      (pss_one (ps_if (PW.pt (pw_or (pt_cmpR op_lt (pe_ix ix_tup (pv 2) (pv 3) (fun _ _ => rfl)) (pe_fld (pv 1) rfl) (nomark _)) (pw_or1 (pt_cmpR op_ge (pe_op op_add (pe_ix ix_tup (pv 2) (pv 3) (fun _ _ => rfl)) (pe_fld (pv 1) rfl)) (pe_ix ix_tup (pe_fld (pv 0) rfl) (pv 3) (fun _ _ => rfl)) (nomark _))))) (pss_one (ps_ret pe_bl)) pss_nil)))
      (pss_cons (ps_for PassesOwn.never rfl (pi_list (C8.pe_c c_square hr (by decide) rfl (pa_cons (pe_fld (pv 0) rfl) (pa_cons (pv 2) (pa_cons (pe_fld (pv 1) rfl) pa_nil))))) (pg_name (i := 4) sc_fits.nd rfl (Or.inl rfl))
      (pss_one (ps_if (pt_val (C8.pe_mt c_is_rock hr (by decide) (pv 0) (pa_cons (pv 4) pa_nil))) (pss_one (ps_ret pe_bl)) pss_nil)))
      (pss_one (ps_ret pe_bl))))), ?_⟩
    -- if not inside(floor.sizes, spot): return False
    refine ⟨_, rfl, x, _, dx, _, _, rfl, hx, T.clF, T.nF _ (by simp), rfl, _, rfl, a, b, sz, s, rfl, ha, hb, fun H1 s1 => ⟨_, rfl, ?_⟩⟩
    by_cases hin : Inside sz s
    · refine iteNS hin ?_
      -- for at in (1, 2)
      refine ⟨by show 2 ≤ sizeLine; decide, fun p hp => ⟨p, rfl, ⟨_, SqT.of upd_same⟩, for_tup (xs := [V.int 1, V.int 2]) (fun i σ H2 => ∃ v, σ = [some (V.ref x), some (V.ref y), some (V.ref b), v, none] ∧ Same H H2 ∧ H2 p = some (.tup [V.int 1, V.int 2]) ∧
        ∀ j, j < i → t.half ≤ co s (j + 1) ∧ co s (j + 1) + t.half < co sz (j + 1)) ?_ ?_ ?_ ?_⟩⟩
      · exact ⟨none, rfl, s1.trans (Same.new hp), upd_same, fun j hj => absurd hj (Nat.not_lt_zero j)⟩
      · rintro i σ H2 hi ⟨v, rfl, s2, h2, _⟩
        exact SqT.of h2
      · rintro i xv σ H2 hi ⟨v, rfl, s2, h2, hj⟩
        obtain ⟨hi2, rfl⟩ : i < 2 ∧ xv = V.int ((i + 1 : Nat) : Int) := by
          match i, hi with
          | 0, hi => exact ⟨by decide, (Option.some.inj hi).symm⟩
          | 1, hi => exact ⟨by decide, (Option.some.inj hi).symm⟩
          | _ + 2, hi => cases hi
        have hx2 := s2 _ _ hx
        refine ⟨_, rfl, _, rfl, b, _, _, _, rfl, rfl, SqT.of (hb.mono s2), sv_atI s (by omega), _, rfl, y, _, dt, _, _, rfl, s2 _ _ tv.at_, tv.cl, tv.nh, tv.lh, _, _, rfl, rfl, _, rfl, ?_⟩
        refine ite2 (fun h0 => ?_) (fun h0 => ?_)
        · refine iteT ((k H2 s2).2 fun z => ?_)
          have h1 := of_decide_eq_true h0
          obtain ⟨_, z1, z2, _⟩ := z
          match i, hi2, h1 with
          | 0, _, h1 =>
            have h1 : s.2.1 < t.half := h1
            omega
          | 1, _, h1 =>
            have h1 : s.2.2 < t.half := h1
            omega
        · refine ⟨_, rfl, _, rfl, b, _, _, _, rfl, rfl, SqT.of (hb.mono s2), sv_atI s (by omega), _, rfl, y, _, dt, _, _, rfl, s2 _ _ tv.at_, tv.cl, tv.nh, tv.lh, _, _, rfl, rfl, _, rfl, x, _, dx, _, _, rfl, hx2, T.clF, T.nF _ (by simp), rfl,
            _, rfl, a, _, _, _, rfl, rfl, SqT.of (ha.mono s2), sv_atI sz (by omega), _, _, rfl, rfl, _, rfl, ?_⟩
          refine ite2 (fun h1 => ?_) (fun h1 => ?_)
          · refine (k H2 s2).2 fun z => ?_
            have h2 := of_decide_eq_true h1
            obtain ⟨_, z1, z2, _⟩ := z
            match i, hi2, h2 with
            | 0, _, h2 =>
              have h2 : sz.2.1 ≤ s.2.1 + t.half := h2
              omega
            | 1, _, h2 =>
              have h2 : sz.2.2 ≤ s.2.2 + t.half := h2
              omega
          · refine ⟨_, rfl, s2, h2, fun j hj' => ?_⟩
            by_cases e : j = i
            · subst e
              have a1 : ¬ co s (j + 1) < t.half := fun z => h0 (decide_eq_true z)
              have a2 : ¬ co sz (j + 1) ≤ co s (j + 1) + t.half := fun z => h1 (decide_eq_true z)
              omega
            · exact hj j (by omega)
      · rintro σ H2 ⟨v, rfl, s2, h2, hj⟩
        have r1 := hj 0 (by decide)
        have r2 := hj 1 (by decide)
        -- for place in square(floor.sizes, spot, thing.half)
        refine ⟨_, rfl, x, _, dx, _, _, rfl, s2 _ _ hx, T.clF, T.nF _ (by simp), rfl, _, rfl, _, rfl, y, _, dt, _, _, rfl, s2 _ _ tv.at_, tv.cl, tv.nh, tv.lh, a, b, sz, s, t.half, rfl, ha.mono s2, hb.mono s2, hsz, hss, hh.1, hh.2, fun H3 l ss s3 hl hmem => ?_⟩
        obtain ⟨as, h1, h3⟩ := id hl
        refine ⟨l, rfl, ⟨_, SqL.of h1⟩, for_list (xs := as.map V.ref) (fun i σ H4 => ∃ v4, σ = [some (V.ref x), some (V.ref y), some (V.ref b), v, v4] ∧ Same H3 H4 ∧ ∀ j p, j < i → ss[j]? = some p → p ∉ rs) ?_ ?_ ?_ ?_⟩
        · exact ⟨none, rfl, Same.refl _, fun j p hj => absurd hj (Nat.not_lt_zero j)⟩
        · rintro i σ H4 hi ⟨v4, rfl, s4, _⟩
          exact SqL.of (s4 _ _ h1)
        · rintro i xv σ H4 hi ⟨v4, rfl, s4, hno⟩
          obtain ⟨c, hc, rfl⟩ := map_at hi
          obtain ⟨p, hp2, hcp⟩ := Paired.at h3 hc
          have hsq := (hmem p).mp (List.mem_of_getElem? hp2)
          have hpin : Inside sz p := by
            obtain ⟨q0, q1, q2⟩ := hsq
            obtain ⟨z0, z1, z2⟩ := hin
            refine ⟨?_, by omega, by omega⟩
            rw [q0]
            exact z0
          have s5 : Same H H4 := (s2.trans s3).trans s4
          refine ⟨_, rfl, x, dx, _, rfl, s5 _ _ hx, rfl, _, rfl, x, c, sz, rs, p, rfl, hfl.mono s5, hcp.mono s4, hpin, fun H5 s6 => ⟨_, rfl, ?_⟩⟩
          refine ite2 (fun h0 => ?_) (fun h0 => ?_)
          · exact (k H5 (s5.trans s6)).2 fun z => z.2.2.2 p hsq (of_decide_eq_true h0)
          · refine ⟨_, rfl, s4.trans s6, fun j q hj hq => ?_⟩
            by_cases e : j = i
            · subst e
              rw [hp2] at hq
              obtain rfl := Option.some.inj hq
              exact fun z => h0 (decide_eq_true z)
            · exact hno j q (by omega) hq
        · rintro σ H4 ⟨v4, rfl, s4, hno⟩
          refine (k H4 ((s2.trans s3).trans s4)).1 ⟨hin, r1, r2, fun p hp => ?_⟩
          obtain ⟨j, hj, e⟩ := List.getElem_of_mem ((hmem p).mpr hp)
          have la : as.length = ss.length := Paired.length h3
          exact hno j p (by rw [List.length_map]; omega) (by rw [List.getElem?_eq_getElem hj, e])
    · have e : decide (Inside sz s) = false := decide_eq_false hin
      rw [e]
      exact iteT ((k H1 s1).2 fun z => hin z.1)

/-! ### clash, clash_any -/
def Clash (t u : Th) (s p : Spot) : Prop := s.1 = p.1 ∧ gap s p ≤ t.half + u.half + mx t.room u.room
instance (t u : Th) (s p : Spot) : Decidable (Clash t u s p) := by unfold Clash; exact inferInstance
def spClash (K : PySem.W.Frag) : Sp := fun vs H Q _ => ∃ (y a z b : Addr) (t u : Th) (s p : Spot), vs = [.ref y, .ref a, .ref z, .ref b] ∧ ThAt K H y t ∧ SpotAt H a s ∧ ThAt K H z u ∧ SpotAt H b p ∧ ∀ H', Same H H' → Q (.bl (decide (Clash t u s p))) H'
abbrev s_clash : Stmt := top 16
theorem sc_clash : FnScope ["thing", "spot", "other", "place", "gap"] ["thing", "spot", "other", "place"] (defScope s_clash) := ⟨rfl, rfl, rfl, by decide +kernel, rfl, by decide +kernel, by decide +kernel⟩
theorem c_clash {f : Addr} {fd : FuncData} (T : Txt K mg) (c_apart : C8.Cal P w K mg base 1 "apart" spApart []) (F : FnP K "clash" "clash" s_clash f fd) (hm : mg "clash" = some (.ref f)) : C8.Cal P w K mg base 2 "clash" (spClash K) [] := by
  refine cal_mk F hm (fun _ _ _ _ _ _ us hl => match us, hl with | [_, _, _, _], _ => rfl) sc_clash (fun vs H Q E h => ?_) (fun cdv A outer s0 H vs Q E hr h => ?_)
  · obtain ⟨y, a, z, b, t, u, s, p, rfl, _⟩ := h
    rfl
  · obtain ⟨y, a, z, b, t, u, s, p, rfl, hy, ha, hz, hb, k⟩ := h
    obtain ⟨C, dt, ft, tv⟩ := hy.v T
    obtain ⟨D, du, fu, uv⟩ := hz.v T
    refine ⟨_, (pss_cons (ps_set (i := 4) sc_clash.nd rfl (Or.inl rfl) (C8.pe_c c_apart hr (by decide) rfl (pa_cons (pv 1) (pa_cons (pv 3) pa_nil))))
      (pss_cons (ps_if (pt_cmpR op_isN (pv 4) pe_non (nomark _)) (pss_one (ps_ret pe_bl)) pss_nil)
      (pss_one (ps_ret (pe_cmpR op_le (pv 4) (pe_op op_add (pe_op op_add (pe_fld (pv 0) rfl) (pe_fld (pv 2) rfl)) (pe_callB (call_max2 rfl) (by rfl) T.max (by decide +kernel) (pa_cons (pe_fld (pv 0) rfl) (pa_cons (pe_fld (pv 2) rfl) pa_nil)))) (nomark _)))))), ?_⟩
    refine ⟨_, rfl, _, rfl, a, b, s, p, rfl, ha, hb, fun H1 s1 => ⟨fun e => ?_, fun e => ?_⟩⟩
    · refine ⟨_, rfl, rfl, _, rfl, iteT ?_⟩
      have q := k H1 s1
      rw [decide_eq_false fun z : Clash t u s p => e z.1] at q
      exact q
    · refine ⟨_, rfl, rfl, _, rfl, iteF ?_⟩
      refine ⟨_, rfl, _, rfl, y, _, dt, _, _, rfl, s1 _ _ tv.at_, tv.cl, tv.nh, tv.lh, _, rfl, z, _, du, _, _, rfl, s1 _ _ uv.at_, uv.cl, uv.nh, uv.lh, _, _, rfl, rfl,
        _, rfl, y, _, dt, _, _, rfl, s1 _ _ tv.at_, tv.cl, tv.nr, tv.lr, _, rfl, z, _, du, _, _, rfl, s1 _ _ uv.at_, uv.cl, uv.nr, uv.lr, _, _, rfl, _, _, rfl, rfl, _, _, rfl, rfl, ?_⟩
      have q := k H1 s1
      have e2 : decide (Clash t u s p) = decide (gap s p ≤ t.half + u.half + mx t.room u.room) := by
        unfold Clash
        simp [e]
      rw [e2] at q
      exact q
def spClashAny (K : PySem.W.Frag) : Sp := fun vs H Q _ => ∃ (y a z l : Addr) (t u : Th) (s : Spot) (ps : List Spot), vs = [.ref y, .ref a, .ref z, .ref l] ∧ ThAt K H y t ∧ SpotAt H a s ∧ ThAt K H z u ∧ ListAt H l ps ∧ ∀ H', Same H H' → Q (.bl (ps.any fun p => decide (Clash t u s p))) H'
abbrev s_clash_any : Stmt := top 17
theorem sc_clash_any : FnScope ["thing", "spot", "other", "places", "place"] ["thing", "spot", "other", "places"] (defScope s_clash_any) := ⟨rfl, rfl, rfl, by decide +kernel, rfl, by decide +kernel, by decide +kernel⟩
theorem c_clash_any {f : Addr} {fd : FuncData} (T : Txt K mg) (c_clash : C8.Cal P w K mg base 2 "clash" (spClash K) []) (F : FnP K "clash_any" "clash_any" s_clash_any f fd) (hm : mg "clash_any" = some (.ref f)) : C8.Cal P w K mg base 3 "clash_any" (spClashAny K) [] := by
  refine cal_mk F hm (fun _ _ _ _ _ _ us hl => match us, hl with | [_, _, _, _], _ => rfl) sc_clash_any (fun vs H Q E h => ?_) (fun cdv A outer s0 H vs Q E hr h => ?_)
  · obtain ⟨y, a, z, l, t, u, s, ps, rfl, _⟩ := h
    rfl
  · obtain ⟨y, a, z, l, t, u, s, ps, rfl, hy, ha, hz, hl, k⟩ := h
    obtain ⟨as, h1, h2⟩ := id hl
    have la : as.length = ps.length := Paired.length h2
    refine ⟨_, (pss_cons (ps_for PassesOwn.never rfl (pi_list (pv 3)) (pg_name (i := 4) sc_clash_any.nd rfl (Or.inl rfl))
      (pss_one (ps_if (pt_val (C8.pe_c c_clash hr (by decide) rfl (pa_cons (pv 0) (pa_cons (pv 1) (pa_cons (pv 2) (pa_cons (pv 4) pa_nil)))))) (pss_one (ps_ret pe_bl)) pss_nil)))
      (pss_one (ps_ret pe_bl))), ?_⟩
    refine ⟨_, rfl, l, rfl, ⟨_, SqL.of h1⟩, for_list (xs := as.map V.ref) (fun i σ H1 => ∃ v, σ = [some (V.ref y), some (V.ref a), some (V.ref z), some (V.ref l), v] ∧ Same H H1 ∧ ∀ j p, j < i → ps[j]? = some p → ¬ Clash t u s p) ?_ ?_ ?_ ?_⟩
    · exact ⟨none, rfl, Same.refl _, fun j p hj => absurd hj (Nat.not_lt_zero j)⟩
    · rintro i σ H1 hi ⟨v, rfl, s1, _⟩
      exact SqL.of (s1 _ _ h1)
    · rintro i xv σ H1 hi ⟨v, rfl, s1, hno⟩
      obtain ⟨c, hc, rfl⟩ := map_at hi
      obtain ⟨p, hp, hcp⟩ := Paired.at h2 hc
      refine ⟨_, rfl, _, rfl, _, rfl, _, rfl, y, a, z, c, t, u, s, p, rfl, hy.mono s1, ha.mono s1, hz.mono s1, hcp.mono s1, fun H2 s2 => ⟨_, rfl, ?_⟩⟩
      refine ite2 (fun h0 => ?_) (fun h0 => ?_)
      · have q := k H2 (s1.trans s2)
        have e : (ps.any fun p => decide (Clash t u s p)) = true := List.any_eq_true.mpr ⟨p, List.mem_of_getElem? hp, h0⟩
        rw [e] at q
        exact q
      · refine ⟨_, rfl, s1.trans s2, fun j q hj hq => ?_⟩
        by_cases e : j = i
        · subst e
          rw [hp] at hq
          obtain rfl := Option.some.inj hq
          exact fun z => h0 (decide_eq_true z)
        · exact hno j q (by omega) hq
    · rintro σ H1 ⟨v, rfl, s1, hno⟩
      have q := k H1 s1
      have e : (ps.any fun p => decide (Clash t u s p)) = false := by
        rw [List.any_eq_false]
        intro p hp
        obtain ⟨j, hj, e⟩ := List.getElem_of_mem hp
        have := hno j p (by rw [List.length_map]; omega) (by rw [List.getElem?_eq_getElem hj, e])
        simpa using this
      rw [e] at q
      exact q
end
end Wf

/-! K12G: name_fits, all_unlike, the things' makers and their ends. -/
namespace Wf
open PySem PySem.Spec PyProof.Rows L2

/-! ### small helps -/
theorem ifT {p A B : Prop} [Decidable p] (h : p) (a : A) : if decide p = true then A else B := by
  rw [if_pos (decide_eq_true h)]
  exact a
theorem ifF {p A B : Prop} [Decidable p] (h : ¬ p) (b : B) : if decide p = true then A else B := by
  rw [if_neg (fun z => h (of_decide_eq_true z))]
  exact b
/-- m() of one of two classes -/
def rMeth2 (C1 C2 : Addr) (m : Str) (sp1 sp2 : Sp) : V → Hp → VK → Prop := fun x H1 Q => ∃ a dx fs, x = .ref a ∧ fs.lookup m = none ∧ ((H1 a = some (.ins C1 dx fs) ∧ sp1 [.ref a] H1 Q (fun _ _ _ => False)) ∨ (H1 a = some (.ins C2 dx fs) ∧ sp2 [.ref a] H1 Q (fun _ _ _ => False)))
def tThen1 (r : V → Hp → VK → Prop) (ta : TE) : TE := fun σ H Q => ta σ H fun x H1 => r x H1 Q
section
variable {X : Cx} {k1 k2 j : Nat} {C1 C2 : Addr} {m : Str} {sp1 sp2 : Sp} {p pos apos : Pos} {o : Expr} {ta : TE}
theorem pe_meth2 {pl : Sem Bool} {r : V → Hp → VK → Prop} (hR : ∀ x H Q, r x H Q → rMeth2 C1 C2 m sp1 sp2 x H Q) (c1 : C8.Met X.prog X.w X.K X.mg X.base k1 C1 m sp1 []) (c2 : C8.Met X.prog X.w X.K X.mg X.base k2 C2 m sp2 []) (hr : Room j X.A) (h1 : k1 ≤ j) (h2 : k2 ≤ j) (he : PE X o ta)
    (ht : eval (.Call (.Attribute o m apos) [] [] pos) X.env = (do
      let ov ← eval o X.env
      standAt apos.atName
      let (f, first) ← holding [ov] (getMethod ov m pl)
      callWith pos f first (backTo pos (starEach [] X.env)) (backToKw pos (keywordEach [] X.env))) := by rfl) :
    PE X (.Call (.Attribute o m apos) [] [] pos) (tThen1 r ta) := by
  constructor
  intro pins s σ H Q I h
  refine PySem.W.methodCall_KW (pl := pl) (thn (he.run pins s σ H _ I h) fun u s1 hh => ?_) ht
  obtain ⟨x, H1, I1, rx, hr1⟩ := hh
  obtain ⟨a, dx, fs, ex, l, q⟩ := hR _ _ _ hr1
  subst ex
  cases (show u = Value.ref a from rx)
  have go : ∀ {k : Nat} {C : Addr} {sp : Sp}, C8.Met X.prog X.w X.K X.mg X.base k C m sp [] → k ≤ j → H1 a = some (.ins C dx fs) → sp [.ref a] H1 Q (fun _ _ _ => False) → wpAny (model X.prog X.w) X.A (getMethod (.ref a) m pl)
      (fun p s2 => wpAny (model X.prog X.w) X.A (callWith pos p.1 p.2 (backTo pos (starEach [] X.env)) (backToKw pos (keywordEach [] X.env))) (EP X pins σ Q) X.xe s2) X.xe s1 := fun {k C sp} c hk ea q => by
    obtain ⟨f, fd, ps, ds, hc, hm, F, b, d⟩ := c.ex
    refine getmeth_ok I1 ea hc hm l ?_
    cases d
    exact PySem.W.callWith_K0 (first := [.ref a]) I1.kIn hm.kp (run_fn (us := [.ref a]) (vs := [.ref a]) F (hr.mono hk) b .nil C8.pass0 I1 (.cons rfl .nil) q)
  rcases q with ⟨ea, q⟩ | ⟨ea, q⟩
  · exact go c1 h1 ea q
  · exact go c2 h2 ea q
end

section
variable {P : Program} {w : World} {K : PySem.W.Frag} {mg : Str → Option Value} {base : Heap}

/-! ### name_fits -/
def letters : Str := "abcdefghijklmnopqrstuvwxyz"
def NameOk (z : Str) : Prop := 1 ≤ z.length ∧ z.length ≤ 12 ∧ ∀ c ∈ z.cps.toList, c ∈ letters.cps.toList
def spNameFits : Sp := fun vs H Q _ => ∃ z : Str, vs = [.str z] ∧ NameOk z ∧ ∀ H', Same H H' → Q (.bl true) H'
abbrev s_name_fits : Stmt := top 33
theorem sc_name_fits : FnScope ["name", "sign"] ["name"] (defScope s_name_fits) := ⟨rfl, rfl, rfl, by decide +kernel, rfl, by decide +kernel, by decide +kernel⟩
theorem c_name_fits {f : Addr} {fd : FuncData} (T : Txt K mg) (F : FnP K "name_fits" "name_fits" s_name_fits f fd) (hm : mg "name_fits" = some (.ref f)) : C8.Cal P w K mg base 1 "name_fits" spNameFits [] := by
  refine cal_mk F hm (fun _ _ _ _ _ _ us hl => match us, hl with | [_], _ => rfl) sc_name_fits (fun vs H Q E h => ?_) (fun cdv A outer s0 H vs Q E hr h => ?_)
  · obtain ⟨z, rfl, _⟩ := h
    rfl
  · obtain ⟨z, rfl, ⟨h1, h2, h3⟩, k⟩ := h
    have hz : z.length ≤ sizeLine := Nat.le_of_lt (small1000 (by omega))
    have sz : z.length = z.cps.size := rfl
    obtain ⟨c0, hc0⟩ : ∃ c, z.cps.toList[0]? = some c := ⟨z.cps.toList[0]'(by rw [Array.length_toList]; omega), List.getElem?_eq_getElem _⟩
    refine ⟨_, (pss_cons (ps_if (PW.pt (pw_or (pt_cmpR op_lt (pe_callB call_len (by rfl) T.len PySem.boot_len (pa_cons (pv 0) pa_nil)) pe_int (nomark _)) (pw_or (pt_cmpR op_gt (pe_callB call_len (by rfl) T.len PySem.boot_len (pa_cons (pv 0) pa_nil)) pe_int (nomark _)) (pw_or1 (pt_cmpR op_notIn_sign (pe_ix ix_str (pv 0) pe_int (fun _ _ => rfl)) (C8.pe_gc rfl T.vLETTERS) rfl))))) (pss_one (ps_ret pe_bl)) pss_nil)
      (pss_cons (ps_for PassesOwn.never rfl (pi_str (pv 0)) (pg_name (i := 1) sc_name_fits.nd rfl (Or.inl rfl))
      (pss_one (ps_if (PW.pt (pw_and (pt_cmpR op_notIn_sign (pv 1) (C8.pe_gc rfl T.vLETTERS) rfl) (pw_and1 (pt_cmpR op_notIn_sign (pv 1) (C8.pe_gc rfl T.vFIGURES) rfl)))) (pss_one (ps_ret pe_bl)) pss_nil)))
      (pss_one (ps_ret pe_bl)))), ?_⟩
    refine ⟨_, rfl, _, z.length, rfl, ⟨hz, rfl⟩, _, _, rfl, rfl, _, rfl, ifF (by omega) ?_⟩
    refine ⟨_, rfl, _, z.length, rfl, ⟨hz, rfl⟩, _, _, rfl, rfl, _, rfl, ifF (by omega) ?_⟩
    refine ⟨_, rfl, z, 0, c0, rfl, rfl, hz, (show atI z.cps.toList ((0 : Nat) : Int) = some c0 from atI_nat hc0), c0, letters, rfl, rfl, _, rfl, ?_⟩
    rw [show (!decide (c0 ∈ letters.cps.toList)) = false by rw [decide_eq_true (h3 c0 (List.mem_of_getElem? hc0))]; rfl]
    refine ⟨_, rfl, z, rfl, for_it (walk_str (z := z)) (fun i σ H1 => ∃ v, σ = [some (V.str z), v] ∧ Same H H1) ⟨none, rfl, Same.refl _⟩ (fun _ _ _ _ _ => trivial) ?_ ?_⟩
    · rintro i x σ H1 H2 hi ⟨v, rfl, s1⟩ ⟨rfl, c, hc, rfl⟩
      have hc2 : c ∈ letters.cps.toList := h3 c (by
        rw [Array.mem_toList_iff]
        exact Array.mem_of_getElem? hc)
      refine ⟨_, rfl, c, letters, rfl, rfl, _, rfl, ?_⟩
      rw [show (!decide (c ∈ letters.cps.toList)) = false by rw [decide_eq_true hc2]; rfl]
      exact ⟨_, rfl, s1⟩
    · rintro σ H1 ⟨v, rfl, s1⟩
      exact k H1 s1

/-! ### all_unlike -/
theorem spI_inj {s t : Spot} (h : spI s = spI t) : s = t := by
  obtain ⟨a, b, c⟩ := s
  obtain ⟨d, e, f⟩ := t
  simp only [spI, List.cons.injEq, and_true] at h
  obtain ⟨rfl, rfl, rfl⟩ := h
  rfl
theorem SpotsAt.keys {K : PySem.W.Frag} {H : Hp} {as : List Addr} {ss : List Spot} (h : SpotsAt H as ss) : ∃ ks : List (Addr × List Int), ks.map (·.1) = as ∧ ks.map (·.2) = ss.map spI ∧ ∀ p ∈ ks, SqT K H p.1 (p.2.map V.int) := by
  induction h with
  | nil => exact ⟨[], rfl, rfl, fun p hp => (by cases hp)⟩
  | @cons a s as ss r t ih =>
    obtain ⟨ks, h1, h2, h3⟩ := ih
    refine ⟨(a, spI s) :: ks, by rw [List.map_cons, h1], by rw [List.map_cons, List.map_cons, h2], fun p hp => ?_⟩
    rcases List.mem_cons.mp hp with e | e
    · subst e
      exact SqT.of r
    · exact h3 p e
theorem sq_mono {H H' : Hp} {a : Addr} {xs : List V} (e : Same H H') (h : SqT K H a xs) : SqT K H' a xs := by
  rcases h with (h | ⟨o, h⟩) | h
  · exact .inl (.inl (e _ _ h))
  · exact .inl (.inr ⟨o, e _ _ h⟩)
  · exact .inr h
theorem set_full {ks L : List (Addr × List Int)} {ss : List Spot} (hk : ks.map (·.2) = ss.map spI) (hn : ss.Nodup) (nd : (L.map (·.2)).Nodup) (h1 : ∀ p ∈ L, p ∈ ks) (h2 : ∀ p ∈ ks, p.2 ∈ L.map (·.2)) : L.length = ss.length := by
  have n2 : (ss.map spI).Nodup := by
    refine List.pairwise_map.mpr (List.Pairwise.imp (fun h e => h (spI_inj e)) hn)
  have pm : (L.map (·.2)).Perm (ss.map spI) := (List.perm_ext_iff_of_nodup nd n2).mpr fun z => by
    rw [← hk]
    refine ⟨fun q => ?_, fun q => ?_⟩
    · obtain ⟨p, hp, e⟩ := List.mem_map.mp q
      exact List.mem_map.mpr ⟨p, h1 p hp, e⟩
    · obtain ⟨p, hp, e⟩ := List.mem_map.mp q
      rw [← e]
      exact h2 p hp
  have e := pm.length_eq
  rw [List.length_map, List.length_map] at e
  exact e
def spUnlike : Sp := fun vs H Q _ => ∃ (l : Addr) (ss : List Spot), vs = [.ref l] ∧ ListAt H l ss ∧ ss.Nodup ∧ ss.length ≤ 20 ∧ ∀ H', Same H H' → Q (.bl true) H'
abbrev s_all_unlike : Stmt := top 34
theorem sc_all_unlike : FnScope ["spots"] ["spots"] (defScope s_all_unlike) := ⟨rfl, rfl, rfl, by decide +kernel, rfl, by decide +kernel, by decide +kernel⟩
theorem c_all_unlike {f : Addr} {fd : FuncData} (T : Txt K mg) (F : FnP K "all_unlike" "all_unlike" s_all_unlike f fd) (hm : mg "all_unlike" = some (.ref f)) : C8.Cal P w K mg base 1 "all_unlike" spUnlike [] := by
  refine cal_mk F hm (fun _ _ _ _ _ _ us hl => match us, hl with | [_], _ => rfl) sc_all_unlike (fun vs H Q E h => ?_) (fun cdv A outer s0 H vs Q E hr h => ?_)
  · obtain ⟨l, ss, rfl, _⟩ := h
    rfl
  · obtain ⟨l, ss, rfl, ⟨as, h1, h2⟩, hn, hlen, k⟩ := h
    obtain ⟨ks, k1, k2, k3⟩ := SpotsAt.keys (K := K) h2
    have la : as.length = ss.length := Paired.length h2
    have lk : ks.length = ss.length := by rw [← la, ← k1, List.length_map]
    have hks : SqL K H l (ks.map fun p => V.ref p.1) := by
      have e : (ks.map fun p => V.ref p.1) = as.map V.ref := by rw [← k1, List.map_map]; rfl
      rw [e]
      exact SqL.of h1
    refine ⟨_, (pss_one (ps_ret (pe_cmpR op_eq (pe_callB call_len_setT (by rfl) T.len PySem.boot_len (pa_cons (pe_callTy (cr_setOfT rfl hr.units) (by rfl) T.set (by decide +kernel) (pa_cons (pv 0) pa_nil)) pa_nil)) (pe_callB call_len (by rfl) T.len PySem.boot_len (pa_cons (pv 0) pa_nil)) (nomark _)))), ?_⟩
    refine ⟨_, rfl, l, ks, rfl, hks, k3, by omega, fun a L ha hL hc => ?_⟩
    have sm : Same H (upd H a (SetTO P w a L)) := Same.new ha
    refine ⟨a, L, rfl, upd_same, fun p hp => sq_mono sm (k3 p (hL p hp)), fun nd => ?_⟩
    refine ⟨_, rfl, _, as.length, rfl, .inl ⟨_, SqL.of (sm _ _ h1), (by rw [List.length_map])⟩, rfl, ?_⟩
    rw [set_full k2 hn nd hL hc, la, decide_eq_true rfl]
    exact k _ sm
end
end Wf

/-! K12H: the makers of things, ends(). -/
namespace Wf
open PySem PySem.Spec PyProof.Rows L2
section
variable {P : Program} {w : World} {K : PySem.W.Frag} {mg : Str → Option Value} {base : Heap}
/-- x alone has changed -/
def But (x : Addr) (H H' : Hp) : Prop := ∀ b o, H b = some o → b ≠ x → H' b = some o
theorem But.of {x : Addr} {H H' : Hp} (e : Same H H') : But x H H' := fun b o h _ => e b o h
theorem But.trans {x : Addr} {H H1 H2 : Hp} (a : But x H H1) (b : But x H1 H2) : But x H H2 := fun c o h n => b c o (a c o h n) n
theorem But.upd {x : Addr} {H : Hp} {o : HO} : But x H (upd H x o) := fun b u h n => by
  rw [upd_ne n]
  exact h
theorem But.spot {x a : Addr} {s : Spot} {C dx : Addr} {fs : List (Str × V)} {H H' : Hp} (b : But x H H') (hx : H x = some (.ins C dx fs)) (h : SpotAt H a s) : SpotAt H' a s := b _ _ h (ne_of (show H a = some _ from h) hx (fun q => by cases q))
theorem But.spots {x : Addr} {as : List Addr} {ss : List Spot} {C dx : Addr} {fs : List (Str × V)} {H H' : Hp} (b : But x H H') (hx : H x = some (.ins C dx fs)) (h : SpotsAt H as ss) : SpotsAt H' as ss := Paired.mapP h fun _ _ z => But.spot b hx z
theorem But.list {x l : Addr} {ss : List Spot} {C dx : Addr} {fs : List (Str × V)} {H H' : Hp} (b : But x H H') (hx : H x = some (.ins C dx fs)) (h : ListAt H l ss) : ListAt H' l ss := by
  obtain ⟨as, h1, h2⟩ := h
  exact ⟨as, b _ _ h1 (ne_of h1 hx (fun q => by cases q)), But.spots b hx h2⟩
theorem But.tup {x l : Addr} {ss : List Spot} {C dx : Addr} {fs : List (Str × V)} {H H' : Hp} (b : But x H H') (hx : H x = some (.ins C dx fs)) (h : TupAt H l ss) : TupAt H' l ss := by
  obtain ⟨as, h1, h2⟩ := h
  exact ⟨as, b _ _ h1 (ne_of h1 hx (fun q => by cases q)), But.spots b hx h2⟩

/-! ### Thing.__init__ -/
def headF (z : Str) (h r : Int) : List (Str × V) := [("name", V.str z), ("half", V.int h), ("room", V.int r)]
theorem put_head (z : Str) (h r : Int) : putF "room" (V.int r) (putF "half" (V.int h) (putF "name" (V.str z) [])) = headF z h r := rfl
def spThing (K : PySem.W.Frag) : Sp := fun vs H Q _ => ∃ (x C dx : Addr) (z : Str) (h r : Int), vs = [.ref x, .str z, .int h, .int r] ∧ H x = some (.ins C dx []) ∧ Cls K C ∧ NoAttr K C "name" ∧ NoAttr K C "half" ∧ NoAttr K C "room" ∧ NameOk z ∧
  (0 ≤ h ∧ h ≤ 2) ∧ (0 ≤ r ∧ r ≤ 3) ∧ ∀ H', H' x = some (.ins C dx (headF z h r)) → But x H H' → Q .non H'
abbrev s_Thing_init : Stmt := inClass (top 35) 0
theorem sc_Thing_init : FnScope ["self", "name", "half", "room"] ["self", "name", "half", "room"] (defScope s_Thing_init) := ⟨rfl, rfl, rfl, by decide +kernel, rfl, by decide +kernel, by decide +kernel⟩
theorem f_Thing_init {f : Addr} {fd : FuncData} (T : Txt K mg) (c_name_fits : C8.Cal P w K mg base 1 "name_fits" spNameFits []) (F : FnP K "__init__" "Thing.__init__" s_Thing_init f fd) : FnOk P w K mg base C8.CX0 2 f fd ["self", "name", "half", "room"] (spThing K) := by
  refine fn_mk F sc_Thing_init (fun vs H Q E h => ?_) (fun cdv A outer s0 H vs Q E hr h => ?_)
  · obtain ⟨x, C, dx, z, h, r, rfl, _⟩ := h
    rfl
  · obtain ⟨x, C, dx, z, h, r, rfl, hx, cl, nn, nh, nr, hz, hh, hrm, k⟩ := h
    refine ⟨_, (pss_cons (ps_if (pt_not (pt_val (C8.pe_c c_name_fits hr (by decide) rfl (pa_cons (pv 1) pa_nil)))) (pss_one ps_never) pss_nil)
      (pss_cons (ps_if (PW.pt (pw_or (pt_cmpR op_lt (pv 2) pe_int (nomark _)) (pw_or (pt_cmpR op_gt (pv 2) pe_int (nomark _)) (pw_or (pt_cmpR op_lt (pv 3) pe_int (nomark _)) (pw_or1 (pt_cmpR op_gt (pv 3) pe_int (nomark _))))))) (pss_one ps_never) pss_nil)
      (pss_cons (ps_fld (pv 0) (pv 1) rfl)
      (pss_cons (ps_fld (pv 0) (pv 2) rfl)
      (pss_one (ps_fld (pv 0) (pv 3) rfl)))))), ?_⟩
    refine ⟨_, rfl, z, rfl, hz, fun H1 s1 => ⟨_, rfl, iteF ?_⟩⟩
    refine ⟨_, rfl, _, _, rfl, rfl, _, rfl, ifF (by omega) ?_⟩
    refine ⟨_, rfl, _, _, rfl, rfl, _, rfl, ifF (by omega) ?_⟩
    refine ⟨_, rfl, _, _, rfl, rfl, _, rfl, ifF (by omega) ?_⟩
    refine ⟨_, rfl, _, _, rfl, rfl, _, rfl, ifF (by omega) ?_⟩
    refine ⟨_, rfl, _, rfl, x, C, dx, _, rfl, s1 _ _ hx, cl, nn, (by show 0 < 1000; decide), ?_⟩
    refine ⟨_, rfl, _, rfl, x, C, dx, _, rfl, upd_same, cl, nh, (by show 1 < 1000; decide), ?_⟩
    refine ⟨_, rfl, _, rfl, x, C, dx, _, rfl, upd_same, cl, nr, (by show 2 < 1000; decide), ?_⟩
    exact k _ upd_same (((But.of s1).trans But.upd).trans (But.upd.trans But.upd))

/-! ### Net, Bundle -/
def spNet (K : PySem.W.Frag) : Sp := fun vs H Q _ => ∃ (x dx l : Addr) (z : Str) (h r : Int) (ss : List Spot), vs = [.ref x, .str z, .ref l, .int h, .int r] ∧ H x = some (.ins (cNe K) dx []) ∧ ListAt H l ss ∧ ss.Nodup ∧ 2 ≤ ss.length ∧ ss.length ≤ 6 ∧ NameOk z ∧
  (0 ≤ h ∧ h ≤ 2) ∧ (0 ≤ r ∧ r ≤ 3) ∧ ∀ H', ThAt K H' x ⟨false, z, h, r, ss, []⟩ → But x H H' → Q .non H'
abbrev s_Net_init : Stmt := inClass (top 36) 0
theorem sc_Net_init : FnScope ["self", "name", "pins", "half", "room"] ["self", "name", "pins", "half", "room"] (defScope s_Net_init) := ⟨rfl, rfl, rfl, by decide +kernel, rfl, by decide +kernel, by decide +kernel⟩
theorem f_Net_init {f fT : Addr} {fd fdT : FuncData} {dvs : List V} (T : Txt K mg) (eT : He.ma K (cTh K) "__init__" = fT) (GT : FnOk P w K mg base C8.CX0 2 fT fdT ["self", "name", "half", "room"] (spThing K)) (kT : PySem.W.keepIn K (.ref fT) = true)
    (bT : Binds K fdT ["self", "name", "half", "room"] []) (c_all_unlike : C8.Cal P w K mg base 1 "all_unlike" spUnlike []) (F : FunD K "__init__" "Net.__init__" (defArgs s_Net_init) (defBody s_Net_init) (defScope s_Net_init) dvs [] f fd) :
    FnOk P w K mg base C8.CX0 3 f fd ["self", "name", "pins", "half", "room"] (spNet K) := by
  subst eT
  refine fn_mk F sc_Net_init (fun vs H Q E h => ?_) (fun cdv A outer s0 H vs Q E hr h => ?_)
  · obtain ⟨x, dx, l, z, h, r, ss, rfl, _⟩ := h
    rfl
  · obtain ⟨x, dx, l, z, h, r, ss, rfl, hx, hl, hn, h2, h6, hz, hh, hrm, k⟩ := h
    refine ⟨_, (pss_cons (ps_expr (pe_offCls (pe_glob (v := .ref (cTh K)) rfl T.gThing rfl) T.crT T.cvT GT (hr.mono (by decide)) kT bT (C8.pass0 (E := fun _ _ _ => False)) (pa_cons (pv 0) (pa_cons (pv 1) (pa_cons (pv 3) (pa_cons (pv 4) pa_nil))))))
      (pss_cons (ps_if (PW.pt (pw_or (pt_cmpR op_lt (pe_callB call_len (by rfl) T.len PySem.boot_len (pa_cons (pv 2) pa_nil)) pe_int (nomark _)) (pw_or (pt_cmpR op_gt (pe_callB call_len (by rfl) T.len PySem.boot_len (pa_cons (pv 2) pa_nil)) pe_int (nomark _)) (pw_or1 (pt_not (pt_val (C8.pe_c c_all_unlike hr (by decide) rfl (pa_cons (pv 2) pa_nil)))))))) (pss_one ps_never) pss_nil)
      (pss_one (ps_fld (pv 0) (pe_callTy call_tuple_of (by rfl) T.tuple (by decide +kernel) (pa_cons (pv 2) pa_nil)) rfl)))), ?_⟩
    refine ⟨rfl, _, rfl, _, rfl, _, rfl, _, rfl, x, cNe K, dx, z, h, r, rfl, hx, T.clN, T.nN _ (by simp), T.nN _ (by simp), T.nN _ (by simp), hz, hh, hrm, fun H1 hx1 b1 => ?_⟩
    obtain ⟨as, g1, g2⟩ := id (But.list b1 hx hl)
    have la : as.length = ss.length := Paired.length g2
    refine ⟨_, rfl, _, as.length, rfl, .inl ⟨_, SqL.of g1, (by rw [List.length_map])⟩, _, _, rfl, rfl, _, rfl, ifF (by omega) ?_⟩
    refine ⟨_, rfl, _, as.length, rfl, .inl ⟨_, SqL.of g1, (by rw [List.length_map])⟩, _, _, rfl, rfl, _, rfl, ifF (by omega) ?_⟩
    refine ⟨_, rfl, l, ss, rfl, ⟨as, g1, g2⟩, hn, by omega, fun H2 s2 => ⟨_, rfl, iteF ?_⟩⟩
    refine ⟨_, rfl, l, _, rfl, .inl ⟨SqL.of (s2 _ _ g1), fun p hp => ?_⟩⟩
    have hx2 := s2 _ _ hx1
    have nxp : x ≠ p := ne_of_none hx2 hp
    refine ⟨_, rfl, x, cNe K, dx, _, rfl, (Same.new hp) _ _ hx2, T.clN, T.nN _ (by simp), (by show 3 < 1000; decide), ?_⟩
    refine k _ (.inl ⟨rfl, rfl, dx, p, upd_same, as, ?_, ?_⟩) ((b1.trans (But.of (s2.trans (Same.new hp)))).trans But.upd)
    · rw [upd_ne nxp.symm, upd_same]
    · exact But.spots But.upd ((Same.new hp) _ _ hx2) ((g2.mono s2).mono (Same.new hp))
def spBundle (K : PySem.W.Frag) : Sp := fun vs H Q _ => ∃ (x dx l m : Addr) (z : Str) (r : Int) (ss ts : List Spot), vs = [.ref x, .str z, .ref l, .ref m, .int r] ∧ H x = some (.ins (cBu K) dx []) ∧ ListAt H l ss ∧ ListAt H m ts ∧ (ss ++ ts).Nodup ∧
  1 ≤ ss.length ∧ ss.length ≤ 6 ∧ ss.length ≤ ts.length ∧ ts.length ≤ 12 ∧ NameOk z ∧ (0 ≤ r ∧ r ≤ 3) ∧ ∀ H', ThAt K H' x ⟨true, z, 0, r, ss, ts⟩ → But x H H' → Q .non H'
abbrev s_Bundle_init : Stmt := inClass (top 37) 0
theorem sc_Bundle_init : FnScope ["self", "name", "starts", "goals", "room"] ["self", "name", "starts", "goals", "room"] (defScope s_Bundle_init) := ⟨rfl, rfl, rfl, by decide +kernel, rfl, by decide +kernel, by decide +kernel⟩
theorem f_Bundle_init {f fT : Addr} {fd fdT : FuncData} {dvs : List V} (T : Txt K mg) (eT : He.ma K (cTh K) "__init__" = fT) (GT : FnOk P w K mg base C8.CX0 2 fT fdT ["self", "name", "half", "room"] (spThing K)) (kT : PySem.W.keepIn K (.ref fT) = true)
    (bT : Binds K fdT ["self", "name", "half", "room"] []) (c_all_unlike : C8.Cal P w K mg base 1 "all_unlike" spUnlike []) (F : FunD K "__init__" "Bundle.__init__" (defArgs s_Bundle_init) (defBody s_Bundle_init) (defScope s_Bundle_init) dvs [] f fd) :
    FnOk P w K mg base C8.CX0 3 f fd ["self", "name", "starts", "goals", "room"] (spBundle K) := by
  subst eT
  refine fn_mk F sc_Bundle_init (fun vs H Q E h => ?_) (fun cdv A outer s0 H vs Q E hr h => ?_)
  · obtain ⟨x, dx, l, m, z, r, ss, ts, rfl, _⟩ := h
    rfl
  · obtain ⟨x, dx, l, m, z, r, ss, ts, rfl, hx, hl, hm, hn, h1, h6, h7, h12, hz, hrm, k⟩ := h
    refine ⟨_, (pss_cons (ps_expr (pe_offCls (pe_glob (v := .ref (cTh K)) rfl T.gThing rfl) T.crT T.cvT GT (hr.mono (by decide)) kT bT (C8.pass0 (E := fun _ _ _ => False)) (pa_cons (pv 0) (pa_cons (pv 1) (pa_cons pe_int (pa_cons (pv 4) pa_nil))))))
      (pss_cons (ps_if (PW.pt (pw_or (pt_cmpR op_lt (pe_callB call_len (by rfl) T.len PySem.boot_len (pa_cons (pv 2) pa_nil)) pe_int (nomark _)) (pw_or (pt_cmpR op_gt (pe_callB call_len (by rfl) T.len PySem.boot_len (pa_cons (pv 2) pa_nil)) pe_int (nomark _)) (pw_or (pt_cmpR op_lt (pe_callB call_len (by rfl) T.len PySem.boot_len (pa_cons (pv 3) pa_nil)) (pe_callB call_len (by rfl) T.len PySem.boot_len (pa_cons (pv 2) pa_nil)) (nomark _)) (pw_or1 (pt_cmpR op_gt (pe_callB call_len (by rfl) T.len PySem.boot_len (pa_cons (pv 3) pa_nil)) pe_int (nomark _))))))) (pss_one ps_never) pss_nil)
      (pss_cons (ps_if (pt_not (pt_val (C8.pe_c c_all_unlike hr (by decide) rfl (pa_cons (pe_op op_cat (pe_callTy call_list_of (by rfl) T.list (by decide +kernel) (pa_cons (pv 2) pa_nil)) (pe_callTy call_list_of (by rfl) T.list (by decide +kernel) (pa_cons (pv 3) pa_nil))) pa_nil)))) (pss_one ps_never) pss_nil)
      (pss_cons (ps_fld (pv 0) (pe_callTy call_tuple_of (by rfl) T.tuple (by decide +kernel) (pa_cons (pv 2) pa_nil)) rfl)
      (pss_one (ps_fld (pv 0) (pe_callTy call_tuple_of (by rfl) T.tuple (by decide +kernel) (pa_cons (pv 3) pa_nil)) rfl)))))), ?_⟩
    refine ⟨rfl, _, rfl, _, rfl, _, rfl, x, cBu K, dx, z, 0, r, rfl, hx, T.clB, T.nB _ (by simp), T.nB _ (by simp), T.nB _ (by simp), hz, ⟨by decide, by decide⟩, hrm, fun H1 hx1 b1 => ?_⟩
    obtain ⟨as, g1, g2⟩ := id (But.list b1 hx hl)
    obtain ⟨bs, e1, e2⟩ := id (But.list b1 hx hm)
    have la : as.length = ss.length := Paired.length g2
    have lb : bs.length = ts.length := Paired.length e2
    have lenL : ∃ xs, SqL K H1 l xs ∧ as.length = xs.length := ⟨_, SqL.of g1, (by rw [List.length_map])⟩
    have lenM : ∃ xs, SqL K H1 m xs ∧ bs.length = xs.length := ⟨_, SqL.of e1, (by rw [List.length_map])⟩
    refine ⟨_, rfl, _, as.length, rfl, .inl lenL, _, _, rfl, rfl, _, rfl, ifF (by omega) ?_⟩
    refine ⟨_, rfl, _, as.length, rfl, .inl lenL, _, _, rfl, rfl, _, rfl, ifF (by omega) ?_⟩
    refine ⟨_, rfl, _, bs.length, rfl, .inl lenM, _, rfl, _, as.length, rfl, .inl lenL, _, _, rfl, rfl, _, rfl, ifF (by omega) ?_⟩
    refine ⟨_, rfl, _, bs.length, rfl, .inl lenM, _, _, rfl, rfl, _, rfl, ifF (by omega) ?_⟩
    -- all_unlike(list(starts) + list(goals))
    refine ⟨_, rfl, l, _, rfl, .inl (SqL.of g1), fun p hp => ?_⟩
    have s1 : Same H1 (upd H1 p (.lst (as.map V.ref))) := Same.new hp
    refine ⟨_, rfl, m, _, rfl, .inl (SqL.of (s1 _ _ e1)), fun q hq => ?_⟩
    have s2 : Same (upd H1 p (.lst (as.map V.ref))) (upd (upd H1 p (.lst (as.map V.ref))) q (.lst (bs.map V.ref))) := Same.new hq
    refine ⟨p, q, _, _, rfl, rfl, s2 _ _ upd_same, upd_same, (by rw [List.length_map, List.length_map]; exact Nat.le_of_lt (small1000 (by omega))), fun u hu => ?_⟩
    have s3 : Same (upd (upd H1 p (.lst (as.map V.ref))) q (.lst (bs.map V.ref))) (upd (upd (upd H1 p (.lst (as.map V.ref))) q (.lst (bs.map V.ref))) u (.lst (as.map V.ref ++ bs.map V.ref))) := Same.new hu
    refine ⟨u, ss ++ ts, rfl, ⟨as ++ bs, by rw [upd_same, List.map_append], Paired.app (((g2.mono s1).mono s2).mono s3) (((e2.mono s1).mono s2).mono s3)⟩, hn, by rw [List.length_append]; omega, fun H2 s4 => ⟨_, rfl, iteF ?_⟩⟩
    have s5 : Same H1 H2 := ((s1.trans s2).trans s3).trans s4
    -- self.starts = tuple(starts); self.goals = tuple(goals)
    refine ⟨_, rfl, l, _, rfl, .inl ⟨SqL.of (s5 _ _ g1), fun v hv => ?_⟩⟩
    have s6 : Same H2 (upd H2 v (.tup (as.map V.ref))) := Same.new hv
    have hx2 := (s5.trans s6) _ _ hx1
    refine ⟨_, rfl, x, cBu K, dx, _, rfl, hx2, T.clB, T.nB _ (by simp), (by show 3 < 1000; decide), ?_⟩
    have em : ∀ o, (upd (upd H2 v (.tup (as.map V.ref))) x o) m = some (.lst (bs.map V.ref)) := fun o => But.upd _ _ ((s5.trans s6) _ _ e1) (ne_of ((s5.trans s6) _ _ e1) hx2 (fun q => by cases q))
    refine ⟨_, rfl, m, _, rfl, .inl ⟨SqL.of (em _), fun y hy => ?_⟩⟩
    have s7 := Same.new (o := .tup (bs.map V.ref)) hy
    have nxv : v ≠ x := fun q => by
      have z := (s5 _ _ hx1)
      rw [← q, hv] at z
      cases z
    have nxy : y ≠ x := fun q => by
      rw [q, upd_same] at hy
      cases hy
    refine ⟨_, rfl, x, cBu K, dx, _, rfl, s7 _ _ upd_same, T.clB, T.nB _ (by simp), (by show 4 < 1000; decide), ?_⟩
    have bb : But x H1 (upd (upd (upd (upd H2 v (.tup (as.map V.ref))) x (.ins (cBu K) dx (putF "starts" (V.ref v) (headF z 0 r)))) y (.tup (bs.map V.ref))) x (.ins (cBu K) dx (putF "goals" (V.ref y) (putF "starts" (V.ref v) (headF z 0 r))))) :=
      (((But.of (s5.trans s6)).trans But.upd).trans (But.of s7)).trans But.upd
    refine k _ (.inr ⟨rfl, dx, v, y, upd_same, ⟨as, ?_, But.spots bb hx1 g2⟩, ⟨bs, ?_, But.spots bb hx1 e2⟩⟩) (b1.trans bb)
    · rw [upd_ne nxv]
      refine s7 _ _ ?_
      rw [upd_ne nxv, upd_same]
    · rw [upd_ne nxy, upd_same]

/-! ### ends -/
def spEnds (K : PySem.W.Frag) (b : Bool) : Sp := fun vs H Q _ => ∃ (x : Addr) (t : Th), vs = [.ref x] ∧ ThAt K H x t ∧ t.bundle = b ∧ (t.one.length ≤ 12 ∧ t.two.length ≤ 12) ∧ ∀ (H' : Hp) (l : Addr), Same H H' → ListAt H' l t.ends → Q (.ref l) H'
abbrev s_Net_ends : Stmt := inClass (top 36) 1
theorem sc_Net_ends : FnScope ["self"] ["self"] (defScope s_Net_ends) := ⟨rfl, rfl, rfl, by decide +kernel, rfl, by decide +kernel, by decide +kernel⟩
theorem e_Net {f : Addr} {fd : FuncData} (T : Txt K mg) (me : Meth K (cNe K) "ends" f) (F : FnP K "ends" "Net.ends" s_Net_ends f fd) : C8.Met P w K mg base 1 (cNe K) "ends" (spEnds K false) [] := by
  refine met_mk T.clN me F (fun _ _ _ _ _ _ us hl => match us, hl with | [_], _ => rfl) sc_Net_ends (fun vs H Q E h => ?_) (fun cdv A outer s0 H vs Q E hr h => ?_)
  · obtain ⟨x, t, rfl, _⟩ := h
    rfl
  · obtain ⟨x, t, rfl, ht, hb, _, k⟩ := h
    rcases ht with ⟨_, h2, dx, a, hx, as, h3, h4⟩ | ⟨h1, _⟩
    · refine ⟨_, (pss_one (ps_ret (pe_callTy call_list_of (by rfl) T.list (by decide +kernel) (pa_cons (pe_fld (pv 0) rfl) pa_nil)))), ?_⟩
      refine ⟨_, rfl, x, _, dx, _, _, rfl, hx, T.clN, T.nN _ (by simp), rfl, a, _, rfl, .inr (SqT.of h3), fun l hl => ?_⟩
      refine k _ l (Same.new hl) ⟨as, upd_same, ?_⟩
      unfold Th.ends
      rw [h2, List.append_nil]
      exact h4.mono (Same.new hl)
    · rw [hb] at h1
      cases h1
abbrev s_Bundle_ends : Stmt := inClass (top 37) 1
theorem sc_Bundle_ends : FnScope ["self"] ["self"] (defScope s_Bundle_ends) := ⟨rfl, rfl, rfl, by decide +kernel, rfl, by decide +kernel, by decide +kernel⟩
theorem e_Bundle {f : Addr} {fd : FuncData} (T : Txt K mg) (me : Meth K (cBu K) "ends" f) (F : FnP K "ends" "Bundle.ends" s_Bundle_ends f fd) : C8.Met P w K mg base 1 (cBu K) "ends" (spEnds K true) [] := by
  refine met_mk T.clB me F (fun _ _ _ _ _ _ us hl => match us, hl with | [_], _ => rfl) sc_Bundle_ends (fun vs H Q E h => ?_) (fun cdv A outer s0 H vs Q E hr h => ?_)
  · obtain ⟨x, t, rfl, _⟩ := h
    rfl
  · obtain ⟨x, t, rfl, ht, hb, ⟨l1, l2⟩, k⟩ := h
    rcases ht with ⟨h1, _⟩ | ⟨_, dx, a, b, hx, ⟨as, h3, h4⟩, bs, h5, h6⟩
    · rw [hb] at h1
      cases h1
    · have la : as.length = t.one.length := Paired.length h4
      have lb : bs.length = t.two.length := Paired.length h6
      refine ⟨_, (pss_one (ps_ret (pe_op op_cat (pe_callTy call_list_of (by rfl) T.list (by decide +kernel) (pa_cons (pe_fld (pv 0) rfl) pa_nil)) (pe_callTy call_list_of (by rfl) T.list (by decide +kernel) (pa_cons (pe_fld (pv 0) rfl) pa_nil))))), ?_⟩
      refine ⟨_, rfl, x, _, dx, _, _, rfl, hx, T.clB, T.nB _ (by simp), rfl, a, _, rfl, .inr (SqT.of h3), fun p hp => ?_⟩
      have s1 : Same H (upd H p (.lst (as.map V.ref))) := Same.new hp
      refine ⟨_, rfl, x, _, dx, _, _, rfl, s1 _ _ hx, T.clB, T.nB _ (by simp), rfl, b, _, rfl, .inr (SqT.of (s1 _ _ h5)), fun q hq => ?_⟩
      have s2 : Same (upd H p (.lst (as.map V.ref))) (upd (upd H p (.lst (as.map V.ref))) q (.lst (bs.map V.ref))) := Same.new hq
      refine ⟨p, q, _, _, rfl, rfl, s2 _ _ upd_same, upd_same, (by rw [List.length_map, List.length_map]; exact Nat.le_of_lt (small1000 (by omega))), fun u hu => ?_⟩
      have s3 := (s1.trans s2).trans (Same.new (o := .lst (as.map V.ref ++ bs.map V.ref)) hu)
      exact k _ u s3 ⟨as ++ bs, by rw [upd_same, List.map_append], Paired.app (h4.mono s3) (h6.mono s3)⟩
end
/-- e.ends(), e a thing -/
def rEnds (K : PySem.W.Frag) : V → Hp → VK → Prop := fun v H1 Q => ∃ (x : Addr) (t : Th), v = .ref x ∧ ThAt K H1 x t ∧ (t.one.length ≤ 12 ∧ t.two.length ≤ 12) ∧ ∀ (H' : Hp) (l : Addr), Same H1 H' → ListAt H' l t.ends → Q (.ref l) H'
abbrev tEnds (K : PySem.W.Frag) (ta : TE) : TE := tThen1 (rEnds K) ta
section
variable {X : Cx} {j : Nat} {pos apos : Pos} {o : Expr} {ta : TE}
theorem pe_ends {pl : Sem Bool} (c1 : C8.Met X.prog X.w X.K X.mg X.base 1 (cNe X.K) "ends" (spEnds X.K false) []) (c2 : C8.Met X.prog X.w X.K X.mg X.base 1 (cBu X.K) "ends" (spEnds X.K true) []) (hr : Room j X.A) (hj : 1 ≤ j) (he : PE X o ta)
    (ht : eval (.Call (.Attribute o "ends" apos) [] [] pos) X.env = (do
      let ov ← eval o X.env
      standAt apos.atName
      let (f, first) ← holding [ov] (getMethod ov "ends" pl)
      callWith pos f first (backTo pos (starEach [] X.env)) (backToKw pos (keywordEach [] X.env))) := by rfl) :
    PE X (.Call (.Attribute o "ends" apos) [] [] pos) (tEnds X.K ta) := by
  refine pe_meth2 (pl := pl) (fun x H Q h => ?_) c1 c2 hr hj hj he ht
  obtain ⟨x, t, rfl, hx, hl, k⟩ := h
  rcases id hx with ⟨h1, h2, dx, a, h3, h4⟩ | ⟨h1, dx, a, b, h3, h4, h5⟩
  · exact ⟨x, dx, _, rfl, rfl, .inl ⟨h3, x, t, rfl, hx, h1, hl, k⟩⟩
  · exact ⟨x, dx, _, rfl, rfl, .inr ⟨h3, x, t, rfl, hx, h1, hl, k⟩⟩
end
end Wf

/-! K12I: sizes_good, prices_good, Floor.__init__. -/
namespace Wf
open PySem PySem.Spec PyProof.Rows L2
section
variable {P : Program} {w : World} {K : PySem.W.Frag} {mg : Str → Option Value} {base : Heap}
def SzOk (sz : Spot) : Prop := (1 ≤ sz.1 ∧ sz.1 ≤ 3) ∧ (1 ≤ sz.2.1 ∧ sz.2.1 ≤ 12) ∧ (2 ≤ sz.2.2 ∧ sz.2.2 ≤ 12)
theorem SzOk.small {sz : Spot} (h : SzOk sz) : Small sz := by
  obtain ⟨h1, h2, h3⟩ := h
  constructor <;> omega
def spSizesGood : Sp := fun vs H Q _ => ∃ (a l m : Addr) (sz : Spot) (xs ys : List V), vs = [.ref a, .ref l, .ref m] ∧ SpotAt H a sz ∧ SzOk sz ∧ H l = some (.lst xs) ∧ H m = some (.lst ys) ∧ (xs.length : Int) = sz.1 ∧ (ys.length : Int) = sz.1 - 1 ∧ ∀ H', Same H H' → Q (.bl true) H'
abbrev s_sizes_good : Stmt := top 27
theorem sc_sizes_good : FnScope ["sizes", "prices", "vias", "layers", "rows", "columns"] ["sizes", "prices", "vias"] (defScope s_sizes_good) := ⟨rfl, rfl, rfl, by decide +kernel, rfl, by decide +kernel, by decide +kernel⟩
theorem c_sizes_good {f : Addr} {fd : FuncData} (T : Txt K mg) (F : FnP K "sizes_good" "sizes_good" s_sizes_good f fd) (hm : mg "sizes_good" = some (.ref f)) : C8.Cal P w K mg base 1 "sizes_good" spSizesGood [] := by
  refine cal_mk F hm (fun _ _ _ _ _ _ us hl => match us, hl with | [_, _, _], _ => rfl) sc_sizes_good (fun vs H Q E h => ?_) (fun cdv A outer s0 H vs Q E hr h => ?_)
  · obtain ⟨a, l, m, sz, xs, ys, rfl, _⟩ := h
    rfl
  · obtain ⟨a, l, m, sz, xs, ys, rfl, ha, ⟨h1, h2, h3⟩, hl, hm, lx, ly, k⟩ := h
    refine ⟨_, (pss_cons (ps_asg (pv 0) (pg_tup rfl (pgs_cons (pg_name (i := 3) sc_sizes_good.nd rfl (Or.inl rfl)) (pgs_cons (pg_name (i := 4) sc_sizes_good.nd rfl (Or.inl rfl)) (pgs_cons (pg_name (i := 5) sc_sizes_good.nd rfl (Or.inl rfl)) pgs_nil)))))
      (pss_cons (ps_if (pt_not (pt_chain op_le op_le pe_int (pv 3) (C8.pe_gc rfl T.vMOST_LAYERS))) (pss_one (ps_ret pe_bl)) pss_nil)
      (pss_cons (ps_if (PW.pt (pw_or (pt_not (pt_chain op_le op_le pe_int (pv 4) (C8.pe_gc rfl T.vMOST_ACROSS))) (pw_or1 (pt_not (pt_chain op_le op_le pe_int (pv 5) (C8.pe_gc rfl T.vMOST_ACROSS)))))) (pss_one (ps_ret pe_bl)) pss_nil)
      (pss_one (ps_ret (pe_and (pe_cmpR op_eq (pe_callB call_len (by rfl) T.len PySem.boot_len (pa_cons (pv 1) pa_nil)) (pv 3) (nomark _)) (pe_one (pe_cmpR op_eq (pe_callB call_len (by rfl) T.len PySem.boot_len (pa_cons (pv 2) pa_nil)) (pe_op op_sub (pv 3) pe_int) (nomark _))))))))), ?_⟩
    refine ⟨_, rfl, a, _, rfl, SqT.of ha, rfl, _, _, rfl, _, _, rfl, _, _, rfl, rfl, ?_⟩
    refine ⟨_, rfl, _, _, rfl, rfl, _, rfl, ifT (by omega) ⟨_, _, rfl, rfl, _, rfl, iteNS (by omega) ?_⟩⟩
    refine ⟨_, rfl, _, _, rfl, rfl, _, rfl, ifT (by omega) ⟨_, _, rfl, rfl, _, rfl, iteNS (by omega) ?_⟩⟩
    refine ⟨_, rfl, _, _, rfl, rfl, _, rfl, ifT (by omega) ⟨_, _, rfl, rfl, _, rfl, iteNS (by omega) ?_⟩⟩
    refine ⟨_, rfl, _, xs.length, rfl, .inl ⟨_, SqL.of hl, rfl⟩, _, rfl, rfl, _, rfl, ?_⟩
    refine ifT (by rw [lx]) ?_
    refine ⟨_, rfl, _, ys.length, rfl, .inl ⟨_, SqL.of hm, rfl⟩, _, rfl, _, _, rfl, rfl, rfl, ?_⟩
    rw [decide_eq_true (by rw [ly])]
    exact k H (Same.refl H)

/-- n pairs (1, 1); n ones -/
def PrAt (H : Hp) (l : Addr) (n : Nat) : Prop := ∃ as : List Addr, H l = some (.lst (as.map V.ref)) ∧ as.length = n ∧ ∀ a ∈ as, H a = some (.tup [.int 1, .int 1])
def ViAt (H : Hp) (m : Addr) (n : Nat) : Prop := H m = some (.lst (List.replicate n (V.int 1)))
theorem PrAt.mono {H H' : Hp} {l : Addr} {n : Nat} (e : Same H H') (h : PrAt H l n) : PrAt H' l n := by
  obtain ⟨as, h1, h2, h3⟩ := h
  exact ⟨as, e _ _ h1, h2, fun a ha => e _ _ (h3 a ha)⟩
theorem Same.lock {H H' : Hp} {d : Addr} {od : Obj} {u : HO} (hd : H d = some u) (s : Same (upd H d (.frz od u)) H') : Same H (upd H' d u) := fun b o h => by
  by_cases e : b = d
  · subst e
    rw [upd_same, ← hd]
    exact h
  · rw [upd_ne e]
    refine s b o ?_
    rw [upd_ne e]
    exact h
def spPricesGood : Sp := fun vs H Q _ => ∃ (l m d : Addr) (n n' : Nat), vs = [.ref l, .ref m, .ref d] ∧ PrAt H l n ∧ ViAt H m n' ∧ H d = some (.dK []) ∧ ∀ H', Same H H' → Q (.bl true) H'
abbrev s_prices_good : Stmt := top 28
theorem sc_prices_good : FnScope ["prices", "vias", "tolls", "ahead", "across", "price", "toll"] ["prices", "vias", "tolls"] (defScope s_prices_good) := ⟨rfl, rfl, rfl, by decide +kernel, rfl, by decide +kernel, by decide +kernel⟩
theorem c_prices_good {f : Addr} {fd : FuncData} (T : Txt K mg) (F : FnP K "prices_good" "prices_good" s_prices_good f fd) (hm : mg "prices_good" = some (.ref f)) : C8.Cal P w K mg base 1 "prices_good" spPricesGood [] := by
  refine cal_mk F hm (fun _ _ _ _ _ _ us hl => match us, hl with | [_, _, _], _ => rfl) sc_prices_good (fun vs H Q E h => ?_) (fun cdv A outer s0 H vs Q E hr h => ?_)
  · obtain ⟨l, m, d, n, n', rfl, _⟩ := h
    rfl
  · obtain ⟨l, m, d, n, n', rfl, ⟨as, h1, h2, h3⟩, hv, hd, k⟩ := h
    refine ⟨_, (pss_cons (ps_for PassesOwn.never rfl (pi_list (pv 0)) (pg_tup rfl (pgs_cons (pg_name (i := 3) sc_prices_good.nd rfl (Or.inl rfl)) (pgs_cons (pg_name (i := 4) sc_prices_good.nd rfl (Or.inl rfl)) pgs_nil)))
      (pss_one (ps_if (PW.pt (pw_or (pt_not (pt_chain op_le op_le pe_int (pv 3) (C8.pe_gc rfl T.vDEAREST))) (pw_or1 (pt_not (pt_chain op_le op_le pe_int (pv 4) (C8.pe_gc rfl T.vDEAREST)))))) (pss_one (ps_ret pe_bl)) pss_nil)))
      (pss_cons (ps_for PassesOwn.never rfl (pi_list (pv 1)) (pg_name (i := 5) sc_prices_good.nd rfl (Or.inl rfl))
      (pss_one (ps_if (pt_not (pt_chain op_le op_le pe_int (pv 5) (C8.pe_gc rfl T.vDEAREST))) (pss_one (ps_ret pe_bl)) pss_nil)))
      (pss_cons (ps_lock (ps_for PassesOwn.never rfl (pi_values (pv 2)) (pg_name (i := 6) sc_prices_good.nd rfl (Or.inl rfl))
      (pss_one (ps_if (pt_not (pt_chain op_le op_le pe_int (pv 6) (C8.pe_gc rfl T.vDEAREST))) (pss_one (ps_ret pe_bl)) pss_nil))))
      (pss_one (ps_ret pe_bl))))), ?_⟩
    refine ⟨_, rfl, l, rfl, ⟨_, SqL.of h1⟩, for_list (xs := as.map V.ref) (fun i σ H1 => ∃ v3 v4, σ = [some (V.ref l), some (V.ref m), some (V.ref d), v3, v4, none, none] ∧ Same H H1) ?_ ?_ ?_ ?_⟩
    · exact ⟨none, none, rfl, Same.refl _⟩
    · rintro i σ H1 hi ⟨v3, v4, rfl, s1⟩
      exact SqL.of (s1 _ _ h1)
    · rintro i x σ H1 hi ⟨v3, v4, rfl, s1⟩
      obtain ⟨c, hc, rfl⟩ := map_at hi
      refine ⟨c, _, rfl, SqT.of (s1 _ _ (h3 c (List.mem_of_getElem? hc))), rfl, _, _, rfl, _, _, rfl, rfl, ?_⟩
      refine ⟨_, rfl, _, _, rfl, rfl, _, rfl, ifT (by decide) ⟨_, _, rfl, rfl, _, rfl, iteNS (by decide) ?_⟩⟩
      refine ⟨_, rfl, _, _, rfl, rfl, _, rfl, ifT (by decide) ⟨_, _, rfl, rfl, _, rfl, iteNS (by decide) ?_⟩⟩
      exact ⟨_, _, rfl, s1⟩
    · rintro σ H1 ⟨v3, v4, rfl, s1⟩
      refine ⟨_, rfl, m, rfl, ⟨_, SqL.of (s1 _ _ hv)⟩, for_list (xs := List.replicate n' (V.int 1)) (fun i σ H2 => ∃ v5, σ = [some (V.ref l), some (V.ref m), some (V.ref d), v3, v4, v5, none] ∧ Same H H2) ?_ ?_ ?_ ?_⟩
      · exact ⟨none, rfl, s1⟩
      · rintro i σ H2 hi ⟨v5, rfl, s2⟩
        exact SqL.of (s2 _ _ hv)
      · rintro i x σ H2 hi ⟨v5, rfl, s2⟩
        obtain rfl : x = V.int 1 := List.eq_of_mem_replicate (List.mem_of_getElem? hi)
        refine ⟨_, rfl, _, _, rfl, rfl, _, rfl, ifT (by decide) ⟨_, _, rfl, rfl, _, rfl, iteNS (by decide) ?_⟩⟩
        exact ⟨_, rfl, s2⟩
      · rintro σ H2 ⟨v5, rfl, s2⟩
        refine ⟨d, .dK [], s2 _ _ hd, trivial, fun od => ?_⟩
        refine ⟨_, rfl, d, od, [], rfl, upd_same, for_it (walk_values (d := d) (o := od) (kvs := [])) (fun i σ H3 => σ = [some (V.ref l), some (V.ref m), some (V.ref d), v3, v4, v5, none] ∧ Same (upd H2 d (.frz od (.dK []))) H3) ?_ ?_ ?_ ?_⟩
        · exact ⟨rfl, Same.refl _⟩
        · rintro i σ H3 hi ⟨rfl, s3⟩
          exact s3 _ _ upd_same
        · intro i x σ H3 H4 hi
          exact absurd hi (Nat.not_lt_zero i)
        · rintro σ H3 ⟨rfl, s3⟩
          exact ⟨s3 _ _ upd_same, k _ (s2.trans (Same.lock (s2 _ _ hd) s3))⟩

/-! ### Floor.__init__ -/
def spFloor (K : PySem.W.Frag) : Sp := fun vs H Q _ => ∃ (x dx a l m r : Addr) (sz : Spot) (n n' : Nat) (rs : List Spot), vs = [.ref x, .ref a, .ref l, .ref m, .ref r, .non] ∧ H x = some (.ins (cFl K) dx []) ∧ SpotAt H a sz ∧ SzOk sz ∧ PrAt H l n ∧ ViAt H m n' ∧
  (n : Int) = sz.1 ∧ (n' : Int) = sz.1 - 1 ∧ ListAt H r rs ∧ rs.length ≤ 4 ∧ (∀ s ∈ rs, Inside sz s) ∧ ∀ H', FlAt K H' x sz rs → But x H H' → Q .non H'
abbrev s_Floor_init : Stmt := inClass (top 29) 0
theorem sc_Floor_init : FnScope ["self", "sizes", "prices", "vias", "rocks", "tolls", "spot"] ["self", "sizes", "prices", "vias", "rocks", "tolls"] (defScope s_Floor_init) := ⟨rfl, rfl, rfl, by decide +kernel, rfl, by decide +kernel, by decide +kernel⟩
theorem f_Floor_init {f : Addr} {fd : FuncData} {dvs : List V} (T : Txt K mg) (c_sizes_good : C8.Cal P w K mg base 1 "sizes_good" spSizesGood []) (c_prices_good : C8.Cal P w K mg base 1 "prices_good" spPricesGood []) (c_inside : C8.Cal P w K mg base 1 "inside" spInside [])
    (F : FunD K "__init__" "Floor.__init__" (defArgs s_Floor_init) (defBody s_Floor_init) (defScope s_Floor_init) dvs [] f fd) : FnOk P w K mg base C8.CX0 2 f fd ["self", "sizes", "prices", "vias", "rocks", "tolls"] (spFloor K) := by
  refine fn_mk F sc_Floor_init (fun vs H Q E h => ?_) (fun cdv A outer s0 H vs Q E hr h => ?_)
  · obtain ⟨x, dx, a, l, m, r, sz, n, n', rs, rfl, _⟩ := h
    rfl
  · obtain ⟨x, dx, a, l, m, r, sz, n, n', rs, rfl, hx, ha, hsz, hl, hm, ln, lm, hrs, h4, hin, k⟩ := h
    obtain ⟨as, l1, l2, l3⟩ := id hl
    obtain ⟨bs, r1, r2⟩ := id hrs
    have lb : bs.length = rs.length := Paired.length r2
    refine ⟨_, (pss_cons (ps_if (pt_not (pt_val (C8.pe_c c_sizes_good hr (by decide) rfl (pa_cons (pv 1) (pa_cons (pv 2) (pa_cons (pv 3) pa_nil)))))) (pss_one ps_never) pss_nil)
      (pss_cons (ps_if (pt_cmpR op_isN (pv 5) pe_non (nomark _)) (pss_one (ps_set (i := 5) sc_Floor_init.nd rfl (Or.inl rfl) pe_dnewK)) pss_nil)
      (pss_cons (ps_if (pt_cmpR op_isN (pv 4) pe_non (nomark _)) (pss_one (ps_set (i := 4) sc_Floor_init.nd rfl (Or.inl rfl) (pe_lst pa_nil))) pss_nil)
      (pss_cons (ps_if (pt_not (pt_val (C8.pe_c c_prices_good hr (by decide) rfl (pa_cons (pv 2) (pa_cons (pv 3) (pa_cons (pv 5) pa_nil)))))) (pss_one ps_never) pss_nil)
      (pss_cons (ps_for PassesOwn.never rfl (pi_list (pe_op op_cat (pe_callTy call_list_of (by rfl) T.list (by decide +kernel) (pa_cons (pv 4) pa_nil)) (pe_callTy (call_listD rfl) (by rfl) T.list (by decide +kernel) (pa_cons (pv 5) pa_nil)))) (pg_name (i := 6) sc_Floor_init.nd rfl (Or.inl rfl))
      (pss_one (ps_if (pt_not (pt_val (C8.pe_c c_inside hr (by decide) rfl (pa_cons (pv 1) (pa_cons (pv 6) pa_nil))))) (pss_one ps_never) pss_nil)))
      (pss_cons (ps_fld (pv 0) (pv 1) rfl)
      (pss_cons (ps_fld (pv 0) (pe_callTy call_list_of (by rfl) T.list (by decide +kernel) (pa_cons (pv 2) pa_nil)) rfl)
      (pss_cons (ps_fld (pv 0) (pe_callTy call_list_of (by rfl) T.list (by decide +kernel) (pa_cons (pv 3) pa_nil)) rfl)
      (pss_cons (ps_fld (pv 0) pe_dnewT rfl)
      (pss_cons (ps_for PassesOwn.never rfl (pi_list (pv 4)) (pg_name (i := 6) sc_Floor_init.nd rfl (Or.inl rfl))
      (pss_one (ps_dput (hu_of hr) (pe_fld (pv 0) rfl) (pv 6) pe_bl rfl)))
      (pss_one (ps_fld (pv 0) (pe_callTy call_dictD (by rfl) T.dict (by decide +kernel) (pa_cons (pv 5) pa_nil)) rfl)))))))))))), ?_⟩
    -- sizes_good
    refine ⟨_, rfl, _, rfl, _, rfl, a, l, m, sz, _, _, rfl, ha, hsz, l1, hm, by rw [List.length_map, l2]; exact ln, by rw [List.length_replicate]; exact lm, fun H1 s1 => ⟨_, rfl, iteF ?_⟩⟩
    -- tolls = {}
    refine ⟨_, rfl, rfl, _, rfl, iteT fun d hd => ?_⟩
    have s2 : Same H (upd H1 d (.dK [])) := s1.trans (Same.new hd)
    -- rocks are told
    refine ⟨_, rfl, rfl, _, rfl, iteF ?_⟩
    refine ⟨_, rfl, _, rfl, _, rfl, l, m, d, n, n', rfl, hl.mono s2, s2 _ _ hm, upd_same, fun H2 s3 => ⟨_, rfl, iteF ?_⟩⟩
    have s4 : Same H H2 := s2.trans s3
    have d2 : H2 d = some (.dK []) := s3 _ _ upd_same
    -- for spot in list(rocks) + list(tolls)
    refine ⟨_, rfl, r, _, rfl, .inl (SqL.of (s4 _ _ r1)), fun p hp => ?_⟩
    have s5 : Same H2 (upd H2 p (.lst (bs.map V.ref))) := Same.new hp
    refine ⟨_, rfl, d, [], rfl, .inl (s5 _ _ d2), fun q hq => ?_⟩
    have s6 : Same (upd H2 p (.lst (bs.map V.ref))) (upd (upd H2 p (.lst (bs.map V.ref))) q (.lst [])) := Same.new hq
    refine ⟨p, q, _, _, rfl, rfl, s6 _ _ upd_same, upd_same, (by rw [List.length_map]; exact Nat.le_of_lt (small1000 (by simp; omega))), fun u hu => ?_⟩
    have s7 : Same H2 (upd (upd (upd H2 p (.lst (bs.map V.ref))) q (.lst [])) u (.lst (bs.map V.ref ++ []))) := (s5.trans s6).trans (Same.new hu)
    refine ⟨u, rfl, ⟨_, SqL.of upd_same⟩, for_list (xs := bs.map V.ref ++ []) (fun i σ H3 => ∃ v, σ = [some (V.ref x), some (V.ref a), some (V.ref l), some (V.ref m), some (V.ref r), some (V.ref d), v] ∧
      Same (upd (upd (upd H2 p (.lst (bs.map V.ref))) q (.lst [])) u (.lst (bs.map V.ref ++ []))) H3) ?_ ?_ ?_ ?_⟩
    · exact ⟨none, rfl, Same.refl _⟩
    · rintro i σ H3 hi ⟨v, rfl, s8⟩
      exact SqL.of (s8 _ _ upd_same)
    · rintro i y σ H3 hi ⟨v, rfl, s8⟩
      rw [List.append_nil] at hi
      obtain ⟨c, hc, rfl⟩ := map_at hi
      obtain ⟨s, hs, hcs⟩ := Paired.at r2 hc
      have sH : Same H H3 := (s4.trans s7).trans s8
      refine ⟨_, rfl, _, rfl, a, c, sz, s, rfl, ha.mono sH, hcs.mono sH, fun H4 s9 => ⟨_, rfl, iteNS (hin s (List.mem_of_getElem? hs)) ⟨_, rfl, s8.trans s9⟩⟩⟩
    · rintro σ H3 ⟨v, rfl, s8⟩
      have sH : Same H H3 := (s4.trans s7).trans s8
      have x3 := sH _ _ hx
      -- self.sizes = sizes
      refine ⟨_, rfl, _, rfl, x, cFl K, dx, _, rfl, x3, T.clF, T.nF _ (by simp), (by show 0 < 1000; decide), ?_⟩
      generalize hH4 : upd H3 x (.ins (cFl K) dx (putF "sizes" (V.ref a) [])) = H4
      have b4 : But x H H4 := by rw [← hH4]; exact (But.of sH).trans But.upd
      have x4 : H4 x = some (.ins (cFl K) dx [("sizes", V.ref a)]) := by rw [← hH4]; exact upd_same
      have nl : l ≠ x := ne_of l1 hx (fun q => by cases q)
      have nm : m ≠ x := ne_of hm hx (fun q => by cases q)
      have nr : r ≠ x := ne_of r1 hx (fun q => by cases q)
      -- self.by_layer = list(prices)
      refine ⟨_, rfl, l, _, rfl, .inl (SqL.of (b4 _ _ l1 nl)), fun e1 he1 => ?_⟩
      have n1 : e1 ≠ x := fun q => by rw [q, x4] at he1; cases he1
      refine ⟨_, rfl, x, cFl K, dx, _, rfl, (by rw [upd_ne n1.symm]; exact x4), T.clF, T.nF _ (by simp), (by show 1 < 1000; decide), ?_⟩
      generalize hH5 : upd (upd H4 e1 (.lst (as.map V.ref))) x (.ins (cFl K) dx (putF "by_layer" (V.ref e1) [("sizes", V.ref a)])) = H5
      have b5 : But x H H5 := by rw [← hH5]; exact (b4.trans (But.of (Same.new he1))).trans But.upd
      have x5 : H5 x = some (.ins (cFl K) dx [("sizes", V.ref a), ("by_layer", V.ref e1)]) := by rw [← hH5]; exact upd_same
      -- self.by_via = list(vias)
      refine ⟨_, rfl, m, _, rfl, .inl (SqL.of (b5 _ _ hm nm)), fun e2 he2 => ?_⟩
      have n2 : e2 ≠ x := fun q => by rw [q, x5] at he2; cases he2
      refine ⟨_, rfl, x, cFl K, dx, _, rfl, (by rw [upd_ne n2.symm]; exact x5), T.clF, T.nF _ (by simp), (by show 2 < 1000; decide), ?_⟩
      generalize hH6 : upd (upd H5 e2 (.lst (List.replicate n' (V.int 1)))) x (.ins (cFl K) dx (putF "by_via" (V.ref e2) [("sizes", V.ref a), ("by_layer", V.ref e1)])) = H6
      have b6 : But x H H6 := by rw [← hH6]; exact (b5.trans (But.of (Same.new he2))).trans But.upd
      have x6 : H6 x = some (.ins (cFl K) dx [("sizes", V.ref a), ("by_layer", V.ref e1), ("by_via", V.ref e2)]) := by rw [← hH6]; exact upd_same
      -- self.rocks = {}
      intro g hg
      have n3 : g ≠ x := fun q => by rw [q, x6] at hg; cases hg
      refine ⟨_, rfl, x, cFl K, dx, _, rfl, (by rw [upd_ne n3.symm]; exact x6), T.clF, T.nF _ (by simp), (by show 3 < 1000; decide), ?_⟩
      generalize hH7 : upd (upd H6 g (.dT [])) x (.ins (cFl K) dx (putF "rocks" (V.ref g) [("sizes", V.ref a), ("by_layer", V.ref e1), ("by_via", V.ref e2)])) = H7
      have b7 : But x H H7 := by rw [← hH7]; exact (b6.trans (But.of (Same.new hg))).trans But.upd
      have x7 : H7 x = some (.ins (cFl K) dx [("sizes", V.ref a), ("by_layer", V.ref e1), ("by_via", V.ref e2), ("rocks", V.ref g)]) := by rw [← hH7]; exact upd_same
      have g7 : H7 g = some (.dT []) := by rw [← hH7, upd_ne n3, upd_same]
      have fg : H g = none := by
        cases z : H g with
        | none => rfl
        | some o =>
          rw [b6 _ _ z n3] at hg
          cases hg
      have dd : d ≠ x ∧ H7 d = some (.dK []) := by
        have n4 : d ≠ x := fun q => by
          rw [q] at hd
          rw [s1 _ _ hx] at hd
          cases hd
        refine ⟨n4, ?_⟩
        have d3 : H3 d = some (.dK []) := s8 _ _ (s7 _ _ d2)
        have c4 : But x H3 H7 := by
          rw [← hH7, ← hH6, ← hH5, ← hH4]
          exact (((((But.upd).trans (But.of (Same.new (by rw [hH4]; exact he1)))).trans But.upd).trans (But.of (Same.new (by rw [hH4, hH5]; exact he2)))).trans But.upd).trans ((But.of (Same.new (by rw [hH4, hH5, hH6]; exact hg))).trans But.upd)
        exact c4 _ _ d3 n4
      -- for spot in rocks: self.rocks[spot] = True
      refine ⟨_, rfl, r, rfl, ⟨_, SqL.of (b7 _ _ r1 nr)⟩, for_list (xs := bs.map V.ref) (fun i σ H8 => ∃ v kvs, σ = [some (V.ref x), some (V.ref a), some (V.ref l), some (V.ref m), some (V.ref r), some (V.ref d), v] ∧
        (∀ b o, H7 b = some o → b ≠ g → H8 b = some o) ∧ H8 g = some (.dT kvs) ∧ kvs.length ≤ i ∧ ∀ s : Spot, (valV kvs (skey s)).isSome = decide (s ∈ rs.take i)) ?_ ?_ ?_ ?_⟩
      · exact ⟨_, [], rfl, fun b o h _ => h, g7, Nat.le_refl _, fun s => by simp [valV]⟩
      · rintro i σ H8 hi ⟨v, kvs, rfl, k8, _⟩
        refine SqL.of (k8 _ _ (b7 _ _ r1 nr) fun q => ?_)
        rw [q, fg] at r1
        cases r1
      · rintro i y σ H8 hi ⟨v, kvs, rfl, k8, g8, hlen, hmem⟩
        obtain ⟨c, hc, rfl⟩ := map_at hi
        obtain ⟨s, hs, hcs⟩ := Paired.at r2 hc
        have il : i < rs.length := (List.getElem?_eq_some_iff.mp hs).1
        have ngx : x ≠ g := n3.symm
        have hc8 : H8 c = some (.tup ((skey s).map kV)) := k8 _ _ (b7 _ _ hcs (ne_of hcs hx (fun q => by cases q))) fun q => by
          have z : H c = _ := hcs
          rw [q, fg] at z
          cases z
        refine ⟨_, rfl, x, cFl K, dx, _, _, rfl, k8 _ _ x7 ngx, T.clF, T.nF _ (by simp), rfl, _, rfl, g, _, rfl, DPut.t (k := skey s) g8 hc8 (small1000 (by omega)), ?_⟩
        refine ⟨_, _, rfl, fun b o hb hn => ?_, upd_same, ?_, fun t => ?_⟩
        · rw [upd_ne hn]
          exact k8 b o hb hn
        · have := length_putK kvs (skey s) (V.bl true)
          omega
        · have tk : rs.take (i + 1) = rs.take i ++ [s] := by
            rw [List.take_succ, hs]
            rfl
          rw [valV_put, tk]
          by_cases e : skey t = skey s
          · rw [if_pos e]
            have et : t = s := by
              obtain ⟨t0, t1, t2⟩ := t
              obtain ⟨q0, q1, q2⟩ := s
              simp only [skey, List.cons.injEq, Sum.inl.injEq, and_true] at e
              obtain ⟨rfl, rfl, rfl⟩ := e
              rfl
            subst et
            simp
          · rw [if_neg e, hmem t]
            have nt : t ≠ s := fun q => e (by rw [q])
            simp [nt]
      · rintro σ H8 ⟨v, kvs, rfl, k8, g8, hlen, hmem⟩
        rw [List.length_map, lb, List.take_length] at hmem
        have ngx : x ≠ g := n3.symm
        have ndg : d ≠ g := fun q => by
          have z := dd.2
          rw [q, g7] at z
          cases z
        -- self.tolls = dict(tolls)
        refine ⟨_, rfl, d, [], rfl, .inl (k8 _ _ dd.2 ndg), fun t ht => ?_⟩
        have ntx : t ≠ x := fun q => by
          rw [q, k8 _ _ x7 ngx] at ht
          cases ht
        refine ⟨_, rfl, x, cFl K, dx, _, rfl, (by rw [upd_ne ntx.symm]; exact k8 _ _ x7 ngx), T.clF, T.nF _ (by simp), (by show 4 < 1000; decide), ?_⟩
        have b8 : But x H H8 := fun b o hb hn => k8 _ _ (b7 _ _ hb hn) fun q => by
          rw [q, fg] at hb
          cases hb
        have b9 := (b8.trans (But.of (Same.new (o := .dK []) ht))).trans (But.upd (x := x) (o := .ins (cFl K) dx (putF "tolls" (V.ref t) [("sizes", V.ref a), ("by_layer", V.ref e1), ("by_via", V.ref e2), ("rocks", V.ref g)])))
        refine k _ ⟨dx, a, e1, e2, g, t, kvs, upd_same, But.spot b9 hx ha, ?_, hmem⟩ b9
        rw [upd_ne n3]
        exact (Same.new ht) _ _ g8
end
end Wf

/-! K12J: board.py. -/
namespace Wf
open PySem PySem.Spec PyProof.Rows L2
/-- a def of the module that may raise -/
structure Rai (P : Program) (w : World) (K : PySem.W.Frag) (mg : Str → Option Value) (base : Heap) (k : Nat) (x : Str) (sp : Sp) : Prop where
  ex : ∃ (f : Addr) (fd : FuncData) (ps : List Str), FnOk P w K mg base (L2.CX P w) k f fd ps sp ∧ mg x = some (.ref f) ∧ PySem.W.keepIn K (.ref f) = true ∧ Binds K fd ps []
section
variable {X : Cx} {k j : Nat} {x : Str} {sp : Sp} {E : L2.St → XK} {p pos : Pos} {e : Expr} {es : List Expr} {t : TA}
theorem pe_rai (c : Rai X.prog X.w X.K X.mg X.base k x sp) (hr : Room j X.A) (hk : k ≤ j) (hg : Gl X x) (hx : ∀ σ, PassesAt (L2.CX X.prog X.w) X σ (E σ)) (ha : PA X (e :: es) t)
    (hdb : (x == ("__debug__" : Str)) = false := by decide) (he : starEach (e :: es) X.env = (false, eval e X.env) :: starEach es X.env := by rfl) (hpl : (backTo pos (starEach es X.env)).any (·.1) = false := by rfl) :
    PE X (.Call (.Name x p) (e :: es) [] pos) (tCallS sp E t) := by
  obtain ⟨f, fd, ps, F, hm, kp, b⟩ := c.ex
  exact pe_callS F (hr.mono hk) hg hm kp b hx ha hdb he hpl
end
section
variable {P : Program} {w : World} {K : PySem.W.Frag} {mg : Str → Option Value} {base : Heap}
theorem rai_mk {x : Str} {st : Stmt} {f : Addr} {fd : FuncData} {N ps : List Str} {k : Nat} {sp : Sp} (F : FnP K x x st f fd) (hm : mg x = some (.ref f)) (b : BindP x x st ps) (S : FnScope N ps (defScope st)) (len : ∀ vs H Q E, sp vs H Q E → vs.length = ps.length)
    (hbody : ∀ (cdv : Value) (A : Around) (outer : List Env) (s : Shared) (H : Hp) (vs : List V) (Q : VK) (E : XK), Room k (A.deeper (envOfC x (defScope st) s.heap.objs.size f cdv)) → sp vs H Q E →
      ∃ t, PSs (cxOf (L2.CX P w) P w K mg base N x (defScope st) f cdv A outer s H E) (defBody st) t ∧ t { nx := fun _ H' => Q .non H', rt := Q } (start N vs) H) : Rai P w K mg base (k + 1) x sp :=
  ⟨f, fd, ps, F.ok S len hbody, hm, F.kp, F.bindsN b⟩

/-! ### what is asked of things -/
structure ThOk (t : Th) : Prop where
  half : 0 ≤ t.half ∧ t.half ≤ 2
  room : 0 ≤ t.room ∧ t.room ≤ 3
  one : t.one.length ≤ 12
  two : t.two.length ≤ 12
  small : ∀ s ∈ t.ends, Small s
def NoTwice (ts : List Th) : Prop := (ts.map Th.name).Nodup
def AllFit (sz : Spot) (rs : List Spot) (ts : List Th) : Prop := ∀ t ∈ ts, ∀ s ∈ t.ends, Fits sz rs t.half s
def Apart2 (t u : Th) : Prop := ∀ s ∈ t.ends, ∀ p ∈ u.ends, ¬ Clash t u s p
def NoCrowd (ts : List Th) : Prop := ∀ (i j : Nat) (t u : Th), i < j → ts[i]? = some t → ts[j]? = some u → Apart2 t u

/-! ### refuse_twice -/
def spTwice (K : PySem.W.Frag) : Sp := fun vs H Q E => ∃ (l : Addr) (xs : List Addr) (ts : List Th), vs = [.ref l] ∧ H l = some (.lst (xs.map V.ref)) ∧ ThsAt K H xs ts ∧ ts.length ≤ 12 ∧
  (NoTwice ts → ∀ H', Same H H' → Q .non H') ∧ (¬ NoTwice ts → ∀ H', Same H H' → E (.ref (He.ga K "Twice")) none H')
abbrev s_refuse_twice : Stmt := top 19
theorem sc_refuse_twice : FnScope ["things", "thing"] ["things"] (defScope s_refuse_twice) := ⟨rfl, rfl, rfl, by decide +kernel, rfl, by decide +kernel, by decide +kernel⟩
theorem r_refuse_twice {f : Addr} {fd : FuncData} (T : Txt K mg) (F : FnP K "refuse_twice" "refuse_twice" s_refuse_twice f fd) (hm : mg "refuse_twice" = some (.ref f)) : Rai P w K mg base 1 "refuse_twice" (spTwice K) := by
  refine rai_mk F hm (fun _ _ _ _ _ _ us hl => match us, hl with | [_], _ => rfl) sc_refuse_twice (fun vs H Q E h => ?_) (fun cdv A outer s0 H vs Q E hr h => ?_)
  · obtain ⟨l, xs, ts, rfl, _⟩ := h
    rfl
  · obtain ⟨l, xs, ts, rfl, hl, hts, h12, kY, kN⟩ := h
    have lx : xs.length = ts.length := Paired.length hts
    refine ⟨_, (pss_one (ps_if (pt_cmpR op_ne (pe_lenSetS rfl rfl T.len rfl T.set (pe_lc (own := [("thing", 1)]) (g := gName 1) (tt := tYes) (te := tFld K (tVar 1) "name") rfl sc_refuse_twice.nd (pi_list (pv 0)) (blkOk_by (own := [("thing", 1)]) (N := ["things", "thing"]) (sc := defScope s_refuse_twice) (by decide +kernel)) (fun _ _ _ _ _ => pg_name (i := 1) sc_refuse_twice.nd rfl (Or.inl rfl)) (fun _ _ _ _ _ => pts_nil) (fun _ _ _ _ _ => by exact (pe_fld (pv 1) rfl)))) (pe_callB call_len (by rfl) T.len PySem.boot_len (pa_cons (pv 0) pa_nil)) (nomark _)) (pss_one (ps_raise rfl (takes_of rfl rfl rfl rfl) (pmk_own PySem.F.excBase_ValueError T.xTwice T.gTwice T.kTwice (raises_own T.bTwice T.tTwice) rfl))) pss_nil)), ?_⟩
    refine ⟨_, rfl, l, rfl, ⟨_, SqL.of hl⟩, fun D hD => lc_list (xs := xs.map V.ref) (fun i H1 => Same H H1 ∧ H1 D = some (.lst ((ts.take i).map fun t => V.str t.name))) ?_ ?_ ?_ ?_⟩
    · exact ⟨Same.new hD, upd_same⟩
    · rintro i H1 hi ⟨s1, _⟩
      exact SqL.of (s1 _ _ hl)
    · rintro i y H1 hi ⟨s1, h1⟩
      obtain ⟨x, hx, rfl⟩ := map_at hi
      obtain ⟨t, ht, hxt⟩ := Paired.at hts hx
      obtain ⟨C, dx, fs, tv⟩ := (hxt.mono s1).v T
      have il : i < ts.length := (List.getElem?_eq_some_iff.mp ht).1
      refine ⟨rfl, _, rfl, x, C, dx, _, _, rfl, tv.at_, tv.cl, tv.nn, tv.ln, _, h1, ?_, Same.mut s1 hD, ?_⟩
      · rw [List.length_map, List.length_take]
        exact small1000 (by omega)
      · rw [upd_same, List.take_succ, ht, List.map_append]
        rfl
    · rintro H1 ⟨s1, h1⟩
      rw [List.length_map, lx, List.take_length] at h1
      have h2 : SqL K H1 D ((ts.map Th.name).map V.str) := by
        rw [List.map_map]
        exact SqL.of h1
      refine ⟨D, ts.map Th.name, rfl, h2, (by rw [List.length_map]; omega), ?_⟩
      refine ⟨_, rfl, _, xs.length, rfl, .inl ⟨_, SqL.of (s1 _ _ hl), (by rw [List.length_map])⟩, rfl, _, rfl, ?_⟩
      have key : ((metD (ts.map Th.name)).length = xs.length) ↔ NoTwice ts := by
        rw [lx, show ts.length = (ts.map Th.name).length from (List.length_map ..).symm]
        exact metD_full _
      by_cases hn : NoTwice ts
      · rw [key.mpr hn]
        exact iteNS rfl (kY hn H1 s1)
      · refine ite2 (fun _ => kN hn H1 s1) (fun z => ?_)
        exfalso
        have e := dec_eq z
        exact hn (key.mp (Int.ofNat.inj e))

/-! ### refuse_unfit -/
def spUnfit (K : PySem.W.Frag) : Sp := fun vs H Q E => ∃ (x l : Addr) (sz : Spot) (rs : List Spot) (xs : List Addr) (ts : List Th), vs = [.ref x, .ref l] ∧ FlAt K H x sz rs ∧ SzOk sz ∧ H l = some (.lst (xs.map V.ref)) ∧ ThsAt K H xs ts ∧ (∀ t ∈ ts, ThOk t) ∧
  (AllFit sz rs ts → ∀ H', Same H H' → Q .non H') ∧ (¬ AllFit sz rs ts → ∀ H', Same H H' → E (.ref (He.ga K "NoFit")) none H')
abbrev s_refuse_unfit : Stmt := top 20
theorem sc_refuse_unfit : FnScope ["floor", "things", "thing", "spot"] ["floor", "things"] (defScope s_refuse_unfit) := ⟨rfl, rfl, rfl, by decide +kernel, rfl, by decide +kernel, by decide +kernel⟩
theorem r_refuse_unfit {f : Addr} {fd : FuncData} (T : Txt K mg) (c_fits : C8.Cal P w K mg base 4 "fits" (spFits K) []) (e_N : C8.Met P w K mg base 1 (cNe K) "ends" (spEnds K false) []) (e_B : C8.Met P w K mg base 1 (cBu K) "ends" (spEnds K true) [])
    (F : FnP K "refuse_unfit" "refuse_unfit" s_refuse_unfit f fd) (hm : mg "refuse_unfit" = some (.ref f)) : Rai P w K mg base 5 "refuse_unfit" (spUnfit K) := by
  refine rai_mk F hm (fun _ _ _ _ _ _ us hl => match us, hl with | [_, _], _ => rfl) sc_refuse_unfit (fun vs H Q E h => ?_) (fun cdv A outer s0 H vs Q E hr h => ?_)
  · obtain ⟨x, l, sz, rs, xs, ts, rfl, _⟩ := h
    rfl
  · obtain ⟨x, l, sz, rs, xs, ts, rfl, hx, hsz, hl, hts, hok, kY, kN⟩ := h
    have lx : xs.length = ts.length := Paired.length hts
    refine ⟨_, (pss_one (ps_for (passes_of rfl) rfl (pi_list (pv 1)) (pg_name (i := 2) sc_refuse_unfit.nd rfl (Or.inl rfl))
      (pss_one (ps_for (passes_of rfl) rfl (pi_list (pe_ends e_N e_B hr (by decide) (pv 2))) (pg_name (i := 3) sc_refuse_unfit.nd rfl (Or.inl rfl))
      (pss_one (ps_if (pt_not (pt_val (C8.pe_c c_fits hr (by decide) rfl (pa_cons (pv 0) (pa_cons (pv 2) (pa_cons (pv 3) pa_nil)))))) (pss_one (ps_raise rfl (takes_of rfl rfl rfl rfl) (pmk_own PySem.F.excBase_ValueError T.xNoFit T.gNoFit T.kNoFit (raises_own T.bNoFit T.tNoFit) rfl))) pss_nil)))))), ?_⟩
    refine ⟨_, rfl, l, rfl, ⟨_, SqL.of hl⟩, for_list (xs := xs.map V.ref) (fun i σ H1 => ∃ v2 v3, σ = [some (V.ref x), some (V.ref l), v2, v3] ∧ Same H H1 ∧ ∀ j t, j < i → ts[j]? = some t → ∀ s ∈ t.ends, Fits sz rs t.half s) ?_ ?_ ?_ ?_⟩
    · exact ⟨none, none, rfl, Same.refl _, fun j t hj => absurd hj (Nat.not_lt_zero j)⟩
    · rintro i σ H1 hi ⟨v2, v3, rfl, s1, _⟩
      exact SqL.of (s1 _ _ hl)
    · rintro i y σ H1 hi ⟨v2, v3, rfl, s1, hd⟩
      obtain ⟨a, ha, rfl⟩ := map_at hi
      obtain ⟨t, ht, hat⟩ := Paired.at hts ha
      have tm := List.mem_of_getElem? ht
      have tk := hok t tm
      refine ⟨_, rfl, a, t, rfl, hat.mono s1, ⟨tk.one, tk.two⟩, fun H2 m s2 hm2 => ?_⟩
      obtain ⟨as, m1, m2⟩ := id hm2
      refine ⟨m, rfl, ⟨_, SqL.of m1⟩, for_list (xs := as.map V.ref) (fun i σ H3 => ∃ v3, σ = [some (V.ref x), some (V.ref l), some (V.ref a), v3] ∧ Same H2 H3 ∧ ∀ j s, j < i → t.ends[j]? = some s → Fits sz rs t.half s) ?_ ?_ ?_ ?_⟩
      · exact ⟨v3, rfl, Same.refl _, fun j t hj => absurd hj (Nat.not_lt_zero j)⟩
      · rintro i σ H3 hi ⟨v3, rfl, s3, _⟩
        exact SqL.of (s3 _ _ m1)
      · rintro i2 y σ H3 hi2 ⟨v3, rfl, s3, hd2⟩
        obtain ⟨b, hb, rfl⟩ := map_at hi2
        obtain ⟨s, hs, hbs⟩ := Paired.at m2 hb
        have sm := List.mem_of_getElem? hs
        have s4 : Same H H3 := (s1.trans s2).trans s3
        refine ⟨_, rfl, _, rfl, _, rfl, x, a, b, sz, rs, t, s, rfl, hx.mono s4, hat.mono s4, hbs.mono s3, hsz.small, tk.small s sm, tk.half, fun H4 s5 => ⟨fun hf => ⟨_, rfl, iteF ?_⟩, fun hf => ⟨_, rfl, iteT ?_⟩⟩⟩
        · refine ⟨_, rfl, s3.trans s5, fun j q hj hq => ?_⟩
          by_cases e : j = i2
          · subst e
            rw [hs] at hq
            obtain rfl := Option.some.inj hq
            exact hf
          · exact hd2 j q (by omega) hq
        · exact kN (fun z => hf (z t tm s sm)) H4 (s4.trans s5)
      · rintro σ H3 ⟨v3, rfl, s3, hd2⟩
        refine ⟨_, _, rfl, (s1.trans s2).trans s3, fun j q hj hq => ?_⟩
        by_cases e : j = i
        · subst e
          rw [ht] at hq
          obtain rfl := Option.some.inj hq
          intro s hs
          obtain ⟨n, hn, e⟩ := List.getElem_of_mem hs
          have la : as.length = t.ends.length := Paired.length m2
          exact hd2 n s (by rw [List.length_map]; omega) (by rw [List.getElem?_eq_getElem hn, e])
        · exact hd j q (by omega) hq
    · rintro σ H1 ⟨v2, v3, rfl, s1, hd⟩
      refine kY (fun t ht s hs => ?_) H1 s1
      obtain ⟨n, hn, e⟩ := List.getElem_of_mem ht
      exact hd n t (by rw [List.length_map]; omega) (by rw [List.getElem?_eq_getElem hn, e]) s hs

/-! ### refuse_crowded -/
theorem cutV_from (xs : List V) (k : Nat) (h : k < xs.length) : cutV xs (some (((k : Nat) : Int) + 1)) none = xs.drop (k + 1) := by
  have e : (((k : Nat) : Int) + 1) = ((k + 1 : Nat) : Int) := by push_cast; rfl
  unfold cutV
  rw [e, HT.sIx_nat, HT.sIx_none, Nat.min_eq_left (by omega), List.take_of_length_le (by rw [List.length_drop]; exact Nat.le_refl _)]
def spCrowded (K : PySem.W.Frag) : Sp := fun vs H Q E => ∃ (l : Addr) (xs : List Addr) (ts : List Th), vs = [.ref l] ∧ H l = some (.lst (xs.map V.ref)) ∧ ThsAt K H xs ts ∧ ts.length ≤ 12 ∧ (∀ t ∈ ts, ThOk t) ∧
  (NoCrowd ts → ∀ H', Same H H' → Q .non H') ∧ (¬ NoCrowd ts → ∀ H', Same H H' → E (.ref (He.ga K "Crowded")) none H')
abbrev s_refuse_crowded : Stmt := top 21
theorem sc_refuse_crowded : FnScope ["things", "k", "other", "spot"] ["things"] (defScope s_refuse_crowded) := ⟨rfl, rfl, rfl, by decide +kernel, rfl, by decide +kernel, by decide +kernel⟩
theorem r_refuse_crowded {f : Addr} {fd : FuncData} (T : Txt K mg) (c_clash_any : C8.Cal P w K mg base 3 "clash_any" (spClashAny K) []) (e_N : C8.Met P w K mg base 1 (cNe K) "ends" (spEnds K false) []) (e_B : C8.Met P w K mg base 1 (cBu K) "ends" (spEnds K true) [])
    (F : FnP K "refuse_crowded" "refuse_crowded" s_refuse_crowded f fd) (hm : mg "refuse_crowded" = some (.ref f)) : Rai P w K mg base 4 "refuse_crowded" (spCrowded K) := by
  refine rai_mk F hm (fun _ _ _ _ _ _ us hl => match us, hl with | [_], _ => rfl) sc_refuse_crowded (fun vs H Q E h => ?_) (fun cdv A outer s0 H vs Q E hr h => ?_)
  · obtain ⟨l, xs, ts, rfl, _⟩ := h
    rfl
  · obtain ⟨l, xs, ts, rfl, hl, hts, h12, hok, kY, kN⟩ := h
    have lx : xs.length = ts.length := Paired.length hts
    refine ⟨_, (pss_one (ps_for (passes_of rfl) rfl (pi_range1 rfl T.range (pa_cons (pe_callB call_len (by rfl) T.len PySem.boot_len (pa_cons (pv 0) pa_nil)) pa_nil)) (pg_name (i := 1) sc_refuse_crowded.nd rfl (Or.inl rfl))
      (pss_one (ps_for (passes_of rfl) rfl (pi_list (pe_slice sl_list (pv 0) (po_some (pe_op op_add (pv 1) pe_int)) po_none)) (pg_name (i := 2) sc_refuse_crowded.nd rfl (Or.inl rfl))
      (pss_one (ps_for (passes_of rfl) rfl (pi_list (pe_ends e_N e_B hr (by decide) (pe_ix ix_list (pv 0) (pv 1) (fun _ _ => rfl)))) (pg_name (i := 3) sc_refuse_crowded.nd rfl (Or.inl rfl))
      (pss_one (ps_if (pt_val (C8.pe_c c_clash_any hr (by decide) rfl (pa_cons (pe_ix ix_list (pv 0) (pv 1) (fun _ _ => rfl)) (pa_cons (pv 3) (pa_cons (pv 2) (pa_cons (pe_ends e_N e_B hr (by decide) (pv 2)) pa_nil)))))) (pss_one (ps_raise rfl (takes_of rfl rfl rfl rfl) (pmk_own PySem.F.excBase_ValueError T.xCrowded T.gCrowded T.kCrowded (raises_own T.bCrowded T.tCrowded) rfl))) pss_nil)))))))), ?_⟩
    -- for k in range(len(things))
    refine ⟨_, rfl, _, xs.length, rfl, .inl ⟨_, SqL.of hl, (by rw [List.length_map])⟩, _, rfl, by omega, by omega, for_range (lo := 0) (n := xs.length) (fun i σ H1 => ∃ v1 v2 v3, σ = [some (V.ref l), v1, v2, v3] ∧ Same H H1 ∧
      ∀ (a b : Nat) (t u : Th), a < i → a < b → ts[a]? = some t → ts[b]? = some u → Apart2 t u) ?_ ?_ ?_⟩
    · exact ⟨none, none, none, rfl, Same.refl _, fun a b t u ha => absurd ha (Nat.not_lt_zero a)⟩
    · rintro i σ H1 hi ⟨v1, v2, v3, rfl, s1, hd⟩
      obtain ⟨x, hx⟩ : ∃ x, xs[i]? = some x := ⟨xs[i], List.getElem?_eq_getElem hi⟩
      obtain ⟨t, ht, hxt⟩ := Paired.at hts hx
      have tk := hok t (List.mem_of_getElem? ht)
      have ix : ∀ z : Int, z = ((i : Nat) : Int) → atI (xs.map V.ref) z = some (V.ref x) := fun z e => at_of (j := i) e (by rw [List.getElem?_map, hx]; rfl)
      -- for other in things[k + 1:]
      refine ⟨_, rfl, _, rfl, _, _, rfl, rfl, _, rfl, l, _, rfl, SqL.of (s1 _ _ hl), fun p hp => ?_⟩
      have cut : cutV (xs.map V.ref) (some (0 + ((i : Nat) : Int) + 1)) none = (xs.drop (i + 1)).map V.ref := by
        rw [Int.zero_add, cutV_from _ _ (by rw [List.length_map]; exact hi), List.map_drop]
      rw [cut]
      have s2 : Same H1 (upd H1 p (.lst ((xs.drop (i + 1)).map V.ref))) := Same.new hp
      refine ⟨p, rfl, ⟨_, SqL.of upd_same⟩, for_list (xs := (xs.drop (i + 1)).map V.ref) (fun j σ H2 => ∃ v2 v3, σ = [some (V.ref l), some (V.int (0 + ((i : Nat) : Int))), v2, v3] ∧ Same (upd H1 p (.lst ((xs.drop (i + 1)).map V.ref))) H2 ∧
        ∀ (b : Nat) (u : Th), b < j → ts[i + 1 + b]? = some u → Apart2 t u) ?_ ?_ ?_ ?_⟩
      · exact ⟨v2, v3, rfl, Same.refl _, fun b u hb => absurd hb (Nat.not_lt_zero b)⟩
      · rintro j σ H2 hj ⟨v2, v3, rfl, s3, _⟩
        exact SqL.of (s3 _ _ upd_same)
      · rintro j y σ H2 hj ⟨v2, v3, rfl, s3, hd2⟩
        obtain ⟨z, hz, rfl⟩ := map_at hj
        rw [List.getElem?_drop] at hz
        obtain ⟨u, hu, hzu⟩ := Paired.at hts hz
        have uk := hok u (List.mem_of_getElem? hu)
        have s4 : Same H H2 := (s1.trans s2).trans s3
        -- for spot in things[k].ends()
        refine ⟨_, rfl, _, rfl, l, _, _, _, rfl, rfl, SqL.of (s4 _ _ hl), ix _ (Int.zero_add _), x, t, rfl, hxt.mono s4, ⟨tk.one, tk.two⟩, fun H3 m s5 hm3 => ?_⟩
        obtain ⟨as, m1, m2⟩ := id hm3
        refine ⟨m, rfl, ⟨_, SqL.of m1⟩, for_list (xs := as.map V.ref) (fun n σ H4 => ∃ v3, σ = [some (V.ref l), some (V.int (0 + ((i : Nat) : Int))), some (V.ref z), v3] ∧ Same H3 H4 ∧
          ∀ (c : Nat) (s : Spot), c < n → t.ends[c]? = some s → ∀ q ∈ u.ends, ¬ Clash t u s q) ?_ ?_ ?_ ?_⟩
        · exact ⟨v3, rfl, Same.refl _, fun c s hc => absurd hc (Nat.not_lt_zero c)⟩
        · rintro n σ H4 hn ⟨v3, rfl, s6, _⟩
          exact SqL.of (s6 _ _ m1)
        · rintro n y σ H4 hn ⟨v3, rfl, s6, hd3⟩
          obtain ⟨b, hb, rfl⟩ := map_at hn
          obtain ⟨s, hs, hbs⟩ := Paired.at m2 hb
          have s7 : Same H H4 := (s4.trans s5).trans s6
          refine ⟨_, rfl, _, rfl, l, _, _, _, rfl, rfl, SqL.of (s7 _ _ hl), ix _ (Int.zero_add _), _, rfl, _, rfl, _, rfl, z, u, rfl, hzu.mono s7, ⟨uk.one, uk.two⟩, fun H5 m' s8 hm5 => ?_⟩
          have s9 : Same H H5 := s7.trans s8
          refine ⟨x, b, z, m', t, u, s, u.ends, rfl, hxt.mono s9, hbs.mono (s6.trans s8), hzu.mono s9, hm5, fun H6 s10 => ⟨_, rfl, ?_⟩⟩
          by_cases hc : (u.ends.any fun q => decide (Clash t u s q)) = true
          · rw [hc]
            refine iteT (kN (fun nc => ?_) H6 (s9.trans s10))
            obtain ⟨q, hq, e⟩ := List.any_eq_true.mp hc
            exact nc i (i + 1 + j) t u (by omega) ht hu s (List.mem_of_getElem? hs) q hq (of_decide_eq_true e)
          · have e : (u.ends.any fun q => decide (Clash t u s q)) = false := by simpa using hc
            rw [e]
            refine iteF ⟨_, rfl, s6.trans (s8.trans s10), fun c s' hc' hs' => ?_⟩
            by_cases ec : c = n
            · subst ec
              rw [hs] at hs'
              obtain rfl := Option.some.inj hs'
              intro q hq z
              rw [List.any_eq_false] at e
              exact e q hq (decide_eq_true z)
            · exact hd3 c s' (by omega) hs'
        · rintro σ H4 ⟨v3, rfl, s6, hd3⟩
          refine ⟨_, _, rfl, s3.trans (s5.trans s6), fun b u' hb hu' => ?_⟩
          by_cases eb : b = j
          · subst eb
            rw [hu] at hu'
            obtain rfl := Option.some.inj hu'
            intro s hs
            obtain ⟨n, hn, e⟩ := List.getElem_of_mem hs
            have la : as.length = t.ends.length := Paired.length m2
            exact hd3 n s (by rw [List.length_map]; omega) (by rw [List.getElem?_eq_getElem hn, e])
          · exact hd2 b u' (by omega) hu'
      · rintro σ H2 ⟨v2, v3, rfl, s3, hd2⟩
        refine ⟨_, _, _, rfl, (s1.trans s2).trans s3, fun a b t' u' ha hab ht' hu' => ?_⟩
        by_cases ea : a = i
        · subst ea
          rw [ht] at ht'
          obtain rfl := Option.some.inj ht'
          have bl : b < ts.length := (List.getElem?_eq_some_iff.mp hu').1
          refine hd2 (b - (a + 1)) u' (by rw [List.length_map, List.length_drop]; omega) ?_
          rw [show a + 1 + (b - (a + 1)) = b by omega]
          exact hu'
        · exact hd a b t' u' (by omega) hab ht' hu'
    · rintro σ H1 ⟨v1, v2, v3, rfl, s1, hd⟩
      refine kY (fun a b t u hab ht hu => ?_) H1 s1
      have al : a < ts.length := (List.getElem?_eq_some_iff.mp ht).1
      exact hd a b t u (by omega) hab ht hu
end
end Wf

/-! K12K: the class Board. -/
namespace Wf
open PySem PySem.Spec PyProof.Rows L2
section
variable {P : Program} {w : World} {K : PySem.W.Frag} {mg : Str → Option Value} {base : Heap}
def boardF (f a : Addr) : List (Str × V) := [("floor", V.ref f), ("kept", V.ref a)]
/-- a board over the floor at f that keeps the things at xs in a list of its own, at a -/
def BoAt (K : PySem.W.Frag) (H : Hp) (x f a : Addr) (xs : List Addr) : Prop := ∃ dx, H x = some (.ins (cBo K) dx (boardF f a)) ∧ H a = some (.lst (xs.map V.ref))
theorem BoAt.mono {H H' : Hp} {x f a : Addr} {xs : List Addr} (e : Same H H') (h : BoAt K H x f a xs) : BoAt K H' x f a xs := by
  obtain ⟨dx, h1, h2⟩ := h
  exact ⟨dx, e _ _ h1, e _ _ h2⟩
def spBoard (K : PySem.W.Frag) : Sp := fun vs H Q E => ∃ (x dx f l : Addr) (sz : Spot) (rs : List Spot) (xs : List Addr) (ts : List Th), vs = [.ref x, .ref f, .ref l] ∧ H x = some (.ins (cBo K) dx []) ∧ FlAt K H f sz rs ∧ SzOk sz ∧ H l = some (.lst (xs.map V.ref)) ∧ ThsAt K H xs ts ∧
  ts.length ≤ 12 ∧ (∀ t ∈ ts, ThOk t) ∧
  (NoTwice ts → AllFit sz rs ts → NoCrowd ts → ∀ (H' : Hp) (a : Addr), BoAt K H' x f a xs → H a = none → But x H H' → Q .non H') ∧
  (¬ NoTwice ts → ∀ H', Same H H' → E (.ref (He.ga K "Twice")) none H') ∧
  (NoTwice ts → ¬ AllFit sz rs ts → ∀ H', Same H H' → E (.ref (He.ga K "NoFit")) none H') ∧
  (NoTwice ts → AllFit sz rs ts → ¬ NoCrowd ts → ∀ H', Same H H' → E (.ref (He.ga K "Crowded")) none H')
abbrev s_Board_init : Stmt := inClass (top 22) 0
theorem sc_Board_init : FnScope ["self", "floor", "things"] ["self", "floor", "things"] (defScope s_Board_init) := ⟨rfl, rfl, rfl, by decide +kernel, rfl, by decide +kernel, by decide +kernel⟩
theorem f_Board_init {f : Addr} {fd : FuncData} (T : Txt K mg) (r_refuse_twice : Rai P w K mg base 1 "refuse_twice" (spTwice K)) (r_refuse_unfit : Rai P w K mg base 5 "refuse_unfit" (spUnfit K)) (r_refuse_crowded : Rai P w K mg base 4 "refuse_crowded" (spCrowded K))
    (F : FnP K "__init__" "Board.__init__" s_Board_init f fd) : FnOk P w K mg base (L2.CX P w) 6 f fd ["self", "floor", "things"] (spBoard K) := by
  refine F.ok sc_Board_init (fun vs H Q E h => ?_) (fun cdv A outer s0 H vs Q E hr h => ?_)
  · obtain ⟨x, dx, f, l, sz, rs, xs, ts, rfl, _⟩ := h
    rfl
  · obtain ⟨x, dx, f, l, sz, rs, xs, ts, rfl, hx, hf, hsz, hl, hts, h12, hok, k1, k2, k3, k4⟩ := h
    refine ⟨_, (pss_cons (ps_expr (pe_rai r_refuse_twice hr (by decide) rfl (fun σ => passAt (takes_of rfl rfl rfl rfl) σ) (pa_cons (pv 2) pa_nil)))
      (pss_cons (ps_expr (pe_rai r_refuse_unfit hr (by decide) rfl (fun σ => passAt (takes_of rfl rfl rfl rfl) σ) (pa_cons (pv 1) (pa_cons (pv 2) pa_nil))))
      (pss_cons (ps_expr (pe_rai r_refuse_crowded hr (by decide) rfl (fun σ => passAt (takes_of rfl rfl rfl rfl) σ) (pa_cons (pv 2) pa_nil)))
      (pss_cons (ps_fld (pv 0) (pv 1) rfl)
      (pss_one (ps_fld (pv 0) (pe_callTy call_list_of (by rfl) T.list (by decide +kernel) (pa_cons (pv 2) pa_nil)) rfl)))))), ?_⟩
    refine ⟨_, rfl, l, xs, ts, rfl, hl, hts, h12, fun n1 H1 s1 => ?_, fun n1 H1 s1 => k2 n1 H1 s1⟩
    refine ⟨_, rfl, _, rfl, f, l, sz, rs, xs, ts, rfl, hf.mono s1, hsz, s1 _ _ hl, hts.mono s1, hok, fun n2 H2 s2 => ?_, fun n2 H2 s2 => k3 n1 n2 H2 (s1.trans s2)⟩
    have s12 := s1.trans s2
    refine ⟨_, rfl, l, xs, ts, rfl, s12 _ _ hl, hts.mono s12, h12, hok, fun n3 H3 s3 => ?_, fun n3 H3 s3 => k4 n1 n2 n3 H3 (s12.trans s3)⟩
    have s13 := s12.trans s3
    have x3 := s13 _ _ hx
    have nl : l ≠ x := ne_of hl hx (fun q => by cases q)
    refine ⟨_, rfl, _, rfl, x, cBo K, dx, _, rfl, x3, T.clD, T.nD _ (by simp), (by show 0 < 1000; decide), ?_⟩
    have b4 : But x H (upd H3 x (.ins (cBo K) dx (putF "floor" (V.ref f) []))) := (But.of s13).trans But.upd
    refine ⟨_, rfl, l, _, rfl, .inl (SqL.of (b4 _ _ hl nl)), fun a ha => ?_⟩
    have nax : a ≠ x := fun q => by
      rw [q, upd_same] at ha
      cases ha
    have fa : H a = none := by
      rw [upd_ne nax] at ha
      exact s13.free ha
    refine ⟨_, rfl, x, cBo K, dx, _, rfl, (by rw [upd_ne nax.symm]; exact upd_same), T.clD, T.nD _ (by simp), (by show 1 < 1000; decide), ?_⟩
    refine k1 n1 n2 n3 _ a ⟨dx, upd_same, ?_⟩ fa ((b4.trans (But.of (Same.new ha))).trans But.upd)
    rw [upd_ne nax, upd_same]

/-! ### things(), thing_named(name) -/
def spThings (K : PySem.W.Frag) : Sp := fun vs H Q _ => ∃ (x f a : Addr) (xs : List Addr), vs = [.ref x] ∧ BoAt K H x f a xs ∧ ∀ (H' : Hp) (p : Addr), Same H H' → H p = none → H' p = some (.lst (xs.map V.ref)) → Q (.ref p) H'
abbrev s_Board_things : Stmt := inClass (top 22) 1
theorem sc_Board_things : FnScope ["self"] ["self"] (defScope s_Board_things) := ⟨rfl, rfl, rfl, by decide +kernel, rfl, by decide +kernel, by decide +kernel⟩
theorem c_things {f : Addr} {fd : FuncData} (T : Txt K mg) (me : Meth K (cBo K) "things" f) (F : FnP K "things" "Board.things" s_Board_things f fd) : C8.Met P w K mg base 1 (cBo K) "things" (spThings K) [] := by
  refine met_mk T.clD me F (fun _ _ _ _ _ _ us hl => match us, hl with | [_], _ => rfl) sc_Board_things (fun vs H Q E h => ?_) (fun cdv A outer s0 H vs Q E hr h => ?_)
  · obtain ⟨x, f, a, xs, rfl, _⟩ := h
    rfl
  · obtain ⟨x, f, a, xs, rfl, ⟨dx, h1, h2⟩, k⟩ := h
    refine ⟨_, (pss_one (ps_ret (pe_callTy call_list_of (by rfl) T.list (by decide +kernel) (pa_cons (pe_fld (pv 0) rfl) pa_nil)))), ?_⟩
    exact ⟨_, rfl, x, _, dx, _, _, rfl, h1, T.clD, T.nD _ (by simp), rfl, a, _, rfl, .inl (SqL.of h2), fun p hp => k _ p (Same.new hp) hp upd_same⟩
def spNamed (K : PySem.W.Frag) : Sp := fun vs H Q _ => ∃ (x f a : Addr) (xs : List Addr) (ts : List Th) (z : Str), vs = [.ref x, .str z] ∧ BoAt K H x f a xs ∧ ThsAt K H xs ts ∧
  (∀ (i : Nat) (t : Th) (y : Addr), ts[i]? = some t → xs[i]? = some y → t.name = z → (∀ (j : Nat) (u : Th), j < i → ts[j]? = some u → u.name ≠ z) → ∀ H', Same H H' → Q (.ref y) H') ∧
  ((∀ t ∈ ts, t.name ≠ z) → ∀ H', Same H H' → Q .non H')
abbrev s_Board_thing_named : Stmt := inClass (top 22) 2
theorem sc_Board_thing_named : FnScope ["self", "name", "thing"] ["self", "name"] (defScope s_Board_thing_named) := ⟨rfl, rfl, rfl, by decide +kernel, rfl, by decide +kernel, by decide +kernel⟩
theorem dec_strT {a b : Str} (h : decide (V.str a = V.str b) = true) : a = b := V.str.inj (of_decide_eq_true h)
theorem dec_strF {a b : Str} (h : ¬ decide (V.str a = V.str b) = true) : a ≠ b := fun e => h (decide_eq_true (by rw [e]))
theorem c_thing_named {f : Addr} {fd : FuncData} (T : Txt K mg) (me : Meth K (cBo K) "thing_named" f) (F : FnP K "thing_named" "Board.thing_named" s_Board_thing_named f fd) : C8.Met P w K mg base 1 (cBo K) "thing_named" (spNamed K) [] := by
  refine met_mk T.clD me F (fun _ _ _ _ _ _ us hl => match us, hl with | [_, _], _ => rfl) sc_Board_thing_named (fun vs H Q E h => ?_) (fun cdv A outer s0 H vs Q E hr h => ?_)
  · obtain ⟨x, f, a, xs, ts, z, rfl, _⟩ := h
    rfl
  · obtain ⟨x, f, a, xs, ts, z, rfl, ⟨dx, h1, h2⟩, hts, kY, kN⟩ := h
    have lx : xs.length = ts.length := Paired.length hts
    refine ⟨_, (pss_cons (ps_for PassesOwn.never rfl (pi_list (pe_fld (pv 0) rfl)) (pg_name (i := 2) sc_Board_thing_named.nd rfl (Or.inl rfl))
      (pss_one (ps_if (pt_cmpR op_eq (pe_fld (pv 2) rfl) (pv 1) (nomark _)) (pss_one (ps_ret (pv 2))) pss_nil)))
      (pss_one (ps_ret pe_non))), ?_⟩
    refine ⟨_, rfl, x, _, dx, _, _, rfl, h1, T.clD, T.nD _ (by simp), rfl, a, rfl, ⟨_, SqL.of h2⟩, for_list (xs := xs.map V.ref) (fun i σ H1 => ∃ v, σ = [some (V.ref x), some (V.str z), v] ∧ Same H H1 ∧ ∀ (j : Nat) (u : Th), j < i → ts[j]? = some u → u.name ≠ z) ?_ ?_ ?_ ?_⟩
    · exact ⟨none, rfl, Same.refl _, fun j u hj => absurd hj (Nat.not_lt_zero j)⟩
    · rintro i σ H1 hi ⟨v, rfl, s1, _⟩
      exact SqL.of (s1 _ _ h2)
    · rintro i y σ H1 hi ⟨v, rfl, s1, hd⟩
      obtain ⟨b, hb, rfl⟩ := map_at hi
      obtain ⟨t, ht, hbt⟩ := Paired.at hts hb
      obtain ⟨C, dt, fs, tv⟩ := (hbt.mono s1).v T
      refine ⟨_, rfl, b, C, dt, _, _, rfl, tv.at_, tv.cl, tv.nn, tv.ln, _, rfl, rfl, _, rfl, ?_⟩
      refine ite2 (fun h0 => ⟨_, rfl, kY i t b ht hb (dec_strT h0) hd H1 s1⟩) (fun h0 => ?_)
      refine ⟨_, rfl, s1, fun j u hj hu => ?_⟩
      by_cases e : j = i
      · subst e
        rw [ht] at hu
        obtain rfl := Option.some.inj hu
        exact dec_strF h0
      · exact hd j u (by omega) hu
    · rintro σ H1 ⟨v, rfl, s1, hd⟩
      refine kN (fun t ht => ?_) H1 s1
      obtain ⟨n, hn, e⟩ := List.getElem_of_mem ht
      exact hd n t (by rw [List.length_map]; omega) (by rw [List.getElem?_eq_getElem hn, e])
end
end Wf

/-! K12L: the law's draws: _law_cell_at, _law_folded, _law_spot, _law_ends. -/
namespace Wf
open PySem PySem.Spec PyProof.Rows L2
theorem huD_of {k : Nat} {A : Around} (hr : Room k A) : A.units + 65 < cLine := by
  have := hr.un
  omega
/-! ### spots as data -/
def spD (s : Spot) : PyData := .tuple [.int s.1, .int s.2.1, .int s.2.2]
theorem spD_dp {K : PySem.W.Frag} {H : Hp} {a : Addr} {s : Spot} (h : SpotAt H a s) : Dp K H (.ref a) (spD s) := .tup (SqT.of h) (.cons (.int _) (.cons (.int _) (.cons (.int _) .nil)))
theorem spD_all {K : PySem.W.Frag} {H : Hp} {as : List Addr} {ss : List Spot} (h : SpotsAt H as ss) : DpAll K H (as.map V.ref) (ss.map spD) := by
  induction h with
  | nil => exact .nil
  | cons r t ih => exact .cons (spD_dp r) ih
theorem spD_list {K : PySem.W.Frag} {H : Hp} {l : Addr} {ss : List Spot} (h : ListAt H l ss) : Dp K H (.ref l) (.list (ss.map spD)) := by
  obtain ⟨as, h1, h2⟩ := h
  exact .lst (SqL.of h1) (spD_all h2)
theorem spD_lay (s : Spot) : (spD s).canLay0 = true := by simp [spD, PyData.canLay0, PyData.canLayAll0]
theorem spD_depth (s : Spot) : (spD s).depth = 1 := by simp [spD, PyData.depth, PyData.depthAll]
theorem spDs_lay : ∀ ss : List Spot, PyData.canLayAll0 (ss.map spD) = true
  | [] => by simp [PyData.canLayAll0]
  | s :: ss => by
    rw [List.map_cons]
    simp only [PyData.canLayAll0, spD_lay, spDs_lay ss, Bool.and_self]
theorem spDs_depth : ∀ ss : List Spot, PyData.depthAll (ss.map spD) ≤ 1
  | [] => by simp [PyData.depthAll]
  | s :: ss => by
    rw [List.map_cons]
    simp only [PyData.depthAll, spD_depth]
    have := spDs_depth ss
    omega
theorem spD_shaped (s : Spot) : SeqAt.shaped (spD s) = true := by
  unfold SeqAt.shaped
  rw [spD_lay, spD_depth]
  decide
theorem spDs_shaped (ss : List Spot) : SeqAt.shaped (.list (ss.map spD)) = true := by
  unfold SeqAt.shaped
  have h := spDs_depth ss
  have e1 : (PyData.list (ss.map spD)).canLay0 = true := by simp [PyData.canLay0, spDs_lay]
  have e2 : (PyData.list (ss.map spD)).depth = PyData.depthAll (ss.map spD) + 1 := by simp [PyData.depth]
  rw [e1, e2, Bool.true_and]
  exact decide_eq_true (by omega)
theorem spD_eqv (s t : Spot) : PyData.eqv (spD s) (spD t) = decide (s = t) := by
  obtain ⟨a, b, c⟩ := s
  obtain ⟨d, e, f⟩ := t
  simp [spD, PyData.eqv, PyData.eqvAll, Prod.ext_iff, Bool.beq_eq_decide_eq, Bool.decide_and]
theorem spDs_any (ss : List Spot) (s : Spot) : ((ss.map spD).any fun z => PyData.eqv z (spD s)) = decide (s ∈ ss) := by
  induction ss with
  | nil => simp
  | cons t ss ih =>
    rw [List.map_cons, List.any_cons, ih, spD_eqv]
    by_cases h1 : t = s
    · subst h1
      simp
    · by_cases h2 : s ∈ ss
      · simp [h2]
      · have h3 : ¬ s = t := fun e => h1 e.symm
        simp [h1, h2, h3]
theorem spDs_eqv : ∀ ss ts : List Spot, PyData.eqvAll (ss.map spD) (ts.map spD) = decide (ss = ts)
  | [], [] => by simp [PyData.eqvAll]
  | [], t :: ts => by simp [PyData.eqvAll]
  | s :: ss, [] => by simp [PyData.eqvAll]
  | s :: ss, t :: ts => by
    rw [List.map_cons, List.map_cons]
    simp only [PyData.eqvAll, spD_eqv, spDs_eqv ss ts]
    by_cases h1 : s = t
    · subst h1
      simp
    · simp [h1]

section
variable {P : Program} {w : World} {K : PySem.W.Frag} {mg : Str → Option Value} {base : Heap}
/-! ### _law_cell_at -/
def cell (ns : List Int) (k : Nat) : Int := ns.getD k 0
def spCell (K : PySem.W.Frag) : Sp := fun vs H Q _ => ∃ (a : Addr) (ns : List Int) (k : Nat), vs = [.ref a, .int (k : Int)] ∧ SqL K H a (ns.map V.int) ∧ ns.length ≤ 63 ∧ ∀ H', Same H H' → Q (.int (cell ns k)) H'
abbrev s__law_cell_at : Stmt := top 39
theorem sc__law_cell_at : FnScope ["script", "k"] ["script", "k"] (defScope s__law_cell_at) := ⟨rfl, rfl, rfl, by decide +kernel, rfl, by decide +kernel, by decide +kernel⟩
theorem c__law_cell_at {f : Addr} {fd : FuncData} (T : Txt K mg) (F : FnP K "_law_cell_at" "_law_cell_at" s__law_cell_at f fd) (hm : mg "_law_cell_at" = some (.ref f)) : C8.Cal P w K mg base 1 "_law_cell_at" (spCell K) [] := by
  refine cal_mk F hm (fun _ _ _ _ _ _ us hl => match us, hl with | [_, _], _ => rfl) sc__law_cell_at (fun vs H Q E h => ?_) (fun cdv A outer s0 H vs Q E hr h => ?_)
  · obtain ⟨a, ns, k, rfl, _⟩ := h
    rfl
  · obtain ⟨a, ns, n, rfl, ha, h63, k⟩ := h
    have k := k H (Same.refl _)
    refine ⟨_, (pss_cons (ps_if (pt_cmpR op_lt (pv 1) (pe_callB call_len (by rfl) T.len PySem.boot_len (pa_cons (pv 0) pa_nil)) (nomark _)) (pss_one (ps_ret (pe_ix ix_list (pv 0) (pv 1) (fun _ _ => rfl)))) pss_nil)
      (pss_one (ps_ret pe_int))), ?_⟩
    refine ⟨_, rfl, _, rfl, _, ns.length, rfl, .inl ⟨_, ha, (by rw [List.length_map])⟩, _, _, rfl, rfl, _, rfl, ?_⟩
    refine ite2 (fun h0 => ?_) (fun h0 => ?_)
    · have h1 : n < ns.length := by
        have := of_decide_eq_true h0
        omega
      refine ⟨_, rfl, _, rfl, a, _, _, V.int (cell ns n), rfl, rfl, ha, atI_nat ?_, k⟩
      rw [List.getElem?_map, List.getElem?_eq_getElem h1]
      unfold cell
      rw [List.getD_eq_getElem?_getD, List.getElem?_eq_getElem h1]
      rfl
    · have h1 : ns.length ≤ n := by
        have : ¬ ((n : Int) < (ns.length : Int)) := fun z => h0 (decide_eq_true z)
        omega
      have e : cell ns n = 0 := by
        unfold cell
        rw [List.getD_eq_getElem?_getD, List.getElem?_eq_none h1]
        rfl
      rw [e] at k
      exact k

/-! ### _law_folded -/
def spFolded (K : PySem.W.Frag) : Sp := fun vs H Q _ => ∃ (a : Addr) (ns : List Int), vs = [.ref a, .int 9, .int 12] ∧ SqL K H a (ns.map V.int) ∧ ns.length ≤ 63 ∧ ∀ (H' : Hp) (p : Addr) (cs : List Int), Same H H' → H' p = some (.lst (cs.map V.int)) → cs.length = 12 → Q (.ref p) H'
abbrev s__law_folded : Stmt := top 40
theorem sc__law_folded : FnScope ["script", "behind", "many", "gathered", "k", "at"] ["script", "behind", "many"] (defScope s__law_folded) := ⟨rfl, rfl, rfl, by decide +kernel, rfl, by decide +kernel, by decide +kernel⟩
theorem c__law_folded {f : Addr} {fd : FuncData} (T : Txt K mg) (F : FnP K "_law_folded" "_law_folded" s__law_folded f fd) (hm : mg "_law_folded" = some (.ref f)) : C8.Cal P w K mg base 1 "_law_folded" (spFolded K) [] := by
  refine cal_mk F hm (fun _ _ _ _ _ _ us hl => match us, hl with | [_, _, _], _ => rfl) sc__law_folded (fun vs H Q E h => ?_) (fun cdv A outer s0 H vs Q E hr h => ?_)
  · obtain ⟨a, ns, rfl, _⟩ := h
    rfl
  · obtain ⟨a, ns, rfl, ha, h63, k⟩ := h
    refine ⟨_, (pss_cons (ps_setLc (i := 3) (own := [("k", 4)]) (g := gName 4) (tt := tYes) rfl sc__law_folded.nd rfl rfl (sw_true rfl rfl rfl (by decide +kernel)) (pi_range1 rfl T.range (pa_cons (pv 2) pa_nil)) (blkOk_by (own := [("k", 4)]) (N := ["script", "behind", "many", "gathered", "k", "at"]) (sc := defScope s__law_folded) (by decide +kernel)) (fun _ _ _ _ _ => pg_name (i := 4) sc__law_folded.nd rfl (Or.inl rfl)) (fun _ _ _ _ _ => pts_nil) (fun _ _ _ _ _ => by exact (pe_op op_add (pe_op op_mul (pe_op op_mul (pv 4) (pv 4)) pe_int) (pv 4))))
      (pss_cons (ps_for PassesOwn.never rfl (pi_range2 rfl T.range (pa_cons (pv 1) (pa_cons (pe_callB call_len (by rfl) T.len PySem.boot_len (pa_cons (pv 0) pa_nil)) pa_nil))) (pg_name (i := 4) sc__law_folded.nd rfl (Or.inl rfl))
      (pss_cons (ps_set (i := 5) sc__law_folded.nd rfl (Or.inl rfl) (pe_op op_mod (pe_op op_sub (pv 4) (pv 1)) (pv 2)))
      (pss_one (ps_asg (pe_op op_mod (pe_op op_add (pe_op op_mul (pe_ix ix_list (pv 3) (pv 5) (fun _ _ => rfl)) pe_int) (pe_ix ix_list (pv 0) (pv 4) (fun _ _ => rfl))) pe_int) (pg_sub (pv 3) (pv 5) set_list)))))
      (pss_one (ps_ret (pv 3))))), ?_⟩
    -- gathered = [k * k * 7919 + k for k in range(many)]
    refine ⟨_, rfl, 12, rfl, by decide, by decide, fun D hD => lc_range (lo := 0) (n := 12) (fun i H1 => Same H H1 ∧ ∃ cs : List Int, H1 D = some (.lst (cs.map V.int)) ∧ cs.length = i) ?_ ?_ ?_⟩
    · exact ⟨Same.new hD, [], upd_same, rfl⟩
    · rintro i H1 hi ⟨s1, cs, h1, hc⟩
      refine ⟨rfl, _, rfl, _, rfl, _, _, rfl, rfl, .inl (by omega), _, _, rfl, rfl, .inr (by decide), _, rfl, _, _, rfl, rfl, _, h1, ?_, Same.mut s1 hD, cs ++ [(0 + (i : Int)) * (0 + (i : Int)) * 7919 + (0 + (i : Int))], ?_, ?_⟩
      · rw [List.length_map]
        exact small1000 (by omega)
      · rw [upd_same, List.map_append]
        rfl
      · rw [List.length_append, hc]
        rfl
    · rintro H1 ⟨s1, cs, h1, hc⟩
      -- for k in range(behind, len(script))
      refine ⟨_, rfl, _, rfl, _, ns.length, rfl, .inl ⟨_, s1.seq ha, (by rw [List.length_map])⟩, 9, _, rfl, ⟨by decide, by decide, by omega, by omega⟩, for_range (lo := 9) (n := ((ns.length : Int) - 9).toNat) (fun i σ H2 => ∃ v4 v5, ∃ cs : List Int, σ = [some (V.ref a), some (V.int 9), some (V.int 12), some (V.ref D), v4, v5] ∧
        Same H H2 ∧ H2 D = some (.lst (cs.map V.int)) ∧ cs.length = 12) ?_ ?_ ?_⟩
      · exact ⟨_, none, cs, rfl, s1, h1, hc⟩
      · rintro i σ H2 hi ⟨v4, v5, cs, rfl, s2, h2, hc⟩
        have m0 : 0 ≤ (9 + (i : Int) - 9) % 12 := Int.emod_nonneg _ (by decide)
        have m1 : (9 + (i : Int) - 9) % 12 < 12 := Int.emod_lt_of_pos _ (by decide)
        obtain ⟨j, hj⟩ : ∃ j : Nat, (9 + (i : Int) - 9) % 12 = (j : Int) := ⟨((9 + (i : Int) - 9) % 12).toNat, by omega⟩
        have jl : j < cs.length := by omega
        have il : 9 + i < ns.length := by omega
        refine ⟨_, rfl, _, rfl, _, _, rfl, rfl, _, rfl, _, _, rfl, rfl, (by show (0 : Int) < 12; decide), ?_⟩
        refine ⟨_, rfl, _, rfl, D, _, _, _, rfl, rfl, SqL.of h2, at_of (j := j) hj (by rw [List.getElem?_map, List.getElem?_eq_getElem jl]; rfl), _, _, rfl, rfl, .inr (by decide), _, rfl, _, rfl, a, _, _, _, rfl, rfl, s2.seq ha,
          at_of (j := 9 + i) (by push_cast; rfl) (by rw [List.getElem?_map, List.getElem?_eq_getElem il]; rfl), _, _, rfl, rfl, _, _, rfl, rfl, (by show (0 : Int) < 1000000000039; decide), _, rfl, _, rfl, D, _, _, j, rfl, rfl, h2, ?_, ?_⟩
        · rw [hj, List.length_map]
          unfold ixN
          rw [if_pos (by omega), if_pos (by omega)]
          simp
        · refine ⟨_, _, cs.set j ((cs[j] * 31 + ns[9 + i]) % 1000000000039), rfl, Same.mut s2 hD, ?_, ?_⟩
          · rw [upd_same, List.map_set]
          · rw [List.length_set]
            exact hc
      · rintro σ H2 ⟨v4, v5, cs, rfl, s2, h2, hc⟩
        exact ⟨_, rfl, k H2 D cs s2 h2 hc⟩

/-! ### _law_spot -/
def SpIn (sz : Spot) (m : Int) (s : Spot) : Prop := (0 ≤ s.1 ∧ s.1 < sz.1) ∧ (0 ≤ s.2.1 ∧ s.2.1 < sz.2.1 + m) ∧ (0 ≤ s.2.2 ∧ s.2.2 < sz.2.2 + m)
def spSpot : Sp := fun vs H Q _ => ∃ (a : Addr) (sz : Spot) (c m : Int), vs = [.ref a, .int c, .int m] ∧ SpotAt H a sz ∧ SzOk sz ∧ 0 ≤ m ∧ m ≤ 2 ∧ ∀ (H' : Hp) (p : Addr) (s : Spot), Same H H' → SpotAt H' p s → SpIn sz m s → Q (.ref p) H'
abbrev s__law_spot : Stmt := top 41
theorem sc__law_spot : FnScope ["sizes", "cell", "more"] ["sizes", "cell", "more"] (defScope s__law_spot) := ⟨rfl, rfl, rfl, by decide +kernel, rfl, by decide +kernel, by decide +kernel⟩
theorem c__law_spot {f : Addr} {fd : FuncData} (T : Txt K mg) (F : FnP K "_law_spot" "_law_spot" s__law_spot f fd) (hm : mg "_law_spot" = some (.ref f)) : C8.Cal P w K mg base 1 "_law_spot" spSpot [] := by
  refine cal_mk F hm (fun _ _ _ _ _ _ us hl => match us, hl with | [_, _, _], _ => rfl) sc__law_spot (fun vs H Q E h => ?_) (fun cdv A outer s0 H vs Q E hr h => ?_)
  · obtain ⟨a, sz, c, m, rfl, _⟩ := h
    rfl
  · obtain ⟨a, sz, c, m, rfl, ha, ⟨h1, h2, h3⟩, m0, m2, k⟩ := h
    refine ⟨_, (pss_cons (ps_set (i := 1) sc__law_spot.nd rfl (Or.inl rfl) (pe_op op_mod (pe_op op_mul (pv 1) pe_int) pe_int))
      (pss_one (ps_ret (pe_tup (pa_cons (pe_op op_mod (pv 1) (pe_ix ix_tup (pv 0) pe_int (fun _ _ => rfl))) (pa_cons (pe_op op_mod (pe_op op_fdiv (pv 1) pe_int) (pe_op op_add (pe_ix ix_tup (pv 0) pe_int (fun _ _ => rfl)) (pv 2))) (pa_cons (pe_op op_mod (pe_op op_fdiv (pv 1) pe_int) (pe_op op_add (pe_ix ix_tup (pv 0) pe_int (fun _ _ => rfl)) (pv 2))) pa_nil))))))), ?_⟩
    refine ⟨_, rfl, _, _, rfl, rfl, .inr (by decide), _, _, rfl, rfl, (by show (0 : Int) < 2147483647; decide), ?_⟩
    refine ⟨_, rfl, _, rfl, a, _, _, _, rfl, rfl, SqT.of ha, rfl, _, _, rfl, rfl, (by show 0 < sz.1; omega), ?_⟩
    refine ⟨_, rfl, _, _, rfl, rfl, ⟨by decide, by decide⟩, _, rfl, a, _, _, _, rfl, rfl, SqT.of ha, rfl, _, rfl, _, _, rfl, rfl, _, _, rfl, rfl, (by show 0 < sz.2.1 + m; omega), ?_⟩
    refine ⟨_, rfl, _, _, rfl, rfl, ⟨by decide, by decide⟩, _, rfl, a, _, _, _, rfl, rfl, SqT.of ha, rfl, _, rfl, _, _, rfl, rfl, _, _, rfl, rfl, (by show 0 < sz.2.2 + m; omega), ?_⟩
    refine ⟨by show 3 ≤ sizeLine; decide, fun p hp => k _ p (c * 48271 % 2147483647 % sz.1, c * 48271 % 2147483647 / 7 % (sz.2.1 + m), c * 48271 % 2147483647 / 131 % (sz.2.2 + m)) (Same.new hp) upd_same ?_⟩
    exact ⟨⟨Int.emod_nonneg _ (by omega), Int.emod_lt_of_pos _ (by omega)⟩, ⟨Int.emod_nonneg _ (by omega), Int.emod_lt_of_pos _ (by omega)⟩, ⟨Int.emod_nonneg _ (by omega), Int.emod_lt_of_pos _ (by omega)⟩⟩

/-! ### _law_ends -/
def spLEnds : Sp := fun vs H Q _ => ∃ (a : Addr) (sz : Spot) (c n m : Int), vs = [.ref a, .int c, .int n, .int m] ∧ SpotAt H a sz ∧ SzOk sz ∧ (0 ≤ m ∧ m ≤ 2) ∧ (2 ≤ n ∧ n ≤ 6) ∧
  ∀ (H' : Hp) (l : Addr) (ss : List Spot), Same H H' → ListAt H' l ss → ss.Nodup → 2 ≤ ss.length → ss.length ≤ 6 → (∀ s ∈ ss, SpIn sz m s) → Q (.ref l) H'
abbrev s__law_ends : Stmt := top 42
theorem sc__law_ends : FnScope ["sizes", "cell", "many", "more", "gathered", "k", "spot"] ["sizes", "cell", "many", "more"] (defScope s__law_ends) := ⟨rfl, rfl, rfl, by decide +kernel, rfl, by decide +kernel, by decide +kernel⟩
theorem c__law_ends {f : Addr} {fd : FuncData} (T : Txt K mg) (c__law_spot : C8.Cal P w K mg base 1 "_law_spot" spSpot []) (F : FnP K "_law_ends" "_law_ends" s__law_ends f fd) (hm : mg "_law_ends" = some (.ref f)) : C8.Cal P w K mg base 2 "_law_ends" spLEnds [] := by
  refine cal_mk F hm (fun _ _ _ _ _ _ us hl => match us, hl with | [_, _, _, _], _ => rfl) sc__law_ends (fun vs H Q E h => ?_) (fun cdv A outer s0 H vs Q E hr h => ?_)
  · obtain ⟨a, sz, c, n, m, rfl, _⟩ := h
    rfl
  · obtain ⟨a, sz, c, n, m, rfl, ha, hsz, ⟨m0, m2⟩, ⟨n2, n6⟩, k⟩ := h
    obtain ⟨z1, z2, z3⟩ := id hsz
    refine ⟨_, (pss_cons (ps_set (i := 4) sc__law_ends.nd rfl (Or.inl rfl) (pe_lst pa_nil))
      (pss_cons (ps_for PassesOwn.never rfl (pi_range1 rfl T.range (pa_cons (pe_op op_mul (pv 2) pe_int) pa_nil)) (pg_name (i := 5) sc__law_ends.nd rfl (Or.inl rfl))
      (pss_cons (ps_set (i := 6) sc__law_ends.nd rfl (Or.inl rfl) (C8.pe_c c__law_spot hr (by decide) rfl (pa_cons (pv 0) (pa_cons (pe_op op_add (pv 1) (pe_op op_mul (pe_op op_mul (pv 5) (pv 5)) pe_int)) (pa_cons (pv 3) pa_nil)))))
      (pss_one (ps_if (PW.pt (pw_and (pt_cmpR (op_notInD (huD_of hr)) (pv 6) (pv 4) rfl) (pw_and1 (pt_cmpR op_lt (pe_callB call_len (by rfl) T.len PySem.boot_len (pa_cons (pv 4) pa_nil)) (pv 2) (nomark _))))) (pss_one (ps_expr (pe_bm PySem.F.plainAttrs_list PySem.F.slot_list_append PySem.F.type_list_append mt_append (pv 4) (pa_cons (pv 6) pa_nil)))) pss_nil))))
      (pss_cons (ps_if (pt_cmpR op_lt (pe_callB call_len (by rfl) T.len PySem.boot_len (pa_cons (pv 4) pa_nil)) pe_int (nomark _)) (pss_one (ps_set (i := 4) sc__law_ends.nd rfl (Or.inl rfl) (pe_lst (pa_cons (pe_tup (pa_cons pe_int (pa_cons pe_int (pa_cons pe_int pa_nil)))) (pa_cons (pe_tup (pa_cons pe_int (pa_cons pe_int (pa_cons pe_int pa_nil)))) pa_nil))))) pss_nil)
      (pss_one (ps_ret (pv 4)))))), ?_⟩
    refine ⟨Nat.zero_le _, fun l hl => ?_⟩
    refine ⟨_, rfl, _, _, rfl, rfl, .inr (by decide), _, rfl, by omega, by omega, for_range (lo := 0) (n := (n * 3).toNat) (fun i σ H1 => ∃ v5 v6 ss, σ = [some (V.ref a), some (V.int c), some (V.int n), some (V.int m), some (V.ref l), v5, v6] ∧ Grow H H1 l ss ∧
      ss.Nodup ∧ (ss.length : Int) ≤ n ∧ ∀ s ∈ ss, SpIn sz m s) ?_ ?_ ?_⟩
    · exact ⟨none, none, [], rfl, Grow.start (Same.refl H) hl, List.nodup_nil, (by show (0 : Int) ≤ n; omega), fun s hs => (by cases hs)⟩
    · rintro i σ H1 hi ⟨v5, v6, ss, rfl, g, hn, hlen, hin⟩
      refine ⟨_, rfl, _, rfl, _, rfl, _, rfl, _, _, rfl, rfl, .inl (by omega), _, _, rfl, rfl, .inr (by decide), _, _, rfl, rfl, _, rfl, a, sz, _, m, rfl, g.same _ _ ha, hsz, m0, m2, fun H2 p s s2 hp hs => ?_⟩
      have l2 := g.lst.mono s2
      obtain ⟨as, l3, l4⟩ := id l2
      have la : as.length = ss.length := Paired.length l4
      refine ⟨_, rfl, _, rfl, spD s, ss.map spD, spD_dp hp, spD_list l2, spD_shaped s, spDs_shaped ss, _, rfl, ?_⟩
      rw [spDs_any]
      refine ite2 (fun h0 => ?_) (fun h0 => ?_)
      · have ns : s ∉ ss := by simpa using h0
        refine ⟨_, rfl, _, as.length, rfl, .inl ⟨_, SqL.of l3, (by rw [List.length_map])⟩, _, rfl, _, _, rfl, rfl, _, rfl, ?_⟩
        refine ite2 (fun h1 => ?_) (fun h1 => ?_)
        · have h1 := of_decide_eq_true h1
          refine ⟨_, rfl, .inl ⟨rfl, _, SqL.of l3⟩, _, rfl, l, _, _, rfl, rfl, l3, (by rw [List.length_map]; exact small1000 (by omega)), ?_⟩
          refine ⟨_, _, ss ++ [s], rfl, ⟨Same.mut (g.same.trans s2) hl, hl, as ++ [p], by rw [upd_same, List.map_append]; rfl, Paired.snoc (SpotsAt.off l3 l4) ?_⟩, ?_, ?_, ?_⟩
          · show upd _ _ _ p = _
            rw [upd_ne (ne_of (show H2 p = some _ from hp) l3 (fun q => by cases q))]
            exact hp
          · rw [List.nodup_append]
            refine ⟨hn, by simp, fun x hx y hy e => ?_⟩
            rw [List.mem_singleton] at hy
            subst hy
            subst e
            exact ns hx
          · rw [List.length_append, List.length_singleton]
            push_cast
            omega
          · intro x hx
            rcases List.mem_append.mp hx with q | q
            · exact hin x q
            · rw [List.mem_singleton] at q
              subst q
              exact hs
        · exact ⟨_, _, ss, rfl, ⟨g.same.trans s2, hl, l2⟩, hn, hlen, hin⟩
      · exact ⟨_, _, ss, rfl, ⟨g.same.trans s2, hl, l2⟩, hn, hlen, hin⟩
    · rintro σ H1 ⟨v5, v6, ss, rfl, g, hn, hlen, hin⟩
      obtain ⟨as, l3, l4⟩ := g.lst
      have la : as.length = ss.length := Paired.length l4
      refine ⟨_, rfl, _, as.length, rfl, .inl ⟨_, SqL.of l3, (by rw [List.length_map])⟩, _, _, rfl, rfl, _, rfl, ?_⟩
      refine ite2 (fun h0 => ?_) (fun h0 => ?_)
      · -- gathered = [(0, 0, 0), (0, 0, 1)]
        refine ⟨by show 3 ≤ sizeLine; decide, fun p hp => ⟨by show 3 ≤ sizeLine; decide, fun q hq => ⟨by show 2 ≤ sizeLine; decide, fun u hu => ⟨_, rfl, ?_⟩⟩⟩⟩
        have s1 : Same H1 _ := Same.new (o := .tup [V.int 0, V.int 0, V.int 0]) hp
        have s2 : Same _ _ := Same.new (o := .tup [V.int 0, V.int 0, V.int 1]) hq
        have s3 : Same _ _ := Same.new (o := .lst [V.ref p, V.ref q]) hu
        refine k _ u [(0, 0, 0), (0, 0, 1)] (((g.same.trans s1).trans s2).trans s3) ⟨[p, q], upd_same, .cons ?_ (.cons ?_ .nil)⟩ (by decide) (by decide) (by decide) ?_
        · exact s3 _ _ (s2 _ _ upd_same)
        · exact s3 _ _ upd_same
        · intro s hs
          rcases List.mem_cons.mp hs with e | e
          · subst e
            exact ⟨⟨by show (0 : Int) ≤ 0; decide, by show (0 : Int) < sz.1; omega⟩, ⟨by show (0 : Int) ≤ 0; decide, by show (0 : Int) < sz.2.1 + m; omega⟩, ⟨by show (0 : Int) ≤ 0; decide, by show (0 : Int) < sz.2.2 + m; omega⟩⟩
          · rw [List.mem_singleton] at e
            subst e
            exact ⟨⟨by show (0 : Int) ≤ 0; decide, by show (0 : Int) < sz.1; omega⟩, ⟨by show (0 : Int) ≤ 0; decide, by show (0 : Int) < sz.2.1 + m; omega⟩, ⟨by show (0 : Int) ≤ 1; decide, by show (1 : Int) < sz.2.2 + m; omega⟩⟩
      · have h1 : ¬ ((as.length : Int) < 2) := fun z => h0 (decide_eq_true z)
        exact ⟨_, rfl, k H1 l ss g.same ⟨as, l3, l4⟩ hn (by omega) (by omega) hin⟩
end
end Wf

/-! K12M: the law's things: _law_thing, _law_things. -/
namespace Wf
open PySem PySem.Spec PyProof.Rows L2
section
variable {P : Program} {w : World} {K : PySem.W.Frag} {mg : Str → Option Value} {base : Heap}
/-- what the law's things are like -/
structure ThG (sz : Spot) (t : Th) : Prop where
  ok : ThOk t
  name : NameOk t.name
  lay : ∀ s ∈ t.ends, 0 ≤ s.1 ∧ s.1 < sz.1
  many : 2 ≤ t.ends.length
  enough : t.ends.length ≤ 6
theorem small_in {sz : Spot} {m : Int} {s : Spot} (hz : SzOk sz) (hm : m ≤ 2) (h : SpIn sz m s) : Small s := by
  obtain ⟨h1, h2, h3⟩ := h
  obtain ⟨z1, z2, z3⟩ := hz
  constructor <;> omega
/-- one of 0, 0, 1, 2 by its place -/
theorem pick4 {z : Int} (h0 : 0 ≤ z) (h4 : z < 4) {a b c d : Int} (ha : 0 ≤ a ∧ a ≤ 2) (hb : 0 ≤ b ∧ b ≤ 2) (hc : 0 ≤ c ∧ c ≤ 2) (hd : 0 ≤ d ∧ d ≤ 2) : ∃ h : Int, atI [V.int a, V.int b, V.int c, V.int d] z = some (V.int h) ∧ 0 ≤ h ∧ h ≤ 2 := by
  obtain ⟨j, rfl⟩ : ∃ j : Nat, z = (j : Int) := ⟨z.toNat, by omega⟩
  have hj : j < 4 := by omega
  match j, hj with
  | 0, _ => exact ⟨a, atI_nat rfl, ha⟩
  | 1, _ => exact ⟨b, atI_nat rfl, hb⟩
  | 2, _ => exact ⟨c, atI_nat rfl, hc⟩
  | 3, _ => exact ⟨d, atI_nat rfl, hd⟩
theorem cutV_upto (xs : List V) (k : Nat) (h : k ≤ xs.length) : cutV xs none (some (k : Int)) = xs.take k := by
  unfold cutV
  rw [HT.sIx_nat, HT.sIx_none, Nat.min_eq_left h]
  rfl
theorem cutV_off (xs : List V) (k : Nat) (h : k ≤ xs.length) : cutV xs (some (k : Int)) none = xs.drop k := by
  unfold cutV
  rw [HT.sIx_nat, HT.sIx_none, Nat.min_eq_left h, List.take_of_length_le (by rw [List.length_drop]; exact Nat.le_refl _)]
/-- what was tracked ahead of a making -/
theorem Same.make {H : Hp} {x dx C : Addr} (nx : H x = none) (nd : H dx = none) (hne : dx ≠ x) : Same H (upd (upd H dx (.own x)) x (.ins C dx [])) := fun b o e => by
  rw [upd_ne (ne_of_none e nx), upd_ne (ne_of_none e nd)]
  exact e
theorem Same.butNew {x : Addr} {H H1 H' : Hp} (s : Same H H1) (nx : H x = none) (b : But x H1 H') : Same H H' := fun c o e => b c o (s c o e) (ne_of_none e nx)

def spLThing (K : PySem.W.Frag) : Sp := fun vs H Q _ => ∃ (a : Addr) (z : Str) (sz : Spot) (c g m : Int), vs = [.str z, .ref a, .int c, .int g, .int m] ∧ NameOk z ∧ SpotAt H a sz ∧ SzOk sz ∧ (0 ≤ g ∧ g ≤ 1) ∧ (0 ≤ m ∧ m ≤ 2) ∧
  ∀ (H' : Hp) (x : Addr) (t : Th), Same H H' → ThAt K H' x t → t.name = z → ThG sz t → Q (.ref x) H'
abbrev s__law_thing : Stmt := top 43
theorem sc__law_thing : FnScope ["name", "sizes", "cell", "tight", "more", "ends", "room", "cut"] ["name", "sizes", "cell", "tight", "more"] (defScope s__law_thing) := ⟨rfl, rfl, rfl, by decide +kernel, rfl, by decide +kernel, by decide +kernel⟩
theorem c__law_thing {f : Addr} {fd : FuncData} (T : Txt K mg) (c__law_ends : C8.Cal P w K mg base 2 "_law_ends" spLEnds []) (c_Net : C8.Mak P w K mg base 3 "Net" (cNe K) (spNet K) []) (c_Bundle : C8.Mak P w K mg base 3 "Bundle" (cBu K) (spBundle K) [])
    (F : FnP K "_law_thing" "_law_thing" s__law_thing f fd) (hm : mg "_law_thing" = some (.ref f)) : C8.Cal P w K mg base 5 "_law_thing" (spLThing K) [] := by
  refine cal_mk F hm (fun _ _ _ _ _ _ us hl => match us, hl with | [_, _, _, _, _], _ => rfl) sc__law_thing (fun vs H Q E h => ?_) (fun cdv A outer s0 H vs Q E hr h => ?_)
  · obtain ⟨a, z, sz, c, g, m, rfl, _⟩ := h
    rfl
  · obtain ⟨a, z, sz, c, g, m, rfl, hz, ha, hsz, ⟨g0, g1⟩, ⟨m0, m2⟩, k⟩ := h
    refine ⟨_, (pss_cons (ps_set (i := 5) sc__law_thing.nd rfl (Or.inl rfl) (C8.pe_c c__law_ends hr (by decide) rfl (pa_cons (pv 1) (pa_cons (pe_op op_fdiv (pv 2) pe_int) (pa_cons (pe_op op_add pe_int (pe_op op_mod (pe_op op_fdiv (pv 2) pe_int) pe_int)) (pa_cons (pv 4) pa_nil))))))
      (pss_cons (ps_set (i := 6) sc__law_thing.nd rfl (Or.inl rfl) (pe_op op_mul (pe_op op_mod (pe_op op_fdiv (pv 2) pe_int) pe_int) (pv 3)))
      (pss_cons (ps_if (pt_cmpR op_eq (pe_op op_mod (pv 2) pe_int) pe_int (nomark _)) (pss_cons (ps_set (i := 7) sc__law_thing.nd rfl (Or.inl rfl) (pe_op op_add pe_int (pe_op op_mod (pe_op op_fdiv (pv 2) pe_int) (pe_op op_fdiv (pe_callB call_len (by rfl) T.len PySem.boot_len (pa_cons (pv 5) pa_nil)) pe_int))))
      (pss_one (ps_ret (C8.pe_mk c_Bundle hr (by decide) rfl (pa_cons (pv 0) (pa_cons (pe_slice sl_list (pv 5) po_none (po_some (pv 7))) (pa_cons (pe_slice sl_list (pv 5) (po_some (pv 7)) po_none) (pa_cons (pv 6) pa_nil)))))))) pss_nil)
      (pss_one (ps_ret (C8.pe_mk c_Net hr (by decide) rfl (pa_cons (pv 0) (pa_cons (pv 5) (pa_cons (pe_op op_mul (pe_ix ix_list (pe_lst (pa_cons pe_int (pa_cons pe_int (pa_cons pe_int (pa_cons pe_int pa_nil))))) (pe_op op_mod (pe_op op_fdiv (pv 2) pe_int) pe_int) (fun _ _ => rfl)) (pe_op op_mod (pe_op op_fdiv (pv 2) pe_int) pe_int)) (pa_cons (pv 6) pa_nil)))))))))), ?_⟩
    have e0 : 0 ≤ c / 7 % 5 := Int.emod_nonneg _ (by decide)
    have e5 : c / 7 % 5 < 5 := Int.emod_lt_of_pos _ (by decide)
    refine ⟨_, rfl, _, rfl, _, _, rfl, rfl, ⟨by decide, by decide⟩, _, rfl, _, _, rfl, rfl, ⟨by decide, by decide⟩, _, _, rfl, rfl, (by show (0 : Int) < 5; decide), _, _, rfl, rfl, _, rfl, a, sz, _, _, m, rfl, ha, hsz, ⟨m0, m2⟩, (by constructor <;> omega),
      fun H1 l ss s1 hl hn n2 n6 hin => ?_⟩
    obtain ⟨as, h1, h2⟩ := id hl
    have la : as.length = ss.length := Paired.length h2
    have r0 : 0 ≤ c / 3 % 4 := Int.emod_nonneg _ (by decide)
    have r4 : c / 3 % 4 < 4 := Int.emod_lt_of_pos _ (by decide)
    have room : 0 ≤ c / 3 % 4 * g ∧ c / 3 % 4 * g ≤ 3 := by
      obtain rfl | rfl : g = 0 ∨ g = 1 := by omega
      · rw [Int.mul_zero]
        omega
      · rw [Int.mul_one]
        omega
    refine ⟨_, rfl, _, _, rfl, rfl, ⟨by decide, by decide⟩, _, _, rfl, rfl, (by show (0 : Int) < 4; decide), _, rfl, _, _, rfl, rfl, .inl (by omega), ?_⟩
    refine ⟨_, rfl, _, _, rfl, rfl, (by show (0 : Int) < 4; decide), rfl, _, rfl, ?_⟩
    have lay : ∀ s ∈ ss, 0 ≤ s.1 ∧ s.1 < sz.1 := fun s hs => (hin s hs).1
    have small : ∀ s ∈ ss, Small s := fun s hs => small_in hsz m2 (hin s hs)
    refine ite2 (fun _ => ?_) (fun _ => ?_)
    · -- a bundle
      have d0 : 0 ≤ c / 35 % ((as.length : Int) / 2) := Int.emod_nonneg _ (by omega)
      have d1 : c / 35 % ((as.length : Int) / 2) < (as.length : Int) / 2 := Int.emod_lt_of_pos _ (by omega)
      obtain ⟨n, hn1⟩ : ∃ n : Nat, 1 + c / 35 % ((as.length : Int) / 2) = (n : Int) := ⟨(1 + c / 35 % ((as.length : Int) / 2)).toNat, by omega⟩
      have nl : n ≤ as.length := by omega
      refine ⟨_, rfl, _, _, rfl, rfl, ⟨by decide, by decide⟩, _, rfl, _, as.length, rfl, .inl ⟨_, SqL.of h1, (by rw [List.length_map])⟩, _, _, rfl, rfl, ⟨by decide, by decide⟩, _, _, rfl, rfl, (by show (0 : Int) < (as.length : Int) / 2; omega), _, _, rfl, rfl, ?_⟩
      refine ⟨_, rfl, _, rfl, _, rfl, _, rfl, l, _, rfl, SqL.of h1, fun p hp => ?_⟩
      have s2 : Same H1 _ := Same.new (o := .lst (cutV (as.map V.ref) none (some (1 + c / 35 % ((as.length : Int) / 2))))) hp
      refine ⟨_, rfl, _, rfl, _, rfl, l, _, rfl, SqL.of (s2 _ _ h1), fun q hq => ⟨_, rfl, fun x dx nx nd hne => ?_⟩⟩
      have s3 : Same _ _ := Same.new (o := .lst (cutV (as.map V.ref) (some (1 + c / 35 % ((as.length : Int) / 2))) none)) hq
      have s4 := Same.make (C := cBu K) nx nd hne
      have s5 := (s2.trans s3).trans s4
      refine ⟨x, dx, p, q, z, _, ss.take n, ss.drop n, rfl, upd_same, ⟨as.take n, ?_, SpotsAt.mono s5 (Paired.tk n h2)⟩, ⟨as.drop n, ?_, SpotsAt.mono s5 (Paired.dr n h2)⟩, by rw [List.take_append_drop]; exact hn, ?_, ?_, ?_, ?_, hz, room, fun H2 ht b2 => ⟨rfl, ?_⟩⟩
      · refine (s3.trans s4) _ _ ?_
        rw [upd_same, hn1, cutV_upto _ _ (by rw [List.length_map]; exact nl), List.map_take]
      · refine s4 _ _ ?_
        rw [upd_same, hn1, cutV_off _ _ (by rw [List.length_map]; exact nl), List.map_drop]
      · rw [List.length_take]; omega
      · rw [List.length_take]; omega
      · rw [List.length_take, List.length_drop]; omega
      · rw [List.length_drop]; omega
      · have es : (⟨true, z, 0, c / 3 % 4 * g, ss.take n, ss.drop n⟩ : Th).ends = ss := List.take_append_drop n ss
        refine k H2 x _ (Same.butNew (s1.trans (s2.trans s3)) ((s1.trans (s2.trans s3)).free nx) ?_) ht rfl ⟨⟨⟨by show (0 : Int) ≤ 0; decide, by show (0 : Int) ≤ 2; decide⟩, room, ?_, ?_, ?_⟩, hz, ?_, ?_, ?_⟩
        · exact (But.of s4).trans b2
        · show (ss.take n).length ≤ 12
          rw [List.length_take]; omega
        · show (ss.drop n).length ≤ 12
          rw [List.length_drop]; omega
        · rw [es]; exact small
        · rw [es]; exact lay
        · rw [es]; exact n2
        · rw [es]; exact n6
    · -- a net
      have d0 : 0 ≤ c / 5 % 4 := Int.emod_nonneg _ (by decide)
      have d4 : c / 5 % 4 < 4 := Int.emod_lt_of_pos _ (by decide)
      have b0 : 0 ≤ c / 11 % 2 := Int.emod_nonneg _ (by decide)
      have b2 : c / 11 % 2 < 2 := Int.emod_lt_of_pos _ (by decide)
      obtain ⟨h, hh, hh0, hh2⟩ := pick4 d0 d4 (a := 0) (b := 0) (c := 1) (d := 2) (by omega) (by omega) (by omega) (by omega)
      have half : 0 ≤ h * (c / 11 % 2) ∧ h * (c / 11 % 2) ≤ 2 := by
        rcases (show c / 11 % 2 = 0 ∨ c / 11 % 2 = 1 by omega) with e | e
        · rw [e, Int.mul_zero]
          omega
        · rw [e, Int.mul_one]
          omega
      refine ⟨_, rfl, _, rfl, by show 4 ≤ sizeLine; decide, fun p hp => ⟨_, rfl, _, _, rfl, rfl, ⟨by decide, by decide⟩, _, _, rfl, rfl, (by show (0 : Int) < 4; decide), p, _, _, _, rfl, rfl, SqL.of upd_same, hh, _, rfl, _, _, rfl, rfl, ⟨by decide, by decide⟩, _, _, rfl, rfl, (by show (0 : Int) < 2; decide),
        _, _, rfl, rfl, .inl (by omega), _, rfl, fun x dx nx nd hne => ?_⟩⟩
      have s2 : Same H1 _ := Same.new (o := .lst [V.int 0, V.int 0, V.int 1, V.int 2]) hp
      have s4 := Same.make (C := cNe K) nx nd hne
      refine ⟨x, dx, l, z, _, _, ss, rfl, upd_same, hl.mono (s2.trans s4), hn, n2, n6, hz, half, room, fun H2 ht b3 => ⟨rfl, ?_⟩⟩
      have es : (⟨false, z, h * (c / 11 % 2), c / 3 % 4 * g, ss, []⟩ : Th).ends = ss := List.append_nil ss
      refine k H2 x _ (Same.butNew (s1.trans s2) ((s1.trans s2).free nx) ((But.of s4).trans b3)) ht rfl ⟨⟨half, room, ?_, ?_, ?_⟩, hz, ?_, ?_, ?_⟩
      · show ss.length ≤ 12
        omega
      · exact Nat.zero_le _
      · rw [es]; exact small
      · rw [es]; exact lay
      · rw [es]; exact n2
      · rw [es]; exact n6
end
end Wf

/-! K12N: _law_things. -/
namespace Wf
open PySem PySem.Spec PyProof.Rows L2
/-! ### the names -/
def nameB (z : Str) : Bool := decide (1 ≤ z.length) && (decide (z.length ≤ 12) && z.cps.toList.all fun c => letters.cps.toList.contains c)
theorem nameB_ok {z : Str} (h : nameB z = true) : NameOk z := by
  unfold nameB at h
  simp only [Bool.and_eq_true, decide_eq_true_eq, List.all_eq_true] at h
  exact ⟨h.1, h.2.1, fun c hc => by simpa using h.2.2 c hc⟩
def wireL (a : Nat) : Str := cutS "wire" none (some ((a : Nat) : Int))
def wireR (a : Nat) : Str := cutS "wire" (some ((a : Nat) : Int)) none
def signs12 : Str := "abcdefghijkl"
def signK (k : Nat) : Str := ⟨#[signs12.cps.toList.getD k 0]⟩
def lawName (a k : Nat) : Str := (wireL a ++ signK k) ++ wireR a
theorem names_all : ((List.range 5).all fun a => (List.range 12).all fun k => nameB (lawName a k)) = true := by decide +kernel
theorem name_ok {a k : Nat} (ha : a < 5) (hk : k < 12) : NameOk (lawName a k) :=
  nameB_ok (List.all_eq_true.mp (List.all_eq_true.mp names_all a (List.mem_range.mpr ha)) k (List.mem_range.mpr hk))
theorem sizes_all : ((List.range 5).all fun a => (List.range 12).all fun k => decide ((wireL a).length + (signK k).length ≤ 100) && decide ((wireL a ++ signK k).length + (wireR a).length ≤ 100)) = true := by decide +kernel
theorem size_ok {a k : Nat} (ha : a < 5) (hk : k < 12) : (wireL a).length + (signK k).length ≤ 100 ∧ (wireL a ++ signK k).length + (wireR a).length ≤ 100 := by
  have h := List.all_eq_true.mp (List.all_eq_true.mp sizes_all a (List.mem_range.mpr ha)) k (List.mem_range.mpr hk)
  simpa using h
theorem sign_at {k : Nat} (hk : k < 12) : signs12.cps.toList[k]? = some (signs12.cps.toList.getD k 0) := by
  have e : signs12.cps.toList.length = 12 := by decide +kernel
  rw [List.getD_eq_getElem?_getD, List.getElem?_eq_getElem (by rw [e]; exact hk)]
  rfl

/-! ### things beside a list that changes -/
theorem TupAt.off {H : Hp} {l a : Addr} {xs : List V} {o : HO} {ss : List Spot} (hl : H l = some (.lst xs)) (h : TupAt H a ss) : TupAt (upd H l o) a ss := by
  obtain ⟨as, h1, h2⟩ := h
  refine ⟨as, ?_, SpotsAt.off hl h2⟩
  rw [upd_ne (ne_of h1 hl (fun q => by cases q))]
  exact h1
theorem ThAt.off {K : PySem.W.Frag} {H : Hp} {l x : Addr} {xs : List V} {o : HO} {t : Th} (hl : H l = some (.lst xs)) (h : ThAt K H x t) : ThAt K (upd H l o) x t := by
  rcases h with ⟨h1, h2, dx, a, h3, h4⟩ | ⟨h1, dx, a, b, h3, h4, h5⟩
  · refine .inl ⟨h1, h2, dx, a, ?_, h4.off hl⟩
    rw [upd_ne (ne_of h3 hl (fun q => by cases q))]
    exact h3
  · refine .inr ⟨h1, dx, a, b, ?_, h4.off hl, h5.off hl⟩
    rw [upd_ne (ne_of h3 hl (fun q => by cases q))]
    exact h3
theorem ThsAt.off {K : PySem.W.Frag} {H : Hp} {l : Addr} {xs : List V} {o : HO} {as : List Addr} {ts : List Th} (hl : H l = some (.lst xs)) (h : ThsAt K H as ts) : ThsAt K (upd H l o) as ts := Paired.mapP h fun _ _ z => z.off hl
theorem Paired.put {α β : Type} {F : α → β → Prop} : ∀ {as : List α} {bs : List β} {a : α} {b : β} (i : Nat), Paired F as bs → F a b → Paired F (as.set i a) (bs.set i b)
  | _, _, _, _, _, .nil, _ => .nil
  | _, _, _, _, 0, .cons r t, h => .cons h t
  | _, _, _, _, i + 1, .cons r t, h => .cons r (Paired.put i t h)
theorem mem_put {α : Type} {l : List α} {i : Nat} {a x : α} (h : x ∈ l.set i a) : x = a ∨ x ∈ l := by
  rcases List.mem_or_eq_of_mem_set h with h | h
  · exact .inr h
  · exact .inl h

section
variable {P : Program} {w : World} {K : PySem.W.Frag} {mg : Str → Option Value} {base : Heap}
def spLThings (K : PySem.W.Frag) : Sp := fun vs H Q _ => ∃ (a b c : Addr) (ns cs : List Int) (sz : Spot), vs = [.ref a, .ref b, .ref c] ∧ SqL K H a (ns.map V.int) ∧ ns.length ≤ 63 ∧ SpotAt H b sz ∧ SzOk sz ∧ H c = some (.lst (cs.map V.int)) ∧ cs.length = 12 ∧
  ∀ (H' : Hp) (l : Addr) (xs : List Addr) (ts : List Th), Same H H' → H' l = some (.lst (xs.map V.ref)) → ThsAt K H' xs ts → ts.length ≤ 12 → (∀ t ∈ ts, ThG sz t) → Q (.ref l) H'
abbrev s__law_things : Stmt := top 44
theorem sc__law_things : FnScope ["script", "sizes", "cells", "gathered", "many", "at", "more", "k", "name", "one", "two"] ["script", "sizes", "cells"] (defScope s__law_things) := ⟨rfl, rfl, rfl, by decide +kernel, rfl, by decide +kernel, by decide +kernel⟩
theorem c__law_things {f : Addr} {fd : FuncData} (T : Txt K mg) (c__law_cell_at : C8.Cal P w K mg base 1 "_law_cell_at" (spCell K) []) (c__law_thing : C8.Cal P w K mg base 5 "_law_thing" (spLThing K) [])
    (F : FnP K "_law_things" "_law_things" s__law_things f fd) (hm : mg "_law_things" = some (.ref f)) : C8.Cal P w K mg base 6 "_law_things" (spLThings K) [] := by
  refine cal_mk F hm (fun _ _ _ _ _ _ us hl => match us, hl with | [_, _, _], _ => rfl) sc__law_things (fun vs H Q E h => ?_) (fun cdv A outer s0 H vs Q E hr h => ?_)
  · obtain ⟨a, b, c, ns, cs, sz, rfl, _⟩ := h
    rfl
  · obtain ⟨a, b, c, ns, cs, sz, rfl, ha, h63, hb, hsz, hc, lc, k⟩ := h
    refine ⟨_, (pss_cons (ps_set (i := 3) sc__law_things.nd rfl (Or.inl rfl) (pe_lst pa_nil))
      (pss_cons (ps_set (i := 4) sc__law_things.nd rfl (Or.inl rfl) (pe_op op_mod (C8.pe_c c__law_cell_at hr (by decide) rfl (pa_cons (pv 0) (pa_cons pe_int pa_nil))) pe_int))
      (Evl.pss_cut (ps_if (pt_cmpR op_eq (pe_op op_mod (pe_op op_fdiv (C8.pe_c c__law_cell_at hr (by decide) rfl (pa_cons (pv 0) (pa_cons pe_int pa_nil))) pe_int) pe_int) pe_int (nomark _)) (pss_one (ps_set (i := 4) sc__law_things.nd rfl (Or.inl rfl) (pe_op op_add pe_int (pe_op op_mod (pe_op op_fdiv (C8.pe_c c__law_cell_at hr (by decide) rfl (pa_cons (pv 0) (pa_cons pe_int pa_nil))) pe_int) pe_int)))) pss_nil)
      (pss_cons (ps_set (i := 5) sc__law_things.nd rfl (Or.inl rfl) (pe_op op_mod (C8.pe_c c__law_cell_at hr (by decide) rfl (pa_cons (pv 0) (pa_cons pe_int pa_nil))) pe_int))
      (pss_cons (ps_set (i := 6) sc__law_things.nd rfl (Or.inl rfl) (pe_ix ix_list (pe_lst (pa_cons pe_int (pa_cons pe_int (pa_cons pe_int (pa_cons pe_int pa_nil))))) (pe_op op_mod (pe_op op_fdiv (C8.pe_c c__law_cell_at hr (by decide) rfl (pa_cons (pv 0) (pa_cons pe_int pa_nil))) pe_int) pe_int) (fun _ _ => rfl)))
      (pss_cons (ps_for PassesOwn.never rfl (pi_range1 rfl T.range (pa_cons (pv 4) pa_nil)) (pg_name (i := 7) sc__law_things.nd rfl (Or.inl rfl))
      (pss_cons (ps_set (i := 8) sc__law_things.nd rfl (Or.inl rfl) (pe_op op_add_str (pe_op op_add_str (pe_slice sl_str pe_str po_none (po_some (pv 5))) (pe_ix ix_str pe_str (pv 7) (fun _ _ => rfl))) (pe_slice sl_str pe_str (po_some (pv 5)) po_none)))
      (pss_one (ps_expr (pe_bm PySem.F.plainAttrs_list PySem.F.slot_list_append PySem.F.type_list_append mt_append (pv 3) (pa_cons (C8.pe_c c__law_thing hr (by decide) rfl (pa_cons (pv 8) (pa_cons (pv 1) (pa_cons (pe_ix ix_list (pv 2) (pv 7) (fun _ _ => rfl)) (pa_cons (pe_op op_mod (pe_op op_fdiv (C8.pe_c c__law_cell_at hr (by decide) rfl (pa_cons (pv 0) (pa_cons pe_int pa_nil))) pe_int) pe_int) (pa_cons (pv 6) pa_nil)))))) pa_nil))))))
      (pss_cons (ps_if (PW.pt (pw_and (pt_cmpR op_gt (pv 4) pe_int (nomark _)) (pw_and1 (pt_cmpR op_eq (pe_op op_mod (C8.pe_c c__law_cell_at hr (by decide) rfl (pa_cons (pv 0) (pa_cons pe_int pa_nil))) pe_int) pe_int (nomark _))))) (pss_cons (ps_set (i := 9) sc__law_things.nd rfl (Or.inl rfl) (pe_op op_mod (pe_op op_fdiv (C8.pe_c c__law_cell_at hr (by decide) rfl (pa_cons (pv 0) (pa_cons pe_int pa_nil))) pe_int) (pv 4)))
      (pss_cons (ps_set (i := 10) sc__law_things.nd rfl (Or.inl rfl) (pe_op op_mod (pe_op op_add (pe_op op_add (pv 9) pe_int) (pe_op op_mod (pe_op op_fdiv (C8.pe_c c__law_cell_at hr (by decide) rfl (pa_cons (pv 0) (pa_cons pe_int pa_nil))) pe_int) (pe_op op_sub (pv 4) pe_int))) (pv 4)))
      (pss_one (ps_asg (C8.pe_c c__law_thing hr (by decide) rfl (pa_cons (pe_fld (pe_ix ix_list (pv 3) (pv 9) (fun _ _ => rfl)) rfl) (pa_cons (pv 1) (pa_cons (pe_ix ix_list (pv 2) (pv 10) (fun _ _ => rfl)) (pa_cons pe_int (pa_cons (pv 6) pa_nil)))))) (pg_sub (pv 3) (pv 10) set_list))))) pss_nil)
      (pss_one (ps_ret (pv 3)))))))))), ?_⟩
    -- gathered = []; many = cell(2) % 5
    refine ⟨Nat.zero_le _, fun l hl => ?_⟩
    have s1 : Same H (upd H l (.lst [])) := Same.new hl
    refine ⟨_, rfl, a, ns, 2, rfl, s1.seq ha, h63, fun H2 s2 => ⟨_, _, rfl, rfl, (by show (0 : Int) < 5; decide), ?_⟩⟩
    have m0 : 0 ≤ cell ns 2 % 5 := Int.emod_nonneg _ (by decide)
    have m5 : cell ns 2 % 5 < 5 := Int.emod_lt_of_pos _ (by decide)
    have l2 : H2 l = some (.lst []) := s2 _ _ upd_same
    have s12 := s1.trans s2
    refine ⟨fun σ H3 => ∃ n : Nat, σ = [some (V.ref a), some (V.ref b), some (V.ref c), some (V.ref l), some (V.int (n : Int)), none, none, none, none, none, none] ∧ n ≤ 12 ∧ Same H H3 ∧ H3 l = some (.lst []), ?_, ?_⟩
    · refine ⟨_, rfl, a, ns, 2, rfl, s12.seq ha, h63, fun H3 s3 => ⟨_, _, rfl, rfl, ⟨by decide, by decide⟩, _, _, rfl, rfl, (by show (0 : Int) < 6; decide), rfl, _, rfl, ?_⟩⟩
      refine ite2 (fun _ => ?_) (fun _ => ?_)
      · have q0 : 0 ≤ cell ns 2 / 30 % 12 := Int.emod_nonneg _ (by decide)
        have q12 : cell ns 2 / 30 % 12 < 12 := Int.emod_lt_of_pos _ (by decide)
        refine ⟨_, rfl, a, ns, 2, rfl, (s12.trans s3).seq ha, h63, fun H4 s4 => ⟨_, _, rfl, rfl, ⟨by decide, by decide⟩, _, _, rfl, rfl, (by show (0 : Int) < 12; decide), _, _, rfl, rfl, ?_⟩⟩
        refine ⟨(1 + cell ns 2 / 30 % 12).toNat, ?_, by omega, (s12.trans s3).trans s4, s4 _ _ (s3 _ _ l2)⟩
        rw [Int.toNat_of_nonneg (by omega)]
        rfl
      · refine ⟨(cell ns 2 % 5).toNat, ?_, by omega, s12.trans s3, s3 _ _ l2⟩
        rw [Int.toNat_of_nonneg m0]
        rfl
    · rintro σ H3 ⟨n, rfl, hn, s3, l3⟩
      -- at = cell(3) % 5
      refine ⟨_, rfl, a, ns, 3, rfl, s3.seq ha, h63, fun H4 s4 => ⟨_, _, rfl, rfl, (by show (0 : Int) < 5; decide), ?_⟩⟩
      have p0 : 0 ≤ cell ns 3 % 5 := Int.emod_nonneg _ (by decide)
      have p5 : cell ns 3 % 5 < 5 := Int.emod_lt_of_pos _ (by decide)
      obtain ⟨at_, hat⟩ : ∃ at_ : Nat, cell ns 3 % 5 = (at_ : Int) := ⟨(cell ns 3 % 5).toNat, by omega⟩
      have at5 : at_ < 5 := by omega
      have hname : ∀ i, i < 12 → NameOk ((cutS "wire" none (some (cell ns 3 % 5)) ++ signK i) ++ cutS "wire" (some (cell ns 3 % 5)) none) := fun i hi => by
        rw [hat]
        exact name_ok at5 hi
      have hsize : ∀ i, i < 12 → (cutS "wire" none (some (cell ns 3 % 5))).length + (signK i).length ≤ 100 ∧ (cutS "wire" none (some (cell ns 3 % 5)) ++ signK i).length + (cutS "wire" (some (cell ns 3 % 5)) none).length ≤ 100 := fun i hi => by
        rw [hat]
        exact size_ok at5 hi
      -- more = [0, 0, 0, 2][cell(3) // 5 % 4]
      have q0 : 0 ≤ cell ns 3 / 5 % 4 := Int.emod_nonneg _ (by decide)
      have q4 : cell ns 3 / 5 % 4 < 4 := Int.emod_lt_of_pos _ (by decide)
      obtain ⟨mo, hmo, mo0, mo2⟩ := pick4 q0 q4 (a := 0) (b := 0) (c := 0) (d := 2) (by omega) (by omega) (by omega) (by omega)
      refine ⟨by show 4 ≤ sizeLine; decide, fun p hp => ?_⟩
      have s5 : Same H4 (upd H4 p (.lst [V.int 0, V.int 0, V.int 0, V.int 2])) := Same.new hp
      have s35 := (s3.trans s4).trans s5
      refine ⟨_, rfl, a, ns, 3, rfl, s35.seq ha, h63, fun H6 s6 => ⟨_, _, rfl, rfl, ⟨by decide, by decide⟩, _, _, rfl, rfl, (by show (0 : Int) < 4; decide), p, _, _, _, rfl, rfl, SqL.of (s6 _ _ upd_same), hmo, ?_⟩⟩
      have s36 := s35.trans s6
      have l6 : H6 l = some (.lst []) := s6 _ _ (s5 _ _ (s4 _ _ l3))
      -- for k in range(many)
      refine ⟨_, rfl, _, rfl, by omega, by omega, for_range (lo := 0) (n := ((n : Nat) : Int).toNat) (fun i σ H7 => ∃ v7 v8, ∃ (xs : List Addr) (ts : List Th), σ = [some (V.ref a), some (V.ref b), some (V.ref c), some (V.ref l), some (V.int (n : Int)), some (V.int (cell ns 3 % 5)), some (V.int mo), v7, v8, none, none] ∧
        Same H H7 ∧ H7 l = some (.lst (xs.map V.ref)) ∧ ThsAt K H7 xs ts ∧ ts.length = i ∧ ∀ t ∈ ts, ThG sz t) ?_ ?_ ?_⟩
      · exact ⟨none, none, [], [], rfl, s36, l6, .nil, rfl, fun t ht => (by cases ht)⟩
      · rintro i σ H7 hi ⟨v7, v8, xs, ts, rfl, s7, l7, t7, len7, g7⟩
        have i12 : i < 12 := by omega
        have sz2 := hsize i i12
        -- the name
        refine ⟨_, rfl, _, rfl, "wire", rfl, (by decide +kernel), _, rfl, signs12, _, _, rfl, rfl, (by decide +kernel), (show atI signs12.cps.toList (0 + (i : Int)) = some (signs12.cps.toList.getD i 0) by rw [Int.zero_add]; exact atI_nat (sign_at i12)),
          _, signK i, rfl, rfl, Nat.le_of_lt (small1000 (by omega)), _, rfl, _, rfl, "wire", rfl, (by decide +kernel), _, _, rfl, rfl, Nat.le_of_lt (small1000 (by omega)), ?_⟩
        -- gathered.append(_law_thing(..))
        have lx : xs.length = ts.length := Paired.length t7
        have il : i < cs.length := by omega
        refine ⟨_, rfl, .inl ⟨rfl, _, SqL.of l7⟩, _, rfl, _, rfl, _, rfl, _, rfl, c, _, _, V.int cs[i], rfl, rfl, SqL.of (s7 _ _ hc), at_of (j := i) (Int.zero_add _) (by rw [List.getElem?_map, List.getElem?_eq_getElem il]; rfl),
          _, rfl, a, ns, 3, rfl, s7.seq ha, h63, fun H8 s8 => ⟨_, _, rfl, rfl, ⟨by decide, by decide⟩, _, _, rfl, rfl, (by show (0 : Int) < 2; decide), _, rfl, b, _, sz, _, _, mo, rfl, hname i i12, hb.mono (s7.trans s8), hsz, ?_, ⟨mo0, mo2⟩, ?_⟩⟩
        · have q0 : 0 ≤ cell ns 3 / 20 % 2 := Int.emod_nonneg _ (by decide)
          have q2 : cell ns 3 / 20 % 2 < 2 := Int.emod_lt_of_pos _ (by decide)
          constructor <;> omega
        · intro H9 x t s9 hx hname hg
          have l9 : H9 l = some (.lst (xs.map V.ref)) := s9 _ _ (s8 _ _ l7)
          refine ⟨l, _, _, rfl, rfl, l9, (by rw [List.length_map]; exact small1000 (by omega)), ?_⟩
          refine ⟨_, _, xs ++ [x], ts ++ [t], rfl, Same.mut ((s7.trans s8).trans s9) hl, by rw [upd_same, List.map_append]; rfl, ThsAt.off l9 (Paired.snoc (t7.mono (s8.trans s9)) hx), ?_, ?_⟩
          · rw [List.length_append, len7]
            rfl
          · intro u hu
            rcases List.mem_append.mp hu with q | q
            · exact g7 u q
            · rw [List.mem_singleton] at q
              subst q
              exact hg
      · rintro σ H7 ⟨v7, v8, xs, ts, rfl, s7, l7, t7, len7, g7⟩
        have lx : xs.length = ts.length := Paired.length t7
        have ln : ts.length = n := by omega
        -- if many > 1 and cell(4) % 4 == 1
        refine ⟨_, rfl, _, _, rfl, rfl, _, rfl, ?_⟩
        refine ite2 (fun h1 => ?_) (fun h1 => ?_)
        · have n2 : 1 < n := by
            have := of_decide_eq_true h1
            omega
          refine ⟨_, rfl, a, ns, 4, rfl, s7.seq ha, h63, fun H8 s8 => ⟨_, _, rfl, rfl, (by show (0 : Int) < 4; decide), rfl, _, rfl, ?_⟩⟩
          refine ite2 (fun _ => ?_) (fun _ => ?_)
          · -- one, two
            refine ⟨_, rfl, a, ns, 4, rfl, (s7.trans s8).seq ha, h63, fun H9 s9 => ⟨_, _, rfl, rfl, ⟨by decide, by decide⟩, _, rfl, _, _, rfl, rfl, (by show (0 : Int) < (n : Int); omega), ?_⟩⟩
            have o0 : 0 ≤ cell ns 4 / 4 % (n : Int) := Int.emod_nonneg _ (by omega)
            have o1 : cell ns 4 / 4 % (n : Int) < n := Int.emod_lt_of_pos _ (by omega)
            obtain ⟨one, hone⟩ : ∃ one : Nat, cell ns 4 / 4 % (n : Int) = (one : Int) := ⟨(cell ns 4 / 4 % (n : Int)).toNat, by omega⟩
            refine ⟨_, rfl, _, _, rfl, rfl, _, rfl, a, ns, 4, rfl, ((s7.trans s8).trans s9).seq ha, h63, fun H10 s10 => ⟨_, _, rfl, rfl, ⟨by decide, by decide⟩, _, rfl, _, _, rfl, rfl, _, _, rfl, rfl, (by show (0 : Int) < (n : Int) - 1; omega), _, _, rfl, rfl, _, rfl, _, _, rfl, rfl, (by show (0 : Int) < (n : Int); omega), ?_⟩⟩
            have w0 : 0 ≤ (cell ns 4 / 4 % (n : Int) + 1 + cell ns 4 / 48 % ((n : Int) - 1)) % (n : Int) := Int.emod_nonneg _ (by omega)
            have w1 : (cell ns 4 / 4 % (n : Int) + 1 + cell ns 4 / 48 % ((n : Int) - 1)) % (n : Int) < n := Int.emod_lt_of_pos _ (by omega)
            obtain ⟨two, htwo⟩ : ∃ two : Nat, (cell ns 4 / 4 % (n : Int) + 1 + cell ns 4 / 48 % ((n : Int) - 1)) % (n : Int) = (two : Int) := ⟨((cell ns 4 / 4 % (n : Int) + 1 + cell ns 4 / 48 % ((n : Int) - 1)) % (n : Int)).toNat, by omega⟩
            have oneL : one < xs.length := by omega
            have twoL : two < cs.length := by omega
            have s710 := ((s8.trans s9).trans s10)
            have s010 := s7.trans s710
            obtain ⟨x1, hx1⟩ : ∃ x, xs[one]? = some x := ⟨xs[one], List.getElem?_eq_getElem oneL⟩
            obtain ⟨t1, ht1, hxt1⟩ := Paired.at t7 hx1
            obtain ⟨C, dt, fs, tv⟩ := (hxt1.mono s710).v T
            refine ⟨_, rfl, _, rfl, l, _, _, _, rfl, rfl, SqL.of (s710 _ _ l7), at_of (j := one) hone (by rw [List.getElem?_map, hx1]; rfl), x1, C, dt, _, _, rfl, tv.at_, tv.cl, tv.nn, tv.ln, _, rfl, _, rfl, _, rfl, c, _, _, V.int cs[two], rfl, rfl, SqL.of (s010 _ _ hc),
              at_of (j := two) htwo (by rw [List.getElem?_map, List.getElem?_eq_getElem twoL]; rfl), _, rfl, b, t1.name, sz, _, 0, mo, rfl, (g7 t1 (List.mem_of_getElem? ht1)).name, hb.mono s010, hsz, ⟨by decide, by decide⟩, ⟨mo0, mo2⟩, fun H11 x t s11 hx hname hg => ?_⟩
            have l11 : H11 l = some (.lst (xs.map V.ref)) := s11 _ _ (s710 _ _ l7)
            refine ⟨_, rfl, _, rfl, l, _, _, two, rfl, rfl, l11, ?_, ?_⟩
            · show ixN (xs.map V.ref).length ((cell ns 4 / 4 % (n : Int) + 1 + cell ns 4 / 48 % ((n : Int) - 1)) % (n : Int)) = some two
              rw [htwo, List.length_map]
              unfold ixN
              rw [if_pos (by omega), if_pos (by omega)]
              simp
            · refine ⟨_, rfl, k _ l (xs.set two x) (ts.set two t) (Same.mut (s010.trans s11) hl) ?_ (ThsAt.off l11 (Paired.put two (t7.mono (s710.trans s11)) hx)) ?_ ?_⟩
              · rw [upd_same, List.map_set]
              · rw [List.length_set]
                omega
              · intro u hu
                rcases mem_put hu with q | q
                · rw [q]
                  exact hg
                · exact g7 u q
          · exact ⟨_, rfl, k H8 l xs ts (s7.trans s8) (s8 _ _ l7) (t7.mono s8) (by omega) g7⟩
        · exact ⟨_, rfl, k H7 l xs ts s7 l7 t7 (by omega) g7⟩
end
end Wf

/-! K12O: what the law asks: _law_fits, _law_clash, _law_due. -/
namespace Wf
open PySem PySem.Spec PyProof.Rows L2
section
variable {P : Program} {w : World} {K : PySem.W.Frag} {mg : Str → Option Value} {base : Heap}
/-! ### _law_fits -/
def LGood (sz : Spot) (rs : List Spot) (l row col : Int) : Prop := (0 ≤ row ∧ row < sz.2.1) ∧ (0 ≤ col ∧ col < sz.2.2) ∧ (l, row, col) ∉ rs
theorem fits_iff {sz s : Spot} {rs : List Spot} {h : Int} (h0 : 0 ≤ h) (hl : 0 ≤ s.1 ∧ s.1 < sz.1) :
    Fits sz rs h s ↔ ∀ row col : Int, (s.2.1 - h ≤ row ∧ row ≤ s.2.1 + h) → (s.2.2 - h ≤ col ∧ col ≤ s.2.2 + h) → LGood sz rs s.1 row col := by
  constructor
  · rintro ⟨hin, h1, h2, h3⟩ row col hr hc
    exact ⟨by omega, by omega, h3 (s.1, row, col) ⟨rfl, ⟨by show 0 ≤ row; omega, hr.1, by show row < sz.2.1; omega, hr.2⟩, ⟨by show 0 ≤ col; omega, hc.1, by show col < sz.2.2; omega, hc.2⟩⟩⟩
  · intro g
    obtain ⟨a1, a2, _⟩ := g (s.2.1 - h) (s.2.2 - h) (by omega) (by omega)
    obtain ⟨b1, b2, _⟩ := g (s.2.1 + h) (s.2.2 + h) (by omega) (by omega)
    refine ⟨⟨hl, by omega, by omega⟩, by omega, by omega, fun p hp => ?_⟩
    obtain ⟨p0, p1, p2⟩ := p
    obtain ⟨e, q1, q2⟩ := hp
    have e : p0 = s.1 := e
    subst e
    exact (g p1 p2 ⟨q1.2.1, q1.2.2.2⟩ ⟨q2.2.1, q2.2.2.2⟩).2.2
def spLFits : Sp := fun vs H Q _ => ∃ (a r b : Addr) (sz s : Spot) (rs : List Spot) (h : Int), vs = [.ref a, .ref r, .int h, .ref b] ∧ SpotAt H a sz ∧ ListAt H r rs ∧ SpotAt H b s ∧ (0 ≤ h ∧ h ≤ 2) ∧ Small s ∧ (0 ≤ s.1 ∧ s.1 < sz.1) ∧
  ∀ H', Same H H' → (Fits sz rs h s → Q (.bl true) H') ∧ (¬ Fits sz rs h s → Q (.bl false) H')
abbrev s__law_fits : Stmt := top 45
theorem sc__law_fits : FnScope ["sizes", "rocks", "half", "spot", "row", "column"] ["sizes", "rocks", "half", "spot"] (defScope s__law_fits) := ⟨rfl, rfl, rfl, by decide +kernel, rfl, by decide +kernel, by decide +kernel⟩
theorem c__law_fits {f : Addr} {fd : FuncData} (T : Txt K mg) (F : FnP K "_law_fits" "_law_fits" s__law_fits f fd) (hm : mg "_law_fits" = some (.ref f)) : C8.Cal P w K mg base 1 "_law_fits" spLFits [] := by
  refine cal_mk F hm (fun _ _ _ _ _ _ us hl => match us, hl with | [_, _, _, _], _ => rfl) sc__law_fits (fun vs H Q E h => ?_) (fun cdv A outer s0 H vs Q E hr h => ?_)
  · obtain ⟨a, r, b, sz, s, rs, h, rfl, _⟩ := h
    rfl
  · obtain ⟨a, r, b, sz, s, rs, h, rfl, ha, hrs, hb, ⟨h0, h2⟩, ⟨hs1, hs2⟩, hl, k⟩ := h
    rw [fits_iff h0 hl] at k
    refine ⟨_, (pss_cons (ps_for PassesOwn.never rfl (pi_range2 rfl T.range (pa_cons (pe_op op_sub (pe_ix ix_tup (pv 3) pe_int (fun _ _ => rfl)) (pv 2)) (pa_cons (pe_op op_add (pe_op op_add (pe_ix ix_tup (pv 3) pe_int (fun _ _ => rfl)) (pv 2)) pe_int) pa_nil))) (pg_name (i := 4) sc__law_fits.nd rfl (Or.inl rfl))
      (pss_one (ps_for PassesOwn.never rfl (pi_range2 rfl T.range (pa_cons (pe_op op_sub (pe_ix ix_tup (pv 3) pe_int (fun _ _ => rfl)) (pv 2)) (pa_cons (pe_op op_add (pe_op op_add (pe_ix ix_tup (pv 3) pe_int (fun _ _ => rfl)) (pv 2)) pe_int) pa_nil))) (pg_name (i := 5) sc__law_fits.nd rfl (Or.inl rfl))
      (pss_cons (ps_if (PW.pt (pw_or (pt_cmpR op_lt (pv 4) pe_int (nomark _)) (pw_or (pt_cmpR op_ge (pv 4) (pe_ix ix_tup (pv 0) pe_int (fun _ _ => rfl)) (nomark _)) (pw_or (pt_cmpR op_lt (pv 5) pe_int (nomark _)) (pw_or1 (pt_cmpR op_ge (pv 5) (pe_ix ix_tup (pv 0) pe_int (fun _ _ => rfl)) (nomark _))))))) (pss_one (ps_ret pe_bl)) pss_nil)
      (pss_one (ps_if (pt_cmpR (op_inD (huD_of hr)) (pe_tup (pa_cons (pe_ix ix_tup (pv 3) pe_int (fun _ _ => rfl)) (pa_cons (pv 4) (pa_cons (pv 5) pa_nil)))) (pv 1) rfl) (pss_one (ps_ret pe_bl)) pss_nil))))))
      (pss_one (ps_ret pe_bl))), ?_⟩
    have n1 : (s.2.1 + h + 1 - (s.2.1 - h)).toNat ≤ 5 := by omega
    have n2 : (s.2.2 + h + 1 - (s.2.2 - h)).toNat ≤ 5 := by omega
    refine ⟨_, rfl, b, _, _, _, rfl, rfl, SqT.of hb, rfl, _, rfl, _, _, rfl, rfl, _, rfl, b, _, _, _, rfl, rfl, SqT.of hb, rfl, _, rfl, _, _, rfl, rfl, _, _, rfl, rfl, s.2.1 - h, s.2.1 + h + 1, rfl,
      ⟨(big_ok (by omega)).1, (big_ok (by omega)).2, (big_ok (by omega)).1, (big_ok (by omega)).2⟩, for_range (lo := s.2.1 - h) (n := (s.2.1 + h + 1 - (s.2.1 - h)).toNat) (fun i σ H1 => ∃ v4 v5, σ = [some (V.ref a), some (V.ref r), some (V.int h), some (V.ref b), v4, v5] ∧ Same H H1 ∧
        ∀ row col : Int, (s.2.1 - h ≤ row ∧ row < s.2.1 - h + (i : Int)) → (s.2.2 - h ≤ col ∧ col ≤ s.2.2 + h) → LGood sz rs s.1 row col) ?_ ?_ ?_⟩
    · exact ⟨none, none, rfl, Same.refl _, fun row col hr hc => by omega⟩
    · rintro i σ H1 hi ⟨v4, v5, rfl, s1, hd⟩
      refine ⟨_, rfl, b, _, _, _, rfl, rfl, SqT.of (s1 _ _ hb), rfl, _, rfl, _, _, rfl, rfl, _, rfl, b, _, _, _, rfl, rfl, SqT.of (s1 _ _ hb), rfl, _, rfl, _, _, rfl, rfl, _, _, rfl, rfl, s.2.2 - h, s.2.2 + h + 1, rfl,
        ⟨(big_ok (by omega)).1, (big_ok (by omega)).2, (big_ok (by omega)).1, (big_ok (by omega)).2⟩, for_range (lo := s.2.2 - h) (n := (s.2.2 + h + 1 - (s.2.2 - h)).toNat) (fun j σ H2 => ∃ v5, σ = [some (V.ref a), some (V.ref r), some (V.int h), some (V.ref b), some (V.int (s.2.1 - h + (i : Int))), v5] ∧ Same H H2 ∧
          ∀ col : Int, (s.2.2 - h ≤ col ∧ col < s.2.2 - h + (j : Int)) → LGood sz rs s.1 (s.2.1 - h + (i : Int)) col) ?_ ?_ ?_⟩
      · exact ⟨_, rfl, s1, fun col hc => by omega⟩
      · rintro j σ H2 hj ⟨v5, rfl, s2, hd2⟩
        have bad : ∀ H3, Same H H3 → ¬ LGood sz rs s.1 (s.2.1 - h + (i : Int)) (s.2.2 - h + (j : Int)) → Q (.bl false) H3 := fun H3 s3 z => (k H3 s3).2 fun g => z (g _ _ (by omega) (by omega))
        refine ⟨_, rfl, _, _, rfl, rfl, _, rfl, ?_⟩
        refine ite2 (fun c1 => iteT (bad H2 s2 fun z => ?_)) (fun c1 => ?_)
        · have := of_decide_eq_true c1
          have := z.1
          omega
        refine ⟨_, rfl, _, rfl, a, _, _, _, rfl, rfl, SqT.of (s2 _ _ ha), rfl, _, _, rfl, rfl, _, rfl, ?_⟩
        refine ite2 (fun c2 => iteT (bad H2 s2 fun z => ?_)) (fun c2 => ?_)
        · have := of_decide_eq_true c2
          have := z.1
          omega
        refine ⟨_, rfl, _, _, rfl, rfl, _, rfl, ?_⟩
        refine ite2 (fun c3 => iteT (bad H2 s2 fun z => ?_)) (fun c3 => ?_)
        · have := of_decide_eq_true c3
          have := z.2.1
          omega
        refine ⟨_, rfl, _, rfl, a, _, _, _, rfl, rfl, SqT.of (s2 _ _ ha), rfl, _, _, rfl, rfl, _, rfl, ?_⟩
        refine ite2 (fun c4 => bad H2 s2 fun z => ?_) (fun c4 => ?_)
        · have := of_decide_eq_true c4
          have := z.2.1
          omega
        -- (spot[0], row, column) in rocks
        refine ⟨_, rfl, b, _, _, _, rfl, rfl, SqT.of (s2 _ _ hb), rfl, _, rfl, _, rfl, by show 3 ≤ sizeLine; decide, fun p hp => ?_⟩
        have s3 := s2.trans (Same.new (o := .tup [V.int s.1, V.int (s.2.1 - h + (i : Int)), V.int (s.2.2 - h + (j : Int))]) hp)
        refine ⟨_, rfl, spD (s.1, s.2.1 - h + (i : Int), s.2.2 - h + (j : Int)), rs.map spD, spD_dp (s := (s.1, s.2.1 - h + (i : Int), s.2.2 - h + (j : Int))) upd_same, spD_list (hrs.mono s3), spD_shaped _, spDs_shaped rs, _, rfl, ?_⟩
        rw [spDs_any]
        refine ite2 (fun c5 => bad _ s3 fun z => z.2.2 (of_decide_eq_true c5)) (fun c5 => ?_)
        refine ⟨_, rfl, s3, fun col hc => ?_⟩
        by_cases e : col = s.2.2 - h + (j : Int)
        · subst e
          have d1 : ¬ (s.2.1 - h + (i : Int) < 0) := fun z => c1 (decide_eq_true z)
          have d2 : ¬ (sz.2.1 ≤ s.2.1 - h + (i : Int)) := fun z => c2 (decide_eq_true z)
          have d3 : ¬ (s.2.2 - h + (j : Int) < 0) := fun z => c3 (decide_eq_true z)
          have d4 : ¬ (sz.2.2 ≤ s.2.2 - h + (j : Int)) := fun z => c4 (decide_eq_true z)
          exact ⟨by omega, by omega, fun z => c5 (decide_eq_true z)⟩
        · exact hd2 col (by omega)
      · rintro σ H2 ⟨v5, rfl, s2, hd2⟩
        refine ⟨_, _, rfl, s2, fun row col hr hc => ?_⟩
        by_cases e : row = s.2.1 - h + (i : Int)
        · subst e
          exact hd2 col (by omega)
        · exact hd row col (by omega) hc
    · rintro σ H1 ⟨v4, v5, rfl, s1, hd⟩
      exact (k H1 s1).1 fun row col hr hc => hd row col (by omega) hc

/-! ### _law_clash -/
theorem ab_sub (x y : Int) : ab (x - y) = ab (y - x) := by
  unfold ab
  split <;> split <;> omega
theorem gap_comm (s p : Spot) : gap s p = gap p s := by
  unfold gap
  rw [ab_sub s.2.1, ab_sub s.2.2]
theorem mx_comm (a b : Int) : mx a b = mx b a := by
  unfold mx
  split <;> split <;> omega
theorem clash_comm {t u : Th} {s p : Spot} (h : Clash t u s p) : Clash u t p s := by
  obtain ⟨h1, h2⟩ := h
  refine ⟨h1.symm, ?_⟩
  rw [gap_comm, mx_comm]
  omega
theorem apart2_comm {t u : Th} (h : Apart2 t u) : Apart2 u t := fun s hs p hp z => h p hp s hs (clash_comm z)
def spLClash (K : PySem.W.Frag) : Sp := fun vs H Q _ => ∃ (y z : Addr) (t u : Th), vs = [.ref y, .ref z] ∧ ThAt K H y t ∧ ThAt K H z u ∧ ThOk t ∧ ThOk u ∧ ∀ H', Same H H' → (Apart2 t u → Q (.bl false) H') ∧ (¬ Apart2 t u → Q (.bl true) H')
abbrev s__law_clash : Stmt := top 46
theorem sc__law_clash : FnScope ["one", "two", "reach", "spot", "place", "gap"] ["one", "two"] (defScope s__law_clash) := ⟨rfl, rfl, rfl, by decide +kernel, rfl, by decide +kernel, by decide +kernel⟩
theorem c__law_clash {f : Addr} {fd : FuncData} (T : Txt K mg) (e_N : C8.Met P w K mg base 1 (cNe K) "ends" (spEnds K false) []) (e_B : C8.Met P w K mg base 1 (cBu K) "ends" (spEnds K true) []) (F : FnP K "_law_clash" "_law_clash" s__law_clash f fd)
    (hm : mg "_law_clash" = some (.ref f)) : C8.Cal P w K mg base 2 "_law_clash" (spLClash K) [] := by
  refine cal_mk F hm (fun _ _ _ _ _ _ us hl => match us, hl with | [_, _], _ => rfl) sc__law_clash (fun vs H Q E h => ?_) (fun cdv A outer s0 H vs Q E hr h => ?_)
  · obtain ⟨y, z, t, u, rfl, _⟩ := h
    rfl
  · obtain ⟨y, z, t, u, rfl, hy, hz, tk, uk, k⟩ := h
    obtain ⟨C, dt, ft, tv⟩ := hy.v T
    obtain ⟨D, du, fu, uv⟩ := hz.v T
    refine ⟨_, (pss_cons (ps_set (i := 2) sc__law_clash.nd rfl (Or.inl rfl) (pe_op op_add (pe_op op_add (pe_fld (pv 0) rfl) (pe_fld (pv 1) rfl)) (pe_callB (call_max2 rfl) (by rfl) T.max (by decide +kernel) (pa_cons (pe_fld (pv 0) rfl) (pa_cons (pe_fld (pv 1) rfl) pa_nil)))))
      (pss_cons (ps_for PassesOwn.never rfl (pi_list (pe_ends e_N e_B hr (by decide) (pv 0))) (pg_name (i := 3) sc__law_clash.nd rfl (Or.inl rfl))
      (pss_one (ps_for PassesOwn.never rfl (pi_list (pe_ends e_N e_B hr (by decide) (pv 1))) (pg_name (i := 4) sc__law_clash.nd rfl (Or.inl rfl))
      (pss_cons (ps_set (i := 5) sc__law_clash.nd rfl (Or.inl rfl) (pe_callB (call_max2 rfl) (by rfl) T.max (by decide +kernel) (pa_cons (pe_callB call_abs (by rfl) T.abs (by decide +kernel) (pa_cons (pe_op op_sub (pe_ix ix_tup (pv 4) pe_int (fun _ _ => rfl)) (pe_ix ix_tup (pv 3) pe_int (fun _ _ => rfl))) pa_nil)) (pa_cons (pe_callB call_abs (by rfl) T.abs (by decide +kernel) (pa_cons (pe_op op_sub (pe_ix ix_tup (pv 4) pe_int (fun _ _ => rfl)) (pe_ix ix_tup (pv 3) pe_int (fun _ _ => rfl))) pa_nil)) pa_nil))))
      (pss_one (ps_if (PW.pt (pw_and (pt_cmpR op_eq (pe_ix ix_tup (pv 4) pe_int (fun _ _ => rfl)) (pe_ix ix_tup (pv 3) pe_int (fun _ _ => rfl)) (nomark _)) (pw_and1 (pt_cmpR op_le (pv 5) (pv 2) (nomark _))))) (pss_one (ps_ret pe_bl)) pss_nil))))))
      (pss_one (ps_ret pe_bl)))), ?_⟩
    refine ⟨_, rfl, y, C, dt, _, _, rfl, tv.at_, tv.cl, tv.nh, tv.lh, _, rfl, z, D, du, _, _, rfl, uv.at_, uv.cl, uv.nh, uv.lh, _, _, rfl, rfl, _, rfl, y, C, dt, _, _, rfl, tv.at_, tv.cl, tv.nr, tv.lr, _, rfl, z, D, du, _, _, rfl, uv.at_, uv.cl, uv.nr, uv.lr, _, _, rfl, _, _, rfl, rfl, ?_⟩
    -- for spot in one.ends()
    refine ⟨_, rfl, y, t, rfl, hy, ⟨tk.one, tk.two⟩, fun H1 l s1 hl1 => ?_⟩
    obtain ⟨as, l1, l2⟩ := id hl1
    have la : as.length = t.ends.length := Paired.length l2
    refine ⟨l, rfl, ⟨_, SqL.of l1⟩, for_list (xs := as.map V.ref) (fun i σ H2 => ∃ v3 v4 v5, σ = [some (V.ref y), some (V.ref z), some (V.int (t.half + u.half + mx t.room u.room)), v3, v4, v5] ∧ Same H1 H2 ∧ ∀ (j : Nat) (s : Spot), j < i → t.ends[j]? = some s → ∀ p ∈ u.ends, ¬ Clash t u s p) ?_ ?_ ?_ ?_⟩
    · exact ⟨none, none, none, rfl, Same.refl _, fun j s hj => absurd hj (Nat.not_lt_zero j)⟩
    · rintro i σ H2 hi ⟨v3, v4, v5, rfl, s2, _⟩
      exact SqL.of (s2 _ _ l1)
    · rintro i x σ H2 hi ⟨v3, v4, v5, rfl, s2, hd⟩
      obtain ⟨a, ha, rfl⟩ := map_at hi
      obtain ⟨s, hs, has⟩ := Paired.at l2 ha
      have s12 := s1.trans s2
      -- for place in two.ends()
      refine ⟨_, rfl, z, u, rfl, hz.mono s12, ⟨uk.one, uk.two⟩, fun H3 m s3 hm3 => ?_⟩
      obtain ⟨bs, m1, m2⟩ := id hm3
      have lb : bs.length = u.ends.length := Paired.length m2
      refine ⟨m, rfl, ⟨_, SqL.of m1⟩, for_list (xs := bs.map V.ref) (fun j σ H4 => ∃ v4 v5, σ = [some (V.ref y), some (V.ref z), some (V.int (t.half + u.half + mx t.room u.room)), some (V.ref a), v4, v5] ∧ Same H3 H4 ∧ ∀ (n : Nat) (p : Spot), n < j → u.ends[n]? = some p → ¬ Clash t u s p) ?_ ?_ ?_ ?_⟩
      · exact ⟨_, _, rfl, Same.refl _, fun j s hj => absurd hj (Nat.not_lt_zero j)⟩
      · rintro j σ H4 hj ⟨v4, v5, rfl, s4, _⟩
        exact SqL.of (s4 _ _ m1)
      · rintro j x σ H4 hj ⟨v4, v5, rfl, s4, hd2⟩
        obtain ⟨b, hb, rfl⟩ := map_at hj
        obtain ⟨p, hp, hbp⟩ := Paired.at m2 hb
        have qa : SpotAt H4 a s := (has.mono s2).mono (s3.trans s4)
        have qb : SpotAt H4 b p := hbp.mono s4
        have s14 := s12.trans (s3.trans s4)
        -- gap = max(abs(..), abs(..))
        refine ⟨_, rfl, b, _, _, _, rfl, rfl, SqT.of qb, rfl, _, rfl, a, _, _, _, rfl, rfl, SqT.of qa, rfl, _, _, rfl, rfl, _, rfl, _, rfl, b, _, _, _, rfl, rfl, SqT.of qb, rfl, _, rfl, a, _, _, _, rfl, rfl, SqT.of qa, rfl, _, _, rfl, rfl, _, rfl, _, _, rfl, ?_⟩
        refine ⟨_, rfl, b, _, _, _, rfl, rfl, SqT.of qb, rfl, _, rfl, a, _, _, _, rfl, rfl, SqT.of qa, rfl, rfl, _, rfl, ?_⟩
        refine ite2 (fun c1 => ?_) (fun c1 => ?_)
        · have e1 : p.1 = s.1 := V.int.inj (of_decide_eq_true c1)
          refine ⟨_, rfl, _, rfl, _, _, rfl, rfl, _, rfl, ?_⟩
          refine ite2 (fun c2 => ?_) (fun c2 => ?_)
          · refine (k H4 s14).2 fun q => q s (List.mem_of_getElem? hs) p (List.mem_of_getElem? hp) ⟨e1.symm, ?_⟩
            rw [gap_comm]
            exact of_decide_eq_true c2
          · refine ⟨_, _, rfl, s4, fun n q hn hq => ?_⟩
            by_cases e : n = j
            · subst e
              rw [hp] at hq
              obtain rfl := Option.some.inj hq
              rintro ⟨_, z2⟩
              rw [gap_comm] at z2
              exact c2 (decide_eq_true z2)
            · exact hd2 n q (by omega) hq
        · refine ⟨_, _, rfl, s4, fun n q hn hq => ?_⟩
          by_cases e : n = j
          · subst e
            rw [hp] at hq
            obtain rfl := Option.some.inj hq
            rintro ⟨z1, _⟩
            exact c1 (decide_eq_true (by rw [z1]))
          · exact hd2 n q (by omega) hq
      · rintro σ H4 ⟨v4, v5, rfl, s4, hd2⟩
        refine ⟨_, _, _, rfl, s2.trans (s3.trans s4), fun j q hj hq => ?_⟩
        by_cases e : j = i
        · subst e
          rw [hs] at hq
          obtain rfl := Option.some.inj hq
          intro p hp
          obtain ⟨n, hn, e⟩ := List.getElem_of_mem hp
          exact hd2 n p (by rw [List.length_map]; omega) (by rw [List.getElem?_eq_getElem hn, e])
        · exact hd j q (by omega) hq
    · rintro σ H2 ⟨v3, v4, v5, rfl, s2, hd⟩
      refine (k H2 (s1.trans s2)).1 fun s hs => ?_
      obtain ⟨n, hn, e⟩ := List.getElem_of_mem hs
      exact hd n s (by rw [List.length_map]; omega) (by rw [List.getElem?_eq_getElem hn, e])
end
end Wf

/-! K12P: _law_due. -/
namespace Wf
open PySem PySem.Spec PyProof.Rows L2
section
variable {P : Program} {w : World} {K : PySem.W.Frag} {mg : Str → Option Value} {base : Heap}
theorem twice_of {ts : List Th} (h : ∀ (i j : Nat) (t u : Th), j < i → ts[i]? = some t → ts[j]? = some u → t.name ≠ u.name) : NoTwice ts := by
  unfold NoTwice
  rw [List.nodup_iff_pairwise_ne, List.pairwise_iff_getElem]
  intro i j hi hj hij e
  rw [List.getElem_map, List.getElem_map] at e
  rw [List.length_map] at hi hj
  exact h j i ts[j] ts[i] hij (List.getElem?_eq_getElem hj) (List.getElem?_eq_getElem hi) e.symm
theorem of_twice {ts : List Th} (h : NoTwice ts) {i j : Nat} {t u : Th} (hij : j < i) (hi : ts[i]? = some t) (hj : ts[j]? = some u) : t.name ≠ u.name := by
  unfold NoTwice at h
  rw [List.nodup_iff_pairwise_ne, List.pairwise_iff_getElem] at h
  obtain ⟨li, rfl⟩ := List.getElem?_eq_some_iff.mp hi
  obtain ⟨lj, rfl⟩ := List.getElem?_eq_some_iff.mp hj
  have q := h j i (by rw [List.length_map]; exact lj) (by rw [List.length_map]; exact li) hij
  rw [List.getElem_map, List.getElem_map] at q
  exact fun e => q e.symm
def spLDue (K : PySem.W.Frag) : Sp := fun vs H Q _ => ∃ (a r l : Addr) (sz : Spot) (rs : List Spot) (xs : List Addr) (ts : List Th), vs = [.ref a, .ref r, .ref l] ∧ SpotAt H a sz ∧ ListAt H r rs ∧ H l = some (.lst (xs.map V.ref)) ∧ ThsAt K H xs ts ∧ (∀ t ∈ ts, ThG sz t) ∧ ts.length ≤ 12 ∧
  ∀ H', Same H H' → (¬ NoTwice ts → Q (.str "twice") H') ∧ (NoTwice ts → ¬ AllFit sz rs ts → Q (.str "unfit") H') ∧ (NoTwice ts → AllFit sz rs ts → ¬ NoCrowd ts → Q (.str "crowded") H') ∧ (NoTwice ts → AllFit sz rs ts → NoCrowd ts → Q (.str "good") H')
abbrev s__law_due : Stmt := top 47
theorem sc__law_due : FnScope ["sizes", "rocks", "things", "k", "j", "thing", "spot"] ["sizes", "rocks", "things"] (defScope s__law_due) := ⟨rfl, rfl, rfl, by decide +kernel, rfl, by decide +kernel, by decide +kernel⟩
theorem c__law_due {f : Addr} {fd : FuncData} (T : Txt K mg) (c__law_fits : C8.Cal P w K mg base 1 "_law_fits" spLFits []) (c__law_clash : C8.Cal P w K mg base 2 "_law_clash" (spLClash K) [])
    (e_N : C8.Met P w K mg base 1 (cNe K) "ends" (spEnds K false) []) (e_B : C8.Met P w K mg base 1 (cBu K) "ends" (spEnds K true) []) (F : FnP K "_law_due" "_law_due" s__law_due f fd)
    (hm : mg "_law_due" = some (.ref f)) : C8.Cal P w K mg base 3 "_law_due" (spLDue K) [] := by
  refine cal_mk F hm (fun _ _ _ _ _ _ us hl => match us, hl with | [_, _, _], _ => rfl) sc__law_due (fun vs H Q E h => ?_) (fun cdv A outer s0 H vs Q E hr h => ?_)
  · obtain ⟨a, r, l, sz, rs, xs, ts, rfl, _⟩ := h
    rfl
  · obtain ⟨a, r, l, sz, rs, xs, ts, rfl, ha, hrs, hl, hts, hok, h12, k⟩ := h
    have lx : xs.length = ts.length := Paired.length hts
    have at_ : ∀ {i : Nat}, i < xs.length → ∃ x t, xs[i]? = some x ∧ ts[i]? = some t ∧ ThAt K H x t := fun {i} hi => by
      obtain ⟨t, ht, hxt⟩ := Paired.at hts (i := i) (a := xs[i]) (List.getElem?_eq_getElem hi)
      exact ⟨xs[i], t, List.getElem?_eq_getElem hi, ht, hxt⟩
    have ix : ∀ {i : Nat} {x : Addr}, xs[i]? = some x → ∀ z : Int, z = ((i : Nat) : Int) → atI (xs.map V.ref) z = some (V.ref x) := fun {i x} hx z e => at_of (j := i) e (by rw [List.getElem?_map, hx]; rfl)
    refine ⟨_, (pss_cons (ps_for PassesOwn.never rfl (pi_range1 rfl T.range (pa_cons (pe_callB call_len (by rfl) T.len PySem.boot_len (pa_cons (pv 2) pa_nil)) pa_nil)) (pg_name (i := 3) sc__law_due.nd rfl (Or.inl rfl))
      (pss_one (ps_for PassesOwn.never rfl (pi_range1 rfl T.range (pa_cons (pv 3) pa_nil)) (pg_name (i := 4) sc__law_due.nd rfl (Or.inl rfl))
      (pss_one (ps_if (pt_cmpR op_eq (pe_fld (pe_ix ix_list (pv 2) (pv 3) (fun _ _ => rfl)) rfl) (pe_fld (pe_ix ix_list (pv 2) (pv 4) (fun _ _ => rfl)) rfl) (nomark _)) (pss_one (ps_ret pe_str)) pss_nil)))))
      (pss_cons (ps_for PassesOwn.never rfl (pi_list (pv 2)) (pg_name (i := 5) sc__law_due.nd rfl (Or.inl rfl))
      (pss_one (ps_for PassesOwn.never rfl (pi_list (pe_ends e_N e_B hr (by decide) (pv 5))) (pg_name (i := 6) sc__law_due.nd rfl (Or.inl rfl))
      (pss_one (ps_if (pt_not (pt_val (C8.pe_c c__law_fits hr (by decide) rfl (pa_cons (pv 0) (pa_cons (pv 1) (pa_cons (pe_fld (pv 5) rfl) (pa_cons (pv 6) pa_nil))))))) (pss_one (ps_ret pe_str)) pss_nil)))))
      (pss_cons (ps_for PassesOwn.never rfl (pi_range1 rfl T.range (pa_cons (pe_callB call_len (by rfl) T.len PySem.boot_len (pa_cons (pv 2) pa_nil)) pa_nil)) (pg_name (i := 3) sc__law_due.nd rfl (Or.inl rfl))
      (pss_one (ps_for PassesOwn.never rfl (pi_range1 rfl T.range (pa_cons (pv 3) pa_nil)) (pg_name (i := 4) sc__law_due.nd rfl (Or.inl rfl))
      (pss_one (ps_if (pt_val (C8.pe_c c__law_clash hr (by decide) rfl (pa_cons (pe_ix ix_list (pv 2) (pv 3) (fun _ _ => rfl)) (pa_cons (pe_ix ix_list (pv 2) (pv 4) (fun _ _ => rfl)) pa_nil)))) (pss_one (ps_ret pe_str)) pss_nil)))))
      (pss_one (ps_ret pe_str))))), ?_⟩
    -- the names
    refine ⟨_, rfl, _, xs.length, rfl, .inl ⟨_, SqL.of hl, (by rw [List.length_map])⟩, _, rfl, by omega, by omega, for_range (lo := 0) (n := xs.length) (fun i σ H1 => ∃ v3 v4 v5 v6, σ = [some (V.ref a), some (V.ref r), some (V.ref l), v3, v4, v5, v6] ∧ Same H H1 ∧
      ∀ (m j : Nat) (t u : Th), m < i → j < m → ts[m]? = some t → ts[j]? = some u → t.name ≠ u.name) ?_ ?_ ?_⟩
    · exact ⟨none, none, none, none, rfl, Same.refl _, fun m j t u hm => absurd hm (Nat.not_lt_zero m)⟩
    · rintro i σ H1 hi ⟨v3, v4, v5, v6, rfl, s1, hd⟩
      obtain ⟨x, t, hx, ht, hxt⟩ := at_ hi
      refine ⟨_, rfl, _, rfl, by omega, by omega, for_range (lo := 0) (n := (0 + ((i : Nat) : Int)).toNat) (fun j σ H2 => ∃ v4 v5 v6, σ = [some (V.ref a), some (V.ref r), some (V.ref l), some (V.int (0 + ((i : Nat) : Int))), v4, v5, v6] ∧ Same H H2 ∧
        ∀ (m : Nat) (u : Th), m < j → ts[m]? = some u → t.name ≠ u.name) ?_ ?_ ?_⟩
      · exact ⟨_, _, _, rfl, s1, fun m u hm => absurd hm (Nat.not_lt_zero m)⟩
      · rintro j σ H2 hj ⟨v4, v5, v6, rfl, s2, hd2⟩
        obtain ⟨y, u, hy, hu, hyu⟩ := at_ (i := j) (by omega)
        obtain ⟨C, dt, ft, tv⟩ := (hxt.mono s2).v T
        obtain ⟨D, du, fu, uv⟩ := (hyu.mono s2).v T
        refine ⟨_, rfl, _, rfl, l, _, _, _, rfl, rfl, SqL.of (s2 _ _ hl), ix hx _ (Int.zero_add _), x, C, dt, _, _, rfl, tv.at_, tv.cl, tv.nn, tv.ln, _, rfl, _, rfl, l, _, _, _, rfl, rfl, SqL.of (s2 _ _ hl), ix hy _ (Int.zero_add _), y, D, du, _, _, rfl, uv.at_, uv.cl, uv.nn, uv.ln, rfl, _, rfl, ?_⟩
        refine ite2 (fun h0 => (k H2 s2).1 fun q => of_twice q (j := j) (i := i) (by omega) ht hu (dec_strT h0)) (fun h0 => ?_)
        refine ⟨_, _, _, rfl, s2, fun m u' hm hu' => ?_⟩
        by_cases e : m = j
        · subst e
          rw [hu] at hu'
          obtain rfl := Option.some.inj hu'
          exact dec_strF h0
        · exact hd2 m u' (by omega) hu'
      · rintro σ H2 ⟨v4, v5, v6, rfl, s2, hd2⟩
        refine ⟨_, _, _, _, rfl, s2, fun m j t' u' hm hj ht' hu' => ?_⟩
        by_cases e : m = i
        · subst e
          rw [ht] at ht'
          obtain rfl := Option.some.inj ht'
          exact hd2 j u' (by omega) hu'
        · exact hd m j t' u' (by omega) hj ht' hu'
    rintro σ H1 ⟨v3, v4, v5, v6, rfl, s1, hd⟩
    have nt : NoTwice ts := twice_of fun i j t u hij hi hj => hd i j t u (by
      have := (List.getElem?_eq_some_iff.mp hi).1
      omega) hij hi hj
    clear hd
    -- the floor
    refine ⟨_, rfl, l, rfl, ⟨_, SqL.of (s1 _ _ hl)⟩, for_list (xs := xs.map V.ref) (fun i σ H2 => ∃ v3 v4 v5 v6, σ = [some (V.ref a), some (V.ref r), some (V.ref l), v3, v4, v5, v6] ∧ Same H H2 ∧
      ∀ j t, j < i → ts[j]? = some t → ∀ s ∈ t.ends, Fits sz rs t.half s) ?_ ?_ ?_ ?_⟩
    · exact ⟨_, _, _, _, rfl, s1, fun j t hj => absurd hj (Nat.not_lt_zero j)⟩
    · rintro i σ H2 hi ⟨v3, v4, v5, v6, rfl, s2, _⟩
      exact SqL.of (s2 _ _ hl)
    · rintro i y σ H2 hi ⟨v3, v4, v5, v6, rfl, s2, hd⟩
      obtain ⟨b, hb, rfl⟩ := map_at hi
      obtain ⟨t, ht, hbt⟩ := Paired.at hts hb
      have tm := List.mem_of_getElem? ht
      have tg := hok t tm
      have tk := tg.ok
      refine ⟨_, rfl, b, t, rfl, hbt.mono s2, ⟨tk.one, tk.two⟩, fun H3 m s3 hm3 => ?_⟩
      obtain ⟨as, m1, m2⟩ := id hm3
      have la : as.length = t.ends.length := Paired.length m2
      have s23 := s2.trans s3
      refine ⟨m, rfl, ⟨_, SqL.of m1⟩, for_list (xs := as.map V.ref) (fun i σ H4 => ∃ v6, σ = [some (V.ref a), some (V.ref r), some (V.ref l), v3, v4, some (V.ref b), v6] ∧ Same H3 H4 ∧ ∀ j s, j < i → t.ends[j]? = some s → Fits sz rs t.half s) ?_ ?_ ?_ ?_⟩
      · exact ⟨_, rfl, Same.refl _, fun j t hj => absurd hj (Nat.not_lt_zero j)⟩
      · rintro i σ H4 hi ⟨v6, rfl, s4, _⟩
        exact SqL.of (s4 _ _ m1)
      · rintro i2 y σ H4 hi2 ⟨v6, rfl, s4, hd2⟩
        obtain ⟨c, hc, rfl⟩ := map_at hi2
        obtain ⟨s, hs, hcs⟩ := Paired.at m2 hc
        have sm := List.mem_of_getElem? hs
        have s24 : Same H H4 := s23.trans s4
        obtain ⟨C, dt, ft, tv⟩ := (hbt.mono s24).v T
        refine ⟨_, rfl, _, rfl, _, rfl, b, C, dt, _, _, rfl, tv.at_, tv.cl, tv.nh, tv.lh, _, rfl, a, r, c, sz, s, rs, t.half, rfl, ha.mono s24, hrs.mono s24, hcs.mono s4, tk.half, tk.small s sm, tg.lay s sm, fun H5 s5 => ⟨fun hf => ⟨_, rfl, iteF ?_⟩, fun hf => ⟨_, rfl, iteT ?_⟩⟩⟩
        · refine ⟨_, rfl, s4.trans s5, fun j q hj hq => ?_⟩
          by_cases e : j = i2
          · subst e
            rw [hs] at hq
            obtain rfl := Option.some.inj hq
            exact hf
          · exact hd2 j q (by omega) hq
        · exact (k H5 (s24.trans s5)).2.1 nt fun z => hf (z t tm s sm)
      · rintro σ H4 ⟨v6, rfl, s4, hd2⟩
        refine ⟨_, _, _, _, rfl, s23.trans s4, fun j q hj hq => ?_⟩
        by_cases e : j = i
        · subst e
          rw [ht] at hq
          obtain rfl := Option.some.inj hq
          intro s hs
          obtain ⟨n, hn, e⟩ := List.getElem_of_mem hs
          exact hd2 n s (by rw [List.length_map]; omega) (by rw [List.getElem?_eq_getElem hn, e])
        · exact hd j q (by omega) hq
    rintro σ H2 ⟨v3, v4, v5, v6, rfl, s2, hd⟩
    have af : AllFit sz rs ts := fun t ht s hs => by
      obtain ⟨n, hn, e⟩ := List.getElem_of_mem ht
      exact hd n t (by rw [List.length_map]; omega) (by rw [List.getElem?_eq_getElem hn, e]) s hs
    clear hd
    -- the pairs
    refine ⟨_, rfl, _, xs.length, rfl, .inl ⟨_, SqL.of (s2 _ _ hl), (by rw [List.length_map])⟩, _, rfl, by omega, by omega, for_range (lo := 0) (n := xs.length) (fun i σ H1 => ∃ v3 v4 v5 v6, σ = [some (V.ref a), some (V.ref r), some (V.ref l), v3, v4, v5, v6] ∧ Same H H1 ∧
      ∀ (m j : Nat) (t u : Th), m < i → j < m → ts[m]? = some t → ts[j]? = some u → Apart2 t u) ?_ ?_ ?_⟩
    · exact ⟨_, _, _, _, rfl, s2, fun m j t u hm => absurd hm (Nat.not_lt_zero m)⟩
    · rintro i σ H3 hi ⟨v3, v4, v5, v6, rfl, s3, hd⟩
      obtain ⟨x, t, hx, ht, hxt⟩ := at_ hi
      refine ⟨_, rfl, _, rfl, by omega, by omega, for_range (lo := 0) (n := (0 + ((i : Nat) : Int)).toNat) (fun j σ H4 => ∃ v4 v5 v6, σ = [some (V.ref a), some (V.ref r), some (V.ref l), some (V.int (0 + ((i : Nat) : Int))), v4, v5, v6] ∧ Same H H4 ∧
        ∀ (m : Nat) (u : Th), m < j → ts[m]? = some u → Apart2 t u) ?_ ?_ ?_⟩
      · exact ⟨_, _, _, rfl, s3, fun m u hm => absurd hm (Nat.not_lt_zero m)⟩
      · rintro j σ H4 hj ⟨v4, v5, v6, rfl, s4, hd2⟩
        obtain ⟨y, u, hy, hu, hyu⟩ := at_ (i := j) (by omega)
        refine ⟨_, rfl, _, rfl, l, _, _, _, rfl, rfl, SqL.of (s4 _ _ hl), ix hx _ (Int.zero_add _), _, rfl, _, rfl, l, _, _, _, rfl, rfl, SqL.of (s4 _ _ hl), ix hy _ (Int.zero_add _), x, y, t, u, rfl, hxt.mono s4, hyu.mono s4, (hok t (List.mem_of_getElem? ht)).ok, (hok u (List.mem_of_getElem? hu)).ok, fun H5 s5 => ⟨fun hc => ⟨_, rfl, iteF ?_⟩, fun hc => ⟨_, rfl, iteT ?_⟩⟩⟩
        · refine ⟨_, _, _, rfl, s4.trans s5, fun m u' hm hu' => ?_⟩
          by_cases e : m = j
          · subst e
            rw [hu] at hu'
            obtain rfl := Option.some.inj hu'
            exact hc
          · exact hd2 m u' (by omega) hu'
        · exact (k H5 (s4.trans s5)).2.2.1 nt af fun z => hc (apart2_comm (z j i u t (by omega) hu ht))
      · rintro σ H4 ⟨v4, v5, v6, rfl, s4, hd2⟩
        refine ⟨_, _, _, _, rfl, s4, fun m j t' u' hm hj ht' hu' => ?_⟩
        by_cases e : m = i
        · subst e
          rw [ht] at ht'
          obtain rfl := Option.some.inj ht'
          exact hd2 j u' (by omega) hu'
        · exact hd m j t' u' (by omega) hj ht' hu'
    · rintro σ H3 ⟨v3, v4, v5, v6, rfl, s3, hd⟩
      refine (k H3 s3).2.2.2 nt af fun i j t u hij hi hj => apart2_comm (hd j i u t ?_ hij hj hi)
      have := (List.getElem?_eq_some_iff.mp hj).1
      omega
end
end Wf

/-! K12Q: _law_alike, _law_named. -/
namespace Wf
open PySem PySem.Spec PyProof.Rows L2
theorem spDs_same (ss : List Spot) : PyData.eqv (.list (ss.map spD)) (.list (ss.map spD)) = true := by
  simp only [PyData.eqv, spDs_eqv, decide_true]
section
variable {P : Program} {w : World} {K : PySem.W.Frag} {mg : Str → Option Value} {base : Heap}
/-! ### _law_alike: two lists of the same things -/
def spLAlike (K : PySem.W.Frag) : Sp := fun vs H Q _ => ∃ (p q : Addr) (xs : List Addr) (ts : List Th), vs = [.ref p, .ref q] ∧ H p = some (.lst (xs.map V.ref)) ∧ H q = some (.lst (xs.map V.ref)) ∧ ThsAt K H xs ts ∧ (∀ t ∈ ts, ThOk t) ∧ ts.length ≤ 12 ∧
  ∀ H', Same H H' → Q (.bl true) H'
abbrev s__law_alike : Stmt := top 49
theorem sc__law_alike : FnScope ["found", "things", "k"] ["found", "things"] (defScope s__law_alike) := ⟨rfl, rfl, rfl, by decide +kernel, rfl, by decide +kernel, by decide +kernel⟩
theorem c__law_alike {f : Addr} {fd : FuncData} (T : Txt K mg) (e_N : C8.Met P w K mg base 1 (cNe K) "ends" (spEnds K false) []) (e_B : C8.Met P w K mg base 1 (cBu K) "ends" (spEnds K true) []) (F : FnP K "_law_alike" "_law_alike" s__law_alike f fd)
    (hm : mg "_law_alike" = some (.ref f)) : C8.Cal P w K mg base 2 "_law_alike" (spLAlike K) [] := by
  refine cal_mk F hm (fun _ _ _ _ _ _ us hl => match us, hl with | [_, _], _ => rfl) sc__law_alike (fun vs H Q E h => ?_) (fun cdv A outer s0 H vs Q E hr h => ?_)
  · obtain ⟨p, q, xs, ts, rfl, _⟩ := h
    rfl
  · obtain ⟨p, q, xs, ts, rfl, hp, hq, hts, hok, h12, k⟩ := h
    have lx : xs.length = ts.length := Paired.length hts
    refine ⟨_, (pss_cons (ps_if (PW.pt (pw_or (pt_not (pt_val (pe_callB call_isi (by rfl) T.isinstance (by decide +kernel) (pa_cons (pv 0) (pa_cons (pe_bltn (v := .ty "list") rfl T.list (by decide +kernel) rfl) pa_nil))))) (pw_or1 (pt_cmpR op_ne (pe_callB call_len (by rfl) T.len PySem.boot_len (pa_cons (pv 0) pa_nil)) (pe_callB call_len (by rfl) T.len PySem.boot_len (pa_cons (pv 1) pa_nil)) (nomark _))))) (pss_one (ps_ret pe_bl)) pss_nil)
      (pss_cons (ps_for PassesOwn.never rfl (pi_range1 rfl T.range (pa_cons (pe_callB call_len (by rfl) T.len PySem.boot_len (pa_cons (pv 1) pa_nil)) pa_nil)) (pg_name (i := 2) sc__law_alike.nd rfl (Or.inl rfl))
      (pss_cons (ps_if (PW.pt (pw_or (pt_cmpR op_ne (pe_fld (pe_ix ix_list (pv 0) (pv 2) (fun _ _ => rfl)) rfl) (pe_fld (pe_ix ix_list (pv 1) (pv 2) (fun _ _ => rfl)) rfl) (nomark _)) (pw_or1 (pt_cmpR (op_neD hr.units) (pe_ends e_N e_B hr (by decide) (pe_ix ix_list (pv 0) (pv 2) (fun _ _ => rfl))) (pe_ends e_N e_B hr (by decide) (pe_ix ix_list (pv 1) (pv 2) (fun _ _ => rfl))) (nomark _))))) (pss_one (ps_ret pe_bl)) pss_nil)
      (pss_one (ps_if (PW.pt (pw_or (pt_cmpR op_ne (pe_fld (pe_ix ix_list (pv 0) (pv 2) (fun _ _ => rfl)) rfl) (pe_fld (pe_ix ix_list (pv 1) (pv 2) (fun _ _ => rfl)) rfl) (nomark _)) (pw_or1 (pt_cmpR op_ne (pe_fld (pe_ix ix_list (pv 0) (pv 2) (fun _ _ => rfl)) rfl) (pe_fld (pe_ix ix_list (pv 1) (pv 2) (fun _ _ => rfl)) rfl) (nomark _))))) (pss_one (ps_ret pe_bl)) pss_nil))))
      (pss_one (ps_ret pe_bl)))), ?_⟩
    refine ⟨_, rfl, .ref p, .ty "list", .type "list", .type "list", true, rfl, .ty _, .base (.lst hp), kit_ty (by decide +kernel), _, rfl, iteF ?_⟩
    refine ⟨_, rfl, _, xs.length, rfl, .inl ⟨_, SqL.of hp, (by rw [List.length_map])⟩, _, rfl, _, xs.length, rfl, .inl ⟨_, SqL.of hq, (by rw [List.length_map])⟩, rfl, _, rfl, iteNS rfl ?_⟩
    refine ⟨_, rfl, _, xs.length, rfl, .inl ⟨_, SqL.of hq, (by rw [List.length_map])⟩, _, rfl, by omega, by omega, for_range (lo := 0) (n := xs.length) (fun i σ H1 => ∃ v, σ = [some (V.ref p), some (V.ref q), v] ∧ Same H H1) ?_ ?_ ?_⟩
    · exact ⟨none, rfl, Same.refl _⟩
    · rintro i σ H1 hi ⟨v, rfl, s1⟩
      obtain ⟨t, ht, hxt⟩ := Paired.at hts (i := i) (a := xs[i]) (List.getElem?_eq_getElem hi)
      have hx : xs[i]? = some xs[i] := List.getElem?_eq_getElem hi
      have tk := hok t (List.mem_of_getElem? ht)
      have ix : ∀ z : Int, z = ((i : Nat) : Int) → atI (xs.map V.ref) z = some (V.ref xs[i]) := fun z e => at_of (j := i) e (by rw [List.getElem?_map, hx]; rfl)
      obtain ⟨C, dt, ft, tv⟩ := (hxt.mono s1).v T
      refine ⟨_, rfl, _, rfl, p, _, _, _, rfl, rfl, SqL.of (s1 _ _ hp), ix _ (Int.zero_add _), xs[i], C, dt, _, _, rfl, tv.at_, tv.cl, tv.nn, tv.ln, _, rfl, _, rfl, q, _, _, _, rfl, rfl, SqL.of (s1 _ _ hq), ix _ (Int.zero_add _), xs[i], C, dt, _, _, rfl, tv.at_, tv.cl, tv.nn, tv.ln, rfl, _, rfl, iteNS rfl ?_⟩
      refine ⟨_, rfl, _, rfl, p, _, _, _, rfl, rfl, SqL.of (s1 _ _ hp), ix _ (Int.zero_add _), xs[i], t, rfl, hxt.mono s1, ⟨tk.one, tk.two⟩, fun H2 l s2 hl => ?_⟩
      have s12 := s1.trans s2
      refine ⟨_, rfl, _, rfl, q, _, _, _, rfl, rfl, SqL.of (s12 _ _ hq), ix _ (Int.zero_add _), xs[i], t, rfl, hxt.mono s12, ⟨tk.one, tk.two⟩, fun H3 m s3 hm3 => ?_⟩
      have s13 := s12.trans s3
      refine ⟨_, _, spD_list (hl.mono s3), spD_list hm3, spDs_shaped _, spDs_shaped _, _, rfl, ?_⟩
      rw [spDs_same]
      refine iteF ?_
      obtain ⟨C, dt, ft, tv⟩ := (hxt.mono s13).v T
      refine ⟨_, rfl, _, rfl, p, _, _, _, rfl, rfl, SqL.of (s13 _ _ hp), ix _ (Int.zero_add _), xs[i], C, dt, _, _, rfl, tv.at_, tv.cl, tv.nh, tv.lh, _, rfl, _, rfl, q, _, _, _, rfl, rfl, SqL.of (s13 _ _ hq), ix _ (Int.zero_add _), xs[i], C, dt, _, _, rfl, tv.at_, tv.cl, tv.nh, tv.lh, rfl, _, rfl, iteNS rfl ?_⟩
      refine ⟨_, rfl, _, rfl, p, _, _, _, rfl, rfl, SqL.of (s13 _ _ hp), ix _ (Int.zero_add _), xs[i], C, dt, _, _, rfl, tv.at_, tv.cl, tv.nr, tv.lr, _, rfl, _, rfl, q, _, _, _, rfl, rfl, SqL.of (s13 _ _ hq), ix _ (Int.zero_add _), xs[i], C, dt, _, _, rfl, tv.at_, tv.cl, tv.nr, tv.lr, rfl, _, rfl, iteNS rfl ?_⟩
      exact ⟨_, rfl, s13⟩
    · rintro σ H1 ⟨v, rfl, s1⟩
      exact k H1 s1

/-! ### _law_named -/
def spLNamed (K : PySem.W.Frag) : Sp := fun vs H Q _ => ∃ (x f a l : Addr) (xs : List Addr) (ts : List Th) (z : Str), vs = [.ref x, .ref l, .str z] ∧ BoAt K H x f a xs ∧ H l = some (.lst (xs.map V.ref)) ∧ ThsAt K H xs ts ∧ (∀ t ∈ ts, ThOk t) ∧ ts.length ≤ 12 ∧
  ∀ H', Same H H' → Q (.bl true) H'
abbrev s__law_named : Stmt := top 50
theorem sc__law_named : FnScope ["board", "things", "name", "found", "thing"] ["board", "things", "name"] (defScope s__law_named) := ⟨rfl, rfl, rfl, by decide +kernel, rfl, by decide +kernel, by decide +kernel⟩
theorem c__law_named {f : Addr} {fd : FuncData} (T : Txt K mg) (c__law_alike : C8.Cal P w K mg base 2 "_law_alike" (spLAlike K) []) (c_thing_named : C8.Met P w K mg base 1 (cBo K) "thing_named" (spNamed K) []) (F : FnP K "_law_named" "_law_named" s__law_named f fd)
    (hm : mg "_law_named" = some (.ref f)) : C8.Cal P w K mg base 3 "_law_named" (spLNamed K) [] := by
  refine cal_mk F hm (fun _ _ _ _ _ _ us hl => match us, hl with | [_, _, _], _ => rfl) sc__law_named (fun vs H Q E h => ?_) (fun cdv A outer s0 H vs Q E hr h => ?_)
  · obtain ⟨x, f, a, l, xs, ts, z, rfl, _⟩ := h
    rfl
  · obtain ⟨x, f, a, l, xs, ts, z, rfl, hx, hl, hts, hok, h12, k⟩ := h
    have lx : xs.length = ts.length := Paired.length hts
    refine ⟨_, (pss_cons (ps_set (i := 3) sc__law_named.nd rfl (Or.inl rfl) (C8.pe_mt c_thing_named hr (by decide) (pv 0) (pa_cons (pv 2) pa_nil)))
      (pss_cons (ps_for PassesOwn.never rfl (pi_list (pv 1)) (pg_name (i := 4) sc__law_named.nd rfl (Or.inl rfl))
      (pss_one (ps_if (pt_cmpR op_eq (pe_fld (pv 4) rfl) (pv 2) (nomark _)) (pss_one (ps_ret (pe_and (pe_cmpR op_notN (pv 3) pe_non (nomark _)) (pe_one (C8.pe_c c__law_alike hr (by decide) rfl (pa_cons (pe_lst (pa_cons (pv 3) pa_nil)) (pa_cons (pe_lst (pa_cons (pv 4) pa_nil)) pa_nil))))))) pss_nil)))
      (pss_one (ps_ret (pe_cmpR op_isN (pv 3) pe_non (nomark _)))))), ?_⟩
    obtain ⟨dx, hx1, hx2⟩ := id hx
    refine ⟨_, rfl, x, dx, _, rfl, hx1, rfl, _, rfl, x, f, a, xs, ts, z, rfl, hx, hts, fun i t y ht hy hz hmin H1 s1 => ?_, fun hno H1 s1 => ?_⟩
    · -- found
      refine ⟨_, rfl, l, rfl, ⟨_, SqL.of (s1 _ _ hl)⟩, for_list (xs := xs.map V.ref) (fun n σ H2 => ∃ v, σ = [some (V.ref x), some (V.ref l), some (V.str z), some (V.ref y), v] ∧ Same H H2 ∧ n ≤ i) ?_ ?_ ?_ ?_⟩
      · exact ⟨none, rfl, s1, Nat.zero_le _⟩
      · rintro n σ H2 hn ⟨v, rfl, s2, _⟩
        exact SqL.of (s2 _ _ hl)
      · rintro n y' σ H2 hn ⟨v, rfl, s2, hni⟩
        obtain ⟨b, hb, rfl⟩ := map_at hn
        obtain ⟨u, hu, hbu⟩ := Paired.at hts hb
        obtain ⟨C, dt, ft, tv⟩ := (hbu.mono s2).v T
        refine ⟨_, rfl, b, C, dt, _, _, rfl, tv.at_, tv.cl, tv.nn, tv.ln, _, rfl, rfl, _, rfl, ?_⟩
        refine ite2 (fun h0 => ?_) (fun h0 => ?_)
        · have e : n = i := by
            by_cases e : n < i
            · exact absurd (dec_strT h0) (hmin n u e hu)
            · omega
          subst e
          rw [hy] at hb
          obtain rfl := Option.some.inj hb
          rw [ht] at hu
          obtain rfl := Option.some.inj hu
          refine ⟨_, rfl, rfl, _, rfl, iteT ?_⟩
          refine ⟨_, rfl, by show 1 ≤ sizeLine; decide, fun p hp => ?_⟩
          have s3 : Same H2 _ := Same.new (o := .lst [V.ref y]) hp
          refine ⟨_, rfl, by show 1 ≤ sizeLine; decide, fun q hq => ?_⟩
          have s4 : Same _ _ := Same.new (o := .lst [V.ref y]) hq
          have s24 := (s2.trans s3).trans s4
          refine ⟨p, q, [y], [t], rfl, s4 _ _ upd_same, upd_same, .cons (hbu.mono s24) .nil, fun u hu' => ?_, by show 1 ≤ 12; decide, fun H5 s5 => k H5 (s24.trans s5)⟩
          rw [List.mem_singleton] at hu'
          subst hu'
          exact hok _ (List.mem_of_getElem? ht)
        · refine ⟨_, rfl, s2, ?_⟩
          have : n ≠ i := fun e => by
            subst e
            rw [ht] at hu
            obtain rfl := Option.some.inj hu
            exact dec_strF h0 hz
          omega
      · rintro σ H2 ⟨v, rfl, s2, hni⟩
        exfalso
        rw [List.length_map] at hni
        have := (List.getElem?_eq_some_iff.mp hy).1
        omega
    · -- none
      refine ⟨_, rfl, l, rfl, ⟨_, SqL.of (s1 _ _ hl)⟩, for_list (xs := xs.map V.ref) (fun n σ H2 => ∃ v, σ = [some (V.ref x), some (V.ref l), some (V.str z), some V.non, v] ∧ Same H H2) ?_ ?_ ?_ ?_⟩
      · exact ⟨none, rfl, s1⟩
      · rintro n σ H2 hn ⟨v, rfl, s2⟩
        exact SqL.of (s2 _ _ hl)
      · rintro n y' σ H2 hn ⟨v, rfl, s2⟩
        obtain ⟨b, hb, rfl⟩ := map_at hn
        obtain ⟨u, hu, hbu⟩ := Paired.at hts hb
        obtain ⟨C, dt, ft, tv⟩ := (hbu.mono s2).v T
        refine ⟨_, rfl, b, C, dt, _, _, rfl, tv.at_, tv.cl, tv.nn, tv.ln, _, rfl, rfl, _, rfl, ?_⟩
        refine ite2 (fun h0 => absurd (dec_strT h0) (hno u (List.mem_of_getElem? hu))) (fun h0 => ⟨_, rfl, s2⟩)
      · rintro σ H2 ⟨v, rfl, s2⟩
        exact ⟨_, rfl, rfl, k H2 s2⟩
end
end Wf

/-! K12R: _law_refusal. -/
namespace Wf
open PySem PySem.Spec PyProof.Rows L2
/-- isinstance(e, c), e the exception that the suite holds, whatever its class -/
def rIsA (K : PySem.W.Frag) (a : Addr) (cls : Value) (d : Option Addr) : List V → Hp → VK → Prop := fun xs H Q => ∃ D, cls = .ref D ∧ d = none ∧ ExcC K D ∧ rIsE K D a xs H Q
theorem call_isA {X : Cx} {a : Addr} {cls : Value} {d : Option Addr} {oe : Obj} {pn : List (Addr × Obj)} (hz : Zc cls d oe) (hf : ∃ vs, oe.data = .fields vs) : CallR (X.suite a ((a, oe) :: pn)) (.builtin "isinstance") (rIsA X.K a cls d) := by
  intro pins s σ H xs us Q I r h
  obtain ⟨D, rfl, rfl, C, h⟩ := h
  exact call_isE C hz hf pins s σ H xs us Q I r h
/-- C(..) that may raise -/
structure MakR (P : Program) (w : World) (K : PySem.W.Frag) (mg : Str → Option Value) (base : Heap) (k : Nat) (x : Str) (C : Addr) (sp : Sp) : Prop where
  ex : ∃ (f : Addr) (fd : FuncData) (ps : List Str), Mk K C f ∧ FnOk P w K mg base (L2.CX P w) k f fd ps sp ∧ mg x = some (.ref C) ∧ Binds K fd ps []
theorem pe_makR {X : Cx} {k j : Nat} {x : Str} {C : Addr} {sp : Sp} {E : L2.St → XK} {p pos : Pos} {e : Expr} {es : List Expr} {t : TA} (c : MakR X.prog X.w X.K X.mg X.base k x C sp) (hr : Room j X.A) (hk : k + 1 ≤ j) (hg : Gl X x) (hx : ∀ σ, PassesAt (L2.CX X.prog X.w) X σ (E σ)) (ha : PA X (e :: es) t)
    (hdb : (x == ("__debug__" : Str)) = false := by decide) (he : starEach (e :: es) X.env = (false, eval e X.env) :: starEach es X.env := by rfl) (hpl : (backTo pos (starEach es X.env)).any (·.1) = false := by rfl) :
    PE X (.Call (.Name x p) (e :: es) [] pos) (tMakeS C sp E t) := by
  obtain ⟨f, fd, ps, M, F, hm, b⟩ := c.ex
  exact pe_makeS M F (hr.mono hk) hg hm b hx ha hdb he hpl
theorem passNone {X : Cx} (σ : L2.St) : PassesAt (L2.CX X.prog X.w) X σ E0 := fun _ _ _ _ _ _ h => by
  obtain ⟨_, _, _, _, _, _, _, _, _, _, _, _, z⟩ := h
  exact z.elim
section
variable {P : Program} {w : World} {K : PySem.W.Frag} {mg : Str → Option Value} {base : Heap}
def five (D : Str) : List V := [V.bl (decide (D = "Twice")), V.bl (decide (D = "NoFit")), V.bl (decide (D = "Crowded")), V.bl true, V.bl (decide (D = "OutOfFloor"))]
def spLRefusal (K : PySem.W.Frag) : Sp := fun vs H Q _ => ∃ (f l : Addr) (sz : Spot) (rs : List Spot) (xs : List Addr) (ts : List Th), vs = [.ref f, .ref l] ∧ FlAt K H f sz rs ∧ SzOk sz ∧ H l = some (.lst (xs.map V.ref)) ∧ ThsAt K H xs ts ∧ ts.length ≤ 12 ∧ (∀ t ∈ ts, ThOk t) ∧
  ¬ (NoTwice ts ∧ AllFit sz rs ts ∧ NoCrowd ts) ∧
  (¬ NoTwice ts → ∀ (H' : Hp) (p : Addr), Same H H' → H' p = some (.lst (five "Twice")) → Q (.ref p) H') ∧
  (NoTwice ts → ¬ AllFit sz rs ts → ∀ (H' : Hp) (p : Addr), Same H H' → H' p = some (.lst (five "NoFit")) → Q (.ref p) H') ∧
  (NoTwice ts → AllFit sz rs ts → ¬ NoCrowd ts → ∀ (H' : Hp) (p : Addr), Same H H' → H' p = some (.lst (five "Crowded")) → Q (.ref p) H')
abbrev s__law_refusal : Stmt := top 48
theorem sc__law_refusal : FnScope ["floor", "things", "e", "gathered"] ["floor", "things"] (defScope s__law_refusal) := ⟨rfl, rfl, rfl, by decide +kernel, rfl, by decide +kernel, by decide +kernel⟩
theorem c__law_refusal {f : Addr} {fd : FuncData} (T : Txt K mg) (m_Board : MakR P w K mg base 6 "Board" (cBo K) (spBoard K)) (F : FnP K "_law_refusal" "_law_refusal" s__law_refusal f fd)
    (hm : mg "_law_refusal" = some (.ref f)) : C8.Cal P w K mg base 8 "_law_refusal" (spLRefusal K) [] := by
  refine cal_mk F hm (fun _ _ _ _ _ _ us hl => match us, hl with | [_, _], _ => rfl) sc__law_refusal (fun vs H Q E h => ?_) (fun cdv A outer s0 H vs Q E hr h => ?_)
  · obtain ⟨f, l, sz, rs, xs, ts, rfl, _⟩ := h
    rfl
  · obtain ⟨f, l, sz, rs, xs, ts, rfl, hf, hsz, hl, hts, h12, hok, hbad, k1, k2, k3⟩ := h
    refine ⟨_, pss_cons (ps_try_as (i := 2) rfl rfl sc__law_refusal.nd rfl rfl ⟨rfl, by decide, .inl T.gWireError⟩ takes0
        (fun W pn xe tk _ => pss_one (ps_expr (pe_makR m_Board hr (by decide) rfl (fun σ => passAt tk σ) (pa_cons (pv 0) (pa_cons (pv 1) pa_nil)))))
        (fun a oe cls d pn hz hf =>
          pss_cons (ps_set (i := 3) sc__law_refusal.nd rfl (Or.inl rfl) (pe_lst
            (pa_cons (pe_callB (call_isA hz hf) (by rfl) T.isinstance (by decide +kernel) (pa_cons (pv 2) (pa_cons (pe_glob (v := .ref (He.ga K "Twice")) rfl T.gTwice rfl) pa_nil)))
            (pa_cons (pe_callB (call_isA hz hf) (by rfl) T.isinstance (by decide +kernel) (pa_cons (pv 2) (pa_cons (pe_glob (v := .ref (He.ga K "NoFit")) rfl T.gNoFit rfl) pa_nil)))
            (pa_cons (pe_callB (call_isA hz hf) (by rfl) T.isinstance (by decide +kernel) (pa_cons (pv 2) (pa_cons (pe_glob (v := .ref (He.ga K "Crowded")) rfl T.gCrowded rfl) pa_nil)))
            (pa_cons (pe_callB (call_isA hz hf) (by rfl) T.isinstance (by decide +kernel) (pa_cons (pv 2) (pa_cons (pe_bltn (v := .ty "ValueError") rfl T.blt (by decide +kernel) rfl) pa_nil)))
            pa_nil))))))
          (pss_one (ps_ret (pe_op op_cat (pv 3) (pe_lst (pa_cons
            (pe_or (pe_callB (call_isA hz hf) (by rfl) T.isinstance (by decide +kernel) (pa_cons (pv 2) (pa_cons (pe_glob (v := .ref (He.ga K "BadThing")) rfl T.gBadThing rfl) pa_nil)))
              (pe_one (pe_callB (call_isA hz hf) (by rfl) T.isinstance (by decide +kernel) (pa_cons (pv 2) (pa_cons (pe_glob (v := .ref (He.ga K "OutOfFloor")) rfl T.gOutOfFloor rfl) pa_nil))))) pa_nil)))))))
      (pss_one (ps_ret (pe_lst pa_nil))), ?_⟩
    refine ⟨_, rfl, _, rfl, fun x dx nx nd hne => ?_⟩
    have sM : Same H _ := Same.make (C := cBo K) nx nd hne
    refine ⟨x, dx, f, l, sz, rs, xs, ts, rfl, upd_same, hf.mono sM, hsz, sM _ _ hl, hts.mono sM, h12, hok, fun n1 n2 n3 => absurd ⟨n1, n2, n3⟩ hbad, fun n1 H1 s1 => ?_, fun n1 n2 H1 s1 => ?_, fun n1 n2 n3 H1 s1 => ?_⟩
    · have sA := sM.trans s1
      refine ⟨true, T.exm _ (by simp [due3]), fun _ a ha => ?_, fun q => nomatch q⟩
      refine ⟨_, rfl, _, rfl, rfl, T.exc _ (by simp [due3]), _, _, _, rfl, (fun _ r => r), T.kit _ (by simp [due3]) _ (by simp [due5]), ?_⟩
      refine ⟨_, rfl, _, rfl, rfl, T.exc _ (by simp [due3]), _, _, _, rfl, (fun _ r => r), T.kit _ (by simp [due3]) _ (by simp [due5]), ?_⟩
      refine ⟨_, rfl, _, rfl, rfl, T.exc _ (by simp [due3]), _, _, _, rfl, (fun _ r => r), T.kit _ (by simp [due3]) _ (by simp [due5]), ?_⟩
      refine ⟨_, rfl, _, rfl, rfl, T.exc _ (by simp [due3]), _, _, _, rfl, (fun _ r => r), T.kitV _ (by simp [due3]), ?_⟩
      refine ⟨by show 4 ≤ sizeLine; decide, fun p hp => ?_⟩
      have s2 : Same H1 _ := Same.new (o := .lst [V.bl (decide (("Twice" : Str) = "Twice")), V.bl (decide (("Twice" : Str) = "NoFit")), V.bl (decide (("Twice" : Str) = "Crowded")), V.bl true]) hp
      refine ⟨_, rfl, ?_⟩
      refine ⟨_, rfl, _, rfl, rfl, T.exc _ (by simp [due3]), _, _, _, rfl, (fun _ r => r), T.kit _ (by simp [due3]) _ (by simp [due5]), _, rfl, ifF (by decide +kernel) ?_⟩
      refine ⟨_, rfl, _, rfl, rfl, T.exc _ (by simp [due3]), _, _, _, rfl, (fun _ r => r), T.kit _ (by simp [due3]) _ (by simp [due5]), ?_⟩
      refine ⟨by show 1 ≤ sizeLine; decide, fun q hq => ?_⟩
      have s3 : Same _ _ := Same.new (o := .lst [V.bl (decide (("Twice" : Str) = "OutOfFloor"))]) hq
      exact ⟨p, q, _, _, rfl, rfl, s3 _ _ upd_same, upd_same, by show 5 ≤ sizeLine; decide, fun u hu => k1 n1 _ u (((sA.trans s2).trans s3).trans (Same.new hu)) upd_same⟩
    · have sA := sM.trans s1
      refine ⟨true, T.exm _ (by simp [due3]), fun _ a ha => ?_, fun q => nomatch q⟩
      refine ⟨_, rfl, _, rfl, rfl, T.exc _ (by simp [due3]), _, _, _, rfl, (fun _ r => r), T.kit _ (by simp [due3]) _ (by simp [due5]), ?_⟩
      refine ⟨_, rfl, _, rfl, rfl, T.exc _ (by simp [due3]), _, _, _, rfl, (fun _ r => r), T.kit _ (by simp [due3]) _ (by simp [due5]), ?_⟩
      refine ⟨_, rfl, _, rfl, rfl, T.exc _ (by simp [due3]), _, _, _, rfl, (fun _ r => r), T.kit _ (by simp [due3]) _ (by simp [due5]), ?_⟩
      refine ⟨_, rfl, _, rfl, rfl, T.exc _ (by simp [due3]), _, _, _, rfl, (fun _ r => r), T.kitV _ (by simp [due3]), ?_⟩
      refine ⟨by show 4 ≤ sizeLine; decide, fun p hp => ?_⟩
      have s2 : Same H1 _ := Same.new (o := .lst [V.bl (decide (("NoFit" : Str) = "Twice")), V.bl (decide (("NoFit" : Str) = "NoFit")), V.bl (decide (("NoFit" : Str) = "Crowded")), V.bl true]) hp
      refine ⟨_, rfl, ?_⟩
      refine ⟨_, rfl, _, rfl, rfl, T.exc _ (by simp [due3]), _, _, _, rfl, (fun _ r => r), T.kit _ (by simp [due3]) _ (by simp [due5]), _, rfl, ifF (by decide +kernel) ?_⟩
      refine ⟨_, rfl, _, rfl, rfl, T.exc _ (by simp [due3]), _, _, _, rfl, (fun _ r => r), T.kit _ (by simp [due3]) _ (by simp [due5]), ?_⟩
      refine ⟨by show 1 ≤ sizeLine; decide, fun q hq => ?_⟩
      have s3 : Same _ _ := Same.new (o := .lst [V.bl (decide (("NoFit" : Str) = "OutOfFloor"))]) hq
      exact ⟨p, q, _, _, rfl, rfl, s3 _ _ upd_same, upd_same, by show 5 ≤ sizeLine; decide, fun u hu => k2 n1 n2 _ u (((sA.trans s2).trans s3).trans (Same.new hu)) upd_same⟩
    · have sA := sM.trans s1
      refine ⟨true, T.exm _ (by simp [due3]), fun _ a ha => ?_, fun q => nomatch q⟩
      refine ⟨_, rfl, _, rfl, rfl, T.exc _ (by simp [due3]), _, _, _, rfl, (fun _ r => r), T.kit _ (by simp [due3]) _ (by simp [due5]), ?_⟩
      refine ⟨_, rfl, _, rfl, rfl, T.exc _ (by simp [due3]), _, _, _, rfl, (fun _ r => r), T.kit _ (by simp [due3]) _ (by simp [due5]), ?_⟩
      refine ⟨_, rfl, _, rfl, rfl, T.exc _ (by simp [due3]), _, _, _, rfl, (fun _ r => r), T.kit _ (by simp [due3]) _ (by simp [due5]), ?_⟩
      refine ⟨_, rfl, _, rfl, rfl, T.exc _ (by simp [due3]), _, _, _, rfl, (fun _ r => r), T.kitV _ (by simp [due3]), ?_⟩
      refine ⟨by show 4 ≤ sizeLine; decide, fun p hp => ?_⟩
      have s2 : Same H1 _ := Same.new (o := .lst [V.bl (decide (("Crowded" : Str) = "Twice")), V.bl (decide (("Crowded" : Str) = "NoFit")), V.bl (decide (("Crowded" : Str) = "Crowded")), V.bl true]) hp
      refine ⟨_, rfl, ?_⟩
      refine ⟨_, rfl, _, rfl, rfl, T.exc _ (by simp [due3]), _, _, _, rfl, (fun _ r => r), T.kit _ (by simp [due3]) _ (by simp [due5]), _, rfl, ifF (by decide +kernel) ?_⟩
      refine ⟨_, rfl, _, rfl, rfl, T.exc _ (by simp [due3]), _, _, _, rfl, (fun _ r => r), T.kit _ (by simp [due3]) _ (by simp [due5]), ?_⟩
      refine ⟨by show 1 ≤ sizeLine; decide, fun q hq => ?_⟩
      have s3 : Same _ _ := Same.new (o := .lst [V.bl (decide (("Crowded" : Str) = "OutOfFloor"))]) hq
      exact ⟨p, q, _, _, rfl, rfl, s3 _ _ upd_same, upd_same, by show 5 ≤ sizeLine; decide, fun u hu => k3 n1 n2 n3 _ u (((sA.trans s2).trans s3).trans (Same.new hu)) upd_same⟩
end
end Wf

/-! K12S: law. -/
namespace Wf
open PySem PySem.Spec PyProof.Rows L2
theorem iteNT {c A B : Prop} [Decidable c] (hc : ¬ c) (h : A) : if (!decide c) = true then A else B := by
  rw [decide_eq_false hc]
  exact iteT h
/-! ### what is kept of the world of the law -/
structure Kp (K : PySem.W.Frag) (H : Hp) (tl y x ba p : Addr) (xs : List Addr) (ts : List Th) (sz : Spot) (rs : List Spot) : Prop where
  l : H tl = some (.lst (xs.map V.ref))
  th : ThsAt K H xs ts
  bo : BoAt K H y x ba xs
  fl : FlAt K H x sz rs
  sp : SpotAt H p sz
theorem Kp.mono {K : PySem.W.Frag} {H H' : Hp} {tl y x ba p : Addr} {xs : List Addr} {ts : List Th} {sz : Spot} {rs : List Spot} (e : Same H H') (h : Kp K H tl y x ba p xs ts sz rs) : Kp K H' tl y x ba p xs ts sz rs :=
  ⟨e _ _ h.l, h.th.mono e, h.bo.mono e, h.fl.mono e, h.sp.mono e⟩
theorem SpotAt.off {H : Hp} {l a : Addr} {xs : List V} {o : HO} {s : Spot} (hl : H l = some (.lst xs)) (h : SpotAt H a s) : SpotAt (upd H l o) a s := by
  show upd _ _ _ a = _
  rw [upd_ne (ne_of (show H a = some _ from h) hl (fun q => by cases q))]
  exact h
theorem Kp.off {K : PySem.W.Frag} {H : Hp} {tl y x ba p l : Addr} {xs : List Addr} {ts : List Th} {sz : Spot} {rs : List Spot} {zs : List V} {o : HO} (hl : H l = some (.lst zs)) (n1 : tl ≠ l) (n2 : ba ≠ l) (h : Kp K H tl y x ba p xs ts sz rs) : Kp K (upd H l o) tl y x ba p xs ts sz rs := by
  obtain ⟨h1, h2, ⟨dx, h3, h4⟩, ⟨dy, a, b, c, d, e, kvs, h5, h6, h7, h8⟩, h9⟩ := h
  refine ⟨by rw [upd_ne n1]; exact h1, ThsAt.off hl h2, ⟨dx, ?_, by rw [upd_ne n2]; exact h4⟩, ⟨dy, a, b, c, d, e, kvs, ?_, h6.off hl, ?_, h8⟩, h9.off hl⟩
  · rw [upd_ne (ne_of h3 hl (fun q => by cases q))]
    exact h3
  · rw [upd_ne (ne_of h5 hl (fun q => by cases q))]
    exact h5
  · rw [upd_ne (ne_of h7 hl (fun q => by cases q))]
    exact h7
/-! ### lists of truths -/
theorem bls_all {K : PySem.W.Frag} {H : Hp} : ∀ bs : List Bool, DpAll K H (bs.map V.bl) (bs.map PyData.bool)
  | [] => .nil
  | b :: bs => .cons (.bl b) (bls_all bs)
theorem bls_lay : ∀ bs : List Bool, PyData.canLayAll0 (bs.map PyData.bool) = true
  | [] => by simp [PyData.canLayAll0]
  | b :: bs => by
    rw [List.map_cons]
    simp [PyData.canLayAll0, PyData.canLay0, bls_lay bs]
theorem bls_depth : ∀ bs : List Bool, PyData.depthAll (bs.map PyData.bool) = 0
  | [] => by simp [PyData.depthAll]
  | b :: bs => by
    rw [List.map_cons]
    simp [PyData.depthAll, PyData.depth, bls_depth bs]
theorem bls_shaped (bs : List Bool) : SeqAt.shaped (.list (bs.map PyData.bool)) = true := by
  unfold SeqAt.shaped
  have e1 : (PyData.list (bs.map PyData.bool)).canLay0 = true := by simp [PyData.canLay0, bls_lay]
  have e2 : (PyData.list (bs.map PyData.bool)).depth = 1 := by simp [PyData.depth, bls_depth]
  rw [e1, e2]
  rfl
theorem bls_eqv : ∀ bs : List Bool, PyData.eqvAll (bs.map PyData.bool) (bs.map PyData.bool) = true
  | [] => by simp [PyData.eqvAll]
  | b :: bs => by
    rw [List.map_cons]
    simp [PyData.eqvAll, PyData.eqv, bls_eqv bs]
theorem bl_eq {K : PySem.W.Frag} {H : Hp} {a b : Addr} {bs cs : List Bool} {Q : VK} (ha : H a = some (.lst (bs.map V.bl))) (hb : H b = some (.lst (cs.map V.bl))) (e : bs = cs) (q : Q (.bl true) H) : rEqD K (.ref a) (.ref b) H Q := by
  subst e
  refine ⟨.list (bs.map PyData.bool), .list (bs.map PyData.bool), .lst (SqL.of ha) (bls_all bs), .lst (SqL.of hb) (bls_all bs), bls_shaped bs, bls_shaped bs, ?_⟩
  have h : PyData.eqv (.list (bs.map PyData.bool)) (.list (bs.map PyData.bool)) = true := by simp only [PyData.eqv, bls_eqv]
  rw [h]
  exact q
def fiveB (D : Str) : List Bool := [decide (D = "Twice"), decide (D = "NoFit"), decide (D = "Crowded"), true, decide (D = "OutOfFloor")]
def askB (z : Str) : List Bool := [decide (V.str z = V.str "twice"), decide (V.str z = V.str "unfit"), decide (V.str z = V.str "crowded"), true, false]
section
variable {P : Program} {w : World} {K : PySem.W.Frag} {mg : Str → Option Value} {base : Heap}
def spLaw (K : PySem.W.Frag) : Sp := fun vs H Q _ => ∃ (a : Addr) (ns : List Int), vs = [.ref a] ∧ SqL K H a (ns.map V.int) ∧ ns.length ≤ 63 ∧ ∀ H', Q (.bl true) H'
abbrev s_law : Stmt := top 51
theorem sc_law : FnScope ["script", "cell", "sizes", "cells", "k", "rocks", "floor", "things", "due", "found", "handed", "board", "gathered", "thing", "name"] ["script"] (defScope s_law) := ⟨rfl, rfl, rfl, by decide +kernel, rfl, by decide +kernel, by decide +kernel⟩
theorem f_law {f : Addr} {fd : FuncData} (T : Txt K mg) (c__law_cell_at : C8.Cal P w K mg base 1 "_law_cell_at" (spCell K) []) (c__law_folded : C8.Cal P w K mg base 1 "_law_folded" (spFolded K) []) (c__law_spot : C8.Cal P w K mg base 1 "_law_spot" spSpot [])
    (c_Floor : C8.Mak P w K mg base 2 "Floor" (cFl K) (spFloor K) [.non]) (c__law_things : C8.Cal P w K mg base 6 "_law_things" (spLThings K) []) (c__law_due : C8.Cal P w K mg base 3 "_law_due" (spLDue K) [])
    (c__law_refusal : C8.Cal P w K mg base 8 "_law_refusal" (spLRefusal K) []) (m_Board : MakR P w K mg base 6 "Board" (cBo K) (spBoard K)) (c_things : C8.Met P w K mg base 1 (cBo K) "things" (spThings K) [])
    (c__law_alike : C8.Cal P w K mg base 2 "_law_alike" (spLAlike K) []) (c__law_named : C8.Cal P w K mg base 3 "_law_named" (spLNamed K) [])
    (F : FnP K "law" "law" s_law f fd) : FnOk P w K mg base C8.CX0 9 f fd ["script"] (spLaw K) := by
  refine fn_mk F sc_law (fun vs H Q E h => ?_) (fun cdv A outer s0 H vs Q E hr h => ?_)
  · obtain ⟨a, ns, rfl, _⟩ := h
    rfl
  · obtain ⟨a, ns, rfl, ha, h63, k⟩ := h
    refine ⟨_, (pss_cons (ps_set (i := 1) sc_law.nd rfl (Or.inl rfl) (C8.pe_c c__law_cell_at hr (by decide) rfl (pa_cons (pv 0) (pa_cons pe_int pa_nil))))
      (pss_cons (ps_set (i := 2) sc_law.nd rfl (Or.inr rfl) (pe_tup (pa_cons (pe_op op_add pe_int (pe_op op_mod (pv 1) pe_int)) (pa_cons (pe_op op_add pe_int (pe_op op_mod (pe_op op_fdiv (pv 1) pe_int) pe_int)) (pa_cons (pe_op op_add pe_int (pe_op op_mod (pe_op op_fdiv (pv 1) pe_int) pe_int)) pa_nil)))))
      (pss_cons (ps_set (i := 3) sc_law.nd rfl (Or.inl rfl) (C8.pe_c c__law_folded hr (by decide) rfl (pa_cons (pv 0) (pa_cons pe_int (pa_cons pe_int pa_nil)))))
      (pss_cons (ps_setLc (i := 5) (own := [("k", 4)]) (g := gName 4) (tt := tYes) rfl sc_law.nd rfl rfl (sw_true rfl rfl rfl (by decide +kernel)) (pi_range1 rfl T.range (pa_cons (pe_op op_mod (C8.pe_c c__law_cell_at hr (by decide) rfl (pa_cons (pv 0) (pa_cons pe_int pa_nil))) pe_int) pa_nil)) (blkOk_by (own := [("k", 4)]) (N := ["script", "cell", "sizes", "cells", "k", "rocks", "floor", "things", "due", "found", "handed", "board", "gathered", "thing", "name"]) (sc := defScope s_law) (by decide +kernel)) (fun _ _ _ _ _ => pg_name (i := 4) sc_law.nd rfl (Or.inl rfl)) (fun _ _ _ _ _ => pts_nil) (fun _ _ _ _ _ => by exact (C8.pe_c c__law_spot hr (by decide) rfl (pa_cons (pv 2) (pa_cons (C8.pe_c c__law_cell_at hr (by decide) rfl (pa_cons (pv 0) (pa_cons (pe_op op_add pe_int (pv 4)) pa_nil))) (pa_cons pe_int pa_nil))))))
      (pss_cons (ps_set (i := 6) sc_law.nd rfl (Or.inl rfl) (C8.pe_mk c_Floor hr (by decide) rfl (pa_cons (pv 2) (pa_cons (pe_lc (own := [("k", 4)]) (g := gName 4) (tt := tYes) rfl sc_law.nd (pi_range1 rfl T.range (pa_cons (pe_ix ix_tup (pv 2) pe_int (fun _ _ => rfl)) pa_nil)) (blkOk_by (own := [("k", 4)]) (N := ["script", "cell", "sizes", "cells", "k", "rocks", "floor", "things", "due", "found", "handed", "board", "gathered", "thing", "name"]) (sc := defScope s_law) (by decide +kernel)) (fun _ _ _ _ _ => pg_name (i := 4) sc_law.nd rfl (Or.inl rfl)) (fun _ _ _ _ _ => pts_nil) (fun _ _ _ _ _ => by exact (pe_tup (pa_cons pe_int (pa_cons pe_int pa_nil))))) (pa_cons (pe_lc (own := [("k", 4)]) (g := gName 4) (tt := tYes) rfl sc_law.nd (pi_range1 rfl T.range (pa_cons (pe_op op_sub (pe_ix ix_tup (pv 2) pe_int (fun _ _ => rfl)) pe_int) pa_nil)) (blkOk_by (own := [("k", 4)]) (N := ["script", "cell", "sizes", "cells", "k", "rocks", "floor", "things", "due", "found", "handed", "board", "gathered", "thing", "name"]) (sc := defScope s_law) (by decide +kernel)) (fun _ _ _ _ _ => pg_name (i := 4) sc_law.nd rfl (Or.inl rfl)) (fun _ _ _ _ _ => pts_nil) (fun _ _ _ _ _ => by exact pe_int)) (pa_cons (pe_callTy call_list_of (by rfl) T.list (by decide +kernel) (pa_cons (pv 5) pa_nil)) pa_nil))))))
      (pss_cons (ps_set (i := 7) sc_law.nd rfl (Or.inl rfl) (C8.pe_c c__law_things hr (by decide) rfl (pa_cons (pv 0) (pa_cons (pv 2) (pa_cons (pv 3) pa_nil)))))
      (pss_cons (ps_set (i := 8) sc_law.nd rfl (Or.inl rfl) (C8.pe_c c__law_due hr (by decide) rfl (pa_cons (pv 2) (pa_cons (pv 5) (pa_cons (pv 7) pa_nil)))))
      (pss_cons (ps_if (pt_cmpR op_ne (pv 8) pe_str (nomark _)) (pss_cons (ps_set (i := 9) sc_law.nd rfl (Or.inl rfl) (C8.pe_c c__law_refusal hr (by decide) rfl (pa_cons (pv 6) (pa_cons (pe_callTy call_list_of (by rfl) T.list (by decide +kernel) (pa_cons (pv 7) pa_nil)) pa_nil))))
      (pss_one (ps_ret (pe_cmpR (op_eqD hr.units) (pv 9) (pe_lst (pa_cons (pe_cmpR op_eq (pv 8) pe_str (nomark _)) (pa_cons (pe_cmpR op_eq (pv 8) pe_str (nomark _)) (pa_cons (pe_cmpR op_eq (pv 8) pe_str (nomark _)) (pa_cons pe_bl (pa_cons pe_bl pa_nil)))))) (nomark _))))) pss_nil)
      (pss_cons (ps_set (i := 10) sc_law.nd rfl (Or.inl rfl) (pe_callTy call_list_of (by rfl) T.list (by decide +kernel) (pa_cons (pv 7) pa_nil)))
      (pss_cons (ps_set (i := 11) sc_law.nd rfl (Or.inl rfl) (pe_makR m_Board hr (by decide) rfl (fun σ => passNone σ) (pa_cons (pv 6) (pa_cons (pv 10) pa_nil))))
      (pss_cons (ps_if (pt_cmpR (op_neSame hr.units0) (pv 10) (pv 7) (nomark _)) (pss_one (ps_ret pe_bl)) pss_nil)
      (pss_cons (ps_expr (pe_bm0 PySem.F.plainAttrs_list PySem.F.slot_list_clear PySem.F.type_list_clear mt_clear (pv 10)))
      (pss_cons (ps_set (i := 12) sc_law.nd rfl (Or.inl rfl) (C8.pe_mt0 c_things hr (by decide) (pv 11)))
      (pss_cons (ps_if (PW.pt (pw_or (pt_not (pt_val (C8.pe_c c__law_alike hr (by decide) rfl (pa_cons (pv 12) (pa_cons (pv 7) pa_nil))))) (pw_or1 (pt_cmpR (op_neD hr.units) (pe_fld (pe_fld (pv 11) rfl) rfl) (pv 2) (nomark _))))) (pss_one (ps_ret pe_bl)) pss_nil)
      (pss_cons (ps_expr (pe_bm PySem.F.plainAttrs_list PySem.F.slot_list_append PySem.F.type_list_append mt_append (pv 12) (pa_cons pe_non pa_nil)))
      (pss_cons (ps_for PassesOwn.never rfl (pi_list (pe_op op_cat (pe_lc (own := [("thing", 13)]) (g := gName 13) (tt := tYes) (te := tFld K (tVar 13) "name") rfl sc_law.nd (pi_list (pv 7)) (blkOk_by (own := [("thing", 13)]) (N := ["script", "cell", "sizes", "cells", "k", "rocks", "floor", "things", "due", "found", "handed", "board", "gathered", "thing", "name"]) (sc := defScope s_law) (by decide +kernel)) (fun _ _ _ _ _ => pg_name (i := 13) sc_law.nd rfl (Or.inl rfl)) (fun _ _ _ _ _ => pts_nil) (fun _ _ _ _ _ => by exact (pe_fld (pv 13) rfl))) (pe_lst (pa_cons pe_str (pa_cons pe_str (pa_cons pe_str (pa_cons pe_str pa_nil))))))) (pg_name (i := 14) sc_law.nd rfl (Or.inl rfl))
      (pss_one (ps_if (pt_not (pt_val (C8.pe_c c__law_named hr (by decide) rfl (pa_cons (pv 11) (pa_cons (pv 7) (pa_cons (pv 14) pa_nil)))))) (pss_one (ps_ret pe_bl)) pss_nil)))
      (pss_one (ps_ret (C8.pe_c c__law_alike hr (by decide) rfl (pa_cons (C8.pe_mt0 c_things hr (by decide) (pv 11)) (pa_cons (pv 7) pa_nil))))))))))))))))))))), ?_⟩
    -- cell, sizes
    refine ⟨_, rfl, a, ns, 0, rfl, ha, h63, fun H1 s1 => ?_⟩
    have e1 : 0 ≤ cell ns 0 % 3 := Int.emod_nonneg _ (by decide)
    have e2 : cell ns 0 % 3 < 3 := Int.emod_lt_of_pos _ (by decide)
    have e3 : 0 ≤ cell ns 0 / 3 % 12 := Int.emod_nonneg _ (by decide)
    have e4 : cell ns 0 / 3 % 12 < 12 := Int.emod_lt_of_pos _ (by decide)
    have e5 : 0 ≤ cell ns 0 / 36 % 11 := Int.emod_nonneg _ (by decide)
    have e6 : cell ns 0 / 36 % 11 < 11 := Int.emod_lt_of_pos _ (by decide)
    refine ⟨_, rfl, _, _, rfl, rfl, (by show (0 : Int) < 3; decide), _, _, rfl, rfl, _, rfl, _, _, rfl, rfl, ⟨by decide, by decide⟩, _, _, rfl, rfl, (by show (0 : Int) < 12; decide), _, _, rfl, rfl, _, rfl, _, _, rfl, rfl, ⟨by decide, by decide⟩, _, _, rfl, rfl, (by show (0 : Int) < 11; decide), _, _, rfl, rfl,
      by show 3 ≤ sizeLine; decide, fun p hp => ?_⟩
    obtain ⟨sz, hsz0⟩ : ∃ sz : Spot, sz = (1 + cell ns 0 % 3, 1 + cell ns 0 / 3 % 12, 2 + cell ns 0 / 36 % 11) := ⟨_, rfl⟩
    have hsz : SzOk sz := by
      subst hsz0
      exact ⟨⟨by show (1 : Int) ≤ 1 + cell ns 0 % 3; omega, by show 1 + cell ns 0 % 3 ≤ (3 : Int); omega⟩, ⟨by show (1 : Int) ≤ 1 + cell ns 0 / 3 % 12; omega, by show 1 + cell ns 0 / 3 % 12 ≤ (12 : Int); omega⟩, ⟨by show (2 : Int) ≤ 2 + cell ns 0 / 36 % 11; omega, by show 2 + cell ns 0 / 36 % 11 ≤ (12 : Int); omega⟩⟩
    have s2 : Same H1 (upd H1 p (.tup [V.int (1 + cell ns 0 % 3), V.int (1 + cell ns 0 / 3 % 12), V.int (2 + cell ns 0 / 36 % 11)])) := Same.new hp
    have hsp : SpotAt (upd H1 p (.tup [V.int (1 + cell ns 0 % 3), V.int (1 + cell ns 0 / 3 % 12), V.int (2 + cell ns 0 / 36 % 11)])) p sz := by
      subst hsz0
      exact upd_same
    obtain ⟨z1, z2, z3⟩ := id hsz
    have s12 := s1.trans s2
    clear hsz0 e1 e2 e3 e4 e5 e6
    revert s2 hsp s12
    generalize upd H1 p (.tup [V.int (1 + cell ns 0 % 3), V.int (1 + cell ns 0 / 3 % 12), V.int (2 + cell ns 0 / 36 % 11)]) = H2
    intro s2 hsp s12
    -- cells
    refine ⟨_, rfl, a, ns, rfl, s12.seq ha, h63, fun H3 q cs s3 hq lc => ?_⟩
    have s13 := s12.trans s3
    have a3 := s13.seq ha
    -- rocks
    refine ⟨_, rfl, a, ns, 1, rfl, a3, h63, fun H4 s4 => ⟨_, _, rfl, rfl, (by show (0 : Int) < 5; decide), ?_⟩⟩
    have m0 : 0 ≤ cell ns 1 % 5 := Int.emod_nonneg _ (by decide)
    have m5 : cell ns 1 % 5 < 5 := Int.emod_lt_of_pos _ (by decide)
    have s14 := s13.trans s4
    refine ⟨_, rfl, by omega, by omega, fun D hD => lc_range (lo := 0) (n := (cell ns 1 % 5).toNat) (fun i H5 => ∃ rs, Grow H4 H5 D rs ∧ rs.length = i ∧ ∀ s ∈ rs, SpIn sz 0 s) ?_ ?_ ?_⟩
    · exact ⟨[], Grow.start (Same.refl _) hD, rfl, fun s hs => (by cases hs)⟩
    · rintro i H5 hi ⟨rs, g, lr, hin⟩
      have s15 := s14.trans g.same
      refine ⟨rfl, _, rfl, _, rfl, _, rfl, _, _, rfl, rfl, a, ns, 5 + i, ?_, s15.seq ha, h63, fun H6 s6 => ?_⟩
      · show [V.ref a, V.int (5 + (0 + (i : Int)))] = [V.ref a, V.int ((5 + i : Nat) : Int)]
        rw [show (5 + (0 + (i : Int))) = ((5 + i : Nat) : Int) by omega]
      refine ⟨p, sz, _, 0, rfl, hsp.mono (((s3.trans s4).trans g.same).trans s6), hsz, by decide, by decide, fun H7 t s s7 ht hs => ?_⟩
      have l7 := g.lst.mono (s6.trans s7)
      obtain ⟨as, l8, l9⟩ := id l7
      have la : as.length = rs.length := Paired.length l9
      refine ⟨as.map V.ref, l8, (by rw [List.length_map]; exact small1000 (by omega)), rs ++ [s], ⟨Same.mut ((g.same.trans s6).trans s7) hD, hD, as ++ [t], by rw [upd_same, List.map_append]; rfl, Paired.snoc (SpotsAt.off l8 l9) ?_⟩, ?_, ?_⟩
      · show upd _ _ _ t = _
        rw [upd_ne (ne_of (show H7 t = some _ from ht) l8 (fun q => by cases q))]
        exact ht
      · rw [List.length_append, lr]
        rfl
      · intro x hx
        rcases List.mem_append.mp hx with z | z
        · exact hin x z
        · rw [List.mem_singleton] at z
          subst z
          exact hs
    rintro H5 ⟨rs, g, lr, hin⟩
    have lrs : rs.length ≤ 4 := by omega
    have s15 := s14.trans g.same
    have s25 := (s3.trans s4).trans g.same
    have p5 := hsp.mono s25
    have hrk := g.lst
    have q5 : H5 q = some (.lst (cs.map V.int)) := g.same _ _ (s4 _ _ hq)
    clear s25 s14 s13 a3 s12 s2 g hD
    -- floor
    refine ⟨_, rfl, _, rfl, p, _, _, _, rfl, rfl, SqT.of p5, rfl, _, rfl, by omega, by omega, fun D1 hD1 => lc_range (lo := 0) (n := sz.1.toNat) (fun i H6 => Same H5 H6 ∧ ∃ as : List Addr, H6 D1 = some (.lst (as.map V.ref)) ∧ as.length = i ∧ ∀ a ∈ as, H6 a = some (.tup [.int 1, .int 1])) ?_ ?_ ?_⟩
    · exact ⟨Same.new hD1, [], upd_same, rfl, fun s hs => (by cases hs)⟩
    · rintro i H6 hi ⟨s6, as, l6, la, ht⟩
      refine ⟨rfl, by show 2 ≤ sizeLine; decide, fun t hft => ?_⟩
      have s7 : Same H6 _ := Same.new (o := .tup [.int 1, .int 1]) hft
      have l7 := s7 _ _ l6
      refine ⟨_, l7, (by rw [List.length_map]; exact small1000 (by omega)), Same.mut (s6.trans s7) hD1, as ++ [t], by rw [upd_same, List.map_append]; rfl, by rw [List.length_append, la]; rfl, fun b hb => ?_⟩
      have hb2 : upd H6 t (.tup [.int 1, .int 1]) b = some (.tup [.int 1, .int 1]) := by
        rcases List.mem_append.mp hb with z | z
        · exact s7 _ _ (ht b z)
        · rw [List.mem_singleton] at z
          subst z
          exact upd_same
      rw [upd_ne (ne_of hb2 l7 (fun q => by cases q))]
      exact hb2
    rintro H6 ⟨s6, as1, l6, la1, ht1⟩
    refine ⟨_, rfl, p, _, _, _, rfl, rfl, SqT.of (s6 _ _ p5), rfl, _, _, rfl, rfl, _, rfl, by show -(2 ^ 62 : Int) ≤ sz.1 - 1; omega, by show sz.1 - 1 < (2 ^ 62 : Int); omega, fun D2 hD2 => lc_range (lo := 0) (n := (sz.1 - 1).toNat) (fun i H7 => Same H6 H7 ∧ H7 D2 = some (.lst (List.replicate i (V.int 1)))) ?_ ?_ ?_⟩
    · exact ⟨Same.new hD2, upd_same⟩
    · rintro i H7 hi ⟨s7, l7⟩
      refine ⟨rfl, _, l7, (by rw [List.length_replicate]; exact small1000 (by omega)), Same.mut s7 hD2, ?_⟩
      rw [upd_same, List.replicate_succ']
    rintro H7 ⟨s7, l7⟩
    obtain ⟨bs, r1, r2⟩ := id hrk
    have s57 := s6.trans s7
    refine ⟨_, rfl, D, _, rfl, .inl (SqL.of (s57 _ _ r1)), fun D3 hD3 => ?_⟩
    have s8 : Same H7 (upd H7 D3 (.lst (bs.map V.ref))) := Same.new hD3
    refine fun x dx nx nd hne => ?_
    have s9 := Same.make (C := cFl K) nx nd hne
    have s79 := s8.trans s9
    have s59 := s57.trans s79
    have pr : PrAt H7 D1 sz.1.toNat := PrAt.mono s7 ⟨as1, l6, la1, ht1⟩
    refine ⟨x, dx, p, D1, D2, D3, sz, sz.1.toNat, (sz.1 - 1).toNat, rs, rfl, upd_same, p5.mono s59, hsz, pr.mono s79, s79 _ _ l7, by omega, by omega, ⟨bs, s9 _ _ upd_same, SpotsAt.mono s59 r2⟩, lrs, fun s hs => ?_, fun H8 hfl b8 => ⟨rfl, ?_⟩⟩
    · obtain ⟨i1, i2, i3⟩ := hin s hs
      exact ⟨i1, by omega, by omega⟩
    have b89 := s59.trans (Same.refl _)
    have s78 : Same H7 H8 := Same.butNew s8 (s8.free nx) ((But.of s9).trans b8)
    have s58 := s57.trans s78
    have s18 := s15.trans s58
    have p8 := p5.mono s58
    have rk8 := hrk.mono s58
    have q8 := s58 _ _ q5
    clear b89 b8 pr s59 s79 s9 s8 hD3 nx nd hne r1 r2 s57 l7 s7 hD2 ht1 la1 l6 s6 hD1 p5 q5 hrk s15 s58 s78
    -- things
    refine ⟨_, rfl, _, rfl, _, rfl, a, p, q, ns, cs, sz, rfl, s18.seq ha, h63, p8, hsz, q8, lc, fun H9 tl xs ts s9 htl hts h12 hg => ?_⟩
    have fl9 := hfl.mono s9
    have p9 := p8.mono s9
    have rk9 := rk8.mono s9
    have hok : ∀ t ∈ ts, ThOk t := fun t ht => (hg t ht).ok
    clear p8 rk8 q8 s9 s18 hfl
    -- due
    refine ⟨_, rfl, _, rfl, _, rfl, p, D, tl, sz, rs, xs, ts, rfl, p9, rk9, htl, hts, hg, h12, fun H10 s10 => ⟨fun n1 => ?_, fun n1 n2 => ?_, fun n1 n2 n3 => ?_, fun n1 n2 n3 => ?_⟩⟩
    · refine ⟨_, rfl, rfl, _, rfl, iteNT (by decide +kernel) ?_⟩
      refine ⟨_, rfl, _, rfl, tl, _, rfl, .inl (SqL.of (s10 _ _ htl)), fun D4 hD4 => ?_⟩
      have s11 : Same H10 (upd H10 D4 (.lst (xs.map V.ref))) := Same.new hD4
      refine ⟨x, D4, sz, rs, xs, ts, rfl, fl9.mono (s10.trans s11), hsz, upd_same, hts.mono (s10.trans s11), h12, hok, fun z => n1 z.1, fun _ H12 f s12 hf => ?_, fun z => absurd z n1, fun z => absurd z n1⟩
      refine ⟨_, rfl, _, rfl, rfl, _, rfl, rfl, _, rfl, rfl, by show 5 ≤ sizeLine; decide, fun D5 hD5 => ?_⟩
      exact bl_eq (bs := fiveB "Twice") (cs := askB "twice") (Same.new hD5 _ _ hf) upd_same (by decide +kernel) (k _)
    · refine ⟨_, rfl, rfl, _, rfl, iteNT (by decide +kernel) ?_⟩
      refine ⟨_, rfl, _, rfl, tl, _, rfl, .inl (SqL.of (s10 _ _ htl)), fun D4 hD4 => ?_⟩
      have s11 : Same H10 (upd H10 D4 (.lst (xs.map V.ref))) := Same.new hD4
      refine ⟨x, D4, sz, rs, xs, ts, rfl, fl9.mono (s10.trans s11), hsz, upd_same, hts.mono (s10.trans s11), h12, hok, fun z => n2 z.2.1, fun z => absurd n1 z, fun _ _ H12 f s12 hf => ?_, fun _ z => absurd z n2⟩
      refine ⟨_, rfl, _, rfl, rfl, _, rfl, rfl, _, rfl, rfl, by show 5 ≤ sizeLine; decide, fun D5 hD5 => ?_⟩
      exact bl_eq (bs := fiveB "NoFit") (cs := askB "unfit") (Same.new hD5 _ _ hf) upd_same (by decide +kernel) (k _)
    · refine ⟨_, rfl, rfl, _, rfl, iteNT (by decide +kernel) ?_⟩
      refine ⟨_, rfl, _, rfl, tl, _, rfl, .inl (SqL.of (s10 _ _ htl)), fun D4 hD4 => ?_⟩
      have s11 : Same H10 (upd H10 D4 (.lst (xs.map V.ref))) := Same.new hD4
      refine ⟨x, D4, sz, rs, xs, ts, rfl, fl9.mono (s10.trans s11), hsz, upd_same, hts.mono (s10.trans s11), h12, hok, fun z => n3 z.2.2, fun z => absurd n1 z, fun _ z => absurd n2 z, fun _ _ _ H12 f s12 hf => ?_⟩
      refine ⟨_, rfl, _, rfl, rfl, _, rfl, rfl, _, rfl, rfl, by show 5 ≤ sizeLine; decide, fun D5 hD5 => ?_⟩
      exact bl_eq (bs := fiveB "Crowded") (cs := askB "crowded") (Same.new hD5 _ _ hf) upd_same (by decide +kernel) (k _)
    · refine ⟨_, rfl, rfl, _, rfl, iteNS rfl ?_⟩
      -- handed, board
      refine ⟨_, rfl, tl, _, rfl, .inl (SqL.of (s10 _ _ htl)), fun D4 hD4 => ?_⟩
      have s11 : Same H10 (upd H10 D4 (.lst (xs.map V.ref))) := Same.new hD4
      refine ⟨_, rfl, _, rfl, fun y dy ny nd hne => ?_⟩
      have sM := Same.make (C := cBo K) ny nd hne
      have sA := (s10.trans s11).trans sM
      refine ⟨y, dy, x, D4, sz, rs, xs, ts, rfl, upd_same, fl9.mono sA, hsz, sM _ _ upd_same, hts.mono sA, h12, hok, fun _ _ _ H11 ba hbo hba b11 => ⟨rfl, ?_⟩, fun z => absurd n1 z, fun _ z => absurd n2 z, fun _ _ z => absurd n3 z⟩
      have sB : Same (upd H10 D4 (.lst (xs.map V.ref))) H11 := Same.butNew (Same.refl _) ny ((But.of sM).trans b11)
      have sC := (s10.trans s11).trans sB
      have k11 : Kp K H11 tl y x ba p xs ts sz rs := ⟨sC _ _ htl, hts.mono sC, hbo, fl9.mono sC, p9.mono sC⟩
      have d11 : H11 D4 = some (.lst (xs.map V.ref)) := sB _ _ upd_same
      have nt : tl ≠ D4 := ne_of_none (s10 _ _ htl) hD4
      have nb : ba ≠ D4 := (ne_of_none (sM _ _ upd_same) hba).symm
      clear sA sB sC sM s11 b11 hbo hba ny nd hne fl9 p9 rk9
      -- handed != things
      refine ⟨_, rfl, _, rfl, D4, tl, xs.map V.ref, rfl, rfl, SqL.of d11, SqL.of k11.l, (fun v hv => ?_), _, rfl, iteF ?_⟩
      · obtain ⟨b, _, e⟩ := List.mem_map.mp hv
        exact ⟨b, e.symm⟩
      -- handed.clear()
      refine ⟨_, rfl, .inl ⟨rfl, _, SqL.of d11⟩, D4, _, rfl, rfl, d11, ?_⟩
      have k12 : Kp K (upd H11 D4 (.lst [])) tl y x ba p xs ts sz rs := k11.off d11 nt nb
      revert k12
      generalize upd H11 D4 (.lst []) = H12
      intro k12
      clear k11 d11 nt nb hD4
      -- gathered
      obtain ⟨dz, y12, _⟩ := id k12.bo
      refine ⟨_, rfl, y, dz, _, rfl, y12, rfl, y, x, ba, xs, rfl, k12.bo, fun H13 g s13 hg1 hg2 => ?_⟩
      have k13 := k12.mono s13
      have ng1 : tl ≠ g := ne_of_none k12.l hg1
      obtain ⟨_, _, ba12⟩ := id k12.bo
      have ng2 : ba ≠ g := ne_of_none ba12 hg1
      refine ⟨_, rfl, _, rfl, g, tl, xs, ts, rfl, hg2, k13.l, k13.th, hok, h12, fun H14 s14 => ⟨_, rfl, iteF ?_⟩⟩
      have k14 := k13.mono s14
      have g14 := s14 _ _ hg2
      obtain ⟨dy1, y14, _⟩ := id k14.bo
      obtain ⟨dx1, fa, fb, fc, fd1, fe, kvs, x14, sz14, _⟩ := id k14.fl
      refine ⟨_, rfl, y, cBo K, dy1, _, _, rfl, y14, T.clD, T.nD _ (by simp), rfl, x, cFl K, dx1, _, _, rfl, x14, T.clF, T.nF _ (by simp), rfl, _, rfl, spD sz, spD sz, spD_dp sz14, spD_dp k14.sp, spD_shaped sz, spD_shaped sz, _, rfl, ?_⟩
      rw [show PyData.eqv (spD sz) (spD sz) = true by rw [spD_eqv]; exact decide_eq_true rfl]
      refine iteF ?_
      -- gathered.append(None)
      refine ⟨_, rfl, .inl ⟨rfl, _, SqL.of g14⟩, g, _, _, rfl, rfl, g14, (by rw [List.length_map]; exact small1000 (by have := Paired.length hts; omega)), ?_⟩
      have k15 : Kp K (upd H14 g (.lst (xs.map V.ref ++ [V.non]))) tl y x ba p xs ts sz rs := k14.off g14 ng1 ng2
      revert k15
      generalize upd H14 g (.lst (xs.map V.ref ++ [V.non])) = H15
      intro k15
      clear k12 k13 k14 g14 hg1 hg2 ng1 ng2 x14 sz14 y14 y12 ba12 s13 s14 s10
      have lx : xs.length = ts.length := Paired.length k15.th
      -- the names
      refine ⟨_, rfl, tl, rfl, ⟨_, SqL.of k15.l⟩, fun D5 hD5 => lc_list (xs := xs.map V.ref) (fun i H1 => Same H15 H1 ∧ H1 D5 = some (.lst ((ts.take i).map fun t => V.str t.name))) ?_ ?_ ?_ ?_⟩
      · exact ⟨Same.new hD5, upd_same⟩
      · rintro i H1 hi ⟨s1, _⟩
        exact SqL.of (s1 _ _ k15.l)
      · rintro i v H1 hi ⟨s1, h1⟩
        obtain ⟨b, hb, rfl⟩ := map_at hi
        obtain ⟨t, ht, hbt⟩ := Paired.at k15.th hb
        obtain ⟨C, dt, fs, tv⟩ := (hbt.mono s1).v T
        refine ⟨rfl, _, rfl, b, C, dt, _, _, rfl, tv.at_, tv.cl, tv.nn, tv.ln, _, h1, ?_, Same.mut s1 hD5, ?_⟩
        · rw [List.length_map, List.length_take]
          exact small1000 (by omega)
        · rw [upd_same, List.take_succ, ht, List.map_append]
          rfl
      rintro H16 ⟨s16, l16⟩
      refine ⟨by show 4 ≤ sizeLine; decide, fun D6 hD6 => ?_⟩
      have s17 : Same H16 _ := Same.new (o := .lst [V.str "wire", V.str "wirea", V.str "zwire", V.str ""]) hD6
      have hlen : ((ts.take (xs.map V.ref).length).map fun t => V.str t.name).length ≤ 12 := by
        rw [List.length_map, List.length_take]
        omega
      refine ⟨D5, D6, _, _, rfl, rfl, s17 _ _ l16, upd_same, Nat.le_of_lt (small1000 (by show _ + 4 ≤ 1000; omega)), fun u hu => ?_⟩
      have s18 := (s16.trans s17).trans (Same.new hu (o := .lst ((ts.take (xs.map V.ref).length).map (fun t => V.str t.name) ++ [V.str "wire", V.str "wirea", V.str "zwire", V.str ""])))
      have k18 := k15.mono s18
      have hstr : ∀ v ∈ ((ts.take (xs.map V.ref).length).map (fun t => V.str t.name) ++ [V.str "wire", V.str "wirea", V.str "zwire", V.str ""]), ∃ z, v = V.str z := fun v hv => by
        rcases List.mem_append.mp hv with h | h
        · obtain ⟨t, _, e⟩ := List.mem_map.mp h
          exact ⟨_, e.symm⟩
        · simp only [List.mem_cons, List.not_mem_nil, or_false] at h
          rcases h with h | h | h | h <;> exact ⟨_, h⟩
      refine ⟨u, rfl, ⟨_, SqL.of upd_same⟩, for_list (xs := (ts.take (xs.map V.ref).length).map (fun t => V.str t.name) ++ [V.str "wire", V.str "wirea", V.str "zwire", V.str ""]) (fun i σ H19 => ∃ v14, σ = [some (V.ref a), some (V.int (cell ns 0)), some (V.ref p), some (V.ref q), none, some (V.ref D), some (V.ref x), some (V.ref tl), some (V.str "good"), none, some (V.ref D4), some (V.ref y), some (V.ref g), none, v14] ∧
        Same (upd (upd H16 D6 (.lst [V.str "wire", V.str "wirea", V.str "zwire", V.str ""])) u (.lst ((ts.take (xs.map V.ref).length).map (fun t => V.str t.name) ++ [V.str "wire", V.str "wirea", V.str "zwire", V.str ""]))) H19) ?_ ?_ ?_ ?_⟩
      · exact ⟨none, rfl, Same.refl _⟩
      · rintro i σ H19 hi ⟨v14, rfl, s19⟩
        exact SqL.of (s19 _ _ upd_same)
      · rintro i v σ H19 hi ⟨v14, rfl, s19⟩
        obtain ⟨z, rfl⟩ := hstr v (List.mem_of_getElem? hi)
        have k19 := k18.mono s19
        refine ⟨_, rfl, _, rfl, _, rfl, y, x, ba, tl, xs, ts, z, rfl, k19.bo, k19.l, k19.th, hok, h12, fun H20 s20 => ⟨_, rfl, iteF ⟨_, rfl, s19.trans s20⟩⟩⟩
      · rintro σ H19 ⟨v14, rfl, s19⟩
        have k19 := k18.mono s19
        obtain ⟨dz, y19, _⟩ := id k19.bo
        refine ⟨_, rfl, y, dz, _, rfl, y19, rfl, y, x, ba, xs, rfl, k19.bo, fun H20 g2 s20 _ hg2 => ⟨_, rfl, g2, tl, xs, ts, rfl, hg2, s20 _ _ k19.l, k19.th.mono s20, hok, h12, fun H21 _ => k H21⟩⟩
end
end Wf

/-! K12T: the head: facts by names, the run (printed by head.py). -/
namespace Wf
open PySem PySem.Spec PyProof.Rows L2
def dd (x : Str) (st : Stmt) : He.DefD := ⟨(x, none), x, x, defArgs st, defBody st, defScope st, [], []⟩
def dm (C m q : Str) (st : Stmt) (dfl : List He.Dv) : He.DefD := ⟨(C, some m), m, q, defArgs st, defBody st, defScope st, dfl, []⟩
def fn : List He.DefD := [
  dd "inside" s_inside, dd "apart" s_apart, dd "square" s_square,
  dd "fits" s_fits, dd "clash" s_clash, dd "clash_any" s_clash_any,
  dd "refuse_twice" s_refuse_twice, dd "refuse_unfit" s_refuse_unfit, dd "refuse_crowded" s_refuse_crowded,
  dd "sizes_good" s_sizes_good, dd "prices_good" s_prices_good, dd "name_fits" s_name_fits,
  dd "all_unlike" s_all_unlike, dd "_law_cell_at" s__law_cell_at, dd "_law_folded" s__law_folded,
  dd "_law_spot" s__law_spot, dd "_law_ends" s__law_ends, dd "_law_thing" s__law_thing,
  dd "_law_things" s__law_things, dd "_law_fits" s__law_fits, dd "_law_clash" s__law_clash,
  dd "_law_due" s__law_due, dd "_law_refusal" s__law_refusal, dd "_law_alike" s__law_alike,
  dd "_law_named" s__law_named, dd "law" s_law, dm "Floor" "look" "Floor.look" s_look [],
  dm "Floor" "is_rock" "Floor.is_rock" s_is_rock [], dm "Floor" "__init__" "Floor.__init__" s_Floor_init [.non, .non], dm "Thing" "__init__" "Thing.__init__" s_Thing_init [],
  dm "Net" "__init__" "Net.__init__" s_Net_init [.int 0, .int 0], dm "Bundle" "__init__" "Bundle.__init__" s_Bundle_init [.int 0], dm "Net" "ends" "Net.ends" s_Net_ends [],
  dm "Bundle" "ends" "Bundle.ends" s_Bundle_ends [], dm "Board" "__init__" "Board.__init__" s_Board_init [], dm "Board" "things" "Board.things" s_Board_things [],
  dm "Board" "thing_named" "Board.thing_named" s_Board_thing_named []]
def fa0 : List He.Fa := [
  .glo "inside", .glo "apart", .glo "square", .glo "fits", .glo "clash", .glo "clash_any",
  .glo "refuse_twice", .glo "refuse_unfit", .glo "refuse_crowded", .glo "sizes_good", .glo "prices_good", .glo "name_fits",
  .glo "all_unlike", .glo "_law_cell_at", .glo "_law_folded", .glo "_law_spot", .glo "_law_ends", .glo "_law_thing",
  .glo "_law_things", .glo "_law_fits", .glo "_law_clash", .glo "_law_due", .glo "_law_refusal", .glo "_law_alike",
  .glo "_law_named", .glo "law", .glo "Thing", .glo "Floor", .glo "Net", .glo "Bundle",
  .glo "Board", .glo "WireError", .glo "BadThing", .glo "OutOfFloor", .glo "Twice"]
def fa1 : List He.Fa := [
  .glo "NoFit", .glo "Crowded", .free "range", .free "len", .free "max", .free "min",
  .free "abs", .free "set", .free "list", .free "tuple", .free "dict", .free "isinstance",
  .free "ValueError", .int "MOST_LAYERS" 4, .int "MOST_ACROSS" 16, .int "DEAREST" 1000000000000, .str "LETTERS" "abcdefghijklmnopqrstuvwxyz", .str "FIGURES" "0123456789",
  .cls "Floor", .noat "Floor" "sizes", .noat "Floor" "by_layer", .noat "Floor" "by_via", .noat "Floor" "rocks", .noat "Floor" "tolls",
  .cls "Net", .noat "Net" "name", .noat "Net" "half", .noat "Net" "room", .noat "Net" "pins", .cls "Bundle",
  .noat "Bundle" "name", .noat "Bundle" "half", .noat "Bundle" "room", .noat "Bundle" "starts", .noat "Bundle" "goals"]
def fa2 : List He.Fa := [
  .cls "Board", .noat "Board" "floor", .noat "Board" "kept", .meth "Floor" "look", .meth "Floor" "is_rock", .meth "Net" "ends",
  .meth "Bundle" "ends", .meth "Board" "things", .meth "Board" "thing_named", .mkr "Floor", .mkr "Net", .mkr "Bundle",
  .mkr "Board", .exc "Twice", .exc "NoFit", .exc "Crowded", .exm "Twice" "WireError" true, .exm "NoFit" "WireError" true,
  .exm "Crowded" "WireError" true]
def fa : List He.Fa := fa0 ++ fa1 ++ fa2
def excB (K : PySem.W.Frag) (D : Addr) : Bool :=
  He.eqO (PySem.W.findIn K (.ref D) "__getattribute__") (some (some (.builtin "BaseException.__getattribute__"))) && (He.eqO (PySem.W.findIn K (.ref D) "__getattr__") (some none) && (PySem.W.hasDictIn K D &&
  (He.eqO (PySem.W.findIn K (.ref D) "__class__") (some (some (.builtin "object.__class__"))) && (He.eqO (PySem.W.specialIn K (.builtin "object.__class__") "__get__") (some (some (.builtin "getset_descriptor.__get__"))) &&
  (decide (PySem.W.takesIn K (.builtin "object.__class__") = some true) && decide (PySem.W.mroIn K D (.type "object") = some true))))))
def cvB (K : PySem.W.Frag) : Bool := match PySem.W.findCls K (.ref (cTh K)) (.type "type") "__init__" with
  | some (.val (.ref a)) => decide (a = He.ma K (cTh K) "__init__")
  | _ => false
def kitB5 (K : PySem.W.Frag) (D : Str) : Bool := due5.all fun E => decide (PySem.W.kitOne K (.ref (He.ga K D)) (.ref (He.ga K E)) = some (decide (D = E)))
def exB (K : PySem.W.Frag) : Bool :=
  PySem.W.readsIn K (cTh K) (.type "type") && (He.eqO (PySem.W.specialIn K (.ref (cTh K)) "__getattribute__") (some (some (.builtin "type.__getattribute__"))) && (cvB K && due3.all fun D =>
    excB K (He.ga K D) && (kitB5 K D && decide (PySem.W.kitOne K (.ref (He.ga K D)) (.type "ValueError") = some true))))
abbrev R : PySem.W.OpenRow := PySem.W.OpenLaw.row PySem.Challenge.rw_wirefloor_k12_board
/-- what the names reach in five steps, and the table of the interpreter's own statics (readsIn looks there) -/
def partG (g : Addr → Option Obj) : PySem.W.Frag := He.frG g (He.asD g 5 ++ [cStatics])
def obsW (g : Addr → Option Obj) : He.AlD × Bool := (He.obsD fa fn (partG g), exB (partG g))
def hk : PySem.W.Hook where
  α := He.AlD × Bool
  obs := fun s => obsW s.heap.get?
  val := fun _ => (He.valD fn, true)
  says := fun _ h => ∃ K : PySem.W.Frag, K.In h ∧ He.SaysD fa fn K ∧ exB K = true
  of := fun _ _ e => ⟨_, He.frG_in, congrArg (fun z : He.AlD × Bool => z.1) e, congrArg (fun z : He.AlD × Bool => z.2) e⟩
  keeps := fun _ _ _ ⟨K, hK, c⟩ k => ⟨K, PySem.W.Frag.In.keeps hK k, c⟩
def ob (s : PySem.W.SharedT) : He.AlD × Bool := obsW (HandSHeadRun.getT s)
theorem ob_eq (s : PySem.W.SharedT) : ob s = hk.obs s.abs := by
  have e : HandSHeadRun.getT s = s.abs.heap.get? := funext (HandSHeadRun.getT_eq s)
  show obsW (HandSHeadRun.getT s) = obsW s.abs.heap.get?
  rw [e]
def loose1 : List Str := ["_wall", "WireError", "BadSize", "BadPrice", "OutOfFloor", "BadThing", "Twice", "NoFit", "Crowded", "inside", "apart", "square", "fits", "clash", "clash_any", "refuse_twice", "refuse_unfit", "refuse_crowded", "Board", "MOST_LAYERS", "MOST_ACROSS", "DEAREST"]
def loose2 : List Str := ["sizes_good", "prices_good", "Floor", "LETTERS", "FIGURES", "name_fits", "all_unlike", "Thing", "Net", "Bundle", "_law_cell_at", "_law_folded", "_law_spot", "_law_ends", "_law_thing", "_law_things", "_law_fits", "_law_clash", "_law_due", "_law_refusal", "_law_alike", "_law_named"]
def loose : List Str := loose1 ++ loose2
theorem run (w : World) : HandSHeadRun.RunEq R (PySem.W.view R.prog [51]) hk ob 9000 loose w := by
  intro os
  kernel_rfl
end Wf

/-! K12U: the end (printed by head.py). -/
namespace Wf
open PySem PySem.Spec PyProof.Rows L2
section
variable {K : PySem.W.Frag} {h : Heap} {mg : Str → Option Value}
theorem ex_cr (e : exB K = true) : ClX.CRead K (cTh K) (.type "type") ∧ cvB K = true ∧ ∀ D ∈ due3, excB K (He.ga K D) = true ∧ kitB5 K D = true ∧ PySem.W.kitOne K (.ref (He.ga K D)) (.type "ValueError") = some true := by
  obtain ⟨e1, e⟩ := He.ba e
  obtain ⟨e2, e⟩ := He.ba e
  obtain ⟨e3, e4⟩ := He.ba e
  refine ⟨⟨e1, He.eqO_ok e2⟩, e3, fun D hD => ?_⟩
  obtain ⟨e5, e⟩ := He.ba (List.all_eq_true.mp e4 D hD)
  obtain ⟨e6, e7⟩ := He.ba e
  exact ⟨e5, e6, of_decide_eq_true e7⟩
theorem cv_ok (e : cvB K = true) : PySem.W.findCls K (.ref (cTh K)) (.type "type") "__init__" = some (.val (.ref (He.ma K (cTh K) "__init__"))) := by
  unfold cvB at e
  split at e
  · rename_i a q
    rw [q, of_decide_eq_true e]
  · cases e
theorem exc_of {D : Addr} (hs : PySem.W.subIn K (.ref D) (.type "BaseException") = some true) (e : excB K D = true) : ExcC K D := by
  obtain ⟨e1, e⟩ := He.ba e
  obtain ⟨e2, e⟩ := He.ba e
  obtain ⟨e3, e⟩ := He.ba e
  obtain ⟨e4, e⟩ := He.ba e
  obtain ⟨e5, e⟩ := He.ba e
  obtain ⟨e6, e7⟩ := He.ba e
  exact ⟨He.eqO_ok e1, He.eqO_ok e2, hs, e3, He.eqO_ok e4, He.eqO_ok e5, of_decide_eq_true e6, of_decide_eq_true e7⟩
theorem txt (X : K.In h) (G : h.Ns mainGlobals mg) (c : He.SaysD fa fn K) (e : exB K = true) : Txt K mg := by
  obtain ⟨cr, cv, ex⟩ := ex_cr e
  have qTwice := He.exc_ok (c.fact 83 (f := .exc "Twice") rfl)
  have qNoFit := He.exc_ok (c.fact 84 (f := .exc "NoFit") rfl)
  have qCrowded := He.exc_ok (c.fact 85 (f := .exc "Crowded") rfl)
  exact {
    range := He.free_ok X G (c.fact 37 (f := .free "range") rfl)
    len := He.free_ok X G (c.fact 38 (f := .free "len") rfl)
    max := He.free_ok X G (c.fact 39 (f := .free "max") rfl)
    min := He.free_ok X G (c.fact 40 (f := .free "min") rfl)
    abs := He.free_ok X G (c.fact 41 (f := .free "abs") rfl)
    set := He.free_ok X G (c.fact 42 (f := .free "set") rfl)
    list := He.free_ok X G (c.fact 43 (f := .free "list") rfl)
    tuple := He.free_ok X G (c.fact 44 (f := .free "tuple") rfl)
    dict := He.free_ok X G (c.fact 45 (f := .free "dict") rfl)
    isinstance := He.free_ok X G (c.fact 46 (f := .free "isinstance") rfl)
    vMOST_LAYERS := (He.int_ok X G (c.fact 48 (f := .int "MOST_LAYERS" 4) rfl)).elim fun t q => ⟨_, q, t, rfl⟩
    vMOST_ACROSS := (He.int_ok X G (c.fact 49 (f := .int "MOST_ACROSS" 16) rfl)).elim fun t q => ⟨_, q, t, rfl⟩
    vDEAREST := (He.int_ok X G (c.fact 50 (f := .int "DEAREST" 1000000000000) rfl)).elim fun t q => ⟨_, q, t, rfl⟩
    vLETTERS := (He.str_ok X G (c.fact 51 (f := .str "LETTERS" "abcdefghijklmnopqrstuvwxyz") rfl)).elim fun t q => ⟨_, q, t, rfl⟩
    vFIGURES := (He.str_ok X G (c.fact 52 (f := .str "FIGURES" "0123456789") rfl)).elim fun t q => ⟨_, q, t, rfl⟩
    clF := He.cls_ok (c.fact 53 (f := .cls "Floor") rfl)
    nF := fun f hf => by
      simp only [List.mem_cons, List.not_mem_nil, or_false] at hf
      rcases hf with rfl | rfl | rfl | rfl | rfl
      · exact He.noat_ok (c.fact 54 (f := .noat "Floor" "sizes") rfl)
      · exact He.noat_ok (c.fact 55 (f := .noat "Floor" "by_layer") rfl)
      · exact He.noat_ok (c.fact 56 (f := .noat "Floor" "by_via") rfl)
      · exact He.noat_ok (c.fact 57 (f := .noat "Floor" "rocks") rfl)
      · exact He.noat_ok (c.fact 58 (f := .noat "Floor" "tolls") rfl)
    clN := He.cls_ok (c.fact 59 (f := .cls "Net") rfl)
    nN := fun f hf => by
      simp only [List.mem_cons, List.not_mem_nil, or_false] at hf
      rcases hf with rfl | rfl | rfl | rfl
      · exact He.noat_ok (c.fact 60 (f := .noat "Net" "name") rfl)
      · exact He.noat_ok (c.fact 61 (f := .noat "Net" "half") rfl)
      · exact He.noat_ok (c.fact 62 (f := .noat "Net" "room") rfl)
      · exact He.noat_ok (c.fact 63 (f := .noat "Net" "pins") rfl)
    clB := He.cls_ok (c.fact 64 (f := .cls "Bundle") rfl)
    nB := fun f hf => by
      simp only [List.mem_cons, List.not_mem_nil, or_false] at hf
      rcases hf with rfl | rfl | rfl | rfl | rfl
      · exact He.noat_ok (c.fact 65 (f := .noat "Bundle" "name") rfl)
      · exact He.noat_ok (c.fact 66 (f := .noat "Bundle" "half") rfl)
      · exact He.noat_ok (c.fact 67 (f := .noat "Bundle" "room") rfl)
      · exact He.noat_ok (c.fact 68 (f := .noat "Bundle" "starts") rfl)
      · exact He.noat_ok (c.fact 69 (f := .noat "Bundle" "goals") rfl)
    clD := He.cls_ok (c.fact 70 (f := .cls "Board") rfl)
    nD := fun f hf => by
      simp only [List.mem_cons, List.not_mem_nil, or_false] at hf
      rcases hf with rfl | rfl
      · exact He.noat_ok (c.fact 71 (f := .noat "Board" "floor") rfl)
      · exact He.noat_ok (c.fact 72 (f := .noat "Board" "kept") rfl)
    gThing := (He.glo_ok X G (c.fact 26 (f := .glo "Thing") rfl))
    crT := cr
    cvT := cv_ok cv
    xTwice := qTwice.1
    gTwice := (He.glo_ok X G (c.fact 34 (f := .glo "Twice") rfl))
    kTwice := qTwice.2.1
    bTwice := qTwice.2.2.1
    tTwice := qTwice.2.2.2
    xNoFit := qNoFit.1
    gNoFit := (He.glo_ok X G (c.fact 35 (f := .glo "NoFit") rfl))
    kNoFit := qNoFit.2.1
    bNoFit := qNoFit.2.2.1
    tNoFit := qNoFit.2.2.2
    xCrowded := qCrowded.1
    gCrowded := (He.glo_ok X G (c.fact 36 (f := .glo "Crowded") rfl))
    kCrowded := qCrowded.2.1
    bCrowded := qCrowded.2.2.1
    tCrowded := qCrowded.2.2.2
    gWireError := (He.glo_ok X G (c.fact 31 (f := .glo "WireError") rfl))
    gBadThing := (He.glo_ok X G (c.fact 32 (f := .glo "BadThing") rfl))
    gOutOfFloor := (He.glo_ok X G (c.fact 33 (f := .glo "OutOfFloor") rfl))
    blt := He.free_ok X G (c.fact 47 (f := .free "ValueError") rfl)
    exm := fun D hD => by
      have hD2 := hD
      simp only [due3, List.mem_cons, List.not_mem_nil, or_false] at hD2
      rcases hD2 with rfl | rfl | rfl
      · exact He.exm_ok (c.fact 86 (f := .exm "Twice" "WireError" true) rfl)
      · exact He.exm_ok (c.fact 87 (f := .exm "NoFit" "WireError" true) rfl)
      · exact He.exm_ok (c.fact 88 (f := .exm "Crowded" "WireError" true) rfl)
    exc := fun D hD => by
      have hD2 := hD
      simp only [due3, List.mem_cons, List.not_mem_nil, or_false] at hD2
      rcases hD2 with rfl | rfl | rfl
      · exact exc_of qTwice.2.2.1 (ex _ hD).1
      · exact exc_of qNoFit.2.2.1 (ex _ hD).1
      · exact exc_of qCrowded.2.2.1 (ex _ hD).1
    kit := fun D hD E hE => of_decide_eq_true (List.all_eq_true.mp (ex D hD).2.1 E hE)
    kitV := fun D hD => (ex D hD).2.2 }
theorem facts {P : Program} {w : World} {f : Addr} (X : K.In h) (G : h.Ns mainGlobals mg) (hfa : mg ("law" : Str) = some (.ref f)) (c : He.SaysD fa fn K) (e : exB K = true) :
    ∃ fd : FuncData, (∀ (s : Shared) (v : Value), BindsTo s fd ⟨[v], []⟩ [("script", v)]) ∧ ∀ base : Heap, K.In base → base.Ns mainGlobals mg → FnOk P w K mg base C8.CX0 9 f fd ["script"] (spLaw K) := by
  have T := txt X G c e
  obtain ⟨fd_inside, F_inside⟩ := c.def_ 0 (d := dd "inside" s_inside) rfl
  have g_inside := (He.glo_ok X G (c.fact 0 (f := .glo "inside") rfl))
  obtain ⟨fd_apart, F_apart⟩ := c.def_ 1 (d := dd "apart" s_apart) rfl
  have g_apart := (He.glo_ok X G (c.fact 1 (f := .glo "apart") rfl))
  obtain ⟨fd_square, F_square⟩ := c.def_ 2 (d := dd "square" s_square) rfl
  have g_square := (He.glo_ok X G (c.fact 2 (f := .glo "square") rfl))
  obtain ⟨fd_fits, F_fits⟩ := c.def_ 3 (d := dd "fits" s_fits) rfl
  have g_fits := (He.glo_ok X G (c.fact 3 (f := .glo "fits") rfl))
  obtain ⟨fd_clash, F_clash⟩ := c.def_ 4 (d := dd "clash" s_clash) rfl
  have g_clash := (He.glo_ok X G (c.fact 4 (f := .glo "clash") rfl))
  obtain ⟨fd_clash_any, F_clash_any⟩ := c.def_ 5 (d := dd "clash_any" s_clash_any) rfl
  have g_clash_any := (He.glo_ok X G (c.fact 5 (f := .glo "clash_any") rfl))
  obtain ⟨fd_refuse_twice, F_refuse_twice⟩ := c.def_ 6 (d := dd "refuse_twice" s_refuse_twice) rfl
  have g_refuse_twice := (He.glo_ok X G (c.fact 6 (f := .glo "refuse_twice") rfl))
  obtain ⟨fd_refuse_unfit, F_refuse_unfit⟩ := c.def_ 7 (d := dd "refuse_unfit" s_refuse_unfit) rfl
  have g_refuse_unfit := (He.glo_ok X G (c.fact 7 (f := .glo "refuse_unfit") rfl))
  obtain ⟨fd_refuse_crowded, F_refuse_crowded⟩ := c.def_ 8 (d := dd "refuse_crowded" s_refuse_crowded) rfl
  have g_refuse_crowded := (He.glo_ok X G (c.fact 8 (f := .glo "refuse_crowded") rfl))
  obtain ⟨fd_sizes_good, F_sizes_good⟩ := c.def_ 9 (d := dd "sizes_good" s_sizes_good) rfl
  have g_sizes_good := (He.glo_ok X G (c.fact 9 (f := .glo "sizes_good") rfl))
  obtain ⟨fd_prices_good, F_prices_good⟩ := c.def_ 10 (d := dd "prices_good" s_prices_good) rfl
  have g_prices_good := (He.glo_ok X G (c.fact 10 (f := .glo "prices_good") rfl))
  obtain ⟨fd_name_fits, F_name_fits⟩ := c.def_ 11 (d := dd "name_fits" s_name_fits) rfl
  have g_name_fits := (He.glo_ok X G (c.fact 11 (f := .glo "name_fits") rfl))
  obtain ⟨fd_all_unlike, F_all_unlike⟩ := c.def_ 12 (d := dd "all_unlike" s_all_unlike) rfl
  have g_all_unlike := (He.glo_ok X G (c.fact 12 (f := .glo "all_unlike") rfl))
  obtain ⟨fd__law_cell_at, F__law_cell_at⟩ := c.def_ 13 (d := dd "_law_cell_at" s__law_cell_at) rfl
  have g__law_cell_at := (He.glo_ok X G (c.fact 13 (f := .glo "_law_cell_at") rfl))
  obtain ⟨fd__law_folded, F__law_folded⟩ := c.def_ 14 (d := dd "_law_folded" s__law_folded) rfl
  have g__law_folded := (He.glo_ok X G (c.fact 14 (f := .glo "_law_folded") rfl))
  obtain ⟨fd__law_spot, F__law_spot⟩ := c.def_ 15 (d := dd "_law_spot" s__law_spot) rfl
  have g__law_spot := (He.glo_ok X G (c.fact 15 (f := .glo "_law_spot") rfl))
  obtain ⟨fd__law_ends, F__law_ends⟩ := c.def_ 16 (d := dd "_law_ends" s__law_ends) rfl
  have g__law_ends := (He.glo_ok X G (c.fact 16 (f := .glo "_law_ends") rfl))
  obtain ⟨fd__law_thing, F__law_thing⟩ := c.def_ 17 (d := dd "_law_thing" s__law_thing) rfl
  have g__law_thing := (He.glo_ok X G (c.fact 17 (f := .glo "_law_thing") rfl))
  obtain ⟨fd__law_things, F__law_things⟩ := c.def_ 18 (d := dd "_law_things" s__law_things) rfl
  have g__law_things := (He.glo_ok X G (c.fact 18 (f := .glo "_law_things") rfl))
  obtain ⟨fd__law_fits, F__law_fits⟩ := c.def_ 19 (d := dd "_law_fits" s__law_fits) rfl
  have g__law_fits := (He.glo_ok X G (c.fact 19 (f := .glo "_law_fits") rfl))
  obtain ⟨fd__law_clash, F__law_clash⟩ := c.def_ 20 (d := dd "_law_clash" s__law_clash) rfl
  have g__law_clash := (He.glo_ok X G (c.fact 20 (f := .glo "_law_clash") rfl))
  obtain ⟨fd__law_due, F__law_due⟩ := c.def_ 21 (d := dd "_law_due" s__law_due) rfl
  have g__law_due := (He.glo_ok X G (c.fact 21 (f := .glo "_law_due") rfl))
  obtain ⟨fd__law_refusal, F__law_refusal⟩ := c.def_ 22 (d := dd "_law_refusal" s__law_refusal) rfl
  have g__law_refusal := (He.glo_ok X G (c.fact 22 (f := .glo "_law_refusal") rfl))
  obtain ⟨fd__law_alike, F__law_alike⟩ := c.def_ 23 (d := dd "_law_alike" s__law_alike) rfl
  have g__law_alike := (He.glo_ok X G (c.fact 23 (f := .glo "_law_alike") rfl))
  obtain ⟨fd__law_named, F__law_named⟩ := c.def_ 24 (d := dd "_law_named" s__law_named) rfl
  have g__law_named := (He.glo_ok X G (c.fact 24 (f := .glo "_law_named") rfl))
  obtain ⟨fd_law, F_law⟩ := c.def_ 25 (d := dd "law" s_law) rfl
  obtain ⟨fd_Floor_look, F_Floor_look⟩ := c.def_ 26 (d := dm "Floor" "look" "Floor.look" s_look []) rfl
  obtain ⟨fd_Floor_is_rock, F_Floor_is_rock⟩ := c.def_ 27 (d := dm "Floor" "is_rock" "Floor.is_rock" s_is_rock []) rfl
  obtain ⟨fd_Floor_init, F_Floor_init⟩ := c.def_ 28 (d := dm "Floor" "__init__" "Floor.__init__" s_Floor_init [.non, .non]) rfl
  obtain ⟨fd_Thing_init, F_Thing_init⟩ := c.def_ 29 (d := dm "Thing" "__init__" "Thing.__init__" s_Thing_init []) rfl
  obtain ⟨fd_Net_init, F_Net_init⟩ := c.def_ 30 (d := dm "Net" "__init__" "Net.__init__" s_Net_init [.int 0, .int 0]) rfl
  obtain ⟨fd_Bundle_init, F_Bundle_init⟩ := c.def_ 31 (d := dm "Bundle" "__init__" "Bundle.__init__" s_Bundle_init [.int 0]) rfl
  obtain ⟨fd_Net_ends, F_Net_ends⟩ := c.def_ 32 (d := dm "Net" "ends" "Net.ends" s_Net_ends []) rfl
  obtain ⟨fd_Bundle_ends, F_Bundle_ends⟩ := c.def_ 33 (d := dm "Bundle" "ends" "Bundle.ends" s_Bundle_ends []) rfl
  obtain ⟨fd_Board_init, F_Board_init⟩ := c.def_ 34 (d := dm "Board" "__init__" "Board.__init__" s_Board_init []) rfl
  obtain ⟨fd_Board_things, F_Board_things⟩ := c.def_ 35 (d := dm "Board" "things" "Board.things" s_Board_things []) rfl
  obtain ⟨fd_Board_thing_named, F_Board_thing_named⟩ := c.def_ 36 (d := dm "Board" "thing_named" "Board.thing_named" s_Board_thing_named []) rfl
  have M_Floor := He.mkr_ok (c.fact 79 (f := .mkr "Floor") rfl)
  have g_Floor := (He.glo_ok X G (c.fact 27 (f := .glo "Floor") rfl))
  have M_Net := He.mkr_ok (c.fact 80 (f := .mkr "Net") rfl)
  have g_Net := (He.glo_ok X G (c.fact 28 (f := .glo "Net") rfl))
  have M_Bundle := He.mkr_ok (c.fact 81 (f := .mkr "Bundle") rfl)
  have g_Bundle := (He.glo_ok X G (c.fact 29 (f := .glo "Bundle") rfl))
  have M_Board := He.mkr_ok (c.fact 82 (f := .mkr "Board") rfl)
  have g_Board := (He.glo_ok X G (c.fact 30 (f := .glo "Board") rfl))
  have eF := hfa.symm.trans (He.glo_ok X G (c.fact 25 (f := .glo "law") rfl))
  cases eF
  have b := FunD.bindsA (ps := ["script"]) F_law fun _ _ _ _ _ _ us hl => match us, hl with | [_], _ => rfl
  have bT : Binds K fd_Thing_init ["self", "name", "half", "room"] [] := FunD.bindsN F_Thing_init fun _ _ _ _ _ _ us hl => match us, hl with | [_, _, _, _], _ => rfl
  have bD : Binds K fd_Board_init ["self", "floor", "things"] [] := FunD.bindsN F_Board_init fun _ _ _ _ _ _ us hl => match us, hl with | [_, _, _], _ => rfl
  obtain ⟨dsN, vN, bN⟩ := FunD.binds1 (ps := ["self", "name", "pins", "half", "room"]) F_Net_init 5 2 (by exact List.cons_ne_nil _ _) rfl (fun _ _ _ _ _ _ _ us its hl hi => match us, its, hl, hi with | [_, _, _, _, _], [_, _], _, _ => ⟨_, rfl, rfl⟩)
  obtain ⟨dsB, vB, bB⟩ := FunD.binds1 (ps := ["self", "name", "starts", "goals", "room"]) F_Bundle_init 5 1 (by exact List.cons_ne_nil _ _) rfl (fun _ _ _ _ _ _ _ us its hl hi => match us, its, hl, hi with | [_, _, _, _, _], [_], _, _ => ⟨_, rfl, rfl⟩)
  obtain ⟨dsF, vF, bF⟩ := FunD.binds1 (ps := ["self", "sizes", "prices", "vias", "rocks", "tolls"]) F_Floor_init 5 1 (by exact List.cons_ne_nil _ _) rfl (fun _ _ _ _ _ _ _ us its hl hi => match us, its, hl, hi with | [_, _, _, _, _], [_, _], _, _ => ⟨_, rfl, rfl⟩)
  refine ⟨fd_law, fun s v => b s [v] rfl, fun base _ _ => ?_⟩
  have c_inside := c_inside (P := P) (w := w) (base := base) T  F_inside g_inside
  have c_apart := c_apart (P := P) (w := w) (base := base) T  F_apart g_apart
  have c_square := c_square (P := P) (w := w) (base := base) T  F_square g_square
  have c_look := c_look (P := P) (w := w) (base := base) T c_inside (He.meth_ok (c.fact 73 (f := .meth "Floor" "look") rfl)) F_Floor_look
  have c_is_rock := c_is_rock (P := P) (w := w) (base := base) T c_look (He.meth_ok (c.fact 74 (f := .meth "Floor" "is_rock") rfl)) F_Floor_is_rock
  have c_fits := c_fits (P := P) (w := w) (base := base) T c_inside c_square c_is_rock F_fits g_fits
  have c_clash := c_clash (P := P) (w := w) (base := base) T c_apart F_clash g_clash
  have c_clash_any := c_clash_any (P := P) (w := w) (base := base) T c_clash F_clash_any g_clash_any
  have c_name_fits := c_name_fits (P := P) (w := w) (base := base) T  F_name_fits g_name_fits
  have c_all_unlike := c_all_unlike (P := P) (w := w) (base := base) T  F_all_unlike g_all_unlike
  have GT := f_Thing_init (P := P) (w := w) (base := base) T c_name_fits F_Thing_init
  have c_Net : C8.Mak P w K mg base 3 "Net" (cNe K) (spNet K) [] := ⟨_, _, _, dsN, M_Net, f_Net_init T rfl GT F_Thing_init.kp bT c_all_unlike F_Net_init, g_Net, bN, vN⟩
  have c_Bundle : C8.Mak P w K mg base 3 "Bundle" (cBu K) (spBundle K) [] := ⟨_, _, _, dsB, M_Bundle, f_Bundle_init T rfl GT F_Thing_init.kp bT c_all_unlike F_Bundle_init, g_Bundle, bB, vB⟩
  have e_N := e_Net (P := P) (w := w) (base := base) T (He.meth_ok (c.fact 75 (f := .meth "Net" "ends") rfl)) F_Net_ends
  have e_B := e_Bundle (P := P) (w := w) (base := base) T (He.meth_ok (c.fact 76 (f := .meth "Bundle" "ends") rfl)) F_Bundle_ends
  have c_sizes_good := c_sizes_good (P := P) (w := w) (base := base) T  F_sizes_good g_sizes_good
  have c_prices_good := c_prices_good (P := P) (w := w) (base := base) T  F_prices_good g_prices_good
  have c_Floor : C8.Mak P w K mg base 2 "Floor" (cFl K) (spFloor K) [.non] := ⟨_, _, _, dsF, M_Floor, f_Floor_init T c_sizes_good c_prices_good c_inside F_Floor_init, g_Floor, bF, vF⟩
  have r_refuse_twice := r_refuse_twice (P := P) (w := w) (base := base) T  F_refuse_twice g_refuse_twice
  have r_refuse_unfit := r_refuse_unfit (P := P) (w := w) (base := base) T c_fits e_N e_B F_refuse_unfit g_refuse_unfit
  have r_refuse_crowded := r_refuse_crowded (P := P) (w := w) (base := base) T c_clash_any e_N e_B F_refuse_crowded g_refuse_crowded
  have m_Board : MakR P w K mg base 6 "Board" (cBo K) (spBoard K) := ⟨_, _, _, M_Board, f_Board_init T r_refuse_twice r_refuse_unfit r_refuse_crowded F_Board_init, g_Board, bD⟩
  have c_things := c_things (P := P) (w := w) (base := base) T (He.meth_ok (c.fact 77 (f := .meth "Board" "things") rfl)) F_Board_things
  have c_thing_named := c_thing_named (P := P) (w := w) (base := base) T (He.meth_ok (c.fact 78 (f := .meth "Board" "thing_named") rfl)) F_Board_thing_named
  have c__law_cell_at := c__law_cell_at (P := P) (w := w) (base := base) T  F__law_cell_at g__law_cell_at
  have c__law_folded := c__law_folded (P := P) (w := w) (base := base) T  F__law_folded g__law_folded
  have c__law_spot := c__law_spot (P := P) (w := w) (base := base) T  F__law_spot g__law_spot
  have c__law_ends := c__law_ends (P := P) (w := w) (base := base) T c__law_spot F__law_ends g__law_ends
  have c__law_thing := c__law_thing (P := P) (w := w) (base := base) T c__law_ends c_Net c_Bundle F__law_thing g__law_thing
  have c__law_things := c__law_things (P := P) (w := w) (base := base) T c__law_cell_at c__law_thing F__law_things g__law_things
  have c__law_fits := c__law_fits (P := P) (w := w) (base := base) T  F__law_fits g__law_fits
  have c__law_clash := c__law_clash (P := P) (w := w) (base := base) T e_N e_B F__law_clash g__law_clash
  have c__law_due := c__law_due (P := P) (w := w) (base := base) T c__law_fits c__law_clash e_N e_B F__law_due g__law_due
  have c__law_refusal := c__law_refusal (P := P) (w := w) (base := base) T m_Board F__law_refusal g__law_refusal
  have c__law_alike := c__law_alike (P := P) (w := w) (base := base) T e_N e_B F__law_alike g__law_alike
  have c__law_named := c__law_named (P := P) (w := w) (base := base) T c__law_alike c_thing_named F__law_named g__law_named
  exact f_law T c__law_cell_at c__law_folded c__law_spot c_Floor c__law_things c__law_due c__law_refusal m_Board c_things c__law_alike c__law_named F_law
end
end Wf
open PySem PySem.W PySem.Calls PyProof.Rows
theorem PySem.Challenge.cw_wirefloor_k12_board_holds : PySem.Challenge.rw_wirefloor_k12_board.Holds := by
  w_on; o_law
  refine HandSHeadRun.head_any (r := OpenLaw.row PySem.Challenge.rw_wirefloor_k12_board) (q := view (OpenLaw.row PySem.Challenge.rw_wirefloor_k12_board).prog [51]) (H := Wf.hk) (ob := Wf.ob) (M := 9000) (loose := Wf.loose) (d := HandSHeadRun.topDef (OpenLaw.row PySem.Challenge.rw_wirefloor_k12_board).prog 51) (kwd := []) Wf.ob_eq
    (by kernel_rfl) (fun s => by kernel_rfl) Wf.run (by kernel_rfl) (by kernel_rfl) (by kernel_rfl) (by rfl) (by first | assumption | decide +kernel) (by decide +kernel) ⟨rfl, rfl, rfl, rfl, rfl, by decide +kernel⟩ ?hw ?hc
  case hw => w_witness2
  case hc =>
    refine L2.walk_ofE (l := PySem.Challenge.rw_wirefloor_k12_board) (n := 63) (k := 9) (x := "script") (CX := C8.CX0) rfl (by decide) (by kernel_rfl) ⟨rfl, by decide, by decide⟩ ?F (fun _ _ _ _ z => z)
    intro w mg fa h Y G hmg0
    obtain ⟨K, KX, c, e⟩ := Y
    have hmg : mg ("law" : PySem.Str) = some (.ref fa) := by
      have e : (HandSHeadRun.topDef (OpenLaw.row PySem.Challenge.rw_wirefloor_k12_board).prog 51).name = ("law" : PySem.Str) := by kernel_rfl
      rw [← e]
      exact hmg0
    obtain ⟨fd, hb, hF⟩ := Wf.facts (P := (PySem.Challenge.rw_wirefloor_k12_board).prog) (w := w) KX G hmg c e
    exact ⟨K, fd, Wf.spLaw K, KX, hb, fun H a ns hl _ hS => ⟨a, ns, rfl, hS, hl, fun _ => rfl⟩, hF⟩
