import PyProof.Rows.All
import Wide.All
import OpenK.AllK
import Wide.FinOn
import KE.KEqNest
import KE.KExcIs
import HandS.ForMost
import HandS.Exc
import HandS.TryOnly
import HandS.ExcOwn
import HandS.WordsExc
import HandS.ExcInit
import HandS.ExcValue
import HandS.IsInst
import HandS.More
import HandS.Flow
import HandS.Wide
import HandS.Defaults
import HandS.DeepEq
import HandS.ExcField
import HandS.ExcIs
import HandS.HeadHook2
import PySem.Challenge.RW_madeagain_k76_replayed
import KE.KStateDown
import HandS.Head0
import HandS.Head1
import HandS.Head2
import HandS.HeadEnd
set_option Elab.async false
set_option linter.all false
set_option maxRecDepth 100000
set_option maxHeartbeats 4000000
/-! Extra rules over the hand layer: what is never reached, a field as a target, != of equal nested data, an exception that is kept behind its suite. -/
namespace Mad
open PySem PySem.Spec PyProof.Rows L2

/-! ### never reached -/
def teNo : TE := fun _ _ _ => False
theorem pe_no {X : Cx} {e : Expr} : PE X e teNo := ⟨fun _ _ _ _ _ _ h => h.elim⟩
theorem pt_no {X : Cx} {e : Expr} : PT X e (fun _ _ _ => False) := ⟨fun _ _ _ _ _ _ h => h.elim⟩

/-! ### o.f as a target among others -/
def gAttr (K : PySem.W.Frag) (ta : TE) (f : Str) : TG := fun v σ H Q => ta σ H fun x H1 =>
  ∃ a C dx fs, x = .ref a ∧ H1 a = some (.ins C dx fs) ∧ Cls K C ∧ NoAttr K C f ∧ fs.length < 1000 ∧ Q σ (upd H1 a (.ins C dx (putF f v fs)))
theorem pg_attr {X : Cx} {o : Expr} {f : Str} {pos : Pos} {ta : TE} (ha : PE X o ta) : PG X (.Attribute o f pos) (gAttr X.K ta f) := by
  refine ⟨fun pins s σ H v u Q I r h => ?_⟩
  rw [assign_Attribute]
  refine wpAny_bind (wpAny_holding (thn (ha.run pins s σ H _ I h) fun ov s1 q1 => ?_))
  obtain ⟨x, H1, I1, rx, a, C, dx, fs, ex, ea, c, n, l, q⟩ := q1
  subst ex
  obtain rfl : ov = Value.ref a := rx
  refine wpAny_bind (wpAny_standAt (wpAny_bind (wpAny_holding ?_)))
  exact setattr_ok I1 ea c n l r fun s2 I2 => wpAny_release ⟨σ, _, I2, q⟩

/-! ### != and == of equal nested data -/
/-- the same flat value, or one object -/
def Eq1 (x y : V) : Prop := x = y ∧ (flatB x = true ∨ ∃ a, x = .ref a)
theorem Eq1.at {A : Around} {s : Shared} {x y : V} {v u : Value} (h : Eq1 x y) (rx : RelV x v) (ry : RelV y u) : SeqAt.EqAt A s v u true := by
  obtain ⟨rfl, f | ⟨a, rfl⟩⟩ := h
  · exact eqAt_same rx ry f
  · cases (show v = Value.ref a from rx)
    cases (show u = Value.ref a from ry)
    exact SeqAt.EqAt.same _
theorem eq1_list : ∀ {xs : List V}, (∀ x ∈ xs, flatB x = true ∨ ∃ a, x = .ref a) → Paired Eq1 xs xs
  | [], _ => .nil
  | x :: xs, h => .cons ⟨rfl, h x List.mem_cons_self⟩ (eq1_list fun y hy => h y (List.mem_cons_of_mem _ hy))
/-- .. or two tuples of such -/
def Eq2 (K : PySem.W.Frag) (H : Hp) (x y : V) : Prop := Eq1 x y ∨ ∃ a b xs ys, x = .ref a ∧ y = .ref b ∧ SqT K H a xs ∧ SqT K H b ys ∧ Paired Eq1 xs ys
theorem items_at {A : Around} {s : Shared} {F : V → V → Prop} (g : ∀ x y v u, F x y → RelV x v → RelV y u → SeqAt.EqAt A s v u true) {xs ys : List V} (hp : Paired F xs ys) :
    ∀ {us ws : List Value}, Vals xs us → Vals ys ws → us.length = ws.length ∧ ∀ j (h1 : j < us.length) (h2 : j < ws.length), SeqAt.EqAt A s us[j] ws[j] true := by
  induction hp with
  | nil =>
    intro us ws r1 r2
    cases r1
    cases r2
    exact ⟨rfl, fun j h1 => absurd h1 (Nat.not_lt_zero j)⟩
  | cons h _ k =>
    intro us ws r1 r2
    cases r1 with
    | cons a1 b1 =>
      cases r2 with
      | cons a2 b2 =>
        obtain ⟨e, k⟩ := k b1 b2
        refine ⟨congrArg Nat.succ e, fun j h1 h2 => ?_⟩
        cases j with
        | zero => exact g _ _ _ _ h a1 a2
        | succ j => exact k j (Nat.lt_of_succ_lt_succ h1) (Nat.lt_of_succ_lt_succ h2)
theorem all_true (n : Nat) : ((List.range n).all fun _ => true) = true := List.all_eq_true.mpr fun _ _ => rfl
section
variable {X : Cx} {pins : List (Addr × Obj)} {σ : L2.St} {H : Hp} {s : Shared}
theorem Eq2.at (I : Inv X pins σ H s) {A : Around} (hu : A.units < cLine) {x y : V} {v u : Value} (h : Eq2 X.K H x y) (rx : RelV x v) (ry : RelV y u) : SeqAt.EqAt A s v u true := by
  rcases h with h | ⟨a, b, xs, ys, rfl, rfl, ha, hb, hp⟩
  · exact h.at rx ry
  · cases (show v = Value.ref a from rx)
    cases (show u = Value.ref b from ry)
    by_cases e : a = b
    · subst e
      exact SeqAt.EqAt.same _
    · obtain ⟨us, r1, p1, _⟩ := I.tuple ha
      obtain ⟨ws, r2, p2, _⟩ := I.tuple hb
      obtain ⟨hl, hk⟩ := items_at (A := A.in1) (s := s) (fun _ _ _ _ h => h.at) hp r1 r2
      have q := SeqAt.RcAt.tuples (A := A) (e := fun _ => true) (show s.heap.IsTuple a us.toArray from p1) (show s.heap.IsTuple b ws.toArray from p2) hu (fun j h1 h2 => by
        have k := hk j (by simpa using h1) (by simpa using h2)
        simpa using k)
      have z : ((List.range (min us.toArray.size ws.toArray.size)).all (fun _ => true) && us.toArray.size == ws.toArray.size) = true := by
        rw [all_true, List.size_toArray, List.size_toArray, hl]
        simp
      rw [z] at q
      exact SeqAt.EqAt.of_refs e q
/-- two lists of such, alike -/
def rSameL (K : PySem.W.Frag) (r : Bool) : R2 := fun x y H Q => ∃ a b xs ys, x = .ref a ∧ y = .ref b ∧ SqL K H a xs ∧ SqL K H b ys ∧ Paired (Eq2 K H) xs ys ∧ Q (.bl r) H
theorem op_sameL (hu : X.A.units + 64 < cLine) : OpR X (compareOp .Eq) (rSameL X.K true) := by
  intro pins s σ H x y v u Q I rx ry h
  obtain ⟨a, b, xs, ys, rfl, rfl, ha, hb, hp, q⟩ := h
  cases (show v = Value.ref a from rx)
  cases (show u = Value.ref b from ry)
  obtain ⟨us, r1, p1, _⟩ := I.list ha
  obtain ⟨ws, r2, p2, _⟩ := I.list hb
  obtain ⟨hl, hk⟩ := items_at (A := X.A.in1) (s := s) (fun _ _ _ _ h => h.at I (A := X.A.in1) (by show X.A.units + 1 < cLine; omega)) hp r1 r2
  have k := SeqAt.RcAt.lists (A := X.A) (e := fun _ => true) p1.isList p2.isList (by simpa using hl) (by omega) (fun j h1 h2 => by
    have k := hk j (by simpa using h1) (by simpa using h2)
    simpa using k)
  rw [all_true] at k
  exact k X.prog X.w _ _ ⟨.bl true, H, I, rfl, q⟩
theorem op_unlikeL (hu : X.A.units + 64 < cLine) : OpR X (compareOp .NotEq) (rSameL X.K false) := by
  intro pins s σ H x y v u Q I rx ry h
  obtain ⟨a, b, xs, ys, rfl, rfl, ha, hb, hp, q⟩ := h
  cases (show v = Value.ref a from rx)
  cases (show u = Value.ref b from ry)
  obtain ⟨us, r1, p1, _⟩ := I.list ha
  obtain ⟨ws, r2, p2, _⟩ := I.list hb
  obtain ⟨hl, hk⟩ := items_at (A := X.A.in1) (s := s) (fun _ _ _ _ h => h.at I (A := X.A.in1) (by show X.A.units + 1 < cLine; omega)) hp r1 r2
  have k := SeqAt.RcNeAt.lists (A := X.A) (e := fun _ => true) p1.isList p2.isList (by simpa using hl) (by omega) (fun j h1 h2 => by
    have k := hk j (by simpa using h1) (by simpa using h2)
    simpa using k)
  rw [all_true] at k
  exact k X.prog X.w _ _ ⟨.bl false, H, I, rfl, q⟩
end

/-! ### != of two pairs of dicts that are alike -/
section
variable {prog : Program} {w : World}
/-- the walk over two pairs: both places alike, no answer on the way -/
theorem pair_ne (l b : Addr) (x1 x2 y1 y2 : Value) (n n2 : Nat) (dd dd2 : Option Addr) (sl sl2 : Array (Option Value)) :
    MeetsIn prog w (Builtin.«tuple.__ne__» ⟨[.ref l, .ref b], []⟩)
      (fun A R s => (s.heap.get? l = some { cls := .type "tuple", dict := dd, data := .seq #[x1, x2] n, slots := sl } ∧ s.heap.get? b = some { cls := .type "tuple", dict := dd2, data := .seq #[y1, y2] n2, slots := sl2 }) ∧
        (SeqAt.EqP prog w A.in1 s x1 y1 true ∧ SeqAt.EqP prog w A.in1 s x2 y2 true) ∧ R (.ok (.ret (.bool false))) s) :=
  .of_wp fun A R s h => by
    obtain ⟨hp, g, d, tk, os⟩ := s
    obtain ⟨⟨hl, hb⟩, ⟨h1, h2⟩, h⟩ := h
    have f2 := AutoSeq1.sub_tuple_tuple
    have k1 : ∀ (E : Value → Shared → Prop) (Q : Bool → Shared → Prop), Q true ⟨hp, g, d, tk, os⟩ → wpAny (model prog w) A.in1 (eqBool x1 y1) Q E ⟨hp, g, d, tk, os⟩ := h1
    have k2 : ∀ (E : Value → Shared → Prop) (Q : Bool → Shared → Prop), Q true ⟨hp, g, d, tk, os⟩ → wpAny (model prog w) A.in1 (eqBool x2 y2) Q E ⟨hp, g, d, tk, os⟩ := h2
    wp_walk using AutoSeq1.wpAny_loadPart' hl, AutoSeq1.wpAny_loadPart' hb, k1, k2
    exact ⟨_, rfl, h⟩
end
/-- two pairs of dicts: the same keys, each with values alike -/
def SameD (H : Hp) (x y : V) : Prop := ∃ (a b : Addr) (kvs : List (Key × V)), x = .ref a ∧ y = .ref b ∧ H a = some (.dK kvs) ∧ H b = some (.dK kvs) ∧ (kvs.map (·.1)).Nodup ∧ ∀ p ∈ kvs, flatB p.2 = true ∨ ∃ a, p.2 = .ref a
theorem valV_here : ∀ {kvs : List (Key × V)}, (kvs.map (·.1)).Nodup → ∀ p ∈ kvs, valV kvs p.1 = some p.2
  | [], _, p, h => by cases h
  | q :: r, n, p, h => by
    obtain ⟨n1, n2⟩ := List.nodup_cons.mp (show (q.1 :: r.map (·.1)).Nodup from n)
    rcases List.mem_cons.mp h with rfl | h
    · exact valV_pos rfl
    · rw [valV_neg fun e => n1 (by rw [e]; exact List.mem_map.mpr ⟨p, h, rfl⟩)]
      exact valV_here n2 p h
section
variable {X : Cx} {pins : List (Addr × Obj)} {σ : L2.St} {H : Hp} {s : Shared}
theorem SameD.at (I : Inv X pins σ H s) {A : Around} (hu : A.units < cLine) {x y : V} {v u : Value} (h : SameD H x y) (rx : RelV x v) (ry : RelV y u) : SeqAt.EqP X.prog X.w A s v u true := by
  obtain ⟨a, b, kvs, rfl, rfl, ha, hb, hn, hf⟩ := h
  have rx0 := rx
  have ry0 := ry
  cases (show v = Value.ref a from rx)
  cases (show u = Value.ref b from ry)
  by_cases e : a = b
  · subst e
    exact (SeqAt.EqAt.same _).eqP
  · exact SeqAt.eqP_refs e (eqR_run I hu (F := Eq1) (fun x y v u h r1 r2 => (h.at r1 r2).eqP) (.inr ⟨a, b, kvs, kvs, rfl, rfl, ha, hb, rfl, fun p hp => ⟨p.2, valV_here hn p hp, rfl, hf p hp⟩⟩) rx0 ry0)
/-- (d, e) != (f, g), the dicts alike -/
def rSameP (K : PySem.W.Frag) : R2 := fun x y H Q => ∃ a b x1 x2 y1 y2, x = .ref a ∧ y = .ref b ∧ SqT K H a [x1, x2] ∧ SqT K H b [y1, y2] ∧ SameD H x1 y1 ∧ SameD H x2 y2 ∧ Q (.bl false) H
theorem op_unlikeP (hu : X.A.units + 64 < cLine) : OpR X (compareOp .NotEq) (rSameP X.K) := by
  intro pins s σ H x y v u Q I rx ry h
  obtain ⟨a, b, x1, x2, y1, y2, rfl, rfl, ha, hb, h1, h2, q⟩ := h
  cases (show v = Value.ref a from rx)
  cases (show u = Value.ref b from ry)
  obtain ⟨us, r1, p1, _⟩ := I.tuple ha
  obtain ⟨ws, r2, p2, _⟩ := I.tuple hb
  obtain ⟨u1, u2, rfl, ra1, ra2⟩ := Vals.two r1
  obtain ⟨w1, w2, rfl, rb1, rb2⟩ := Vals.two r2
  obtain ⟨⟨cls, dd, data, sl⟩, ho, hc, n, hd⟩ := p1
  obtain ⟨⟨cls2, dd2, data2, sl2⟩, ho2, hc2, n2, hd2⟩ := p2
  simp only at hc hd hc2 hd2
  subst hc hd hc2 hd2
  exact wpAny_richCompare_same_room (T := "tuple") (op := .NotEq) ⟨_, ho, rfl⟩ ⟨_, ho2, rfl⟩ F.slot_tuple_ne (call_meetsIn F.slot_tuple_ne ⟨_, ho, rfl⟩ F.entry_tuple_ne (F.args_tuple_ne_2 _ _) (pair_ne a b u1 u2 w1 w2 n n2 dd dd2 sl sl2)
    ⟨⟨ho, ho2⟩, ⟨h1.at I (A := X.A.in1) (by show X.A.units + 1 < cLine; omega) ra1 rb1, h2.at I (A := X.A.in1) (by show X.A.units + 1 < cLine; omega) ra2 rb2⟩,
      show Value.bool false ≠ Value.notImplemented ∧ EP X pins σ Q (.bool false) s from ⟨(fun x => nomatch x), ⟨.bl false, H, I, rfl, q⟩⟩⟩) (by omega)
end
end Mad

set_option Elab.async false
set_option linter.all false
set_option maxRecDepth 100000
set_option maxHeartbeats 4000000
/-! An exception that a clause binds and that is kept behind its suite: its object is tracked from then on. -/
namespace Mad
open PySem PySem.Spec PyProof.Rows L2

/-- at a: an exception's object, of the class cls, its own dict at d -/
def KeptX (cls : Value) (d : Option Addr) (a : Addr) : HO := .ext fun h => ∃ (oe : Obj) (vs : Array Value), h.get? a = some oe ∧ Zc cls d oe ∧ oe.data = .fields vs
theorem keptX_ok {P : Program} {w : World} {H : Hp} {h : Heap} {a : Addr} {cls : Value} {d : Option Addr} {oe : Obj} {vs : Array Value} (e : h.get? a = some oe) (z : Zc cls d oe) (q : oe.data = .fields vs) : ObjOk P w H h a (KeptX cls d a) :=
  ⟨⟨oe, vs, e, z, q⟩, ⟨oe, e⟩, fun _ _ ⟨o, v, e1, e2, e3⟩ k => ⟨o, v, k o e1, e2, e3⟩⟩
section
variable {X : Cx} {pins : List (Addr × Obj)} {σ : L2.St} {H : Hp} {s : Shared}
/-- an object made since the entry, not tracked as yet, is tracked -/
theorem Inv.keepX {a : Addr} {oe : Obj} {vs : Array Value} {cls : Value} {d : Option Addr} (I : Inv X pins σ H s) (e : s.heap.get? a = some oe) (z : Zc cls d oe) (q : oe.data = .fields vs) (na : H a = none) (new : X.s_0.heap.get? a = none)
    (nL : a ≠ X.env.locals) (np : ∀ p ∈ X.pn ++ pins, p.1 ≠ a) : Inv X pins σ (upd H a (KeptX cls d a)) s := by
  have n0 : ∀ {b : Addr} {o : Obj}, X.s_0.heap.get? b = some o → b ≠ a := fun {b o} h k => by
    rw [k, new] at h
    cases h
  have nH : ∀ {b : Addr} {o : HO}, H b = some o → b ≠ a := fun {b o} h k => by
    rw [k, na] at h
    cases h
  refine ⟨I.ok, I.os, I.bare, ⟨I.base.keep, I.base.slot, fun b o e1 e2 e3 => ?_, I.base.there, fun b xs e1 => ?_, fun b o u e1 => ?_, fun b ps e1 => ?_⟩, I.loc, I.cell, ?_, fun x c e1 => ?_, fun p hp => ?_, fun b u e1 => ?_, I.len⟩
  · rw [upd_ne (n0 e1)]
    exact I.base.free b o e1 e2 e3
  · have k := I.base.tups b xs e1
    rw [upd_ne (nH k)]
    exact k
  · have k := I.base.frzs b o u e1
    rw [upd_ne (nH k)]
    exact k
  · obtain ⟨m, k⟩ := I.base.tbls b ps e1
    exact ⟨m, by rw [upd_ne (nH k)]; exact k⟩
  · rw [upd_ne (Ne.symm nL)]
    exact I.free
  · have nc : c ≠ a := fun k => by
      obtain ⟨v, o, h1, h2⟩ := I.cell x c e1
      rw [k, e] at h1
      cases h1
      rw [q] at h2
      cases h2
    rw [upd_ne nc]
    exact I.freeC x c e1
  · obtain ⟨k1, k2, k3, k4, k5⟩ := I.pin p hp
    exact ⟨k1, by rw [upd_ne (np p hp)]; exact k2, k3, k4, k5⟩
  · by_cases hb : b = a
    · subst hb
      rw [upd_same] at e1
      cases e1
      exact keptX_ok e z q
    · rw [upd_ne hb] at e1
      refine (I.hok b u e1).stay (fun c v _ h => h) (fun c h => ?_) (fun c xs h => ?_)
      · rw [upd_ne (nH h)]
        exact h
      · rw [upd_ne (nH h)]
        exact h
end

/-- what the clause 'except x as n' wishes, all that comes being of its class; behind the suite the object is tracked -/
def wKeep (K : PySem.W.Frag) (c : Value) (i : Nat) (ts : Addr → Value → Option Addr → TS) (D : Ends) : WX := fun cls d σ H =>
  PySem.W.exmOne K cls c = some true ∧ ∀ a, H a = none → ts a cls d { nx := fun σ' H' => D.nx (σ'.set i none) (upd H' a (KeptX cls d a)), rt := fun _ _ => False } (σ.set i (some (.ref a))) H
section
variable {X : Cx} {x n : Str} {c : Value} {i : Nat} {body suite : List Stmt} {b₀ : Stmt} {np pos pos' : Pos} {tb : WX → TS} {ts : Addr → Value → Option Addr → TS}
theorem ps_try_keep (hs : X.stack = X.env :: X.outer) (hf : X.env.frame = some X.env.locals) (hex : X.ex = []) (hN : X.N.Nodup) (hi : X.N[i]? = some n) (hln : X.env.kindOf n = some .local) (hc : Names X x c)
    (hb : ∀ (W : WX) (pn : List (Addr × Obj)) (xe : Value → Shared → Prop), Takes (X.tr pn xe) W → PassesOwn (model X.prog X.w) X.A X.env xe → PSs (X.tr pn xe) body (tb W))
    (hsu : ∀ (a : Addr) (oe : Obj) (cls : Value) (d : Option Addr) (pn : List (Addr × Obj)), Zc cls d oe → (∃ vs, oe.data = .fields vs) → PSs (X.suite a ((a, oe) :: pn)) (b₀ :: suite) (ts a cls d)) :
    PS X (.Try body [.ExceptHandler (some (.Name x np)) (some n) (b₀ :: suite) pos'] [] [] pos) (fun D σ H => tb (wKeep X.K c i ts D) D σ H) := by
  refine ⟨fun pins s σ H D I h => ?_⟩
  have ok := I.ok
  have fr : X.A.frames = some (X.env :: X.outer) := by rw [ok.frames, hs]
  refine wpAny_Try_except ?_
  refine wpAny_mono ((hb (wKeep X.K c i ts D) (X.pn ++ pins) (fun e s₁ => wpAny (model X.prog X.w) X.A (noteFrame e X.env) (fun _ s₂ => wpAny (model X.prog X.w) X.A (setFlight e none)
    (fun _ s₃ => wpAny (model X.prog X.w) X.A (handleBy e X.env [.ExceptHandler (some (.Name x np)) (some n) (b₀ :: suite) pos']) (SP X pins D) X.xe s₃) X.xe s₂) X.xe s₁) ?fell PassesOwn.looking).run [] s σ H D (I.toTry _) h) (fun f s1 hsp => ?_) (fun e s1 he => he)
  case fell =>
    rintro u s' ⟨a, B, sI, pins', σ', H', cls, d, rfl, J', nb, up, sky, na, os, ag, hm, hyes⟩
    have J : Inv X pins σ' H' sI := J'.ofTry ok
    have sky' : Sky B (X.env :: X.outer) a (Zc cls d) X.env.locals s'.heap := hs ▸ sky
    show wpAny (model X.prog X.w) X.A (noteFrame (.ref a) X.env) _ _ _
    refine Sky.land Zc.steady fr hf sky' fun h3 fl3 up3 => ?_
    have J3 : Inv X pins σ' H' { s' with heap := h3 } := J.landed nb fl3.1 (up.trans up3) os ag
    obtain ⟨oe3, vs3, he3, hz3, hd3⟩ := fl3.there
    -- the exception's object is no frame, nothing that stood at the entry, no pin
    have nfr : a ∉ frs (X.env :: X.outer) := fun hm => by
      obtain ⟨_, o', e', k⟩ := fl3.2.2.1.mem hm
      rw [he3] at e'
      cases e'
      exact k _ hd3
    have nL : a ≠ X.env.locals := fun k => nfr (List.mem_filterMap.mpr ⟨X.env, List.mem_cons_self, by rw [hf, k]⟩)
    have nF : a ∉ X.fs := fun k => by
      obtain ⟨e, he, q⟩ := List.mem_filterMap.mp k
      exact nfr (List.mem_filterMap.mpr ⟨e, List.mem_cons_of_mem _ he, q⟩)
    have nst : a ∉ frs X.stack := hs ▸ nfr
    have nB : B.get? a = none := fl3.2.1
    have nI : sI.heap.get? a = none := by
      cases q : sI.heap.get? a with
      | none => rfl
      | some o =>
        have k := nb a o q nst
        rw [nB] at k
        cases k
    have n0 : X.s_0.heap.get? a = none := by
      cases q : X.s_0.heap.get? a with
      | none => rfl
      | some o =>
        obtain ⟨o', k⟩ := J.base.there a o q (by rw [hex]; exact fun z => nomatch z)
        rw [nI] at k
        cases k
    have npn : ∀ p ∈ X.pn ++ pins, p.1 ≠ a := fun p hp k => by
      have e := (J.pin p hp).1
      rw [k, nI] at e
      cases e
    have S3 := J3.suite he3 hd3 na nL nF
    refine wpAny_handleBy_cons (codeAny_handlers_test ?_) (by intro q; cases q)
    have LT : PySem.W.Looks (model X.prog X.w) h3 (typeOf (.ref a)) cls := fun A Q E s k q => wpAny_typeOf_ref (k _ _ he3) (by rw [hz3.1]; exact q)
    have LM := PySem.W.exm_one (M := model X.prog X.w) J3.kIn LT hm
    have go : wpAny (model X.prog X.w) (X.A.mark (some (.ref a))) (eval (.Name x np) X.env) (fun v s4 => v = c ∧ s4 = { s' with heap := h3 }) (fun _ _ => False) { s' with heap := h3 } := by
      obtain ⟨hg, hdbg, k | ⟨k, hv, hnn⟩⟩ := hc
      · exact ld_glob (X := X.suite a ((a, oe3) :: (X.pn ++ pins))) S3 hg k ⟨rfl, rfl⟩ hdbg
      · exact ld_blt (X := X.suite a ((a, oe3) :: (X.pn ++ pins))) S3 hg k hv ⟨rfl, rfl⟩ hnn hdbg
    refine wpAny_mono go (fun v s4 hv => ?_) (fun _ _ z => z.elim)
    obtain ⟨rfl, rfl⟩ := hv
    refine LM.here ?_
    refine codeAny_handlers_suite_as ?_
    refine HandSPX.lands_againZ fl3 fun h4 fl4 up4 => ?_
    have J4 : Inv X pins σ' H' { s' with heap := h4 } := J.landed nb fl4.1 ((up.trans up3).trans up4) os ag
    obtain ⟨oe4, vs4, he4, hz4, hd4⟩ := fl4.there
    have S4 := J4.suite he4 hd4 na nL nF
    refine store_ok (X := X.suite a ((a, oe4) :: (X.pn ++ pins))) (v := .ref a) S4 hN hi (.inl hln) rfl (fun s5 S5 => ?_) (.inr hln)
    refine wpAny_mono ((hsu a oe4 cls d (X.pn ++ pins) hz4 ⟨_, hd4⟩).run [] s5 _ H' _ S5 (hyes a na)) (fun f s6 hsp => ?_) (fun _ _ z => False.elim z)
    cases f with
    | next =>
      obtain ⟨σ6, H6, S6, q6⟩ := hsp
      obtain ⟨g1, g2, _⟩ := S6.pin (a, oe4) (List.mem_append_left _ List.mem_cons_self)
      have K6 := Mad.Inv.keepX (S6.unsuite ok) g1 hz4 hd4 g2 n0 nL npn
      exact gone_ok K6 hN hi hln fun s7 J7 => ⟨_, _, J7, q6⟩
    | brk =>
      obtain ⟨_, _, _, q6⟩ := hsp
      exact False.elim q6
    | cont =>
      obtain ⟨_, _, _, q6⟩ := hsp
      exact False.elim q6
    | ret u =>
      obtain ⟨_, _, _, _, _, q6⟩ := hsp
      exact False.elim q6
  cases f with
  | next =>
    obtain ⟨σ', H', J', q⟩ := hsp
    exact wpAny_execs_nil ⟨σ', H', J'.ofTry ok, q⟩
  | brk =>
    obtain ⟨σ', H', J', q⟩ := hsp
    exact ⟨σ', H', J'.ofTry ok, q⟩
  | cont =>
    obtain ⟨σ', H', J', q⟩ := hsp
    exact ⟨σ', H', J'.ofTry ok, q⟩
  | ret u =>
    obtain ⟨v, σ', H', J', r, q⟩ := hsp
    exact ⟨v, σ', H', J'.ofTry ok, r, q⟩
end

/-! ### the kept exception's field, its class -/
def tKeptF (C : Addr) (f : Str) (te : TE) : TE := fun σ H Q => te σ H fun x H1 => ∃ (a d : Addr) (fs : List (Str × V)) (v : V), x = .ref a ∧ H1 a = some (KeptX (.ref C) (some d) a) ∧ H1 d = some (.xd fs) ∧ fs.lookup f = some v ∧ Q v H1
theorem kept_at {X : Cx} {pins : List (Addr × Obj)} {σ : L2.St} {H : Hp} {s : Shared} {a C d : Addr} {fs : List (Str × V)} (I : Inv X pins σ H s) (ha : H a = some (KeptX (.ref C) (some d) a)) (hd : H d = some (.xd fs)) :
    ∃ (oe od : Obj) (mA : Str → Option Value), PySem.W.InstAt s.heap a oe C (some od) ∧ (∀ f, RelO (fs.lookup f) (mA f)) ∧ ∀ name, PySem.W.lookIn name od = some (mA name) := by
  obtain ⟨⟨oe, vs, h1, h2, h3⟩, _, _⟩ := (show ObjOk X.prog X.w H s.heap a (.ext fun h => ∃ (oe : Obj) (vs : Array Value), h.get? a = some oe ∧ Zc (.ref C) (some d) oe ∧ oe.data = .fields vs) from I.hok a _ ha)
  obtain ⟨mA, hns, hr⟩ := (show ObjOk X.prog X.w H s.heap d (.xd fs) from I.hok d _ hd)
  obtain ⟨od, ho, hl⟩ := lookIn_ns hns
  exact ⟨oe, od, mA, ⟨h1, h2.1, by unfold PySem.W.notCls; rw [h3] <;> rfl, by rw [h2.2]; exact ho⟩, hr, hl⟩
theorem pe_keptF {X : Cx} {C : Addr} {e : Expr} {te : TE} {pos : Pos} {f : Str} (T : XfC X.K C) (hno : PySem.W.findIn X.K (.ref C) f = some none) (he : PE X e te) (hb : attributeBase e f X.env (eval e X.env) = eval e X.env := by rfl) :
    PE X (.Attribute e f pos) (tKeptF C f te) := by
  refine ⟨fun pins s σ H Q I h => ?_⟩
  refine attr_of hb (thn (he.run pins s σ H _ I h) fun u s1 hh => ?_)
  obtain ⟨x, H1, I1, rx, a, d, fs, v, ex, ea, ed, l, q⟩ := hh
  subst ex
  obtain rfl : u = Value.ref a := rx
  obtain ⟨oe, od, mA, J, hr, hl⟩ := kept_at I1 ea ed
  obtain ⟨u, hu, ru⟩ := RelO.some_of (v := v) (o := mA f) (by rw [← l]; exact hr f)
  exact HandSPX.exc_get I1.kIn J T.ga T.gg T.exC (PySem.W.findObj_own T.hdC hno rfl (by rw [hl, hu])) (handed_of ru) ⟨v, H1, I1.tok _, ru, q⟩
/-- isinstance(e, C), e a kept exception of just that class -/
theorem call_isKept {X : Cx} {C : Addr} (T : ExcC X.K C) : CallR X (.builtin "isinstance") (fun xs H Q => ∃ (a d : Addr) (fs : List (Str × V)), xs = [.ref a, .ref C] ∧ H a = some (KeptX (.ref C) (some d) a) ∧ H d = some (.xd fs) ∧ Q (.bl true) H) := by
  intro pins s σ H xs us Q I r h
  obtain ⟨a, d, fs, rfl, ea, ed, q⟩ := h
  cases r with
  | cons rx rr =>
    cases rr with
    | cons rt rr =>
      cases rr
      cases rx
      cases rt
      obtain ⟨oe, od, mA, J, _, _⟩ := kept_at I ea ed
      have hcl : (PySem.W.clsIn X.K C).isSome = true := by
        obtain ⟨cd, hc, _⟩ := PySem.W.any_some T.hd
        rw [hc] <;> rfl
      have ke : PySem.W.kitOne X.K (.ref C) (.ref C) = some true := by
        unfold PySem.W.kitOne
        rw [if_pos (beq_self_eq_true _)]
      exact PySem.W.kia_one (PySem.W.kitx_exc hcl T.hg T.hk T.hs T.ha T.hn T.ht T.hm) I.kIn J ke (fun z => nomatch z) fun tk => ⟨.bl true, H, I.tok tk, rfl, q⟩
end Mad

set_option Elab.async false
set_option linter.all false
set_option maxRecDepth 100000
set_option maxHeartbeats 4000000
/-! The text by places; a def and its promise in one word; calls. -/
namespace Mad
open PySem PySem.Spec PyProof.Rows L2

/-! ### the text by places -/
def top (i : Nat) : Stmt := PySem.Challenge.pw_madeagain_k76_replayed.main.body.getD i (.Pass ⟨0, 0, 0, 0⟩)
/-- a def: where it stands behind the top, its name, its qualified name, its text -/
structure Tx where
  at_ : Str × Option Str
  name : Str
  qual : Str
  st : Stmt
abbrev Tx.dd (t : Tx) : He.DefD := ⟨t.at_, t.name, t.qual, defArgs t.st, defBody t.st, defScope t.st, [], []⟩
abbrev Tx.ad (t : Tx) (K : PySem.W.Frag) : Addr := He.fAd K t.at_
/-- it stands -/
def Df (K : PySem.W.Frag) (t : Tx) : Prop := ∃ fd, FunD K t.name t.qual (defArgs t.st) (defBody t.st) (defScope t.st) [] [] (t.ad K) fd
abbrev xNoNameInit : Tx := ⟨("NoName", some "__init__"), "__init__", "NoName.__init__", inClass (top 2) 0⟩
abbrev xIsWhole : Tx := ⟨("is_whole_recipes", none), "is_whole", "is_whole", top 15⟩
abbrev xIsName : Tx := ⟨("is_name", none), "is_name", "is_name", top 17⟩
abbrev xAreNames : Tx := ⟨("are_names", none), "are_names", "are_names", top 18⟩
abbrev xWithin : Tx := ⟨("within", none), "within", "within", top 19⟩
abbrev xIsRecipe : Tx := ⟨("is_recipe", none), "is_recipe", "is_recipe", top 20⟩
abbrev xSBInit : Tx := ⟨("StoreBuild", some "__init__"), "__init__", "StoreBuild.__init__", inClass (top 29) 0⟩
abbrev xSettle : Tx := ⟨("StoreBuild", some "settle"), "settle", "StoreBuild.settle", inClass (top 29) 1⟩
abbrev xStoreInit : Tx := ⟨("Store", some "__init__"), "__init__", "Store.__init__", inClass (top 30) 0⟩
abbrev xRecords : Tx := ⟨("Store", some "records"), "records", "Store.records", inClass (top 30) 3⟩
abbrev xBuild : Tx := ⟨("Store", some "build"), "build", "Store.build", inClass (top 30) 6⟩
abbrev xHouseBy : Tx := ⟨("house_by", none), "house_by", "house_by", top 36⟩
abbrev xNeedNames : Tx := ⟨("need_names", none), "need_names", "need_names", top 37⟩
abbrev xHInit : Tx := ⟨("History", some "__init__"), "__init__", "History.__init__", inClass (top 38) 0⟩
abbrev xAdd : Tx := ⟨("History", some "add"), "add", "History.add", inClass (top 38) 1⟩
abbrev xGive : Tx := ⟨("History", some "give"), "give", "History.give", inClass (top 38) 2⟩
abbrev xCook : Tx := ⟨("History", some "cook"), "cook", "History.cook", inClass (top 38) 3⟩
abbrev xDrop : Tx := ⟨("History", some "drop"), "drop", "History.drop", inClass (top 38) 4⟩
abbrev xUndo : Tx := ⟨("History", some "undo"), "undo", "History.undo", inClass (top 38) 5⟩
abbrev xRedo : Tx := ⟨("History", some "redo"), "redo", "History.redo", inClass (top 38) 6⟩
abbrev xHouse : Tx := ⟨("History", some "house"), "house", "History.house", inClass (top 38) 7⟩
abbrev xDeeds : Tx := ⟨("History", some "deeds"), "deeds", "History.deeds", inClass (top 38) 8⟩
abbrev xWish : Tx := ⟨("History", some "wish"), "wish", "History.wish", inClass (top 38) 9⟩
abbrev xMade : Tx := ⟨("History", some "made"), "made", "History.made", inClass (top 38) 10⟩
abbrev xKept : Tx := ⟨("History", some "kept"), "kept", "History.kept", inClass (top 38) 11⟩
abbrev xStoreRecords : Tx := ⟨("History", some "store_records"), "store_records", "History.store_records", inClass (top 38) 12⟩
abbrev xDoDeed : Tx := ⟨("do_deed", none), "do_deed", "do_deed", top 39⟩
abbrev xReplayed : Tx := ⟨("replayed", none), "replayed", "replayed", top 40⟩
abbrev xNth : Tx := ⟨("_law_nth", none), "_law_nth", "_law_nth", top 42⟩
abbrev xPool : Tx := ⟨("_law_pool", none), "_law_pool", "_law_pool", top 43⟩
abbrev xTake : Tx := ⟨("_law_take", none), "_law_take", "_law_take", top 44⟩
abbrev xRecipe : Tx := ⟨("_law_recipe", none), "_law_recipe", "_law_recipe", top 45⟩
abbrev xLHouse : Tx := ⟨("_law_house", none), "_law_house", "_law_house", top 46⟩
abbrev xNames : Tx := ⟨("_law_names", none), "_law_names", "_law_names", top 47⟩
abbrev xDeed : Tx := ⟨("_law_deed", none), "_law_deed", "_law_deed", top 48⟩
abbrev xLacks : Tx := ⟨("_law_lacks", none), "_law_lacks", "_law_lacks", top 49⟩
abbrev xMadeOf : Tx := ⟨("_law_made_of", none), "_law_made_of", "_law_made_of", top 50⟩
abbrev xAlike : Tx := ⟨("_law_alike", none), "_law_alike", "_law_alike", top 51⟩
abbrev xEnds : Tx := ⟨("_law_ends", none), "_law_ends", "_law_ends", top 52⟩
abbrev xBackOn : Tx := ⟨("_law_back_and_on", none), "_law_back_and_on", "_law_back_and_on", top 53⟩
abbrev xLaw : Tx := ⟨("law", none), "law", "law", top 54⟩
/-- the classes' addresses -/
abbrev cNN (K : PySem.W.Frag) : Addr := He.ga K "NoName"
abbrev cND (K : PySem.W.Frag) : Addr := He.ga K "NoDeed"
abbrev cME (K : PySem.W.Frag) : Addr := He.ga K "MadeError"
abbrev cSB (K : PySem.W.Frag) : Addr := He.ga K "StoreBuild"
abbrev cSt (K : PySem.W.Frag) : Addr := He.ga K "Store"
abbrev cHi (K : PySem.W.Frag) : Addr := He.ga K "History"

/-! ### a def and its promise -/
structure Ok (P : Program) (w : World) (K : PySem.W.Frag) (mg : Str → Option Value) (base : Heap) (CX : CXT) (k : Nat) (t : Tx) (ps : List Str) (sp : Sp) : Prop where
  ex : ∃ fd, FnOk P w K mg base CX k (t.ad K) fd ps sp ∧ Binds K fd ps [] ∧ PySem.W.keepIn K (.ref (t.ad K)) = true
section
variable {P : Program} {w : World} {K : PySem.W.Frag} {mg : Str → Option Value} {base : Heap}
/-- from the body: a def that lets nothing out -/
theorem ok_of {t : Tx} {N ps : List Str} {k : Nat} {sp : Sp} (D : Df K t) (S : FnScope N ps (defScope t.st)) (len : ∀ vs H Q E, sp vs H Q E → vs.length = ps.length)
    (hb : ∀ (kV doc pm : Value) (an : Option Addr) (cdv ct : Value) (us : List Value), us.length = ps.length → bindArgs (PySem.W.fnOf t.name t.qual (defArgs t.st) (defBody t.st) (defScope t.st) .none kV doc pm an cdv ct) ⟨us, []⟩ = pure (ps.zip us))
    (hbody : ∀ (f : Addr) (cdv : Value) (A : Around) (outer : List Env) (s : Shared) (H : Hp) (vs : List V) (Q : VK) (E : XK), Room k (A.deeper (envOfC t.qual (defScope t.st) s.heap.objs.size f cdv)) → sp vs H Q E →
      ∃ tt, PSs (cxOf CX0 P w K mg base N t.qual (defScope t.st) f cdv A outer s H E).nox (defBody t.st) tt ∧ tt { nx := fun _ H' => Q .non H', rt := Q } (start N vs) H) : Ok P w K mg base CX0 (k + 1) t ps sp := by
  obtain ⟨fd, F⟩ := D
  refine ⟨fd, F.ok S len fun cdv A outer s H vs Q E hr hsp => ?_, F.bindsN hb, F.kp⟩
  obtain ⟨tt, h, q⟩ := hbody _ cdv A outer s H vs Q E hr hsp
  exact ⟨tt, h.nox, q⟩
/-- .. a def that may raise -/
theorem ok_ofX {t : Tx} {N ps : List Str} {k : Nat} {sp : Sp} (D : Df K t) (S : FnScope N ps (defScope t.st)) (len : ∀ vs H Q E, sp vs H Q E → vs.length = ps.length)
    (hb : ∀ (kV doc pm : Value) (an : Option Addr) (cdv ct : Value) (us : List Value), us.length = ps.length → bindArgs (PySem.W.fnOf t.name t.qual (defArgs t.st) (defBody t.st) (defScope t.st) .none kV doc pm an cdv ct) ⟨us, []⟩ = pure (ps.zip us))
    (hbody : ∀ (f : Addr) (cdv : Value) (A : Around) (outer : List Env) (s : Shared) (H : Hp) (vs : List V) (Q : VK) (E : XK), Room k (A.deeper (envOfC t.qual (defScope t.st) s.heap.objs.size f cdv)) → sp vs H Q E →
      ∃ tt, PSs (cxOf (L2.CX P w) P w K mg base N t.qual (defScope t.st) f cdv A outer s H E) (defBody t.st) tt ∧ tt { nx := fun _ H' => Q .non H', rt := Q } (start N vs) H) : Ok P w K mg base (L2.CX P w) (k + 1) t ps sp := by
  obtain ⟨fd, F⟩ := D
  exact ⟨fd, F.ok S len fun cdv A outer s H vs Q E hr hsp => hbody _ cdv A outer s H vs Q E hr hsp, F.bindsN hb, F.kp⟩
theorem Ok.mono {CX : CXT} {j k : Nat} {t : Tx} {ps : List Str} {sp : Sp} (G : Ok P w K mg base CX j t ps sp) (h : j ≤ k) : Ok P w K mg base CX k t ps sp := by
  obtain ⟨fd, F, b, kp⟩ := G.ex
  exact ⟨fd, F.mono h, b, kp⟩
end
section
variable {X : Cx} {CX : CXT} {k : Nat} {t : Tx} {C : Addr} {ps : List Str} {sp : Sp} {E : XK} {x m : Str} {p pos apos : Pos} {e o : Expr} {es : List Expr} {ta : TE} {tr : TA}
/-- f(e, ..) -/
theorem pe_cl (G : Ok X.prog X.w X.K X.mg X.base CX k t ps sp) (hr : Room k X.A) (hm : X.mg x = some (.ref (t.ad X.K))) (hx : Passes CX X E) (ha : PA X (e :: es) tr) (hg : Gl X x := by rfl) (hdb : (x == ("__debug__" : Str)) = false := by decide)
    (he : starEach (e :: es) X.env = (false, eval e X.env) :: starEach es X.env := by rfl) (hpl : (backTo pos (starEach es X.env)).any (·.1) = false := by rfl) : PE X (.Call (.Name x p) (e :: es) [] pos) (tCall sp [] E tr) := by
  obtain ⟨fd, F, b, kp⟩ := G.ex
  exact pe_call F hr hg hm kp b .nil hx ha hdb he hpl
/-- o.m(e, ..) -/
theorem pe_mt {pl : Sem Bool} (he : PE X o ta) (c : Cls X.K C) (hm : Meth X.K C m (t.ad X.K)) (G : Ok X.prog X.w X.K X.mg X.base CX k t ps sp) (hr : Room k X.A) (hx : Passes CX X E) (ha : PA X (e :: es) tr)
    (hst : starEach (e :: es) X.env = (false, eval e X.env) :: starEach es X.env := by rfl) (hpl : (backTo pos (starEach es X.env)).any (·.1) = false := by rfl)
    (ht : eval (.Call (.Attribute o m apos) (e :: es) [] pos) X.env = (do
      let ov ← eval o X.env
      standAt apos.atName
      let (f, first) ← holding [ov] (getMethod ov m pl)
      callWith pos f first (backTo pos (starEach (e :: es) X.env)) (backToKw pos (keywordEach [] X.env))) := by rfl) : PE X (.Call (.Attribute o m apos) (e :: es) [] pos) (tMeth C m sp [] E ta tr) := by
  obtain ⟨fd, F, b, kp⟩ := G.ex
  exact pe_meth he c hm F hr b .nil hx ha hst hpl ht
/-- o.m() -/
theorem pe_mt0 {pl : Sem Bool} (he : PE X o ta) (c : Cls X.K C) (hm : Meth X.K C m (t.ad X.K)) (G : Ok X.prog X.w X.K X.mg X.base CX k t ps sp) (hr : Room k X.A) (hx : Passes CX X E)
    (ht : eval (.Call (.Attribute o m apos) [] [] pos) X.env = (do
      let ov ← eval o X.env
      standAt apos.atName
      let (f, first) ← holding [ov] (getMethod ov m pl)
      callWith pos f first (backTo pos (starEach [] X.env)) (backToKw pos (keywordEach [] X.env))) := by rfl) : PE X (.Call (.Attribute o m apos) [] [] pos) (tMeth C m sp [] E ta tNil) := by
  obtain ⟨fd, F, b, kp⟩ := G.ex
  exact pe_meth0 he c hm F hr b .nil hx ht
/-- C(e, ..) -/
theorem pe_mk (M : Mk X.K C (t.ad X.K)) (G : Ok X.prog X.w X.K X.mg X.base CX k t ps sp) (hr : Room (k + 1) X.A) (hm : X.mg x = some (.ref C)) (hx : Passes CX X E) (ha : PA X (e :: es) tr) (hg : Gl X x := by rfl)
    (hdb : (x == ("__debug__" : Str)) = false := by decide) (he : starEach (e :: es) X.env = (false, eval e X.env) :: starEach es X.env := by rfl) (hpl : (backTo pos (starEach es X.env)).any (·.1) = false := by rfl) :
    PE X (.Call (.Name x p) (e :: es) [] pos) (tMake C sp [] E tr) := by
  obtain ⟨fd, F, b, kp⟩ := G.ex
  exact pe_make M F hr hg hm b .nil hx ha hdb he hpl
/-- C() -/
theorem pe_mk0 (M : Mk X.K C (t.ad X.K)) (G : Ok X.prog X.w X.K X.mg X.base CX k t ps sp) (hr : Room (k + 1) X.A) (hm : X.mg x = some (.ref C)) (hx : Passes CX X E) (hg : Gl X x := by rfl)
    (hdb : (x == ("__debug__" : Str)) = false := by decide) : PE X (.Call (.Name x p) [] [] pos) (tMake C sp [] E tNil) := by
  obtain ⟨fd, F, b, kp⟩ := G.ex
  exact pe_make0 M F hr hg hm b .nil hx hdb
/-- f(e, ..) within a try: what it lets out is wished for at the slots as they stand -/
theorem pe_clS {W : WX} (G : Ok X.prog X.w X.K X.mg X.base (L2.CX X.prog X.w) k t ps sp) (hr : Room k X.A) (hm : X.mg x = some (.ref (t.ad X.K))) (tk : Takes X W) (ha : PA X (e :: es) tr) (hg : Gl X x := by rfl) (hdb : (x == ("__debug__" : Str)) = false := by decide)
    (he : starEach (e :: es) X.env = (false, eval e X.env) :: starEach es X.env := by rfl) (hpl : (backTo pos (starEach es X.env)).any (·.1) = false := by rfl) : PE X (.Call (.Name x p) (e :: es) [] pos) (tCallS sp (WE W) tr) := by
  obtain ⟨fd, F, b, kp⟩ := G.ex
  exact pe_callS F hr hg hm kp b (fun σ => passAt tk σ) ha hdb he hpl
/-- o.m() within a try -/
def tMethS0 (C : Addr) (m : Str) (sp : Sp) (W : WX) (ta : TE) : TE := fun σ H Q => ta σ H fun x H1 => ∃ a dx fs, x = .ref a ∧ H1 a = some (.ins C dx fs) ∧ fs.lookup m = none ∧ sp [x] H1 Q (WE W σ)
theorem pe_mtS0 {W : WX} {pl : Sem Bool} (he : PE X o ta) (c : Cls X.K C) (hm : Meth X.K C m (t.ad X.K)) (G : Ok X.prog X.w X.K X.mg X.base (L2.CX X.prog X.w) k t ps sp) (hr : Room k X.A) (tk : Takes X W)
    (ht : eval (.Call (.Attribute o m apos) [] [] pos) X.env = (do
      let ov ← eval o X.env
      standAt apos.atName
      let (f, first) ← holding [ov] (getMethod ov m pl)
      callWith pos f first (backTo pos (starEach [] X.env)) (backToKw pos (keywordEach [] X.env))) := by rfl) : PE X (.Call (.Attribute o m apos) [] [] pos) (tMethS0 C m sp W ta) := by
  obtain ⟨fd, F, b, kp⟩ := G.ex
  refine ⟨fun pins s σ H Q I h => ?_⟩
  refine PySem.W.methodCall_KW (pl := pl) (thn (he.run pins s σ H _ I h) fun u s1 q1 => ?_) ht
  obtain ⟨y, H1, I1, rx, a, dx, fs, ey, ea, l, q⟩ := q1
  subst ey
  obtain rfl : u = Value.ref a := rx
  refine getmeth_ok I1 ea c hm l ?_
  exact PySem.W.callWith_K0 (first := [.ref a]) I1.kIn hm.kp (run_fnS (us := [.ref a]) (vs := [.ref a]) (E := WE W) F hr b (passAt tk σ) I1 (.cons rfl .nil) q)
end

/-! ### heaps -/
/-- tuples stay -/
def Tups (H H' : Hp) : Prop := ∀ a xs, H a = some (.tup xs) → H' a = some (.tup xs)
theorem Same.tups {H H' : Hp} (s : Same H H') : Tups H H' := fun a _ e => s a _ e
theorem Tups.refl (H : Hp) : Tups H H := fun _ _ e => e
theorem Tups.trans {H H1 H2 : Hp} (a : Tups H H1) (b : Tups H1 H2) : Tups H H2 := fun c xs e => b c xs (a c xs e)
/-- a new object -/
theorem same_new {H : Hp} {p : Addr} {o : HO} (np : H p = none) : Same H (upd H p o) := fun b u e => by rw [upd_ne (ne_of_none e np)]; exact e
/-- an object is written that the elder heap does not track -/
theorem Same.put {H H' : Hp} {p : Addr} {o : HO} (s : Same H H') (np : H p = none) : Same H (upd H' p o) := fun b u e => by rw [upd_ne (ne_of_none e np)]; exact s b u e
theorem same_made {H : Hp} {x dx C : Addr} (nx : H x = none) (nd : H dx = none) : Same H (upd (upd H dx (.own x)) x (.ins C dx [])) := fun b o e => by
  rw [upd_ne (ne_of_none e nx), upd_ne (ne_of_none e nd)]
  exact e
end Mad

set_option Elab.async false
set_option linter.all false
set_option maxRecDepth 100000
set_option maxHeartbeats 4000000
/-! The data, the mathematics, what is asked of the top. -/
namespace Mad
open PySem PySem.Spec PyProof.Rows L2

/-! ### names -/
def letters : Str := "abcdefghijklmnopqrstuvwxyz"
structure OkName (z : Str) : Prop where
  lo : 1 ≤ z.length
  hi : z.length ≤ 8
  mem : ∀ c ∈ z.cps.toList, c ∈ letters.cps.toList
def okB (z : Str) : Bool := decide (1 ≤ z.length) && (decide (z.length ≤ 8) && z.cps.toList.all fun c => decide (c ∈ letters.cps.toList))
theorem okName_of {z : Str} (h : okB z = true) : OkName z := by
  obtain ⟨h1, h⟩ := Bool.and_eq_true_iff.mp h
  obtain ⟨h2, h3⟩ := Bool.and_eq_true_iff.mp h
  exact ⟨of_decide_eq_true h1, of_decide_eq_true h2, fun c hc => of_decide_eq_true (List.all_eq_true.mp h3 c hc)⟩

/-! ### recipes: a tree of tuples at a, of a height up to h, of n tuples at most -/
def twos : List Str := ["plus", "minus", "times", "most"]
inductive RcAt (H : Hp) : Nat → Nat → Addr → Prop
  | num {h n : Nat} {a : Addr} {i : Int} : H a = some (.tup [.str "number", .int i]) → RcAt H (h + 1) (n + 1) a
  | read {h n : Nat} {a : Addr} {z : Str} : OkName z → H a = some (.tup [.str "read", .str z]) → RcAt H (h + 1) (n + 1) a
  | two {h n m l : Nat} {a p q : Addr} {k : Str} : k ∈ twos → H a = some (.tup [.str k, .ref p, .ref q]) → RcAt H h n p → RcAt H h m q → n + m ≤ l → RcAt H (h + 1) (l + 1) a
  | pick {h n m o l : Nat} {a p q r : Addr} : H a = some (.tup [.str "pick", .ref p, .ref q, .ref r]) → RcAt H h n p → RcAt H h m q → RcAt H h o r → n + m + o ≤ l → RcAt H (h + 1) (l + 1) a
  | choose {h n l : Nat} {a p t : Addr} {zs : List Str} : H a = some (.tup [.str "choose", .ref p, .ref t]) → RcAt H h n p → H t = some (.tup (zs.map .str)) → 1 ≤ zs.length → zs.length ≤ 9 → (∀ z ∈ zs, OkName z) → n ≤ l → RcAt H (h + 1) (l + 1) a
theorem RcAt.tups {H H' : Hp} (s : Tups H H') {h n : Nat} {a : Addr} (r : RcAt H h n a) : RcAt H' h n a := by
  induction r with
  | num e => exact .num (s _ _ e)
  | read z e => exact .read z (s _ _ e)
  | two k e _ _ l i1 i2 => exact .two k (s _ _ e) i1 i2 l
  | pick e _ _ _ l i1 i2 i3 => exact .pick (s _ _ e) i1 i2 i3 l
  | choose e _ t l1 l2 z l i1 => exact .choose (s _ _ e) i1 (s _ _ t) l1 l2 z l
theorem RcAt.pos {H : Hp} {h n : Nat} {a : Addr} (r : RcAt H h n a) : 1 ≤ n ∧ 1 ≤ h := by cases r <;> exact ⟨Nat.succ_le_succ (Nat.zero_le _), Nat.succ_le_succ (Nat.zero_le _)⟩
theorem RcAt.there {H : Hp} {h n : Nat} {a : Addr} (r : RcAt H h n a) : ∃ xs, H a = some (.tup xs) := by cases r <;> exact ⟨_, by assumption⟩
/-- parts in a row -/
inductive Parts (H : Hp) (h : Nat) : Nat → List Addr → Prop
  | nil {n : Nat} : Parts H h n []
  | cons {n m l : Nat} {a : Addr} {r : List Addr} : RcAt H h n a → Parts H h m r → n + m ≤ l → Parts H h l (a :: r)
theorem Parts.tups {H H' : Hp} (s : Tups H H') {h n : Nat} {as : List Addr} (r : Parts H h n as) : Parts H' h n as := by
  induction r with
  | nil => exact .nil
  | cons a _ l i => exact .cons (a.tups s) i l

/-! ### deeds -/
inductive Deed where
  | give (z : Str) (i : Int)
  | cook (z : Str) (r : Addr)
  | drop (z : Str)
def Deed.nm : Deed → Str
  | .give z _ => z
  | .cook z _ => z
  | .drop z => z
/-- the deed's tuple -/
def Deed.vs : Deed → List V
  | .give z i => [.str "give", .str z, .int i]
  | .cook z r => [.str "cook", .str z, .ref r]
  | .drop z => [.str "drop", .str z]
/-- what more is true of it -/
def Deed.Ok (H : Hp) : Deed → Prop
  | .cook _ r => RcAt H 3 13 r
  | _ => True
structure DeedAt (H : Hp) (a : Addr) (d : Deed) : Prop where
  tup : H a = some (.tup d.vs)
  name : OkName d.nm
  more : d.Ok H
theorem DeedAt.tups {H H' : Hp} (s : Tups H H') {a : Addr} {d : Deed} (h : DeedAt H a d) : DeedAt H' a d := by
  refine ⟨s _ _ h.tup, h.name, ?_⟩
  cases d with
  | cook z r => exact RcAt.tups s (show RcAt H 3 13 r from h.more)
  | give z i => trivial
  | drop z => trivial
abbrev DeedsAt (H : Hp) (as : List Addr) (ds : List Deed) : Prop := Paired (DeedAt H) as ds
theorem pair_map {α β : Type} {F G : α → β → Prop} {as : List α} {bs : List β} (h : Paired F as bs) (k : ∀ a b, F a b → G a b) : Paired G as bs := by
  induction h with
  | nil => exact .nil
  | cons a _ i => exact .cons (k _ _ a) i
theorem DeedsAt.tups {H H' : Hp} (s : Tups H H') {as : List Addr} {ds : List Deed} (h : DeedsAt H as ds) : DeedsAt H' as ds := pair_map h fun _ _ k => k.tups s
theorem pair_get {α β : Type} {F : α → β → Prop} {as : List α} {bs : List β} (h : Paired F as bs) : ∀ {i : Nat} {a : α}, as[i]? = some a → ∃ b, bs[i]? = some b ∧ F a b := by
  induction h with
  | nil => intro i a e; simp at e
  | cons r _ ih =>
    intro i a e
    cases i with
    | zero => simp at e; subst e; exact ⟨_, rfl, r⟩
    | succ i => simpa using ih (by simpa using e)
theorem pair_take {α β : Type} {F : α → β → Prop} {as : List α} {bs : List β} (h : Paired F as bs) : ∀ n : Nat, Paired F (as.take n) (bs.take n) := by
  induction h with
  | nil => intro n; simp; exact .nil
  | cons r _ ih =>
    intro n
    cases n with
    | zero => exact .nil
    | succ n => exact .cons r (ih n)
theorem pair_drop {α β : Type} {F : α → β → Prop} {as : List α} {bs : List β} (h : Paired F as bs) : ∀ n : Nat, Paired F (as.drop n) (bs.drop n) := by
  induction h with
  | nil => intro n; simp; exact .nil
  | cons r t ih =>
    intro n
    cases n with
    | zero => exact .cons r t
    | succ n => exact ih n
theorem pair_app {α β : Type} {F : α → β → Prop} {as cs : List α} {bs ds : List β} (h : Paired F as bs) (k : Paired F cs ds) : Paired F (as ++ cs) (bs ++ ds) := by
  induction h with
  | nil => exact k
  | cons r _ ih => exact .cons r ih
theorem pair_rev {α β : Type} {F : α → β → Prop} {as : List α} {bs : List β} (h : Paired F as bs) : Paired F as.reverse bs.reverse := by
  induction h with
  | nil => exact .nil
  | cons r _ ih => rw [List.reverse_cons, List.reverse_cons]; exact pair_app ih (.cons r .nil)
theorem pair_len {α β : Type} {F : α → β → Prop} {as : List α} {bs : List β} (h : Paired F as bs) : as.length = bs.length := by
  induction h with
  | nil => rfl
  | cons _ _ ih => simp [ih]
theorem vs_flat (d : Deed) : ∀ x ∈ d.vs, flatB x = true ∨ ∃ a, x = .ref a := by
  intro x hx
  cases d with
  | give z i =>
    rcases List.mem_cons.mp hx with rfl | hx
    · exact .inl rfl
    · rcases List.mem_cons.mp hx with rfl | hx
      · exact .inl rfl
      · rcases List.mem_cons.mp hx with rfl | hx
        · exact .inl rfl
        · cases hx
  | cook z r =>
    rcases List.mem_cons.mp hx with rfl | hx
    · exact .inl rfl
    · rcases List.mem_cons.mp hx with rfl | hx
      · exact .inl rfl
      · rcases List.mem_cons.mp hx with rfl | hx
        · exact .inr ⟨_, rfl⟩
        · cases hx
  | drop z =>
    rcases List.mem_cons.mp hx with rfl | hx
    · exact .inl rfl
    · rcases List.mem_cons.mp hx with rfl | hx
      · exact .inl rfl
      · cases hx
/-- two lists of the same deeds are alike -/
theorem deeds_same {K : PySem.W.Frag} {H : Hp} : ∀ {ds : List Deed} {as bs : List Addr}, DeedsAt H as ds → DeedsAt H bs ds → Paired (Eq2 K H) (as.map V.ref) (bs.map V.ref)
  | [], _, _, .nil, .nil => .nil
  | d :: ds, a :: as, b :: bs, .cons h1 t1, .cons h2 t2 => .cons (.inr ⟨a, b, d.vs, d.vs, rfl, rfl, SqT.of h1.tup, SqT.of h2.tup, eq1_list (vs_flat d)⟩) (deeds_same t1 t2)

/-! ### the house -/
abbrev Kvs := List (Key × V)
def step (h : Kvs × Kvs) (d : Deed) : Kvs × Kvs := match d with
  | .give z i => (putK (dropK h.1 (Sum.inr z)) (Sum.inr z) (.int i), dropK h.2 (Sum.inr z))
  | .cook z r => (dropK h.1 (Sum.inr z), putK (dropK h.2 (Sum.inr z)) (Sum.inr z) (.ref r))
  | .drop z => (dropK h.1 (Sum.inr z), dropK h.2 (Sum.inr z))
def houseL (ds : List Deed) : Kvs × Kvs := ds.foldl step ([], [])
theorem houseL_snoc (ds : List Deed) (d : Deed) : houseL (ds ++ [d]) = step (houseL ds) d := by
  unfold houseL
  rw [List.foldl_append]
  rfl
structure KvsOk (n : Nat) (k : Kvs) : Prop where
  nd : (k.map (·.1)).Nodup
  fl : ∀ p ∈ k, flatB p.2 = true ∨ ∃ a, p.2 = .ref a
  len : k.length ≤ n
theorem drop_none {k : Kvs} {z : Key} (n : (k.map (·.1)).Nodup) : valV (dropK k z) z = none := by
  cases e : valV (dropK k z) z with
  | none => rfl
  | some v =>
    have m := valV_in e
    obtain ⟨p, hp, q⟩ := List.mem_map.mp m
    have hf := (List.mem_filter.mp hp).2
    simp [q] at hf
theorem dropK_id {k : Kvs} {z : Key} (h : valV k z = none) : dropK k z = k := dropK_no (valV_not h)
theorem KvsOk.nil {n : Nat} : KvsOk n [] := ⟨List.nodup_nil, (fun _ h => nomatch h), Nat.zero_le _⟩
theorem KvsOk.drop {n : Nat} {k : Kvs} (h : KvsOk n k) (z : Key) : KvsOk n (dropK k z) := ⟨nd_dropK h.nd, fun p hp => h.fl p (dropK_mem hp), Nat.le_trans (dropK_le _ _) h.len⟩
theorem KvsOk.mono {n m : Nat} {k : Kvs} (h : KvsOk n k) (l : n ≤ m) : KvsOk m k := ⟨h.nd, h.fl, Nat.le_trans h.len l⟩
theorem KvsOk.put {n : Nat} {k : Kvs} (h : KvsOk n k) {z : Key} {v : V} (hv : flatB v = true ∨ ∃ a, v = .ref a) (hn : valV k z = none) : KvsOk (n + 1) (putK k z v) := by
  refine ⟨nd_putK v h.nd hn, fun p hp => ?_, ?_⟩
  · rw [putK_new v hn] at hp
    rcases List.mem_append.mp hp with hp | hp
    · exact h.fl p hp
    · rw [List.mem_singleton.mp hp]
      exact hv
  · exact Nat.le_trans (length_putK _ _ _) (Nat.succ_le_succ h.len)
theorem step_ok {n : Nat} {h : Kvs × Kvs} (h1 : KvsOk n h.1) (h2 : KvsOk n h.2) (d : Deed) : KvsOk (n + 1) (step h d).1 ∧ KvsOk (n + 1) (step h d).2 := by
  cases d with
  | give z i => exact ⟨(h1.drop _).put (.inl rfl) (drop_none h1.nd), (h2.drop _).mono (Nat.le_succ _)⟩
  | cook z r => exact ⟨(h1.drop _).mono (Nat.le_succ _), (h2.drop _).put (.inr ⟨_, rfl⟩) (drop_none h2.nd)⟩
  | drop z => exact ⟨(h1.drop _).mono (Nat.le_succ _), (h2.drop _).mono (Nat.le_succ _)⟩
theorem fold_ok : ∀ (ds : List Deed) {n : Nat} {h : Kvs × Kvs}, KvsOk n h.1 → KvsOk n h.2 → KvsOk (n + ds.length) (ds.foldl step h).1 ∧ KvsOk (n + ds.length) (ds.foldl step h).2
  | [], n, h, h1, h2 => ⟨h1, h2⟩
  | d :: ds, n, h, h1, h2 => by
    obtain ⟨k1, k2⟩ := step_ok h1 h2 d
    have r := fold_ok ds k1 k2
    have e : n + 1 + ds.length = n + (d :: ds).length := by rw [List.length_cons]; omega
    rw [e] at r
    exact r
theorem house_ok (ds : List Deed) : KvsOk ds.length (houseL ds).1 ∧ KvsOk ds.length (houseL ds).2 := by
  have r := fold_ok ds (n := 0) (h := ([], [])) .nil .nil
  rw [Nat.zero_add] at r
  exact r

/-! ### the first dropped name that is none -/
def lacks (ds : List Deed) : Deed → Bool
  | .drop z => (valV (houseL ds).1 (Sum.inr z)).isNone && (valV (houseL ds).2 (Sum.inr z)).isNone
  | _ => false
def lackFrom : List Deed → List Deed → Option Str
  | _, [] => none
  | pre, d :: r => if lacks pre d = true then some d.nm else lackFrom (pre ++ [d]) r
def lackL (ds : List Deed) : Option Str := lackFrom [] ds
theorem drop_at {α : Type} : ∀ {l : List α} {k : Nat} {d : α}, l[k]? = some d → l.drop k = d :: l.drop (k + 1)
  | [], k, d, h => by simp at h
  | x :: l, 0, d, h => by simp at h; subst h; rfl
  | x :: l, k + 1, d, h => drop_at (l := l) (by simpa using h)
theorem take_at {α : Type} : ∀ {l : List α} {k : Nat} {d : α}, l[k]? = some d → l.take (k + 1) = l.take k ++ [d]
  | [], k, d, h => by simp at h
  | x :: l, 0, d, h => by simp at h; subst h; rfl
  | x :: l, k + 1, d, h => congrArg (x :: ·) (take_at (l := l) (by simpa using h))
theorem lack_at {ds : List Deed} {k : Nat} {d : Deed} (h : ds[k]? = some d) : lackFrom (ds.take k) (ds.drop k) = if lacks (ds.take k) d = true then some d.nm else lackFrom (ds.take (k + 1)) (ds.drop (k + 1)) := by
  rw [drop_at h, take_at h]
  rfl
theorem lack_end (ds : List Deed) : lackFrom (ds.take ds.length) (ds.drop ds.length) = none := by
  rw [List.drop_length]
  rfl

/-! ### a history -/
def hF (ld lt ps lm lk : Addr) : List (Str × V) := [("done", .ref ld), ("taken_back", .ref lt), ("store", .ref ps), ("last_made", .ref lm), ("last_kept", .ref lk)]
/-- a store without records at ps, its list at lh -/
def sF (lh : Addr) : List (Str × V) := [("held", .ref lh)]
structure HistP (K : PySem.W.Frag) (Hb H : Hp) (p ld lt ps lh lm lk : Addr) (ds ts : List Deed) : Prop where
  ob : ∃ dx, H p = some (.ins (cHi K) dx (hF ld lt ps lm lk))
  dn : ∃ as, H ld = some (.lst (as.map V.ref)) ∧ DeedsAt H as ds
  tk : ∃ bs, H lt = some (.lst (bs.map V.ref)) ∧ DeedsAt H bs ts
  st : ∃ dx, H ps = some (.ins (cSt K) dx (sF lh))
  he : H lh = some (.lst [])
  md : H lm = some (.lst [])
  kp : H lk = some (.lst [])
  b1 : Hb p = none
  b2 : Hb ld = none
  b3 : Hb lt = none
  b4 : Hb ps = none
  b5 : Hb lh = none
  b6 : Hb lm = none
  b7 : Hb lk = none
  n1 : p ≠ ps
  n2 : ld ≠ lt
  n3 : ld ≠ lh
  n4 : ld ≠ lm
  n5 : ld ≠ lk
  n6 : lt ≠ lh
  n7 : lt ≠ lm
  n8 : lt ≠ lk
/-- a History at p with the deeds ds done, ts taken back, nothing wished for; what it holds is not tracked in Hb -/
def HistAt (K : PySem.W.Frag) (Hb H : Hp) (p : Addr) (ds ts : List Deed) : Prop := ∃ ld lt ps lh lm lk, HistP K Hb H p ld lt ps lh lm lk ds ts
theorem HistAt.same {K : PySem.W.Frag} {Hb H H' : Hp} {p : Addr} {ds ts : List Deed} (h : HistAt K Hb H p ds ts) (s : Same H H') : HistAt K Hb H' p ds ts := by
  obtain ⟨ld, lt, ps, lh, lm, lk, h⟩ := h
  obtain ⟨dx, ob⟩ := h.ob
  obtain ⟨as, d1, d2⟩ := h.dn
  obtain ⟨bs, t1, t2⟩ := h.tk
  obtain ⟨dy, st⟩ := h.st
  exact ⟨ld, lt, ps, lh, lm, lk, { h with ob := ⟨dx, s _ _ ob⟩, dn := ⟨as, s _ _ d1, d2.tups (Same.tups s)⟩, tk := ⟨bs, s _ _ t1, t2.tups (Same.tups s)⟩, st := ⟨dy, s _ _ st⟩, he := s _ _ h.he, md := s _ _ h.md, kp := s _ _ h.kp }⟩
/-- an object beside it is laid or changed -/
theorem HistAt.put {K : PySem.W.Frag} {Hb H : Hp} {p x : Addr} {o : HO} {ds ts : List Deed} (h : HistAt K Hb H p ds ts) (hx : H x = none ∨ ∃ u, Hb x = some u) (nt : ∀ xs, H x ≠ some (.tup xs)) : HistAt K (upd Hb x o) (upd H x o) p ds ts := by
  obtain ⟨ld, lt, ps, lh, lm, lk, h⟩ := h
  have ne : ∀ {b : Addr} {u : HO}, H b = some u → Hb b = none → b ≠ x := fun {b u} e n z => by
    rcases hx with k | ⟨v, k⟩
    · rw [z, k] at e
      cases e
    · rw [z, k] at n
      cases n
  have tu : Tups H (upd H x o) := fun b xs e => by
    rw [upd_ne fun z => nt xs (by rw [← z]; exact e)]
    exact e
  obtain ⟨dx, ob⟩ := h.ob
  obtain ⟨as, d1, d2⟩ := h.dn
  obtain ⟨bs, t1, t2⟩ := h.tk
  obtain ⟨dy, st⟩ := h.st
  have q : ∀ {b : Addr} {u : HO}, H b = some u → Hb b = none → upd H x o b = some u ∧ upd Hb x o b = none := fun {b u} e n => by
    rw [upd_ne (ne e n), upd_ne (ne e n)]
    exact ⟨e, n⟩
  exact ⟨ld, lt, ps, lh, lm, lk,
    ⟨⟨dx, (q ob h.b1).1⟩, ⟨as, (q d1 h.b2).1, d2.tups tu⟩, ⟨bs, (q t1 h.b3).1, t2.tups tu⟩, ⟨dy, (q st h.b4).1⟩, (q h.he h.b5).1, (q h.md h.b6).1, (q h.kp h.b7).1,
      (q ob h.b1).2, (q d1 h.b2).2, (q t1 h.b3).2, (q st h.b4).2, (q h.he h.b5).2, (q h.md h.b6).2, (q h.kp h.b7).2, h.n1, h.n2, h.n3, h.n4, h.n5, h.n6, h.n7, h.n8⟩⟩

/-- what the walk asks of the top -/
structure T (K : PySem.W.Frag) (mg : Str → Option Value) : Prop where
  z_isinstance : mg "isinstance" = none
  z_int : mg "int" = none
  z_bool : mg "bool" = none
  z_str : mg "str" = none
  z_tuple : mg "tuple" = none
  z_list : mg "list" = none
  z_len : mg "len" = none
  z_range : mg "range" = none
  z_min : mg "min" = none
  s_LETTERS : ∃ t, mg "LETTERS" = some (.str letters t)
  i_LONGEST : ∃ t, mg "LONGEST" = some (.int 8 t)
  i_DEEPEST : ∃ t, mg "DEEPEST" = some (.int 8 t)
  i_MOST : ∃ t, mg "MOST" = some (.int 100 t)
  i_MOST_NAMES : ∃ t, mg "MOST_NAMES" = some (.int 9 t)
  g_is_whole_recipes : mg "is_whole_recipes" = some (.ref (xIsWhole.ad K))
  g_is_name : mg "is_name" = some (.ref (xIsName.ad K))
  g_are_names : mg "are_names" = some (.ref (xAreNames.ad K))
  g_within : mg "within" = some (.ref (xWithin.ad K))
  g_is_recipe : mg "is_recipe" = some (.ref (xIsRecipe.ad K))
  g_house_by : mg "house_by" = some (.ref (xHouseBy.ad K))
  g_need_names : mg "need_names" = some (.ref (xNeedNames.ad K))
  g_do_deed : mg "do_deed" = some (.ref (xDoDeed.ad K))
  g_replayed : mg "replayed" = some (.ref (xReplayed.ad K))
  g_law_nth : mg "_law_nth" = some (.ref (xNth.ad K))
  g_law_pool : mg "_law_pool" = some (.ref (xPool.ad K))
  g_law_take : mg "_law_take" = some (.ref (xTake.ad K))
  g_law_recipe : mg "_law_recipe" = some (.ref (xRecipe.ad K))
  g_law_house : mg "_law_house" = some (.ref (xLHouse.ad K))
  g_law_names : mg "_law_names" = some (.ref (xNames.ad K))
  g_law_deed : mg "_law_deed" = some (.ref (xDeed.ad K))
  g_law_lacks : mg "_law_lacks" = some (.ref (xLacks.ad K))
  g_law_made_of : mg "_law_made_of" = some (.ref (xMadeOf.ad K))
  g_law_alike : mg "_law_alike" = some (.ref (xAlike.ad K))
  g_law_ends : mg "_law_ends" = some (.ref (xEnds.ad K))
  g_law_back_and_on : mg "_law_back_and_on" = some (.ref (xBackOn.ad K))
  g_NoName : mg "NoName" = some (.ref (cNN K))
  g_NoDeed : mg "NoDeed" = some (.ref (cND K))
  g_MadeError : mg "MadeError" = some (.ref (cME K))
  g_StoreBuild : mg "StoreBuild" = some (.ref (cSB K))
  g_Store : mg "Store" = some (.ref (cSt K))
  g_History : mg "History" = some (.ref (cHi K))
  g_TWOS : mg "TWOS" = some (.ref (He.ga K "TWOS"))
  c_StoreBuild : Cls K (cSB K)
  c_Store : Cls K (cSt K)
  c_History : Cls K (cHi K)
  n_History_done : NoAttr K (cHi K) "done"
  n_History_taken_back : NoAttr K (cHi K) "taken_back"
  n_History_store : NoAttr K (cHi K) "store"
  n_History_last_made : NoAttr K (cHi K) "last_made"
  n_History_last_kept : NoAttr K (cHi K) "last_kept"
  n_Store_held : NoAttr K (cSt K) "held"
  n_StoreBuild_store : NoAttr K (cSB K) "store"
  n_StoreBuild_given : NoAttr K (cSB K) "given"
  n_StoreBuild_recipes : NoAttr K (cSB K) "recipes"
  n_StoreBuild_worths : NoAttr K (cSB K) "worths"
  n_StoreBuild_worked_names : NoAttr K (cSB K) "worked_names"
  n_StoreBuild_left_names : NoAttr K (cSB K) "left_names"
  n_StoreBuild_asked_for : NoAttr K (cSB K) "asked_for"
  m_History_add : Meth K (cHi K) "add" (xAdd.ad K)
  m_History_give : Meth K (cHi K) "give" (xGive.ad K)
  m_History_cook : Meth K (cHi K) "cook" (xCook.ad K)
  m_History_drop : Meth K (cHi K) "drop" (xDrop.ad K)
  m_History_undo : Meth K (cHi K) "undo" (xUndo.ad K)
  m_History_redo : Meth K (cHi K) "redo" (xRedo.ad K)
  m_History_house : Meth K (cHi K) "house" (xHouse.ad K)
  m_History_deeds : Meth K (cHi K) "deeds" (xDeeds.ad K)
  m_History_wish : Meth K (cHi K) "wish" (xWish.ad K)
  m_History_made : Meth K (cHi K) "made" (xMade.ad K)
  m_History_kept : Meth K (cHi K) "kept" (xKept.ad K)
  m_History_store_records : Meth K (cHi K) "store_records" (xStoreRecords.ad K)
  m_Store_records : Meth K (cSt K) "records" (xRecords.ad K)
  m_Store_build : Meth K (cSt K) "build" (xBuild.ad K)
  m_StoreBuild_settle : Meth K (cSB K) "settle" (xSettle.ad K)
  k_StoreBuild : Mk K (cSB K) (xSBInit.ad K)
  k_Store : Mk K (cSt K) (xStoreInit.ad K)
  k_History : Mk K (cHi K) (xHInit.ad K)
  x_NoDeed : PySem.W.excIn K (cND K) He.veBase "ValueError.__new__" = true ∧ PySem.W.keepIn K (.ref (cND K)) = true ∧ PySem.W.subIn K (.ref (cND K)) (.type "BaseException") = some true ∧ PySem.W.typeIn K (.ref (cND K)) = some (.type "type")
  e_NoDeed : PySem.W.exmOne K (.ref (cND K)) (.ref (cND K)) = some true
  e_NoName : PySem.W.exmOne K (.ref (cNN K)) (.ref (cME K)) = some true
  t_TWOS : ∀ H : Hp, SqT K H (He.ga K "TWOS") [.str "plus", .str "minus", .str "times", .str "most"]
  o_NoName : OexC K (cNN K)
  o_init : PySem.W.findIn K (.ref (cNN K)) "__init__" = some (some (.ref (xNoNameInit.ad K)))
  o_fn : PySem.W.typeIn K (.ref (xNoNameInit.ad K)) = some (.type "function")
  o_name : PySem.W.findIn K (.ref (cNN K)) "name" = some none
  o_xf : XfC K (cNN K)
  o_is : ExcC K (cNN K)
  d_NoNameInit : Df K xNoNameInit
  d_IsWhole : Df K xIsWhole
  d_IsName : Df K xIsName
  d_AreNames : Df K xAreNames
  d_Within : Df K xWithin
  d_IsRecipe : Df K xIsRecipe
  d_SBInit : Df K xSBInit
  d_Settle : Df K xSettle
  d_StoreInit : Df K xStoreInit
  d_Records : Df K xRecords
  d_Build : Df K xBuild
  d_HouseBy : Df K xHouseBy
  d_NeedNames : Df K xNeedNames
  d_HInit : Df K xHInit
  d_Add : Df K xAdd
  d_Give : Df K xGive
  d_Cook : Df K xCook
  d_Drop : Df K xDrop
  d_Undo : Df K xUndo
  d_Redo : Df K xRedo
  d_House : Df K xHouse
  d_Deeds : Df K xDeeds
  d_Wish : Df K xWish
  d_Made : Df K xMade
  d_Kept : Df K xKept
  d_StoreRecords : Df K xStoreRecords
  d_DoDeed : Df K xDoDeed
  d_Replayed : Df K xReplayed
  d_Nth : Df K xNth
  d_Pool : Df K xPool
  d_Take : Df K xTake
  d_Recipe : Df K xRecipe
  d_LHouse : Df K xLHouse
  d_Names : Df K xNames
  d_Deed : Df K xDeed
  d_Lacks : Df K xLacks
  d_MadeOf : Df K xMadeOf
  d_Alike : Df K xAlike
  d_Ends : Df K xEnds
  d_BackOn : Df K xBackOn
  d_Law : Df K xLaw
end Mad

set_option Elab.async false
set_option linter.all false
set_option maxRecDepth 100000
set_option maxHeartbeats 4000000
/-! What is a whole number, a name, a choose's names. -/
namespace Mad
open PySem PySem.Spec PyProof.Rows L2
section
variable {P : Program} {w : World} {K : PySem.W.Frag} {mg : Str → Option Value} {base : Heap}

def spWhole : Sp := fun vs H Q _ => ∃ i : Int, vs = [.int i] ∧ Q (.bl true) H
theorem sc_IsWhole : FnScope ["thing"] ["thing"] (defScope xIsWhole.st) := ⟨rfl, rfl, rfl, by decide +kernel, rfl, by decide +kernel, by decide +kernel⟩
theorem ok_isWhole (T : T K mg) : Ok P w K mg base CX0 1 xIsWhole ["thing"] spWhole := by
  refine ok_of T.d_IsWhole sc_IsWhole (fun vs H Q E h => ?_) (fun _ _ _ _ _ _ us hl => match us, hl with | [_], _ => rfl) (fun f cdv A outer s H vs Q E hr h => ?_)
  · obtain ⟨i, rfl, _⟩ := h
    rfl
  · obtain ⟨i, rfl, k⟩ := h
    refine ⟨_, pss_one (ps_ret (pe_and (pe_callB call_isi (by rfl) T.z_isinstance (by decide +kernel) (pa_cons (pv 0) (pa_cons (pe_bltn (v := .ty "int") (by rfl) T.z_int (by decide +kernel) rfl) pa_nil)))
      (pe_one (pe_not (pe_callB call_isi (by rfl) T.z_isinstance (by decide +kernel) (pa_cons (pv 0) (pa_cons (pe_bltn (v := .ty "bool") (by rfl) T.z_bool (by decide +kernel) rfl) pa_nil))))))), ?_⟩
    refine ⟨_, rfl, _, _, _, _, true, rfl, .ty "int", .base (.int i), kit_ty (by decide +kernel), _, rfl, iteT ?_⟩
    exact ⟨_, rfl, _, _, _, _, false, rfl, .ty "bool", .base (.int i), kit_ty (by decide +kernel), _, rfl, k⟩

/-! ### comprehensions that keep nothing -/
/-- over a text: no sign is kept -/
theorem lc_text_none {x : Str} {g : TG} {tt : TT} {te : TE} {vs : List Nat} {σ : L2.St} {H1 : Hp} {D : Addr} {Qd : Hp → Prop}
    (hs : ∀ (i : Nat) (c : Nat), x.cps[i]? = some c → g (.str ⟨#[c]⟩) (wipe σ vs) (upd H1 D (.lst [])) fun σ2 H2 => wipe σ2 vs = wipe σ vs ∧ tt σ2 H2 fun b H3 => b = false ∧ H3 = upd H1 D (.lst [])) (hd : Qd (upd H1 D (.lst [])))
    (mono : ∀ v σ H (R R' : L2.St → Hp → Prop), (∀ σ2 H2, R σ2 H2 → R' σ2 H2) → g v σ H R → g v σ H R') (monoT : ∀ σ H (R R' : Bool → Hp → Prop), (∀ b H2, R b H2 → R' b H2) → tt σ H R → tt σ H R') :
    ∃ W : Nat → Nat → Hp → Prop, (∃ m, W 0 m (upd H1 D (.lst []))) ∧ ∀ i m H, W i m H →
      ((Its x).stop i H ∧ Qd H) ∨ ((Its x).go i H ∧ ∃ Nx : Hp → Prop, (∀ H', Nx H' → ∃ m', m' < m ∧ W (i + 1) m' H') ∧ ∀ v H', (Its x).yld i H v H' → g v (wipe σ vs) H' fun σ2 H2 => wipe σ2 vs = wipe σ vs ∧ tt σ2 H2 fun b H3 =>
        if b = true then te σ2 H3 fun y H4 => ∃ acc, H4 D = some (.lst acc) ∧ acc.length < sizeLine ∧ Nx (upd H4 D (.lst (acc ++ [y]))) else Nx H3) := by
  refine ⟨fun i m H => m = x.cps.size - i ∧ i ≤ x.cps.size ∧ H = upd H1 D (.lst []), ⟨_, rfl, Nat.zero_le _, rfl⟩, ?_⟩
  rintro i m H ⟨rfl, hi, rfl⟩
  by_cases hlt : i < x.cps.size
  · refine .inr ⟨hlt, fun H' => H' = upd H1 D (.lst []), fun H' e => ⟨x.cps.size - (i + 1), by omega, rfl, hlt, e⟩, fun v H' y => ?_⟩
    obtain ⟨rfl, c, hc, rfl⟩ := y
    refine mono _ _ _ _ _ (fun σ2 H2 q => ⟨q.1, monoT _ _ _ _ (fun b H3 z => ?_) q.2⟩) (hs i c hc)
    obtain ⟨rfl, rfl⟩ := z
    exact iteF rfl
  · exact .inl ⟨(by show x.cps.size ≤ i; omega), hd⟩

def spName : Sp := fun vs H Q _ => ∃ z : Str, vs = [.str z] ∧ OkName z ∧ ∀ H', Same H H' → Q (.bl true) H'
theorem sc_IsName : FnScope ["thing", "sign"] ["thing"] (defScope xIsName.st) := ⟨rfl, rfl, rfl, by decide +kernel, rfl, by decide +kernel, by decide +kernel⟩
theorem ok_isName (T : T K mg) : Ok P w K mg base CX0 1 xIsName ["thing"] spName := by
  refine ok_of T.d_IsName sc_IsName (fun vs H Q E h => ?_) (fun _ _ _ _ _ _ us hl => match us, hl with | [_], _ => rfl) (fun f cdv A outer s H vs Q E hr h => ?_)
  · obtain ⟨z, rfl, _⟩ := h
    rfl
  · obtain ⟨z, rfl, hz, k⟩ := h
    obtain ⟨tl, hl⟩ := T.s_LETTERS
    obtain ⟨tn, hn⟩ := T.i_LONGEST
    have nd := sc_IsName.nd
    have hu := hr.units
    have hz8 := hz.hi
    have hsz : z.length ≤ sizeLine := Nat.le_trans hz8 (by decide)
    refine ⟨_, pss_cons (ps_if (PW.pt (pw_or (pt_not (pt_val (pe_callB call_isi (by rfl) T.z_isinstance (by decide +kernel) (pa_cons (pv 0) (pa_cons (pe_bltn (v := .ty "str") (by rfl) T.z_str (by decide +kernel) rfl) pa_nil)))))
        (pw_or (pt_cmpR op_lt (pe_callB call_len (by rfl) T.z_len (by decide +kernel) (pa_cons (pv 0) pa_nil)) pe_int (nomark _))
          (pw_or1 (pt_cmpR op_gt (pe_callB call_len (by rfl) T.z_len (by decide +kernel) (pa_cons (pv 0) pa_nil)) (pe_glob (v := .int 8) (by rfl) hn ⟨_, rfl⟩) (nomark _))))))
        (pss_one (ps_ret pe_bl)) pss_nil)
      (pss_one (ps_ret (pe_cmpR (op_sameL hu)
        (pe_lc (own := [("sign", 1)]) (g := gName 1) (tt := tTest (tOp (fun x y H Q => ∃ (c : Nat) (z : Str), x = .str ⟨#[c]⟩ ∧ y = .str z ∧ Q (.bl (!decide (c ∈ z.cps.toList))) H) (tVar 1) (tC (.str letters)))) rfl nd (pi_str (pv 0))
          (blkOk_by (N := ["thing", "sign"]) (sc := defScope xIsName.st) (by decide +kernel))
          (fun _ _ _ _ _ => pg_name (i := 1) nd rfl (Or.inl rfl)) (fun _ _ _ _ _ => pts_one (pt_cmpR op_notIn_sign (pv 1) (pe_glob (by rfl) hl ⟨_, rfl⟩) rfl)) (fun _ _ _ _ _ => pe_no))
        (pe_lst pa_nil) (nomark _)))), ?_⟩
    refine ⟨_, rfl, _, _, _, _, true, rfl, .ty "str", .base (.str z), kit_ty (by decide +kernel), _, rfl, iteF ?_⟩
    refine ⟨_, rfl, _, _, rfl, ⟨hsz, rfl⟩, _, _, rfl, rfl, _, rfl, ?_⟩
    rw [decide_eq_false (by have := hz.lo; omega)]
    refine iteF ⟨_, rfl, _, _, rfl, ⟨hsz, rfl⟩, _, _, rfl, rfl, _, rfl, ?_⟩
    rw [decide_eq_false (by omega)]
    refine iteF ?_
    refine ⟨_, rfl, z, rfl, fun D hD => lc_text_none (fun i c hc => ?_) ?_ (fun v σ H R R' h q => h _ _ q) ?_⟩
    · refine ⟨rfl, _, rfl, c, letters, rfl, rfl, _, rfl, ?_, rfl⟩
      rw [decide_eq_true (hz.mem c (Array.mem_toList_iff.mpr (Array.mem_of_getElem? hc)))]
      rfl
    · refine ⟨(by show 0 ≤ sizeLine; exact Nat.zero_le _), fun p hp => ?_⟩
      have nDp : D ≠ p := ne_of_none upd_same hp
      exact ⟨D, p, [], [], rfl, rfl, SqL.of (by rw [upd_ne nDp, upd_same]), SqL.of upd_same, .nil, k _ ((same_new hD).trans (same_new hp))⟩
    · rintro σ H R R' h ⟨v, e1, c, zz, e2, e3, b, e4, q⟩
      exact ⟨v, e1, c, zz, e2, e3, b, e4, h _ _ q⟩
end
end Mad

set_option Elab.async false
set_option linter.all false
set_option maxRecDepth 100000
set_option maxHeartbeats 4000000
/-! A choose's names; what stands within a recipe. -/
namespace Mad
open PySem PySem.Spec PyProof.Rows L2
theorem iteN {b : Bool} {A B : Prop} (e : b = false) (h : B) : if b = true then A else B := by
  subst e
  exact iteF h
theorem iteY {b : Bool} {A B : Prop} (e : b = true) (h : A) : if b = true then A else B := by
  subst e
  exact iteT h
theorem str_no {x y : Str} (h : ¬ x = y) : decide (V.str x = V.str y) = false := decide_eq_false fun e => h (by injection e)
theorem str_yes {x : Str} : decide (V.str x = V.str x) = true := decide_eq_true rfl
theorem int_no {x y : Int} (h : ¬ x = y) : decide (V.int x = V.int y) = false := decide_eq_false fun e => h (by injection e)
theorem int_yes {x y : Int} (h : x = y) : decide (V.int x = V.int y) = true := decide_eq_true (by rw [h])
section
variable {P : Program} {w : World} {K : PySem.W.Frag} {mg : Str → Option Value} {base : Heap}

def spAreNames : Sp := fun vs H Q _ => ∃ (a : Addr) (zs : List Str), vs = [.ref a] ∧ H a = some (.tup (zs.map .str)) ∧ 1 ≤ zs.length ∧ zs.length ≤ 9 ∧ (∀ z ∈ zs, OkName z) ∧ ∀ H', Same H H' → Q (.bl true) H'
theorem sc_AreNames : FnScope ["thing", "name"] ["thing"] (defScope xAreNames.st) := ⟨rfl, rfl, rfl, by decide +kernel, rfl, by decide +kernel, by decide +kernel⟩
theorem ok_areNames (T : T K mg) : Ok P w K mg base CX0 2 xAreNames ["thing"] spAreNames := by
  refine ok_of T.d_AreNames sc_AreNames (fun vs H Q E h => ?_) (fun _ _ _ _ _ _ us hl => match us, hl with | [_], _ => rfl) (fun f cdv A outer s H vs Q E hr h => ?_)
  · obtain ⟨a, zs, rfl, _⟩ := h
    rfl
  · obtain ⟨a, zs, rfl, e, l1, l9, hz, k⟩ := h
    obtain ⟨tn, hn⟩ := T.i_MOST_NAMES
    have nd := sc_AreNames.nd
    have hu := hr.units
    have hlen : (zs.map V.str).length = zs.length := List.length_map _
    refine ⟨_, pss_cons (ps_if (PW.pt (pw_or (pt_not (pt_val (pe_callB call_isi (by rfl) T.z_isinstance (by decide +kernel) (pa_cons (pv 0) (pa_cons (pe_bltn (v := .ty "tuple") (by rfl) T.z_tuple (by decide +kernel) rfl) pa_nil)))))
        (pw_or (pt_cmpR op_lt (pe_callB call_len (by rfl) T.z_len (by decide +kernel) (pa_cons (pv 0) pa_nil)) pe_int (nomark _))
          (pw_or1 (pt_cmpR op_gt (pe_callB call_len (by rfl) T.z_len (by decide +kernel) (pa_cons (pv 0) pa_nil)) (pe_glob (v := .int 9) (by rfl) hn ⟨_, rfl⟩) (nomark _))))))
        (pss_one (ps_ret pe_bl)) pss_nil)
      (pss_one (ps_ret (pe_cmpR (op_sameL hu)
        (pe_lc (own := [("name", 1)]) (g := gName 1) (tt := tNot (tB (tCall spName [] E0 (tCons (tVar 1) tNil)))) rfl nd (pi_tup (pv 0))
          (blkOk_by (N := ["thing", "name"]) (sc := defScope xAreNames.st) (by decide +kernel))
          (fun _ _ _ _ _ => pg_name (i := 1) nd rfl (Or.inl rfl)) (fun _ _ _ _ _ => pts_one (pt_not (pt_val (pe_cl (ok_isName T) hr T.g_is_name pass0 (pa_cons (pv 1) pa_nil))))) (fun _ _ _ _ _ => pe_no))
        (pe_lst pa_nil) (nomark _)))), ?_⟩
    refine ⟨_, rfl, _, _, _, _, true, rfl, .ty "tuple", .base (.tup e), kit_ty (by decide +kernel), _, rfl, iteF ?_⟩
    refine ⟨_, rfl, _, _, rfl, .inr ⟨_, SqT.of e, rfl⟩, _, _, rfl, rfl, _, rfl, iteN (decide_eq_false (by rw [hlen]; omega)) ?_⟩
    refine ⟨_, rfl, _, _, rfl, .inr ⟨_, SqT.of e, rfl⟩, _, _, rfl, rfl, _, rfl, iteN (decide_eq_false (by rw [hlen]; omega)) ?_⟩
    refine ⟨_, rfl, a, rfl, ⟨_, SqT.of e⟩, fun D hD => lc_tup (K := K) (a := a) (xs := zs.map V.str) (fun i H' => Same (upd H D (.lst [])) H') (Same.refl _) (fun i H' _ s => SqT.of (s _ _ (same_new hD _ _ e))) ?_ ?_⟩
    · rintro i x H' hx s
      obtain ⟨z, hz', rfl⟩ : ∃ z, zs[i]? = some z ∧ V.str z = x := by
        rw [List.getElem?_map] at hx
        exact Option.map_eq_some_iff.mp hx
      refine ⟨rfl, _, rfl, z, rfl, hz z (List.mem_of_getElem? hz'), fun H2 s2 => ⟨true, rfl, iteF ?_⟩⟩
      exact s.trans s2
    · intro H' s
      refine ⟨(by show 0 ≤ sizeLine; exact Nat.zero_le _), fun p hp => ?_⟩
      have hD' := s _ _ upd_same
      have nDp : D ≠ p := ne_of_none hD' hp
      exact ⟨D, p, [], [], rfl, rfl, SqL.of (by rw [upd_ne nDp]; exact hD'), SqL.of upd_same, .nil, k _ (((same_new hD).trans s).trans (same_new hp))⟩

/-! ### what stands in a recipe's places for recipes -/
theorem RcAt.head {H : Hp} {h n : Nat} {a : Addr} (r : RcAt H h n a) : ∃ k x xs, H a = some (.tup (V.str k :: x :: xs)) := by cases r <;> exact ⟨_, _, _, by assumption⟩
theorem twos_no {k z : Str} (hk : k ∈ twos) (hz : z ∉ twos) : decide (V.str k = V.str z) = false := str_no fun e => hz (by rw [← e]; exact hk)
theorem twos_in {k : Str} (hk : k ∈ twos) : inV (.str k) [.str "plus", .str "minus", .str "times", .str "most"] = true := by
  unfold twos at hk
  rcases List.mem_cons.mp hk with rfl | hk
  · decide +kernel
  · rcases List.mem_cons.mp hk with rfl | hk
    · decide +kernel
    · rcases List.mem_cons.mp hk with rfl | hk
      · decide +kernel
      · rcases List.mem_cons.mp hk with rfl | hk
        · decide +kernel
        · cases hk
def spWithin : Sp := fun vs H Q _ => ∃ (a : Addr) (h l : Nat), vs = [.ref a] ∧ RcAt H (h + 1) (l + 1) a ∧ ∀ H' p as, Same H H' → H' p = some (.tup (as.map V.ref)) → Parts H' h l as → Q (.ref p) H'
theorem sc_Within : FnScope ["thing", "kind"] ["thing"] (defScope xWithin.st) := ⟨rfl, rfl, rfl, by decide +kernel, rfl, by decide +kernel, by decide +kernel⟩
theorem ok_within (T : T K mg) : Ok P w K mg base CX0 3 xWithin ["thing"] spWithin := by
  refine ok_of T.d_Within sc_Within (fun vs H Q E h => ?_) (fun _ _ _ _ _ _ us hl => match us, hl with | [_], _ => rfl) (fun f cdv A outer s H vs Q E hr h => ?_)
  · obtain ⟨a, h, l, rfl, _⟩ := h
    rfl
  · obtain ⟨a, h, l, rfl, R, k⟩ := h
    have nd := sc_Within.nd
    have hu := hr.units
    have hr1 : Room 1 _ := hr.mono (by decide)
    refine ⟨_, pss_cons (ps_if (PW.pt (pw_or (pt_not (pt_val (pe_callB call_isi (by rfl) T.z_isinstance (by decide +kernel) (pa_cons (pv 0) (pa_cons (pe_bltn (v := .ty "tuple") (by rfl) T.z_tuple (by decide +kernel) rfl) pa_nil)))))
        (pw_or (pt_cmpR op_lt (pe_callB call_len (by rfl) T.z_len (by decide +kernel) (pa_cons (pv 0) pa_nil)) pe_int (nomark _))
          (pw_or1 (pt_not (pt_val (pe_callB call_isi (by rfl) T.z_isinstance (by decide +kernel) (pa_cons (pe_ix ix_tup (pv 0) pe_int (fun _ _ => rfl)) (pa_cons (pe_bltn (v := .ty "str") (by rfl) T.z_str (by decide +kernel) rfl) pa_nil)))))))))
        (pss_one (ps_ret pe_non)) pss_nil)
      (pss_cons (ps_set (i := 1) nd rfl (Or.inl rfl) (pe_ix ix_tup (pv 0) pe_int (fun _ _ => rfl)))
      (pss_cons (ps_if (PW.pt (pw_and (pt_cmpR op_eq (pv 1) pe_str (nomark _)) (pw_and (pt_cmpR op_eq (pe_callB call_len (by rfl) T.z_len (by decide +kernel) (pa_cons (pv 0) pa_nil)) pe_int (nomark _))
          (pw_and1 (pt_val (pe_cl (ok_isWhole T) hr1 T.g_is_whole_recipes pass0 (pa_cons (pe_ix ix_tup (pv 0) pe_int (fun _ _ => rfl)) pa_nil)))))))
        (pss_one (ps_ret (pe_tup pa_nil))) pss_nil)
      (pss_cons (ps_if (PW.pt (pw_and (pt_cmpR op_eq (pv 1) pe_str (nomark _)) (pw_and (pt_cmpR op_eq (pe_callB call_len (by rfl) T.z_len (by decide +kernel) (pa_cons (pv 0) pa_nil)) pe_int (nomark _))
          (pw_and1 (pt_val (pe_cl (ok_isName T) hr1 T.g_is_name pass0 (pa_cons (pe_ix ix_tup (pv 0) pe_int (fun _ _ => rfl)) pa_nil)))))))
        (pss_one (ps_ret (pe_tup pa_nil))) pss_nil)
      (pss_cons (ps_if (PW.pt (pw_or (PW.pt (pw_and (pt_cmpR op_in_seq (pv 1) (pe_glob (v := .ref (He.ga K "TWOS")) (by rfl) T.g_TWOS rfl) (by rfl)) (pw_and1 (pt_cmpR op_eq (pe_callB call_len (by rfl) T.z_len (by decide +kernel) (pa_cons (pv 0) pa_nil)) pe_int (nomark _)))))
          (pw_or1 (PW.pt (pw_and (pt_cmpR op_eq (pv 1) pe_str (nomark _)) (pw_and1 (pt_cmpR op_eq (pe_callB call_len (by rfl) T.z_len (by decide +kernel) (pa_cons (pv 0) pa_nil)) pe_int (nomark _))))))))
        (pss_one (ps_ret (pe_slice sl_tup (pv 0) (po_some pe_int) po_none))) pss_nil)
      (pss_cons (ps_if (PW.pt (pw_and (pt_cmpR op_eq (pv 1) pe_str (nomark _)) (pw_and (pt_cmpR op_eq (pe_callB call_len (by rfl) T.z_len (by decide +kernel) (pa_cons (pv 0) pa_nil)) pe_int (nomark _))
          (pw_and1 (pt_val (pe_cl (ok_areNames T) (hr.mono (by decide)) T.g_are_names pass0 (pa_cons (pe_ix ix_tup (pv 0) pe_int (fun _ _ => rfl)) pa_nil)))))))
        (pss_one (ps_ret (pe_slice sl_tup (pv 0) (po_some pe_int) (po_some pe_int)))) pss_nil)
      (pss_one (ps_ret pe_non))))))), ?_⟩
    obtain ⟨kd, x, xs, e⟩ := R.head
    refine ⟨_, rfl, _, _, _, _, true, rfl, .ty "tuple", .base (.tup e), kit_ty (by decide +kernel), _, rfl, iteF ?_⟩
    refine ⟨_, rfl, _, _, rfl, .inr ⟨_, SqT.of e, rfl⟩, _, _, rfl, rfl, _, rfl, iteN (decide_eq_false (by simp only [List.length_cons]; omega)) ?_⟩
    refine ⟨_, rfl, _, _, _, _, rfl, rfl, SqT.of e, at_of (j := 0) rfl rfl, _, _, _, _, true, rfl, .ty "str", .base (.str _), kit_ty (by decide +kernel), _, rfl, iteF ?_⟩
    refine ⟨_, rfl, _, _, _, _, rfl, rfl, SqT.of e, at_of (j := 0) rfl rfl, ?_⟩
    -- behind the front: a way each kind
    cases R with
    | @num _ _ _ i e2 =>
      rw [e] at e2
      cases e2
      refine ⟨_, rfl, rfl, _, rfl, iteY str_yes ?_⟩
      refine ⟨_, rfl, _, _, rfl, .inr ⟨_, SqT.of e, rfl⟩, rfl, _, rfl, iteY (int_yes rfl) ?_⟩
      refine ⟨_, rfl, _, _, _, _, rfl, rfl, SqT.of e, at_of (j := 1) rfl rfl, i, rfl, _, rfl, iteT ?_⟩
      exact ⟨(by show 0 ≤ sizeLine; exact Nat.zero_le _), fun p hp => k _ p [] (same_new hp) upd_same .nil⟩
    | @read _ _ _ z hz e2 =>
      rw [e] at e2
      cases e2
      refine ⟨_, rfl, rfl, _, rfl, iteN (by decide +kernel) (iteF ?_)⟩
      refine ⟨_, rfl, rfl, _, rfl, iteY str_yes ?_⟩
      refine ⟨_, rfl, _, _, rfl, .inr ⟨_, SqT.of e, rfl⟩, rfl, _, rfl, iteY (int_yes rfl) ?_⟩
      refine ⟨_, rfl, _, _, _, _, rfl, rfl, SqT.of e, at_of (j := 1) rfl rfl, z, rfl, hz, fun H1 s1 => ⟨_, rfl, iteT ?_⟩⟩
      exact ⟨(by show 0 ≤ sizeLine; exact Nat.zero_le _), fun p hp => k _ p [] (s1.trans (same_new hp)) upd_same .nil⟩
    | @two _ n m _ _ p q kk hk e2 r1 r2 hl =>
      rw [e] at e2
      cases e2
      refine ⟨_, rfl, rfl, _, rfl, iteN (twos_no hk (by decide +kernel)) (iteF ?_)⟩
      refine ⟨_, rfl, rfl, _, rfl, iteN (twos_no hk (by decide +kernel)) (iteF ?_)⟩
      refine ⟨_, rfl, _, _, rfl, .inr (T.t_TWOS _), rfl, rfl, _, rfl, iteY (twos_in hk) ?_⟩
      refine ⟨_, rfl, _, _, rfl, .inr ⟨_, SqT.of e, rfl⟩, rfl, _, rfl, iteY (int_yes rfl) (iteT ?_)⟩
      refine ⟨_, rfl, 1, rfl, a, _, rfl, SqT.of e, (by show ¬ (HT.sIx 3 0 (some 1) = 0 ∧ HT.sIx 3 3 none = 3); decide), fun y hy => ?_⟩
      exact k _ y [p, q] (same_new hy) upd_same (.cons (r1.tups (Same.tups (same_new hy))) (.cons (m := 0) (r2.tups (Same.tups (same_new hy))) .nil (Nat.le_refl _)) (by omega))
    | @pick _ n m o _ _ p q r e2 r1 r2 r3 hl =>
      rw [e] at e2
      cases e2
      refine ⟨_, rfl, rfl, _, rfl, iteN (by decide +kernel) (iteF ?_)⟩
      refine ⟨_, rfl, rfl, _, rfl, iteN (by decide +kernel) (iteF ?_)⟩
      refine ⟨_, rfl, _, _, rfl, .inr (T.t_TWOS _), rfl, rfl, _, rfl, iteN (by decide +kernel) (iteF ?_)⟩
      refine ⟨_, rfl, rfl, _, rfl, iteY str_yes ?_⟩
      refine ⟨_, rfl, _, _, rfl, .inr ⟨_, SqT.of e, rfl⟩, rfl, _, rfl, iteY (int_yes rfl) ?_⟩
      refine ⟨_, rfl, 1, rfl, a, _, rfl, SqT.of e, (by show ¬ (HT.sIx 4 0 (some 1) = 0 ∧ HT.sIx 4 4 none = 4); decide), fun y hy => ?_⟩
      exact k _ y [p, q, r] (same_new hy) upd_same (.cons (r1.tups (Same.tups (same_new hy))) (.cons (r2.tups (Same.tups (same_new hy))) (.cons (m := 0) (r3.tups (Same.tups (same_new hy))) .nil (Nat.le_refl _)) (Nat.le_refl _)) (by omega))
    | @choose _ n _ _ p t zs e2 r1 et l1 l9 hz hl =>
      rw [e] at e2
      cases e2
      refine ⟨_, rfl, rfl, _, rfl, iteN (by decide +kernel) (iteF ?_)⟩
      refine ⟨_, rfl, rfl, _, rfl, iteN (by decide +kernel) (iteF ?_)⟩
      refine ⟨_, rfl, _, _, rfl, .inr (T.t_TWOS _), rfl, rfl, _, rfl, iteN (by decide +kernel) (iteF ?_)⟩
      refine ⟨_, rfl, rfl, _, rfl, iteN (by decide +kernel) (iteF ?_)⟩
      refine ⟨_, rfl, rfl, _, rfl, iteY str_yes ?_⟩
      refine ⟨_, rfl, _, _, rfl, .inr ⟨_, SqT.of e, rfl⟩, rfl, _, rfl, iteY (int_yes rfl) ?_⟩
      refine ⟨_, rfl, _, _, _, _, rfl, rfl, SqT.of e, at_of (j := 2) rfl rfl, t, zs, rfl, et, l1, l9, hz, fun H1 s1 => ⟨_, rfl, iteT ?_⟩⟩
      refine ⟨_, rfl, 1, rfl, 2, rfl, a, _, rfl, SqT.of (s1 _ _ e), (by show ¬ (HT.sIx 3 0 (some 1) = 0 ∧ HT.sIx 3 3 (some 2) = 3); decide), fun y hy => ?_⟩
      exact k _ y [p] (s1.trans (same_new hy)) upd_same (.cons (m := 0) (r1.tups (Same.tups (s1.trans (same_new hy)))) .nil (by omega))
end
end Mad

set_option Elab.async false
set_option linter.all false
set_option maxRecDepth 100000
set_option maxHeartbeats 4000000
/-! A recipe is told as one: the row of what stands within, gone over. -/
namespace Mad
open PySem PySem.Spec PyProof.Rows L2
/-- the row's items still to be looked at: pairs of a recipe and its depth -/
inductive Row (H : Hp) : Nat → List Addr → Prop
  | nil {m : Nat} : Row H m []
  | cons {n m l h : Nat} {d : Int} {t x : Addr} {ts : List Addr} : H t = some (.tup [.ref x, .int d]) → RcAt H h n x → d + (h : Int) ≤ 4 → Row H m ts → n + m ≤ l → Row H l (t :: ts)
theorem Row.tups {H H' : Hp} (s : Tups H H') {m : Nat} {ts : List Addr} (r : Row H m ts) : Row H' m ts := by
  induction r with
  | nil => exact .nil
  | cons e x d _ l i => exact .cons (s _ _ e) (x.tups s) d i l
theorem Row.app {H : Hp} {m : Nat} {ts : List Addr} (r : Row H m ts) : ∀ {l o : Nat} {us : List Addr}, Row H l us → m + l ≤ o → Row H o (ts ++ us) := by
  induction r with
  | nil =>
    intro l o us k hl
    cases k with
    | nil => exact .nil
    | cons e x d r l2 => exact .cons e x d r (by omega)
  | @cons n m l h d t x ts e r dd _ hl ih =>
    intro l2 o us k ho
    exact .cons e r dd (ih k (Nat.le_refl _)) (by omega)
theorem Row.len {H : Hp} {m : Nat} {ts : List Addr} (r : Row H m ts) : ts.length ≤ m := by
  induction r with
  | nil => exact Nat.zero_le _
  | cons e x d _ l i =>
    have := x.pos
    simp only [List.length_cons]
    omega
theorem nil_row {H : Hp} {m l : Nat} (h : m ≤ l) : Row H l [] := .nil
section
variable {P : Program} {w : World} {K : PySem.W.Frag} {mg : Str → Option Value} {base : Heap}
def spIsRecipe : Sp := fun vs H Q _ => ∃ a : Addr, vs = [.ref a] ∧ RcAt H 3 13 a ∧ ∀ H', Same H H' → Q (.bl true) H'
theorem sc_IsRecipe : FnScope ["thing", "row", "at", "one", "depth", "parts", "part"] ["thing"] (defScope xIsRecipe.st) := ⟨rfl, rfl, rfl, by decide +kernel, rfl, by decide +kernel, by decide +kernel⟩
theorem ok_isRecipe (T : T K mg) : Ok P w K mg base CX0 4 xIsRecipe ["thing"] spIsRecipe := by
  refine ok_of T.d_IsRecipe sc_IsRecipe (fun vs H Q E h => ?_) (fun _ _ _ _ _ _ us hl => match us, hl with | [_], _ => rfl) (fun f cdv A outer s H vs Q E hr h => ?_)
  · obtain ⟨a, rfl, _⟩ := h
    rfl
  · obtain ⟨a, rfl, R, k⟩ := h
    obtain ⟨td, hd⟩ := T.i_DEEPEST
    obtain ⟨tm, hm⟩ := T.i_MOST
    have nd := sc_IsRecipe.nd
    have hu := hr.units
    refine ⟨_, pss_cons (ps_set (i := 1) nd rfl (Or.inl rfl) (pe_lst (pa_cons (pe_tup (pa_cons (pv 0) (pa_cons pe_int pa_nil))) pa_nil)))
      (pss_cons (ps_set (i := 2) nd rfl (Or.inl rfl) pe_int)
      (pss_cons (ps_while PassesOwn.never (pt_cmpR op_lt (pv 2) (pe_callB call_len (by rfl) T.z_len (by decide +kernel) (pa_cons (pv 1) pa_nil)) (nomark _))
        (pss_cons (ps_asg (pe_ix ix_list (pv 1) (pv 2) (fun _ _ => rfl)) (pg_tup (by rfl) (pgs_cons (pg_name (i := 3) nd rfl (Or.inl rfl)) (pgs_cons (pg_name (i := 4) nd rfl (Or.inl rfl)) pgs_nil))))
        (pss_cons (ps_set (i := 5) nd rfl (Or.inl rfl) (pe_cl (ok_within T) hr T.g_within pass0 (pa_cons (pv 3) pa_nil)))
        (pss_cons (ps_if (PW.pt (pw_or (pt_cmpR op_isN (pv 5) pe_non (nomark _)) (pw_or (pt_cmpR op_gt (pv 4) (pe_glob (v := .int 8) (by rfl) hd ⟨_, rfl⟩) (nomark _))
            (pw_or1 (pt_cmpR op_gt (pe_callB call_len (by rfl) T.z_len (by decide +kernel) (pa_cons (pv 1) pa_nil)) (pe_glob (v := .int 100) (by rfl) hm ⟨_, rfl⟩) (nomark _))))))
          (pss_one (ps_ret pe_bl)) pss_nil)
        (pss_cons (ps_for PassesOwn.never rfl (pi_tup (pv 5)) (pg_name (i := 6) nd rfl (Or.inl rfl))
          (pss_one (ps_expr (pe_bm PySem.F.plainAttrs_list PySem.F.slot_list_append PySem.F.type_list_append mt_append (pv 1) (pa_cons (pe_tup (pa_cons (pv 6) (pa_cons (pe_op op_add (pv 4) pe_int) pa_nil))) pa_nil)))))
        (pss_one (ps_aug (i := 2) nd rfl (Or.inl rfl) pe_int ip_add)))))))
      (pss_one (ps_ret pe_bl)))), ?_⟩
    -- row = [(thing, 1)]; at = 0
    refine ⟨_, rfl, (by show 2 ≤ sizeLine; decide), fun t0 ht0 => ⟨(by show 1 ≤ sizeLine; decide), fun rl hrl => ?_⟩⟩
    have nt : t0 ≠ rl := ne_of_none upd_same hrl
    have nrl : H rl = none := (same_new ht0).free hrl
    have s0 : Same H (upd (upd H t0 (.tup [.ref a, .int 1])) rl (.lst [.ref t0])) := (same_new ht0).trans (same_new hrl)
    -- the loop
    refine ⟨fun m σ H' => ∃ (dn todo : List Addr) (l : Nat) (v3 v4 v5 v6 : Option V), σ = [some (.ref a), some (.ref rl), some (.int dn.length), v3, v4, v5, v6] ∧ Same H H' ∧ H' rl = some (.lst ((dn ++ todo).map V.ref)) ∧ Row H' l todo ∧ dn.length + l ≤ 13 ∧ m = 14 - dn.length,
      ⟨14, [], [t0], 13, none, none, none, none, rfl, s0, upd_same, .cons (h := 3) (n := 13) (m := 0) (by rw [upd_ne nt]; exact upd_same) (R.tups (Same.tups s0)) (by decide) .nil (Nat.le_refl _), (by decide), rfl⟩, ?_⟩
    rintro m σ H1 ⟨dn, todo, l, v3, v4, v5, v6, rfl, s1, e1, rw1, hl, rfl⟩
    refine ⟨_, rfl, _, rfl, _, _, rfl, .inl ⟨_, SqL.of e1, rfl⟩, _, _, rfl, rfl, _, rfl, ?_⟩
    cases rw1 with
    | nil => exact iteN (decide_eq_false (by simp)) (k _ s1)
    | @cons n m2 _ h d t x ts et rx hdp rts hnm =>
      refine iteY (decide_eq_true (by simp only [List.length_map, List.length_append, List.length_cons]; omega)) ?_
      obtain ⟨n0, rfl⟩ : ∃ n0, n = n0 + 1 := ⟨n - 1, by have := rx.pos; omega⟩
      obtain ⟨h0, rfl⟩ : ∃ h0, h = h0 + 1 := ⟨h - 1, by have := rx.pos; omega⟩
      have lts := rts.len
      refine ⟨fun σ' H' => ∃ (dn' todo' : List Addr) (l' : Nat) (v3 v4 v5 v6 : Option V), σ' = [some (.ref a), some (.ref rl), some (.int dn'.length), v3, v4, v5, v6] ∧ Same H H' ∧ H' rl = some (.lst ((dn' ++ todo').map V.ref)) ∧ Row H' l' todo' ∧ dn'.length + l' ≤ 13 ∧ dn'.length = dn.length + 1,
        fun σ' H' ⟨dn', todo', l', w3, w4, w5, w6, q1, q2, q3, q4, q5, q6⟩ => ⟨14 - dn'.length, by omega, dn', todo', l', w3, w4, w5, w6, q1, q2, q3, q4, q5, rfl⟩, ?_⟩
      -- one, depth = row[at]; parts = within(one)
      refine ⟨_, rfl, _, rfl, rl, _, _, .ref t, rfl, rfl, SqL.of e1, atI_nat (by simp), t, _, rfl, SqT.of et, rfl, _, _, rfl, _, _, rfl, rfl, ?_⟩
      refine ⟨_, rfl, x, h0, n0, rfl, rx, fun H2 p as s2 ep pr => ?_⟩
      -- nothing is refused
      refine ⟨_, rfl, rfl, _, rfl, iteN (decide_eq_false fun z => nomatch z) ?_⟩
      refine ⟨_, rfl, _, _, rfl, rfl, _, rfl, iteN (decide_eq_false (by omega)) ?_⟩
      refine ⟨_, rfl, _, _, rfl, .inl ⟨_, SqL.of (s2 _ _ e1), rfl⟩, _, _, rfl, rfl, _, rfl, iteN (decide_eq_false (by simp only [List.length_map, List.length_append, List.length_cons]; omega)) ?_⟩
      -- the parts go behind the row
      refine ⟨_, rfl, p, rfl, ⟨_, SqT.of ep⟩, for_tup (K := K) (a := p) (xs := as.map V.ref) (fun i σ' H' => ∃ (nw : List Addr) (m1 m3 : Nat) (v6 : Option V),
          σ' = [some (.ref a), some (.ref rl), some (.int dn.length), some (.ref x), some (.int d), some (.ref p), v6] ∧ Same H H' ∧ Tups H2 H' ∧ H' rl = some (.lst ((dn ++ t :: (ts ++ nw)).map V.ref)) ∧ Row H' m1 nw ∧ Parts H' h0 m3 (as.drop i) ∧ m1 + m3 ≤ n0)
        ⟨[], 0, n0, v6, rfl, s1.trans s2, Tups.refl _, by rw [List.append_nil]; exact s2 _ _ e1, .nil, pr, by omega⟩ (fun i σ' H' _ ⟨_, _, _, _, _, _, tu, _⟩ => SqT.of (tu _ _ ep)) ?_ ?_⟩
      · rintro i y σ' H3 hy ⟨nw, m1, m3, w6, rfl, s3, tu3, e3, r3, p3, hm⟩
        obtain ⟨q, hq, rfl⟩ : ∃ q, as[i]? = some q ∧ V.ref q = y := by
          rw [List.getElem?_map] at hy
          exact Option.map_eq_some_iff.mp hy
        rw [drop_at hq] at p3
        cases p3 with
        | @cons n5 m5 _ _ _ rq pq hl5 =>
          have l3 := r3.len
          refine ⟨_, rfl, .inl ⟨rfl, _, SqL.of e3⟩, _, rfl, _, rfl, _, _, rfl, rfl, (by show 2 ≤ sizeLine; decide), fun u hu3 => ?_⟩
          have nu : u ≠ rl := fun z => by rw [z, e3] at hu3; cases hu3
          have e4 : upd H3 u (.tup [.ref q, .int (d + 1)]) rl = some (.lst ((dn ++ t :: (ts ++ nw)).map V.ref)) := by rw [upd_ne nu.symm]; exact e3
          refine ⟨rl, _, _, rfl, rfl, e4, small1000 (by simp only [List.length_map, List.length_append, List.length_cons]; omega), ?_⟩
          have tu4 : Tups H3 (upd (upd H3 u (.tup [.ref q, .int (d + 1)])) rl (.lst ((dn ++ t :: (ts ++ nw)).map V.ref ++ [.ref u]))) := fun b xs eb => by
            rw [upd_ne (fun z => by rw [z, e3] at eb; cases eb), upd_ne (ne_of_none eb hu3)]
            exact eb
          refine ⟨nw ++ [u], m1 + n5, m5, _, rfl, Same.put (s3.trans (same_new hu3)) nrl, tu3.trans tu4, ?_, ?_, pq.tups tu4, by omega⟩
          · rw [upd_same]
            simp
          · refine (r3.tups tu4).app (l := n5) (.cons (h := h0) (n := n5) (m := 0) (d := d + 1) (x := q) ?_ (rq.tups tu4) (by omega) .nil (Nat.le_refl _)) (Nat.le_refl _)
            rw [upd_ne nu, upd_same]
      · rintro σ' H3 ⟨nw, m1, m3, w6, rfl, s3, tu3, e3, r3, p3, hm⟩
        -- at += 1
        refine ⟨_, rfl, _, _, rfl, rfl, ?_⟩
        refine ⟨dn ++ [t], ts ++ nw, m2 + m1, some (.ref x), some (.int d), some (.ref p), w6, ?_, s3, ?_, (rts.tups ((Same.tups s2).trans tu3)).app r3 (Nat.le_refl _), ?_, by simp⟩
        · simp
        · rw [e3]
          simp
        · simp only [List.length_append, List.length_cons, List.length_nil]
          omega
end
end Mad

set_option Elab.async false
set_option linter.all false
set_option maxRecDepth 100000
set_option maxHeartbeats 4000000
/-! The house behind some deeds, by both ways; names that are asked for. -/
namespace Mad
open PySem PySem.Spec PyProof.Rows L2
def Deed.kd : Deed → Str
  | .give _ _ => "give"
  | .cook _ _ => "cook"
  | .drop _ => "drop"
theorem vs0 (d : Deed) : d.vs[0]? = some (.str d.kd) := by cases d <;> rfl
theorem vs1 (d : Deed) : d.vs[1]? = some (.str d.nm) := by cases d <;> rfl
theorem upd_id {H : Hp} {a : Addr} {o : HO} (e : H a = some o) : upd H a o = H := by
  funext b
  by_cases h : b = a
  · rw [h, upd_same, e]
  · rw [upd_ne h]
/-- behind some deeds: both dicts -/
def HouseAt (H : Hp) (g r : Addr) (h : Kvs × Kvs) : Prop := g ≠ r ∧ H g = some (.dK h.1) ∧ H r = some (.dK h.2)
section
variable {P : Program} {w : World} {K : PySem.W.Frag} {mg : Str → Option Value} {base : Heap}
def spHouseBy : Sp := fun vs H Q _ => ∃ (l : Addr) (as : List Addr) (ds : List Deed), vs = [.ref l] ∧ H l = some (.lst (as.map V.ref)) ∧ DeedsAt H as ds ∧ ds.length ≤ 1000 ∧
  ∀ H' t g r, Same H H' → H t = none → H g = none → H r = none → H' t = some (.tup [.ref g, .ref r]) → HouseAt H' g r (houseL ds) → Q (.ref t) H'
theorem sc_HouseBy : FnScope ["deeds", "given", "recipes", "deed"] ["deeds"] (defScope xHouseBy.st) := ⟨rfl, rfl, rfl, by decide +kernel, rfl, by decide +kernel, by decide +kernel⟩
/-- one deed more, both dicts cleared of its name -/
theorem turn_house {H H' : Hp} {g r : Addr} {ds : List Deed} {i : Nat} {d : Deed} (hd : ds[i]? = some d) (s : Same H H') (ng : H g = none) (nr : H r = none) (hn : g ≠ r)
    (h : HouseAt H' g r (houseL (ds.take i))) : ∀ H2 : Hp, H2 = upd (upd H' g (.dK (dropK (houseL (ds.take i)).1 (Sum.inr d.nm)))) r (.dK (dropK (houseL (ds.take i)).2 (Sum.inr d.nm))) →
    Same H H2 ∧ H2 g = some (.dK (dropK (houseL (ds.take i)).1 (Sum.inr d.nm))) ∧ H2 r = some (.dK (dropK (houseL (ds.take i)).2 (Sum.inr d.nm))) := by
  rintro H2 rfl
  exact ⟨Same.put (Same.put s ng) nr, by rw [upd_ne hn, upd_same], upd_same⟩
theorem ok_houseBy (T : T K mg) : Ok P w K mg base CX0 1 xHouseBy ["deeds"] spHouseBy := by
  refine ok_of T.d_HouseBy sc_HouseBy (fun vs H Q E h => ?_) (fun _ _ _ _ _ _ us hl => match us, hl with | [_], _ => rfl) (fun f cdv A outer s H vs Q E hr h => ?_)
  · obtain ⟨l, as, ds, rfl, _⟩ := h
    rfl
  · obtain ⟨l, as, ds, rfl, el, hds, hlen, k⟩ := h
    have nd := sc_HouseBy.nd
    have hu := hu_of hr
    refine ⟨_, pss_cons (ps_set (i := 1) nd rfl (Or.inl rfl) pe_dnewK)
      (pss_cons (ps_set (i := 2) nd rfl (Or.inl rfl) pe_dnewK)
      (pss_cons (ps_for PassesOwn.never rfl (pi_list (pv 0)) (pg_name (i := 3) nd rfl (Or.inl rfl))
        (pss_cons (ps_expr (pe_dpop2 (pv 1) (pe_ix ix_tup (pv 3) pe_int (fun _ _ => rfl)) pe_non ⟨by rfl, by rfl, by rfl, by rfl⟩))
        (pss_cons (ps_expr (pe_dpop2 (pv 2) (pe_ix ix_tup (pv 3) pe_int (fun _ _ => rfl)) pe_non ⟨by rfl, by rfl, by rfl, by rfl⟩))
        (pss_one (ps_if (pt_cmpR op_eq (pe_ix ix_tup (pv 3) pe_int (fun _ _ => rfl)) pe_str (nomark _))
          (pss_one (ps_dput hu (pv 1) (pe_ix ix_tup (pv 3) pe_int (fun _ _ => rfl)) (pe_ix ix_tup (pv 3) pe_int (fun _ _ => rfl)) rfl))
          (pss_one (ps_if (pt_cmpR op_eq (pe_ix ix_tup (pv 3) pe_int (fun _ _ => rfl)) pe_str (nomark _))
            (pss_one (ps_dput hu (pv 2) (pe_ix ix_tup (pv 3) pe_int (fun _ _ => rfl)) (pe_ix ix_tup (pv 3) pe_int (fun _ _ => rfl)) rfl)) pss_nil)))))))
      (pss_one (ps_ret (pe_tup (pa_cons (pv 1) (pa_cons (pv 2) pa_nil))))))), ?_⟩
    intro g ng r nr0
    have nr : H r = none := (same_new ng).free nr0
    have hn : g ≠ r := ne_of_none upd_same nr0
    refine ⟨_, rfl, l, rfl, ⟨_, SqL.of ((same_new ng).trans (same_new nr0) _ _ el)⟩, for_list (K := K) (a := l) (xs := as.map V.ref)
      (fun i σ H' => ∃ v3 : Option V, σ = [some (.ref l), some (.ref g), some (.ref r), v3] ∧ Same H H' ∧ HouseAt H' g r (houseL (ds.take i)))
      ⟨none, rfl, (same_new ng).trans (same_new nr0), hn, by rw [upd_ne hn, upd_same]; rfl, upd_same⟩ (fun i σ H' _ ⟨_, _, s1, _⟩ => SqL.of (s1 _ _ el)) ?_ ?_⟩
    · rintro i y σ H1 hy ⟨v3, rfl, s1, _, e1, e2⟩
      obtain ⟨a, ha, rfl⟩ : ∃ a, as[i]? = some a ∧ V.ref a = y := by
        rw [List.getElem?_map] at hy
        exact Option.map_eq_some_iff.mp hy
      obtain ⟨d, hd, hda⟩ := pair_get hds ha
      have hstep : houseL (ds.take (i + 1)) = step (houseL (ds.take i)) d := by rw [take_at hd, houseL_snoc]
      obtain ⟨k1, k2⟩ := house_ok (ds.take i)
      have li : (ds.take i).length ≤ 1000 := by rw [List.length_take]; omega
      -- behind both pops
      have rest : ∀ H2 : Hp, H2 = upd (upd H1 g (.dK (dropK (houseL (ds.take i)).1 (Sum.inr d.nm)))) r (.dK (dropK (houseL (ds.take i)).2 (Sum.inr d.nm))) → ∀ D : Ends,
          (∀ H3, Same H H3 → HouseAt H3 g r (houseL (ds.take (i + 1))) → D.nx [some (.ref l), some (.ref g), some (.ref r), some (.ref a)] H3) →
          tIfS (tTest (tOp rEq (tOp (rIxT K) (tVar 3) (tC (.int 0))) (tC (.str "give")))) (sDPut (tVar 1) (tOp (rIxT K) (tVar 3) (tC (.int 1))) (tOp (rIxT K) (tVar 3) (tC (.int 2))))
            (tIfS (tTest (tOp rEq (tOp (rIxT K) (tVar 3) (tC (.int 0))) (tC (.str "cook")))) (sDPut (tVar 2) (tOp (rIxT K) (tVar 3) (tC (.int 1))) (tOp (rIxT K) (tVar 3) (tC (.int 2)))) tNext) D [some (.ref l), some (.ref g), some (.ref r), some (.ref a)] H2 := by
        intro H2 eH2 D go
        obtain ⟨s2, q1, q2⟩ := turn_house hd s1 ng nr hn ⟨hn, e1, e2⟩ H2 eH2
        have et := s2 _ _ hda.tup
        refine ⟨_, rfl, a, _, _, _, rfl, rfl, SqT.of et, at_of (j := 0) rfl (vs0 d), rfl, _, rfl, ?_⟩
        cases d with
        | give z j =>
          refine iteY str_yes ?_
          refine ⟨_, rfl, a, _, _, _, rfl, rfl, SqT.of et, at_of (j := 2) rfl rfl, _, rfl, _, rfl, a, _, _, _, rfl, rfl, SqT.of et, at_of (j := 1) rfl rfl, g, _, rfl, DPut.k (k := Sum.inr z) q1 (small1000 (Nat.le_trans (k1.drop _).len li)), ?_⟩
          exact go _ (Same.put s2 ng) ⟨hn, by rw [upd_same, hstep]; rfl, by rw [upd_ne hn.symm, hstep]; exact q2⟩
        | cook z j =>
          refine iteN (show decide (V.str "cook" = V.str "give") = false by decide +kernel) ?_
          refine ⟨_, rfl, a, _, _, _, rfl, rfl, SqT.of et, at_of (j := 0) rfl rfl, rfl, _, rfl, iteY str_yes ?_⟩
          refine ⟨_, rfl, a, _, _, _, rfl, rfl, SqT.of et, at_of (j := 2) rfl rfl, _, rfl, _, rfl, a, _, _, _, rfl, rfl, SqT.of et, at_of (j := 1) rfl rfl, r, _, rfl, DPut.k (k := Sum.inr z) q2 (small1000 (Nat.le_trans (k2.drop _).len li)), ?_⟩
          exact go _ (Same.put s2 nr) ⟨hn, by rw [upd_ne hn, hstep]; exact q1, by rw [upd_same, hstep]; rfl⟩
        | drop z =>
          refine iteN (show decide (V.str "drop" = V.str "give") = false by decide +kernel) ?_
          refine ⟨_, rfl, a, _, _, _, rfl, rfl, SqT.of et, at_of (j := 0) rfl rfl, rfl, _, rfl, iteN (show decide (V.str "drop" = V.str "cook") = false by decide +kernel) ?_⟩
          exact go _ s2 ⟨hn, by rw [hstep]; exact q1, by rw [hstep]; exact q2⟩
      have et := s1 _ _ hda.tup
      -- the second pop
      have pop2 : ∀ H2 : Hp, H2 = upd H1 g (.dK (dropK (houseL (ds.take i)).1 (Sum.inr d.nm))) → ∀ D : Ends, (∀ H3, Same H H3 → HouseAt H3 g r (houseL (ds.take (i + 1))) → D.nx [some (.ref l), some (.ref g), some (.ref r), some (.ref a)] H3) →
          tSeq (tDrop (tDPop2 (tVar 2) (tOp (rIxT K) (tVar 3) (tC (.int 1))) (tC .non))) (tIfS (tTest (tOp rEq (tOp (rIxT K) (tVar 3) (tC (.int 0))) (tC (.str "give")))) (sDPut (tVar 1) (tOp (rIxT K) (tVar 3) (tC (.int 1))) (tOp (rIxT K) (tVar 3) (tC (.int 2))))
            (tIfS (tTest (tOp rEq (tOp (rIxT K) (tVar 3) (tC (.int 0))) (tC (.str "cook")))) (sDPut (tVar 2) (tOp (rIxT K) (tVar 3) (tC (.int 1))) (tOp (rIxT K) (tVar 3) (tC (.int 2)))) tNext)) D [some (.ref l), some (.ref g), some (.ref r), some (.ref a)] H2 := by
        rintro H2 eH2 D go
        have q2 : H2 r = some (.dK (houseL (ds.take i)).2) := by rw [eH2, upd_ne hn.symm]; exact e2
        have et2 : H2 a = some (.tup d.vs) := by rw [eH2]; exact (Same.put s1 ng) _ _ hda.tup
        refine ⟨_, rfl, r, rfl, .inl ⟨_, .inl q2⟩, _, rfl, a, _, _, _, rfl, rfl, SqT.of et2, at_of (j := 1) rfl (vs1 d), _, Sum.inr d.nm, q2, rfl, fun v hv => ?_, fun hv => ?_⟩
        · exact rest _ (by rw [eH2]) D go
        · refine rest _ ?_ D go
          rw [dropK_id hv, ← eH2, upd_id q2]
      refine ⟨_, rfl, g, rfl, .inl ⟨_, .inl e1⟩, _, rfl, a, _, _, _, rfl, rfl, SqT.of et, at_of (j := 1) rfl (vs1 d), _, Sum.inr d.nm, e1, rfl, fun v hv => ?_, fun hv => ?_⟩
      · exact pop2 _ rfl _ fun H3 s3 h3 => ⟨_, rfl, s3, h3⟩
      · refine pop2 _ ?_ _ fun H3 s3 h3 => ⟨_, rfl, s3, h3⟩
        rw [dropK_id hv, upd_id e1]
    · rintro σ H1 ⟨v3, rfl, s1, _, e1, e2⟩
      have et : ds.take (as.map V.ref).length = ds := by rw [List.length_map, pair_len hds, List.take_length]
      rw [et] at e1 e2
      refine ⟨_, rfl, _, rfl, (by show 2 ≤ sizeLine; decide), fun p hp => ?_⟩
      have np : H p = none := s1.free hp
      exact k _ p g r (s1.trans (same_new hp)) np ng nr upd_same ⟨hn, same_new hp _ _ e1, same_new hp _ _ e2⟩
end
end Mad

set_option Elab.async false
set_option linter.all false
set_option maxRecDepth 100000
set_option maxHeartbeats 4000000
/-! The law's own house; names that are asked for. -/
namespace Mad
open PySem PySem.Spec PyProof.Rows L2
section
variable {P : Program} {w : World} {K : PySem.W.Frag} {mg : Str → Option Value} {base : Heap}
theorem sc_LHouse : FnScope ["deeds", "given", "recipes", "deed"] ["deeds"] (defScope xLHouse.st) := ⟨rfl, rfl, rfl, by decide +kernel, rfl, by decide +kernel, by decide +kernel⟩
abbrev aIx (K : PySem.W.Frag) (j : Int) : TE := tOp (rIxT K) (tVar 3) (tC (.int j))
theorem ok_lHouse (T : T K mg) : Ok P w K mg base CX0 1 xLHouse ["deeds"] spHouseBy := by
  refine ok_of T.d_LHouse sc_LHouse (fun vs H Q E h => ?_) (fun _ _ _ _ _ _ us hl => match us, hl with | [_], _ => rfl) (fun f cdv A outer s H vs Q E hr h => ?_)
  · obtain ⟨l, as, ds, rfl, _⟩ := h
    rfl
  · obtain ⟨l, as, ds, rfl, el, hds, hlen, k⟩ := h
    have nd := sc_LHouse.nd
    have hu := hu_of hr
    refine ⟨_, pss_cons (ps_set (i := 1) nd rfl (Or.inl rfl) pe_dnewK)
      (pss_cons (ps_set (i := 2) nd rfl (Or.inl rfl) pe_dnewK)
      (pss_cons (ps_for PassesOwn.never rfl (pi_list (pv 0)) (pg_name (i := 3) nd rfl (Or.inl rfl))
        (pss_cons (ps_if (pt_cmp (pc_din hu (pe_ix ix_tup (pv 3) pe_int (fun _ _ => rfl)) (pv 1))) (pss_one (ps_expr (pe_dpop1 (pv 1) (pe_ix ix_tup (pv 3) pe_int (fun _ _ => rfl)) ⟨by rfl, by rfl, by rfl, by rfl⟩))) pss_nil)
        (pss_cons (ps_if (pt_cmp (pc_din hu (pe_ix ix_tup (pv 3) pe_int (fun _ _ => rfl)) (pv 2))) (pss_one (ps_expr (pe_dpop1 (pv 2) (pe_ix ix_tup (pv 3) pe_int (fun _ _ => rfl)) ⟨by rfl, by rfl, by rfl, by rfl⟩))) pss_nil)
        (pss_cons (ps_if (pt_cmpR op_eq (pe_ix ix_tup (pv 3) pe_int (fun _ _ => rfl)) pe_str (nomark _))
          (pss_one (ps_dput hu (pv 1) (pe_ix ix_tup (pv 3) pe_int (fun _ _ => rfl)) (pe_ix ix_tup (pv 3) pe_int (fun _ _ => rfl)) rfl)) pss_nil)
        (pss_one (ps_if (pt_cmpR op_eq (pe_ix ix_tup (pv 3) pe_int (fun _ _ => rfl)) pe_str (nomark _))
          (pss_one (ps_dput hu (pv 2) (pe_ix ix_tup (pv 3) pe_int (fun _ _ => rfl)) (pe_ix ix_tup (pv 3) pe_int (fun _ _ => rfl)) rfl)) pss_nil))))))
      (pss_one (ps_ret (pe_tup (pa_cons (pv 1) (pa_cons (pv 2) pa_nil))))))), ?_⟩
    intro g ng r nr0
    have nr : H r = none := (same_new ng).free nr0
    have hn : g ≠ r := ne_of_none upd_same nr0
    refine ⟨_, rfl, l, rfl, ⟨_, SqL.of ((same_new ng).trans (same_new nr0) _ _ el)⟩, for_list (K := K) (a := l) (xs := as.map V.ref)
      (fun i σ H' => ∃ v3 : Option V, σ = [some (.ref l), some (.ref g), some (.ref r), v3] ∧ Same H H' ∧ HouseAt H' g r (houseL (ds.take i)))
      ⟨none, rfl, (same_new ng).trans (same_new nr0), hn, by rw [upd_ne hn, upd_same]; rfl, upd_same⟩ (fun i σ H' _ ⟨_, _, s1, _⟩ => SqL.of (s1 _ _ el)) ?_ ?_⟩
    · rintro i y σ H1 hy ⟨v3, rfl, s1, _, e1, e2⟩
      obtain ⟨a, ha, rfl⟩ : ∃ a, as[i]? = some a ∧ V.ref a = y := by
        rw [List.getElem?_map] at hy
        exact Option.map_eq_some_iff.mp hy
      obtain ⟨d, hd, hda⟩ := pair_get hds ha
      have hstep : houseL (ds.take (i + 1)) = step (houseL (ds.take i)) d := by rw [take_at hd, houseL_snoc]
      obtain ⟨k1, k2⟩ := house_ok (ds.take i)
      have li : (ds.take i).length ≤ 1000 := by rw [List.length_take]; omega
      have ix1 : ∀ {H2 : Hp} {σ : L2.St} {Q : VK}, σ[3]? = some (some (.ref a)) → Same H H2 → Q (.str d.nm) H2 → aIx K 1 σ H2 Q := fun {H2 σ Q} h3 s q =>
        ⟨_, h3, a, _, _, _, rfl, rfl, SqT.of (s _ _ hda.tup), at_of (j := 1) rfl (vs1 d), q⟩
      -- behind both pops: the two stores
      have rest : ∀ H2 : Hp, H2 = upd (upd H1 g (.dK (dropK (houseL (ds.take i)).1 (Sum.inr d.nm)))) r (.dK (dropK (houseL (ds.take i)).2 (Sum.inr d.nm))) → ∀ D : Ends,
          (∀ H3, Same H H3 → HouseAt H3 g r (houseL (ds.take (i + 1))) → D.nx [some (.ref l), some (.ref g), some (.ref r), some (.ref a)] H3) →
          tSeq (tIfS (tTest (tOp rEq (aIx K 0) (tC (.str "give")))) (sDPut (tVar 1) (aIx K 1) (aIx K 2)) tNext)
            (tIfS (tTest (tOp rEq (aIx K 0) (tC (.str "cook")))) (sDPut (tVar 2) (aIx K 1) (aIx K 2)) tNext) D [some (.ref l), some (.ref g), some (.ref r), some (.ref a)] H2 := by
        intro H2 eH2 D go
        obtain ⟨s2, q1, q2⟩ := turn_house hd s1 ng nr hn ⟨hn, e1, e2⟩ H2 eH2
        have et := s2 _ _ hda.tup
        refine ⟨_, rfl, a, _, _, _, rfl, rfl, SqT.of et, at_of (j := 0) rfl (vs0 d), rfl, _, rfl, ?_⟩
        cases d with
        | give z j =>
          refine iteY str_yes ?_
          refine ⟨_, rfl, a, _, _, _, rfl, rfl, SqT.of et, at_of (j := 2) rfl rfl, _, rfl, ix1 rfl s2 ⟨g, _, rfl, DPut.k (k := Sum.inr z) q1 (small1000 (Nat.le_trans (k1.drop _).len li)), ?_⟩⟩
          have s3 := Same.put (o := .dK (putK (dropK (houseL (ds.take i)).1 (Sum.inr z)) (Sum.inr z) (.int j))) s2 ng
          refine ⟨_, rfl, a, _, _, _, rfl, rfl, SqT.of (s3 _ _ hda.tup), at_of (j := 0) rfl rfl, rfl, _, rfl, iteN (show decide (V.str "give" = V.str "cook") = false by decide +kernel) ?_⟩
          exact go _ s3 ⟨hn, by rw [upd_same, hstep]; rfl, by rw [upd_ne hn.symm, hstep]; exact q2⟩
        | cook z j =>
          refine iteN (show decide (V.str "cook" = V.str "give") = false by decide +kernel) ?_
          refine ⟨_, rfl, a, _, _, _, rfl, rfl, SqT.of et, at_of (j := 0) rfl rfl, rfl, _, rfl, iteY str_yes ?_⟩
          refine ⟨_, rfl, a, _, _, _, rfl, rfl, SqT.of et, at_of (j := 2) rfl rfl, _, rfl, ix1 rfl s2 ⟨r, _, rfl, DPut.k (k := Sum.inr z) q2 (small1000 (Nat.le_trans (k2.drop _).len li)), ?_⟩⟩
          exact go _ (Same.put s2 nr) ⟨hn, by rw [upd_ne hn, hstep]; exact q1, by rw [upd_same, hstep]; rfl⟩
        | drop z =>
          refine iteN (show decide (V.str "drop" = V.str "give") = false by decide +kernel) ?_
          refine ⟨_, rfl, a, _, _, _, rfl, rfl, SqT.of et, at_of (j := 0) rfl rfl, rfl, _, rfl, iteN (show decide (V.str "drop" = V.str "cook") = false by decide +kernel) ?_⟩
          exact go _ s2 ⟨hn, by rw [hstep]; exact q1, by rw [hstep]; exact q2⟩
      have pop2 : ∀ H2 : Hp, H2 = upd H1 g (.dK (dropK (houseL (ds.take i)).1 (Sum.inr d.nm))) → ∀ D : Ends, (∀ H3, Same H H3 → HouseAt H3 g r (houseL (ds.take (i + 1))) → D.nx [some (.ref l), some (.ref g), some (.ref r), some (.ref a)] H3) →
          tSeq (tIfS (tB (tDIn (aIx K 1) (tVar 2))) (tDrop (tDPop1 (tVar 2) (aIx K 1))) tNext) (tSeq (tIfS (tTest (tOp rEq (aIx K 0) (tC (.str "give")))) (sDPut (tVar 1) (aIx K 1) (aIx K 2)) tNext)
            (tIfS (tTest (tOp rEq (aIx K 0) (tC (.str "cook")))) (sDPut (tVar 2) (aIx K 1) (aIx K 2)) tNext)) D [some (.ref l), some (.ref g), some (.ref r), some (.ref a)] H2 := by
        rintro H2 eH2 D go
        have q2 : H2 r = some (.dK (houseL (ds.take i)).2) := by rw [eH2, upd_ne hn.symm]; exact e2
        have s2 : Same H H2 := by rw [eH2]; exact Same.put s1 ng
        refine ix1 rfl s2 ⟨_, rfl, r, _, rfl, DGet.k (k := Sum.inr d.nm) q2, _, rfl, ?_⟩
        cases hv : valV (houseL (ds.take i)).2 (Sum.inr d.nm : Key) with
        | none =>
          refine iteF (rest _ ?_ D go)
          rw [dropK_id hv, ← eH2, upd_id q2]
        | some v =>
          refine iteT ⟨_, rfl, r, rfl, .inl ⟨_, .inl q2⟩, ix1 rfl s2 ⟨_, Sum.inr d.nm, v, q2, rfl, hv, ?_⟩⟩
          exact rest _ (by rw [eH2]) D go
      refine ix1 rfl s1 ⟨_, rfl, g, _, rfl, DGet.k (k := Sum.inr d.nm) e1, _, rfl, ?_⟩
      cases hv : valV (houseL (ds.take i)).1 (Sum.inr d.nm : Key) with
      | none =>
        refine iteF (pop2 _ ?_ _ fun H3 s3 h3 => ⟨_, rfl, s3, h3⟩)
        rw [dropK_id hv, upd_id e1]
      | some v =>
        refine iteT ⟨_, rfl, g, rfl, .inl ⟨_, .inl e1⟩, ix1 rfl s1 ⟨_, Sum.inr d.nm, v, e1, rfl, hv, ?_⟩⟩
        exact pop2 _ rfl _ fun H3 s3 h3 => ⟨_, rfl, s3, h3⟩
    · rintro σ H1 ⟨v3, rfl, s1, _, e1, e2⟩
      have et : ds.take (as.map V.ref).length = ds := by rw [List.length_map, pair_len hds, List.take_length]
      rw [et] at e1 e2
      refine ⟨_, rfl, _, rfl, (by show 2 ≤ sizeLine; decide), fun p hp => ?_⟩
      have np : H p = none := s1.free hp
      exact k _ p g r (s1.trans (same_new hp)) np ng nr upd_same ⟨hn, same_new hp _ _ e1, same_new hp _ _ e2⟩

/-! ### names that are asked for -/
def spNeed : Sp := fun vs H Q _ => ∃ (l : Addr) (zs : List Str), vs = [.ref l] ∧ H l = some (.lst (zs.map V.str)) ∧ (∀ z ∈ zs, OkName z) ∧ ∀ H', Same H H' → Q .non H'
theorem sc_NeedNames : FnScope ["names", "name"] ["names"] (defScope xNeedNames.st) := ⟨rfl, rfl, rfl, by decide +kernel, rfl, by decide +kernel, by decide +kernel⟩
theorem ok_needNames (T : T K mg) : Ok P w K mg base CX0 2 xNeedNames ["names"] spNeed := by
  refine ok_of T.d_NeedNames sc_NeedNames (fun vs H Q E h => ?_) (fun _ _ _ _ _ _ us hl => match us, hl with | [_], _ => rfl) (fun f cdv A outer s H vs Q E hr h => ?_)
  · obtain ⟨l, zs, rfl, _⟩ := h
    rfl
  · obtain ⟨l, zs, rfl, el, hz, k⟩ := h
    have nd := sc_NeedNames.nd
    refine ⟨_, pss_one (ps_for PassesOwn.never rfl (pi_list (pv 0)) (pg_name (i := 1) nd rfl (Or.inl rfl))
      (pss_one (ps_if (pt_not (pt_val (pe_cl (ok_isName T) hr T.g_is_name pass0 (pa_cons (pv 1) pa_nil)))) (pss_one ps_never) pss_nil))), ?_⟩
    refine ⟨_, rfl, l, rfl, ⟨_, SqL.of el⟩, for_list (K := K) (a := l) (xs := zs.map V.str) (fun i σ H' => ∃ v1 : Option V, σ = [some (.ref l), v1] ∧ Same H H')
      ⟨none, rfl, Same.refl _⟩ (fun i σ H' _ ⟨_, _, s1⟩ => SqL.of (s1 _ _ el)) ?_ ?_⟩
    · rintro i y σ H1 hy ⟨v1, rfl, s1⟩
      obtain ⟨z, hz1, rfl⟩ : ∃ z, zs[i]? = some z ∧ V.str z = y := by
        rw [List.getElem?_map] at hy
        exact Option.map_eq_some_iff.mp hy
      refine ⟨_, rfl, z, rfl, hz z (List.mem_of_getElem? hz1), fun H2 s2 => ⟨true, rfl, iteF ?_⟩⟩
      exact ⟨_, rfl, s1.trans s2⟩
    · rintro σ H1 ⟨v1, rfl, s1⟩
      exact k _ s1
end
end Mad

set_option Elab.async false
set_option linter.all false
set_option maxRecDepth 100000
set_option maxHeartbeats 4000000
/-! A name that lacks; stores; a history is made, grows, is asked. -/
namespace Mad
open PySem PySem.Spec PyProof.Rows L2
/-! ### == of two lists of other lengths -/
def rDiffL (K : PySem.W.Frag) : R2 := fun x y H Q => ∃ a b xs ys, x = .ref a ∧ y = .ref b ∧ SqL K H a xs ∧ SqL K H b ys ∧ xs.length ≠ ys.length ∧ Q (.bl false) H
theorem op_diffL {X : Cx} (hu : X.A.units + 64 < cLine) : OpR X (compareOp .Eq) (rDiffL X.K) := by
  intro pins s σ H x y v u Q I rx ry h
  obtain ⟨a, b, xs, ys, rfl, rfl, ha, hb, hp, q⟩ := h
  cases (show v = Value.ref a from rx)
  cases (show u = Value.ref b from ry)
  obtain ⟨us, r1, p1, _⟩ := I.list ha
  obtain ⟨ws, r2, p2, _⟩ := I.list hb
  have e1 := r1.length
  have e2 := r2.length
  have k := SeqAt.RcAt.lists_lengths (A := X.A) p1.isList p2.isList (by simp only [List.size_toArray, bne_iff_ne, ne_eq]; omega) (by omega)
  exact k X.prog X.w _ _ ⟨.bl false, H, I, rfl, q⟩
theorem lk_here {k : Str} {v : V} {r : List (Str × V)} : List.lookup k ((k, v) :: r) = some v := by
  have e : (k == k) = true := beq_self_eq_true k
  simp only [List.lookup, e]
theorem lk_past {k g : Str} {v : V} {r : List (Str × V)} (h : (k == g) = false) : List.lookup k ((g, v) :: r) = List.lookup k r := by
  simp only [List.lookup, h]
theorem put_here {f : Str} {v x : V} {r : List (Str × V)} : putF f v ((f, x) :: r) = (f, v) :: r := if_pos rfl
theorem put_past {f g : Str} {v x : V} {r : List (Str × V)} (h : ¬ g = f) : putF f v ((g, x) :: r) = (g, x) :: putF f v r := if_neg h
section
variable {P : Program} {w : World} {K : PySem.W.Frag} {mg : Str → Option Value} {base : Heap}

/-! ### NoName's own field -/
def spNN (K : PySem.W.Frag) : Sp := fun vs H Q _ => ∃ (a : Addr) (z : Str), vs = [.ref a, .str z] ∧ H a = some (exo a (cNN K) none) ∧
  ∀ dx, H dx = none → dx ≠ a → Q .non (upd (upd H dx (exd dx [("name", .str z)])) a (exo a (cNN K) (some dx)))
theorem sc_NNInit : FnScope ["self", "name"] ["self", "name"] (defScope xNoNameInit.st) := ⟨rfl, rfl, rfl, by decide +kernel, rfl, by decide +kernel, by decide +kernel⟩
theorem ok_nnInit (T : T K mg) : Ok P w K mg base CX0 1 xNoNameInit ["self", "name"] (spNN K) := by
  refine ok_of T.d_NoNameInit sc_NNInit (fun vs H Q E h => ?_) (fun _ _ _ _ _ _ us hl => match us, hl with | [_, _], _ => rfl) (fun f cdv A outer s H vs Q E hr h => ?_)
  · obtain ⟨a, z, rfl, _⟩ := h
    rfl
  · obtain ⟨a, z, rfl, ea, k⟩ := h
    refine ⟨_, pss_one (ps_ost (pv 0) (pv 1)), ?_⟩
    exact ⟨_, rfl, _, rfl, a, cNN K, rfl, T.o_NoName, T.o_name, .inl ⟨ea, fun dx n1 n2 => k dx n1 n2⟩⟩

/-! ### a store -/
def spStoreInit (K : PySem.W.Frag) : Sp := fun vs H Q _ => ∃ p dx : Addr, vs = [.ref p] ∧ H p = some (.ins (cSt K) dx []) ∧
  ∀ (l : Addr) (H' : Hp), H l = none → H' p = some (.ins (cSt K) dx (sF l)) → H' l = some (.lst []) → (∀ b o, H b = some o → b ≠ p → H' b = some o) → Q .non H'
theorem sc_StoreInit : FnScope ["self"] ["self"] (defScope xStoreInit.st) := ⟨rfl, rfl, rfl, by decide +kernel, rfl, by decide +kernel, by decide +kernel⟩
theorem ok_storeInit (T : T K mg) : Ok P w K mg base CX0 1 xStoreInit ["self"] (spStoreInit K) := by
  refine ok_of T.d_StoreInit sc_StoreInit (fun vs H Q E h => ?_) (fun _ _ _ _ _ _ us hl => match us, hl with | [_], _ => rfl) (fun f cdv A outer s H vs Q E hr h => ?_)
  · obtain ⟨p, dx, rfl, _⟩ := h
    rfl
  · obtain ⟨p, dx, rfl, hp, k⟩ := h
    refine ⟨_, pss_one (ps_fld (pv 0) (pe_lst pa_nil) rfl), ?_⟩
    refine ⟨(by show 0 ≤ sizeLine; exact Nat.zero_le _), fun l hl => ?_⟩
    have npl : p ≠ l := ne_of_none hp hl
    refine ⟨_, rfl, p, cSt K, dx, [], rfl, (by rw [upd_ne npl]; exact hp), T.c_Store, T.n_Store_held, (by show 0 < 1000; decide), ?_⟩
    exact k l _ hl upd_same (by rw [upd_ne npl.symm, upd_same]) fun b o e hb => by
      rw [upd_ne hb]
      exact same_new hl _ _ e
def spRecords (K : PySem.W.Frag) : Sp := fun vs H Q _ => ∃ p dx l : Addr, vs = [.ref p] ∧ H p = some (.ins (cSt K) dx (sF l)) ∧ H l = some (.lst []) ∧ ∀ H' q, Same H H' → H' q = some (.lst []) → Q (.ref q) H'
theorem sc_Records : FnScope ["self", "recipe", "reads", "worth"] ["self"] (defScope xRecords.st) := ⟨rfl, rfl, rfl, by decide +kernel, rfl, by decide +kernel, by decide +kernel⟩
theorem ok_records (T : T K mg) : Ok P w K mg base CX0 1 xRecords ["self"] (spRecords K) := by
  refine ok_of T.d_Records sc_Records (fun vs H Q E h => ?_) (fun _ _ _ _ _ _ us hl => match us, hl with | [_], _ => rfl) (fun f cdv A outer s H vs Q E hr h => ?_)
  · obtain ⟨p, dx, l, rfl, _⟩ := h
    rfl
  · obtain ⟨p, dx, l, rfl, hp, hl, k⟩ := h
    have nd := sc_Records.nd
    refine ⟨_, pss_one (ps_ret (pe_lc (own := [("recipe", 1), ("reads", 2), ("worth", 3)]) (g := fun _ _ _ _ => False) (tt := tYes) rfl nd (pi_list (pe_fld (pv 0) rfl))
      (blkOk_by (N := ["self", "recipe", "reads", "worth"]) (sc := defScope xRecords.st) (by decide +kernel))
      (fun _ _ _ _ _ => ⟨fun _ _ _ _ _ _ _ _ _ z => z.elim⟩) (fun _ _ _ _ _ => pts_nil) (fun _ _ _ _ _ => pe_no))), ?_⟩
    refine ⟨_, rfl, p, cSt K, dx, _, _, rfl, hp, T.c_Store, T.n_Store_held, lk_here, l, rfl, ⟨_, SqL.of hl⟩, fun D hD => ?_⟩
    refine ⟨fun i m H' => i = 0 ∧ H' = upd H D (.lst []), ⟨0, rfl, rfl⟩, fun i m H' z => ?_⟩
    obtain ⟨e1, e2⟩ := z
    cases e1
    cases e2
    exact .inl ⟨⟨[], SqL.of (K := K) (same_new hD _ _ hl), Nat.zero_le _⟩, k _ D (same_new hD) upd_same⟩

/-! ### a history -/
theorem hF_put {ld lt ps lm lk x : Addr} : putF "taken_back" (.ref x) (hF ld lt ps lm lk) = hF ld x ps lm lk := (put_past (by decide +kernel)).trans (congrArg _ put_here)
theorem hF_done {ld lt ps lm lk : Addr} : (hF ld lt ps lm lk).lookup ("done" : Str) = some (V.ref ld) := lk_here
theorem hF_tb {ld lt ps lm lk : Addr} : (hF ld lt ps lm lk).lookup ("taken_back" : Str) = some (V.ref lt) := (lk_past (by decide +kernel)).trans lk_here
theorem hF_store {ld lt ps lm lk : Addr} : (hF ld lt ps lm lk).lookup ("store" : Str) = some (V.ref ps) := (lk_past (by decide +kernel)).trans ((lk_past (by decide +kernel)).trans lk_here)
theorem hF_lm {ld lt ps lm lk : Addr} : (hF ld lt ps lm lk).lookup ("last_made" : Str) = some (V.ref lm) := (lk_past (by decide +kernel)).trans ((lk_past (by decide +kernel)).trans ((lk_past (by decide +kernel)).trans lk_here))
theorem hF_lk {ld lt ps lm lk : Addr} : (hF ld lt ps lm lk).lookup ("last_kept" : Str) = some (V.ref lk) := (lk_past (by decide +kernel)).trans ((lk_past (by decide +kernel)).trans ((lk_past (by decide +kernel)).trans ((lk_past (by decide +kernel)).trans lk_here)))
/-- none of its attributes -/
def noF (m : Str) : Bool := !(m == "done") && (!(m == "taken_back") && (!(m == "store") && (!(m == "last_made") && !(m == "last_kept"))))
theorem hF_no {ld lt ps lm lk : Addr} {m : Str} (h : noF m = true) : (hF ld lt ps lm lk).lookup m = none := by
  unfold noF at h
  simp only [Bool.and_eq_true, Bool.not_eq_true'] at h
  obtain ⟨h1, h2, h3, h4, h5⟩ := h
  exact (lk_past h1).trans ((lk_past h2).trans ((lk_past h3).trans ((lk_past h4).trans ((lk_past h5).trans rfl))))
def spHInit (K : PySem.W.Frag) : Sp := fun vs H Q _ => ∃ (Hb : Hp) (p dx : Addr), vs = [.ref p] ∧ H p = some (.ins (cHi K) dx []) ∧ Hb p = none ∧ Same Hb H ∧ ∀ H', HistAt K Hb H' p [] [] → Same Hb H' → Q .non H'
theorem sc_HInit : FnScope ["self"] ["self"] (defScope xHInit.st) := ⟨rfl, rfl, rfl, by decide +kernel, rfl, by decide +kernel, by decide +kernel⟩
theorem ok_hInit (T : T K mg) : Ok P w K mg base CX0 3 xHInit ["self"] (spHInit K) := by
  refine ok_of T.d_HInit sc_HInit (fun vs H Q E h => ?_) (fun _ _ _ _ _ _ us hl => match us, hl with | [_], _ => rfl) (fun f cdv A outer s H vs Q E hr h => ?_)
  · obtain ⟨Hb, p, dx, rfl, _⟩ := h
    rfl
  · obtain ⟨Hb, p, dx, rfl, hp, bp, sb, k⟩ := h
    refine ⟨_, pss_cons (ps_fld (pv 0) (pe_lst pa_nil) rfl) (pss_cons (ps_fld (pv 0) (pe_lst pa_nil) rfl) (pss_cons (ps_fld (pv 0) (pe_mk0 T.k_Store (ok_storeInit T) hr T.g_Store pass0) rfl)
      (pss_cons (ps_fld (pv 0) (pe_lst pa_nil) rfl) (pss_one (ps_fld (pv 0) (pe_lst pa_nil) rfl))))), ?_⟩
    refine ⟨(by show 0 ≤ sizeLine; exact Nat.zero_le _), fun ld h1 => ?_⟩
    have n1 : p ≠ ld := ne_of_none hp h1
    refine ⟨_, rfl, p, cHi K, dx, [], rfl, (by rw [upd_ne n1]; exact hp), T.c_History, T.n_History_done, (by show 0 < 1000; decide), ?_⟩
    have b1 : Hb ld = none := sb.free h1
    have s1 : Same Hb (upd (upd H ld (.lst [])) p (.ins (cHi K) dx (putF "done" (.ref ld) []))) := Same.put (Same.put sb b1) bp
    refine ⟨(by show 0 ≤ sizeLine; exact Nat.zero_le _), fun lt h2 => ?_⟩
    have n2 : p ≠ lt := ne_of_none upd_same h2
    have d2 : ld ≠ lt := ne_of_none (by rw [upd_ne n1.symm, upd_same]) h2
    refine ⟨_, rfl, p, cHi K, dx, _, rfl, (by rw [upd_ne n2, upd_same]), T.c_History, T.n_History_taken_back, (by show 1 < 1000; decide), ?_⟩
    have b2 : Hb lt = none := s1.free h2
    have s2 := Same.put (o := .ins (cHi K) dx (putF "taken_back" (.ref lt) (putF "done" (.ref ld) []))) (Same.put (o := .lst []) s1 b2) bp
    -- the heap, read at the three
    have g1 : ∀ o o', upd (upd (upd (upd H ld (.lst [])) p o) lt (.lst [])) p o' ld = some (.lst []) := fun o o' => by rw [upd_ne n1.symm, upd_ne d2, upd_ne n1.symm, upd_same]
    have g2 : ∀ o o', upd (upd (upd (upd H ld (.lst [])) p o) lt (.lst [])) p o' lt = some (.lst []) := fun o o' => by rw [upd_ne n2.symm, upd_same]
    intro ps dy h3 h4 n34
    refine ⟨ps, dy, rfl, upd_same, fun lh H3 f3 o3 l3 kp => ⟨rfl, ?_⟩⟩
    have sm := same_made (C := cSt K) h3 h4
    have b3 : Hb ps = none := s2.free h3
    have b5 : Hb lh = none := s2.free (sm.free f3)
    have kq : ∀ {b : Addr} {o : HO}, upd (upd (upd (upd H ld (.lst [])) p (.ins (cHi K) dx (putF "done" (.ref ld) []))) lt (.lst [])) p (.ins (cHi K) dx (putF "taken_back" (.ref lt) (putF "done" (.ref ld) []))) b = some o → H3 b = some o := fun {b o} e => kp b o (sm _ _ e) (ne_of_none e h3)
    have np : p ≠ ps := ne_of_none upd_same h3
    have s3 : Same Hb H3 := fun b o e => kq (s2 b o e)
    refine ⟨_, rfl, p, cHi K, dx, _, rfl, kq upd_same, T.c_History, T.n_History_store, (by show 2 < 1000; decide), ?_⟩
    have e3 : H3 ld = some (.lst []) := kq (g1 _ _)
    have e4 : H3 lt = some (.lst []) := kq (g2 _ _)
    have m1 : ld ≠ lh := ne_of_none (sm _ _ (g1 _ _)) f3
    have m2 : lt ≠ lh := ne_of_none (sm _ _ (g2 _ _)) f3
    have m3 : p ≠ lh := ne_of_none (sm _ _ upd_same) f3
    refine ⟨(by show 0 ≤ sizeLine; exact Nat.zero_le _), fun lm h5 => ?_⟩
    have q5 : ∀ {b : Addr} {o : HO}, H3 b = some o → b ≠ p → b ≠ lm := fun {b o} e hb => ne_of_none (H := upd H3 p _) (by rw [upd_ne hb]; exact e) h5
    have n5 : p ≠ lm := ne_of_none upd_same h5
    have b6 : Hb lm = none := (Same.put (o := .ins (cHi K) dx (putF "store" (.ref ps) (putF "taken_back" (.ref lt) (putF "done" (.ref ld) [])))) s3 bp).free h5
    refine ⟨_, rfl, p, cHi K, dx, _, rfl, (by rw [upd_ne n5, upd_same]), T.c_History, T.n_History_last_made, (by show 3 < 1000; decide), ?_⟩
    refine ⟨(by show 0 ≤ sizeLine; exact Nat.zero_le _), fun lk h6 => ?_⟩
    have n6 : p ≠ lk := ne_of_none upd_same h6
    have n56 : lm ≠ lk := ne_of_none (H := upd (upd (upd H3 p _) lm _) p _) (by rw [upd_ne n5.symm, upd_same]) h6
    have q6 : ∀ {b : Addr} {o : HO}, H3 b = some o → b ≠ p → b ≠ lk := fun {b o} e hb => ne_of_none (H := upd (upd (upd H3 p _) lm _) p _) (by rw [upd_ne hb, upd_ne (q5 e hb), upd_ne hb]; exact e) h6
    have b7 : Hb lk = none := (Same.put (o := .ins (cHi K) dx (putF "last_made" (.ref lm) (putF "store" (.ref ps) (putF "taken_back" (.ref lt) (putF "done" (.ref ld) []))))) (Same.put (o := .lst []) (Same.put (o := .ins (cHi K) dx (putF "store" (.ref ps) (putF "taken_back" (.ref lt) (putF "done" (.ref ld) [])))) s3 bp) b6) bp).free h6
    refine ⟨_, rfl, p, cHi K, dx, _, rfl, (by rw [upd_ne n6, upd_same]), T.c_History, T.n_History_last_kept, (by show 4 < 1000; decide), ?_⟩
    have fin : ∀ {b : Addr} {o : HO} (o1 o2 o3 : HO), H3 b = some o → b ≠ p → upd (upd (upd (upd (upd H3 p o1) lm (.lst [])) p o2) lk (.lst [])) p o3 b = some o := fun {b o} o1 o2 o3 e hb => by
      rw [upd_ne hb, upd_ne (q6 e hb), upd_ne hb, upd_ne (q5 e hb), upd_ne hb]
      exact e
    have eF : putF "last_kept" (V.ref lk) (putF "last_made" (.ref lm) (putF "store" (.ref ps) (putF "taken_back" (.ref lt) (putF "done" (.ref ld) [])))) = hF ld lt ps lm lk := by
      have d1 : ¬ (("done" : Str) = "taken_back") := by decide +kernel
      have d2 : ¬ (("done" : Str) = "store") := by decide +kernel
      have d3 : ¬ (("done" : Str) = "last_made") := by decide +kernel
      have d4 : ¬ (("done" : Str) = "last_kept") := by decide +kernel
      have d5 : ¬ (("taken_back" : Str) = "store") := by decide +kernel
      have d6 : ¬ (("taken_back" : Str) = "last_made") := by decide +kernel
      have d7 : ¬ (("taken_back" : Str) = "last_kept") := by decide +kernel
      have d8 : ¬ (("store" : Str) = "last_made") := by decide +kernel
      have d9 : ¬ (("store" : Str) = "last_kept") := by decide +kernel
      have d10 : ¬ (("last_made" : Str) = "last_kept") := by decide +kernel
      simp only [putF, if_neg d1, if_neg d2, if_neg d3, if_neg d4, if_neg d5, if_neg d6, if_neg d7, if_neg d8, if_neg d9, if_neg d10]
      rfl
    refine k _ ⟨ld, lt, ps, lh, lm, lk, ⟨dx, Eq.trans upd_same (congrArg (fun q => some (HO.ins (cHi K) dx q)) eF)⟩, ⟨[], fin _ _ _ e3 n1.symm, .nil⟩, ⟨[], fin _ _ _ e4 n2.symm, .nil⟩, ⟨dy, fin _ _ _ o3 np.symm⟩, fin _ _ _ l3 m3.symm,
      by rw [upd_ne n5.symm, upd_ne n56, upd_ne n5.symm, upd_same], by rw [upd_ne n6.symm, upd_same], bp, b1, b2, b3, b5, b6, b7, np, d2, m1, q5 e3 n1.symm, q6 e3 n1.symm, m2, q5 e4 n2.symm, q6 e4 n2.symm⟩ ?_
    exact Same.put (Same.put (Same.put (Same.put (Same.put s3 bp) b6) bp) b7) bp
end
end Mad

set_option Elab.async false
set_option linter.all false
set_option maxRecDepth 100000
set_option maxHeartbeats 4000000
/-! A history grows, is taken back, done again. -/
namespace Mad
open PySem PySem.Spec PyProof.Rows L2
/-! ### a history's objects change -/
theorem dif {H : Hp} {a b : Addr} {x y : HO} (e1 : H a = some x) (e2 : H b = some y) (n : x ≠ y) : a ≠ b := fun z => by
  rw [z, e2] at e1
  cases e1
  exact n rfl
theorem fr {H : Hp} {x b : Addr} {u o : HO} (e : H b = some o) (n : b ≠ x) : upd H x u b = some o := by
  rw [upd_ne n]
  exact e
theorem tups_lst {H : Hp} {x : Addr} {xs : List V} {o : HO} (e : H x = some (.lst xs)) : Tups H (upd H x o) := fun b ys h => fr h (dif h e fun z => nomatch z)
theorem HistP.dset {K : PySem.W.Frag} {Hb H : Hp} {p ld lt ps lh lm lk : Addr} {ds ds' ts : List Deed} {as : List Addr} (h : HistP K Hb H p ld lt ps lh lm lk ds ts) (d : DeedsAt H as ds') :
    HistP K Hb (upd H ld (.lst (as.map V.ref))) p ld lt ps lh lm lk ds' ts := by
  obtain ⟨dx, ob⟩ := h.ob
  obtain ⟨a0, d1, d2⟩ := h.dn
  obtain ⟨bs, t1, t2⟩ := h.tk
  obtain ⟨dy, st⟩ := h.st
  have tu : Tups H (upd H ld (.lst (as.map V.ref))) := tups_lst d1
  exact { h with ob := ⟨dx, fr ob (dif ob d1 fun z => nomatch z)⟩, dn := ⟨as, upd_same, d.tups tu⟩, tk := ⟨bs, fr t1 h.n2.symm, t2.tups tu⟩, st := ⟨dy, fr st (dif st d1 fun z => nomatch z)⟩, he := fr h.he h.n3.symm, md := fr h.md h.n4.symm, kp := fr h.kp h.n5.symm }
theorem HistP.tset {K : PySem.W.Frag} {Hb H : Hp} {p ld lt ps lh lm lk : Addr} {ds ts ts' : List Deed} {bs : List Addr} (h : HistP K Hb H p ld lt ps lh lm lk ds ts) (t : DeedsAt H bs ts') :
    HistP K Hb (upd H lt (.lst (bs.map V.ref))) p ld lt ps lh lm lk ds ts' := by
  obtain ⟨dx, ob⟩ := h.ob
  obtain ⟨as, d1, d2⟩ := h.dn
  obtain ⟨b0, t1, t2⟩ := h.tk
  obtain ⟨dy, st⟩ := h.st
  have tu : Tups H (upd H lt (.lst (bs.map V.ref))) := tups_lst t1
  exact { h with ob := ⟨dx, fr ob (dif ob t1 fun z => nomatch z)⟩, dn := ⟨as, fr d1 h.n2, d2.tups tu⟩, tk := ⟨bs, upd_same, t.tups tu⟩, st := ⟨dy, fr st (dif st t1 fun z => nomatch z)⟩, he := fr h.he h.n6.symm, md := fr h.md h.n7.symm, kp := fr h.kp h.n8.symm }
theorem HistP.tnew {K : PySem.W.Frag} {Hb H : Hp} {p ld lt ps lh lm lk l dx : Addr} {ds ts : List Deed} (h : HistP K Hb H p ld lt ps lh lm lk ds ts) (hl : H l = none) (bl0 : Hb l = none) :
    HistP K Hb (upd (upd H l (.lst [])) p (.ins (cHi K) dx (hF ld l ps lm lk))) p ld l ps lh lm lk ds [] := by
  obtain ⟨d0, ob⟩ := h.ob
  obtain ⟨as, d1, d2⟩ := h.dn
  obtain ⟨b0, t1, t2⟩ := h.tk
  obtain ⟨dy, st⟩ := h.st
  have npl : p ≠ l := ne_of_none ob hl
  have g : ∀ {b : Addr} {o : HO}, H b = some o → b ≠ p → upd (upd H l (.lst [])) p (.ins (cHi K) dx (hF ld l ps lm lk)) b = some o := fun {b o} e n => fr (fr e (ne_of_none e hl)) n
  have tu : Tups H (upd (upd H l (.lst [])) p (.ins (cHi K) dx (hF ld l ps lm lk))) := fun b xs e => g e (dif e ob fun z => nomatch z)
  exact { h with ob := ⟨dx, upd_same⟩, dn := ⟨as, g d1 (dif d1 ob fun z => nomatch z), d2.tups tu⟩, tk := ⟨[], by rw [upd_ne npl.symm, upd_same]; rfl, .nil⟩, st := ⟨dy, g st h.n1.symm⟩, he := g h.he (dif h.he ob fun z => nomatch z), md := (g h.md (dif h.md ob fun z => nomatch z)), kp := (g h.kp (dif h.kp ob fun z => nomatch z)), b3 := bl0, n2 := ne_of_none d1 hl, n6 := (ne_of_none h.he hl).symm, n7 := (ne_of_none h.md hl).symm, n8 := (ne_of_none h.kp hl).symm }
section
variable {P : Program} {w : World} {K : PySem.W.Frag} {mg : Str → Option Value} {base : Heap}
section
variable {Hb H : Hp} {p ld lt ps lh lm lk : Addr} {ds ts : List Deed} {σ : L2.St} {R : V → Prop}
theorem f_done (T : T K mg) (h : HistP K Hb H p ld lt ps lh lm lk ds ts) (q : R (.ref ld)) (hs : σ[0]? = some (some (.ref p)) := by rfl) :
    ∃ v, σ[0]? = some (some v) ∧ ∃ a C dx fs y, v = .ref a ∧ H a = some (.ins C dx fs) ∧ Cls K C ∧ NoAttr K C "done" ∧ fs.lookup ("done" : Str) = some y ∧ R y := by
  obtain ⟨dx, ob⟩ := h.ob
  exact ⟨_, hs, p, cHi K, dx, _, _, rfl, ob, T.c_History, T.n_History_done, hF_done, q⟩
theorem f_tb (T : T K mg) (h : HistP K Hb H p ld lt ps lh lm lk ds ts) (q : R (.ref lt)) (hs : σ[0]? = some (some (.ref p)) := by rfl) :
    ∃ v, σ[0]? = some (some v) ∧ ∃ a C dx fs y, v = .ref a ∧ H a = some (.ins C dx fs) ∧ Cls K C ∧ NoAttr K C "taken_back" ∧ fs.lookup ("taken_back" : Str) = some y ∧ R y := by
  obtain ⟨dx, ob⟩ := h.ob
  exact ⟨_, hs, p, cHi K, dx, _, _, rfl, ob, T.c_History, T.n_History_taken_back, hF_tb, q⟩
theorem f_store (T : T K mg) (h : HistP K Hb H p ld lt ps lh lm lk ds ts) (q : R (.ref ps)) (hs : σ[0]? = some (some (.ref p)) := by rfl) :
    ∃ v, σ[0]? = some (some v) ∧ ∃ a C dx fs y, v = .ref a ∧ H a = some (.ins C dx fs) ∧ Cls K C ∧ NoAttr K C "store" ∧ fs.lookup ("store" : Str) = some y ∧ R y := by
  obtain ⟨dx, ob⟩ := h.ob
  exact ⟨_, hs, p, cHi K, dx, _, _, rfl, ob, T.c_History, T.n_History_store, hF_store, q⟩
theorem f_lm (T : T K mg) (h : HistP K Hb H p ld lt ps lh lm lk ds ts) (q : R (.ref lm)) (hs : σ[0]? = some (some (.ref p)) := by rfl) :
    ∃ v, σ[0]? = some (some v) ∧ ∃ a C dx fs y, v = .ref a ∧ H a = some (.ins C dx fs) ∧ Cls K C ∧ NoAttr K C "last_made" ∧ fs.lookup ("last_made" : Str) = some y ∧ R y := by
  obtain ⟨dx, ob⟩ := h.ob
  exact ⟨_, hs, p, cHi K, dx, _, _, rfl, ob, T.c_History, T.n_History_last_made, hF_lm, q⟩
theorem f_lk (T : T K mg) (h : HistP K Hb H p ld lt ps lh lm lk ds ts) (q : R (.ref lk)) (hs : σ[0]? = some (some (.ref p)) := by rfl) :
    ∃ v, σ[0]? = some (some v) ∧ ∃ a C dx fs y, v = .ref a ∧ H a = some (.ins C dx fs) ∧ Cls K C ∧ NoAttr K C "last_kept" ∧ fs.lookup ("last_kept" : Str) = some y ∧ R y := by
  obtain ⟨dx, ob⟩ := h.ob
  exact ⟨_, hs, p, cHi K, dx, _, _, rfl, ob, T.c_History, T.n_History_last_kept, hF_lk, q⟩
end

/-! ### one deed more -/
def spAdd (K : PySem.W.Frag) : Sp := fun vs H Q _ => ∃ (Hb : Hp) (p a : Addr) (ds ts : List Deed) (d : Deed), vs = [.ref p, .ref a] ∧ HistAt K Hb H p ds ts ∧ Same Hb H ∧ DeedAt H a d ∧ ds.length ≤ 900 ∧
  ∀ H', HistAt K Hb H' p (ds ++ [d]) [] → Same Hb H' → Q .non H'
theorem sc_Add : FnScope ["self", "deed"] ["self", "deed"] (defScope xAdd.st) := ⟨rfl, rfl, rfl, by decide +kernel, rfl, by decide +kernel, by decide +kernel⟩
theorem ok_add (T : T K mg) : Ok P w K mg base CX0 1 xAdd ["self", "deed"] (spAdd K) := by
  refine ok_of T.d_Add sc_Add (fun vs H Q E h => ?_) (fun _ _ _ _ _ _ us hl => match us, hl with | [_, _], _ => rfl) (fun f cdv A outer s H vs Q E hr h => ?_)
  · obtain ⟨Hb, p, a, ds, ts, d, rfl, _⟩ := h
    rfl
  · obtain ⟨Hb, p, a, ds, ts, d, rfl, ⟨ld, lt, ps, lh, lm, lk, h⟩, sb, da, hlen, k⟩ := h
    obtain ⟨as, d1, d2⟩ := h.dn
    refine ⟨_, pss_cons (ps_expr (pe_bm PySem.F.plainAttrs_list PySem.F.slot_list_append PySem.F.type_list_append mt_append (pe_fld (pv 0) rfl) (pa_cons (pv 1) pa_nil)))
      (pss_one (ps_fld (pv 0) (pe_lst pa_nil) rfl)), ?_⟩
    refine f_done T h ?_
    refine ⟨.inl ⟨rfl, _, SqL.of d1⟩, _, rfl, ld, _, _, rfl, rfl, d1, ?_, ?_⟩
    · rw [List.length_map, pair_len d2, sizeLine_eq]
      omega
    have e : as.map V.ref ++ [V.ref a] = (as ++ [a]).map V.ref := by rw [List.map_append]; rfl
    have h1 := h.dset (ds' := ds ++ [d]) (as := as ++ [a]) (pair_app d2 (.cons da .nil))
    rw [← e] at h1
    have s1 := Same.put (o := .lst (as.map V.ref ++ [V.ref a])) sb h.b2
    obtain ⟨dx, ob⟩ := h1.ob
    refine ⟨(by show 0 ≤ sizeLine; exact Nat.zero_le _), fun l hl => ?_⟩
    refine ⟨_, rfl, p, cHi K, dx, _, rfl, fr ob (ne_of_none ob hl), T.c_History, T.n_History_taken_back, (by show 5 < 1000; decide), ?_⟩
    rw [hF_put]
    exact k _ ⟨ld, l, ps, lh, lm, lk, h1.tnew hl (s1.free hl)⟩ (Same.put (Same.put s1 (s1.free hl)) h.b1)

/-! ### taken back, done again -/
def spUndo (K : PySem.W.Frag) : Sp := fun vs H Q E => ∃ (Hb : Hp) (p : Addr) (ds ts : List Deed), vs = [.ref p] ∧ HistAt K Hb H p ds ts ∧ Same Hb H ∧ ts.length ≤ 900 ∧
  ((ds = [] ∧ ∀ H', Same H H' → E (.ref (cND K)) none H') ∨ ∃ dr d, ds = dr ++ [d] ∧ ∀ H', HistAt K Hb H' p dr (ts ++ [d]) → Same Hb H' → Q .non H')
theorem sc_Undo : FnScope ["self"] ["self"] (defScope xUndo.st) := ⟨rfl, rfl, rfl, by decide +kernel, rfl, by decide +kernel, by decide +kernel⟩
theorem pair_snoc {α β : Type} {F : α → β → Prop} {as : List α} {bs : List β} {b : β} (h : Paired F as (bs ++ [b])) : ∃ cs a, as = cs ++ [a] ∧ Paired F cs bs ∧ F a b := by
  have r := pair_rev h
  rw [List.reverse_append] at r
  cases e : as.reverse with
  | nil => rw [e] at r; cases r
  | cons a q =>
    rw [e] at r
    cases r with
    | cons f g =>
      refine ⟨q.reverse, a, ?_, ?_, f⟩
      · rw [← List.reverse_reverse as, e, List.reverse_cons]
      · have := pair_rev g
        rwa [show List.append ([] : List β) bs.reverse = bs.reverse from rfl, List.reverse_reverse] at this
theorem ok_undo (T : T K mg) : Ok P w K mg base (L2.CX P w) 1 xUndo ["self"] (spUndo K) := by
  refine ok_ofX T.d_Undo sc_Undo (fun vs H Q E h => ?_) (fun _ _ _ _ _ _ us hl => match us, hl with | [_], _ => rfl) (fun f cdv A outer s H vs Q E hr h => ?_)
  · obtain ⟨Hb, p, ds, ts, rfl, _⟩ := h
    rfl
  · obtain ⟨Hb, p, ds, ts, rfl, ⟨ld, lt, ps, lh, lm, lk, h⟩, sb, hlen, k⟩ := h
    obtain ⟨as, d1, d2⟩ := h.dn
    obtain ⟨bs, t1, t2⟩ := h.tk
    have hu := hr.units
    refine ⟨_, pss_cons (ps_if (pt_cmpR ((op_sameL hu).or (op_diffL hu)) (pe_fld (pv 0) rfl) (pe_lst pa_nil) (nomark _))
        (pss_one (ps_raise rfl (takes_of rfl rfl rfl rfl) (pmk_own PySem.F.excBase_ValueError T.x_NoDeed.1 T.g_NoDeed T.x_NoDeed.2.1 (raises_own T.x_NoDeed.2.2.1 T.x_NoDeed.2.2.2) rfl))) pss_nil)
      (pss_one (ps_expr (pe_bm PySem.F.plainAttrs_list PySem.F.slot_list_append PySem.F.type_list_append mt_append (pe_fld (pv 0) rfl)
        (pa_cons (pe_bm0 PySem.F.plainAttrs_list PySem.F.slot_list_pop PySem.F.type_list_pop mt_pop (pe_fld (pv 0) rfl)) pa_nil)))), ?_⟩
    refine f_done T h ?_
    refine ⟨(by show 0 ≤ sizeLine; exact Nat.zero_le _), fun l hl => ?_⟩
    have sl : Same H (upd H l (.lst [])) := same_new hl
    rcases k with ⟨rfl, k⟩ | ⟨dr, d, rfl, k⟩
    · have ea : as = [] := by
        have := pair_len d2
        exact List.length_eq_zero_iff.mp (by rw [this]; rfl)
      rw [ea] at d1
      refine .inl ⟨ld, l, [], [], rfl, rfl, SqL.of (sl _ _ d1), SqL.of upd_same, .nil, _, rfl, iteT ?_⟩
      exact k _ sl
    · obtain ⟨cs, a, rfl, d3, d4⟩ := pair_snoc d2
      refine .inr ⟨ld, l, _, [], rfl, rfl, SqL.of (sl _ _ d1), SqL.of upd_same, by simp, _, rfl, iteF ?_⟩
      have ec : ((cs ++ [a]).map V.ref) = cs.map V.ref ++ [V.ref a] := by rw [List.map_append]; rfl
      have h1 : HistP K Hb (upd H l (.lst [])) p ld lt ps lh lm lk (dr ++ [d]) ts := by
        obtain ⟨dx, ob⟩ := h.ob
        obtain ⟨dy, st⟩ := h.st
        exact { h with ob := ⟨dx, sl _ _ ob⟩, dn := ⟨_, sl _ _ d1, d2.tups (Same.tups sl)⟩, tk := ⟨bs, sl _ _ t1, t2.tups (Same.tups sl)⟩, st := ⟨dy, sl _ _ st⟩, he := sl _ _ h.he, md := sl _ _ h.md, kp := sl _ _ h.kp }
      have s1 : Same Hb (upd H l (.lst [])) := fun b o e => sl _ _ (sb b o e)
      refine f_tb T h1 ⟨.inl ⟨rfl, _, SqL.of (sl _ _ t1)⟩, f_done T h1 ⟨.inl ⟨rfl, _, SqL.of (sl _ _ d1)⟩, ld, _, V.ref a, rfl, rfl, sl _ _ d1, ?_, ?_⟩⟩
      · rw [ec]
        simp
      have h2 := h1.dset (ds' := dr) (as := cs) (DeedsAt.tups (Same.tups sl) d3)
      have t3 : DeedsAt (upd (upd H l (.lst [])) ld (.lst (cs.map V.ref))) (bs ++ [a]) (ts ++ [d]) := DeedsAt.tups ((Same.tups sl).trans (tups_lst (sl _ _ d1))) (pair_app t2 (.cons d4 .nil))
      have h3 := h2.tset t3
      have e1 : ((cs ++ [a]).map V.ref).dropLast = cs.map V.ref := by rw [ec, List.dropLast_concat]
      have e2 : (bs ++ [a]).map V.ref = bs.map V.ref ++ [V.ref a] := by rw [List.map_append]; rfl
      rw [e2] at h3
      refine ⟨lt, _, _, rfl, rfl, (by rw [e1]; exact fr (sl _ _ t1) h.n2.symm), ?_, ?_⟩
      · rw [List.length_map, pair_len t2, sizeLine_eq]
        omega
      rw [e1]
      exact k _ ⟨ld, lt, ps, lh, lm, lk, h3⟩ (Same.put (Same.put s1 h.b2) h.b3)
theorem HistP.same {H H' : Hp} {Hb : Hp} {p ld lt ps lh lm lk : Addr} {ds ts : List Deed} (h : HistP K Hb H p ld lt ps lh lm lk ds ts) (s : Same H H') : HistP K Hb H' p ld lt ps lh lm lk ds ts := by
  obtain ⟨dx, ob⟩ := h.ob
  obtain ⟨as, d1, d2⟩ := h.dn
  obtain ⟨bs, t1, t2⟩ := h.tk
  obtain ⟨dy, st⟩ := h.st
  exact { h with ob := ⟨dx, s _ _ ob⟩, dn := ⟨as, s _ _ d1, d2.tups (Same.tups s)⟩, tk := ⟨bs, s _ _ t1, t2.tups (Same.tups s)⟩, st := ⟨dy, s _ _ st⟩, he := s _ _ h.he, md := s _ _ h.md, kp := s _ _ h.kp }
def spRedo (K : PySem.W.Frag) : Sp := fun vs H Q _ => ∃ (Hb : Hp) (p : Addr) (ds tr : List Deed) (d : Deed), vs = [.ref p] ∧ HistAt K Hb H p ds (tr ++ [d]) ∧ Same Hb H ∧ ds.length ≤ 900 ∧ ∀ H', HistAt K Hb H' p (ds ++ [d]) tr → Same Hb H' → Q .non H'
theorem sc_Redo : FnScope ["self"] ["self"] (defScope xRedo.st) := ⟨rfl, rfl, rfl, by decide +kernel, rfl, by decide +kernel, by decide +kernel⟩
theorem ok_redo (T : T K mg) : Ok P w K mg base CX0 1 xRedo ["self"] (spRedo K) := by
  refine ok_of T.d_Redo sc_Redo (fun vs H Q E h => ?_) (fun _ _ _ _ _ _ us hl => match us, hl with | [_], _ => rfl) (fun f cdv A outer s H vs Q E hr h => ?_)
  · obtain ⟨Hb, p, ds, tr, d, rfl, _⟩ := h
    rfl
  · obtain ⟨Hb, p, ds, tr, d, rfl, ⟨ld, lt, ps, lh, lm, lk, h⟩, sb, hlen, k⟩ := h
    obtain ⟨as, d1, d2⟩ := h.dn
    obtain ⟨bs, t1, t2⟩ := h.tk
    have hu := hr.units
    refine ⟨_, pss_cons (ps_if (pt_cmpR (op_diffL hu) (pe_fld (pv 0) rfl) (pe_lst pa_nil) (nomark _)) pss_never pss_nil)
      (pss_one (ps_expr (pe_bm PySem.F.plainAttrs_list PySem.F.slot_list_append PySem.F.type_list_append mt_append (pe_fld (pv 0) rfl)
        (pa_cons (pe_bm0 PySem.F.plainAttrs_list PySem.F.slot_list_pop PySem.F.type_list_pop mt_pop (pe_fld (pv 0) rfl)) pa_nil)))), ?_⟩
    refine f_tb T h ⟨(by show 0 ≤ sizeLine; exact Nat.zero_le _), fun l hl => ?_⟩
    have sl : Same H (upd H l (.lst [])) := same_new hl
    obtain ⟨cs, a, rfl, t3, t4⟩ := pair_snoc t2
    refine ⟨lt, l, _, [], rfl, rfl, SqL.of (sl _ _ t1), SqL.of upd_same, by simp, _, rfl, iteF ?_⟩
    have ec : ((cs ++ [a]).map V.ref) = cs.map V.ref ++ [V.ref a] := by rw [List.map_append]; rfl
    have h1 := h.same sl
    have s1 : Same Hb (upd H l (.lst [])) := fun b o e => sl _ _ (sb b o e)
    refine f_done T h1 ⟨.inl ⟨rfl, _, SqL.of (sl _ _ d1)⟩, f_tb T h1 ⟨.inl ⟨rfl, _, SqL.of (sl _ _ t1)⟩, lt, _, V.ref a, rfl, rfl, sl _ _ t1, ?_, ?_⟩⟩
    · rw [ec]
      simp
    have h2 := h1.tset (ts' := tr) (bs := cs) (DeedsAt.tups (Same.tups sl) t3)
    have d3 : DeedsAt (upd (upd H l (.lst [])) lt (.lst (cs.map V.ref))) (as ++ [a]) (ds ++ [d]) := DeedsAt.tups ((Same.tups sl).trans (tups_lst (sl _ _ t1))) (pair_app d2 (.cons t4 .nil))
    have h3 := h2.dset d3
    have e1 : ((cs ++ [a]).map V.ref).dropLast = cs.map V.ref := by rw [ec, List.dropLast_concat]
    have e2 : (as ++ [a]).map V.ref = as.map V.ref ++ [V.ref a] := by rw [List.map_append]; rfl
    rw [e2] at h3
    refine ⟨ld, _, _, rfl, rfl, (by rw [e1]; exact fr (sl _ _ d1) h.n2), ?_, ?_⟩
    · rw [List.length_map, pair_len d2, sizeLine_eq]
      omega
    rw [e1]
    exact k _ ⟨ld, lt, ps, lh, lm, lk, h3⟩ (Same.put (Same.put s1 h.b3) h.b2)

/-! ### what is asked of it -/
def spHouse (K : PySem.W.Frag) : Sp := fun vs H Q _ => ∃ (Hb : Hp) (p : Addr) (ds ts : List Deed), vs = [.ref p] ∧ HistAt K Hb H p ds ts ∧ ds.length ≤ 1000 ∧
  ∀ H' t g r, Same H H' → H t = none → H g = none → H r = none → H' t = some (.tup [.ref g, .ref r]) → HouseAt H' g r (houseL ds) → Q (.ref t) H'
theorem sc_House : FnScope ["self"] ["self"] (defScope xHouse.st) := ⟨rfl, rfl, rfl, by decide +kernel, rfl, by decide +kernel, by decide +kernel⟩
theorem ok_house (T : T K mg) : Ok P w K mg base CX0 2 xHouse ["self"] (spHouse K) := by
  refine ok_of T.d_House sc_House (fun vs H Q E h => ?_) (fun _ _ _ _ _ _ us hl => match us, hl with | [_], _ => rfl) (fun f cdv A outer s H vs Q E hr h => ?_)
  · obtain ⟨Hb, p, ds, ts, rfl, _⟩ := h
    rfl
  · obtain ⟨Hb, p, ds, ts, rfl, ⟨ld, lt, ps, lh, lm, lk, h⟩, hlen, k⟩ := h
    obtain ⟨as, d1, d2⟩ := h.dn
    refine ⟨_, pss_one (ps_ret (pe_cl (ok_houseBy T) hr T.g_house_by pass0 (pa_cons (pe_fld (pv 0) rfl) pa_nil))), ?_⟩
    exact f_done T h ⟨ld, as, ds, rfl, d1, d2, hlen, k⟩
def spDeeds (K : PySem.W.Frag) : Sp := fun vs H Q _ => ∃ (Hb : Hp) (p : Addr) (ds ts : List Deed), vs = [.ref p] ∧ HistAt K Hb H p ds ts ∧
  ∀ l as, H l = none → DeedsAt H as ds → Q (.ref l) (upd H l (.lst (as.map V.ref)))
theorem sc_Deeds : FnScope ["self"] ["self"] (defScope xDeeds.st) := ⟨rfl, rfl, rfl, by decide +kernel, rfl, by decide +kernel, by decide +kernel⟩
theorem ok_deeds (T : T K mg) : Ok P w K mg base CX0 1 xDeeds ["self"] (spDeeds K) := by
  refine ok_of T.d_Deeds sc_Deeds (fun vs H Q E h => ?_) (fun _ _ _ _ _ _ us hl => match us, hl with | [_], _ => rfl) (fun f cdv A outer s H vs Q E hr h => ?_)
  · obtain ⟨Hb, p, ds, ts, rfl, _⟩ := h
    rfl
  · obtain ⟨Hb, p, ds, ts, rfl, ⟨ld, lt, ps, lh, lm, lk, h⟩, k⟩ := h
    obtain ⟨as, d1, d2⟩ := h.dn
    refine ⟨_, pss_one (ps_ret (pe_callTy call_list_of (by rfl) T.z_list (by decide +kernel) (pa_cons (pe_fld (pv 0) rfl) pa_nil))), ?_⟩
    exact f_done T h ⟨ld, _, rfl, .inl (SqL.of d1), fun l hl => k l as hl d2⟩
/-- nothing made, nothing kept -/
def spMade (K : PySem.W.Frag) : Sp := fun vs H Q _ => ∃ (Hb : Hp) (p : Addr) (ds ts : List Deed), vs = [.ref p] ∧ HistAt K Hb H p ds ts ∧ ∀ l H', Same H H' → H' l = some (.lst []) → Q (.ref l) H'
theorem sc_Made : FnScope ["self"] ["self"] (defScope xMade.st) := ⟨rfl, rfl, rfl, by decide +kernel, rfl, by decide +kernel, by decide +kernel⟩
theorem ok_made (T : T K mg) : Ok P w K mg base CX0 1 xMade ["self"] (spMade K) := by
  refine ok_of T.d_Made sc_Made (fun vs H Q E h => ?_) (fun _ _ _ _ _ _ us hl => match us, hl with | [_], _ => rfl) (fun f cdv A outer s H vs Q E hr h => ?_)
  · obtain ⟨Hb, p, ds, ts, rfl, _⟩ := h
    rfl
  · obtain ⟨Hb, p, ds, ts, rfl, ⟨ld, lt, ps, lh, lm, lk, h⟩, k⟩ := h
    refine ⟨_, pss_one (ps_ret (pe_callTy call_list_of (by rfl) T.z_list (by decide +kernel) (pa_cons (pe_fld (pv 0) rfl) pa_nil))), ?_⟩
    exact f_lm T h ⟨lm, _, rfl, .inl (SqL.of h.md), fun l hl => k l _ (same_new hl) upd_same⟩
theorem sc_Kept : FnScope ["self"] ["self"] (defScope xKept.st) := ⟨rfl, rfl, rfl, by decide +kernel, rfl, by decide +kernel, by decide +kernel⟩
theorem ok_kept (T : T K mg) : Ok P w K mg base CX0 1 xKept ["self"] (spMade K) := by
  refine ok_of T.d_Kept sc_Kept (fun vs H Q E h => ?_) (fun _ _ _ _ _ _ us hl => match us, hl with | [_], _ => rfl) (fun f cdv A outer s H vs Q E hr h => ?_)
  · obtain ⟨Hb, p, ds, ts, rfl, _⟩ := h
    rfl
  · obtain ⟨Hb, p, ds, ts, rfl, ⟨ld, lt, ps, lh, lm, lk, h⟩, k⟩ := h
    refine ⟨_, pss_one (ps_ret (pe_callTy call_list_of (by rfl) T.z_list (by decide +kernel) (pa_cons (pe_fld (pv 0) rfl) pa_nil))), ?_⟩
    exact f_lk T h ⟨lk, _, rfl, .inl (SqL.of h.kp), fun l hl => k l _ (same_new hl) upd_same⟩
theorem sc_StoreRecords : FnScope ["self"] ["self"] (defScope xStoreRecords.st) := ⟨rfl, rfl, rfl, by decide +kernel, rfl, by decide +kernel, by decide +kernel⟩
theorem ok_storeRecords (T : T K mg) : Ok P w K mg base CX0 2 xStoreRecords ["self"] (spMade K) := by
  refine ok_of T.d_StoreRecords sc_StoreRecords (fun vs H Q E h => ?_) (fun _ _ _ _ _ _ us hl => match us, hl with | [_], _ => rfl) (fun f cdv A outer s H vs Q E hr h => ?_)
  · obtain ⟨Hb, p, ds, ts, rfl, _⟩ := h
    rfl
  · obtain ⟨Hb, p, ds, ts, rfl, ⟨ld, lt, ps, lh, lm, lk, h⟩, k⟩ := h
    obtain ⟨dy, st⟩ := h.st
    refine ⟨_, pss_one (ps_ret (pe_mt0 (pe_fld (pv 0) rfl) T.c_Store T.m_Store_records (ok_records T) hr pass0)), ?_⟩
    exact f_store T h ⟨ps, dy, _, rfl, st, lk_past (by decide +kernel), ps, dy, lh, rfl, st, h.he, fun H' q s1 hq => k q H' s1 hq⟩
end
end Mad

set_option Elab.async false
set_option linter.all false
set_option maxRecDepth 100000
set_option maxHeartbeats 4000000
/-! Deeds are done; a list of deeds is done again. -/
namespace Mad
open PySem PySem.Spec PyProof.Rows L2
section
variable {P : Program} {w : World} {K : PySem.W.Frag} {mg : Str → Option Value} {base : Heap}
def spGive (K : PySem.W.Frag) : Sp := fun vs H Q _ => ∃ (Hb : Hp) (p : Addr) (ds ts : List Deed) (z : Str) (i : Int), vs = [.ref p, .str z, .int i] ∧ HistAt K Hb H p ds ts ∧ Same Hb H ∧ OkName z ∧ ds.length ≤ 900 ∧
  ∀ H', HistAt K Hb H' p (ds ++ [.give z i]) [] → Same Hb H' → Q .non H'
theorem sc_Give : FnScope ["self", "name", "n"] ["self", "name", "n"] (defScope xGive.st) := ⟨rfl, rfl, rfl, by decide +kernel, rfl, by decide +kernel, by decide +kernel⟩
theorem ok_give (T : T K mg) : Ok P w K mg base CX0 3 xGive ["self", "name", "n"] (spGive K) := by
  refine ok_of T.d_Give sc_Give (fun vs H Q E h => ?_) (fun _ _ _ _ _ _ us hl => match us, hl with | [_, _, _], _ => rfl) (fun f cdv A outer s H vs Q E hr h => ?_)
  · obtain ⟨Hb, p, ds, ts, z, i, rfl, _⟩ := h
    rfl
  · obtain ⟨Hb, p, ds, ts, z, i, rfl, h, sb, hz, hlen, k⟩ := h
    have hr1 : Room 1 _ := hr.mono (by decide)
    refine ⟨_, pss_cons (ps_expr (pe_cl (ok_needNames T) hr T.g_need_names pass0 (pa_cons (pe_lst (pa_cons (pv 1) pa_nil)) pa_nil)))
      (pss_cons (ps_if (pt_not (pt_val (pe_cl (ok_isWhole T) hr1 T.g_is_whole_recipes pass0 (pa_cons (pv 2) pa_nil)))) pss_never pss_nil)
      (pss_one (ps_expr (pe_mt (pv 0) T.c_History T.m_History_add (ok_add T) hr1 pass0 (pa_cons (pe_tup (pa_cons pe_str (pa_cons (pv 1) (pa_cons (pv 2) pa_nil)))) pa_nil))))), ?_⟩
    refine ⟨_, rfl, (by show 1 ≤ sizeLine; decide), fun l hl => ?_⟩
    refine ⟨l, [z], rfl, upd_same, fun y hy => by rw [List.mem_singleton.mp hy]; exact hz, fun H1 s1 => ?_⟩
    have sx : Same H H1 := (same_new hl).trans s1
    refine ⟨_, rfl, i, rfl, _, rfl, iteF ?_⟩
    obtain ⟨ld, lt, ps, lh, lm, lk, h1⟩ := h.same sx
    obtain ⟨dx, ob⟩ := h1.ob
    refine ⟨_, rfl, p, dx, _, rfl, ob, hF_no (by decide +kernel), _, rfl, _, rfl, (by show 3 ≤ sizeLine; decide), fun a ha => ?_⟩
    exact ⟨Hb, p, a, ds, ts, .give z i, rfl, ⟨ld, lt, ps, lh, lm, lk, h1.same (same_new ha)⟩, (sb.trans sx).trans (same_new ha), ⟨upd_same, hz, trivial⟩, hlen, k⟩

def spCook (K : PySem.W.Frag) : Sp := fun vs H Q _ => ∃ (Hb : Hp) (p : Addr) (ds ts : List Deed) (z : Str) (r : Addr), vs = [.ref p, .str z, .ref r] ∧ HistAt K Hb H p ds ts ∧ Same Hb H ∧ OkName z ∧ RcAt H 3 13 r ∧ ds.length ≤ 900 ∧
  ∀ H', HistAt K Hb H' p (ds ++ [.cook z r]) [] → Same Hb H' → Q .non H'
theorem sc_Cook : FnScope ["self", "name", "r"] ["self", "name", "r"] (defScope xCook.st) := ⟨rfl, rfl, rfl, by decide +kernel, rfl, by decide +kernel, by decide +kernel⟩
theorem ok_cook (T : T K mg) : Ok P w K mg base CX0 5 xCook ["self", "name", "r"] (spCook K) := by
  refine ok_of T.d_Cook sc_Cook (fun vs H Q E h => ?_) (fun _ _ _ _ _ _ us hl => match us, hl with | [_, _, _], _ => rfl) (fun f cdv A outer s H vs Q E hr h => ?_)
  · obtain ⟨Hb, p, ds, ts, z, i, rfl, _⟩ := h
    rfl
  · obtain ⟨Hb, p, ds, ts, z, r, rfl, h, sb, hz, R, hlen, k⟩ := h
    have hr1 : Room 1 _ := hr.mono (by decide)
    have hr2 : Room 2 _ := hr.mono (by decide)
    refine ⟨_, pss_cons (ps_expr (pe_cl (ok_needNames T) hr2 T.g_need_names pass0 (pa_cons (pe_lst (pa_cons (pv 1) pa_nil)) pa_nil)))
      (pss_cons (ps_if (pt_not (pt_val (pe_cl (ok_isRecipe T) hr T.g_is_recipe pass0 (pa_cons (pv 2) pa_nil)))) pss_never pss_nil)
      (pss_one (ps_expr (pe_mt (pv 0) T.c_History T.m_History_add (ok_add T) hr1 pass0 (pa_cons (pe_tup (pa_cons pe_str (pa_cons (pv 1) (pa_cons (pv 2) pa_nil)))) pa_nil))))), ?_⟩
    refine ⟨_, rfl, (by show 1 ≤ sizeLine; decide), fun l hl => ?_⟩
    refine ⟨l, [z], rfl, upd_same, fun y hy => by rw [List.mem_singleton.mp hy]; exact hz, fun H1 s1 => ?_⟩
    have s2 : Same H H1 := (same_new hl).trans s1
    refine ⟨_, rfl, r, rfl, R.tups (Same.tups s2), fun H2 s3 => ⟨_, rfl, iteF ?_⟩⟩
    have sx : Same H H2 := s2.trans s3
    obtain ⟨ld, lt, ps, lh, lm, lk, h1⟩ := h.same sx
    obtain ⟨dx, ob⟩ := h1.ob
    refine ⟨_, rfl, p, dx, _, rfl, ob, hF_no (by decide +kernel), _, rfl, _, rfl, (by show 3 ≤ sizeLine; decide), fun a ha => ?_⟩
    exact ⟨Hb, p, a, ds, ts, .cook z r, rfl, ⟨ld, lt, ps, lh, lm, lk, h1.same (same_new ha)⟩, (sb.trans sx).trans (same_new ha), ⟨upd_same, hz, R.tups (Same.tups (sx.trans (same_new ha)))⟩, hlen, k⟩

theorem lacks_drop {ds : List Deed} {z : Str} : lacks ds (.drop z) = ((valV (houseL ds).1 (Sum.inr z)).isNone && (valV (houseL ds).2 (Sum.inr z)).isNone) := rfl
def spDrop (K : PySem.W.Frag) : Sp := fun vs H Q E => ∃ (Hb : Hp) (p : Addr) (ds ts : List Deed) (z : Str), vs = [.ref p, .str z] ∧ HistAt K Hb H p ds ts ∧ Same Hb H ∧ OkName z ∧ ds.length ≤ 900 ∧
  (lacks ds (.drop z) = false → ∀ H', HistAt K Hb H' p (ds ++ [.drop z]) [] → Same Hb H' → Q .non H') ∧
  (lacks ds (.drop z) = true → ∀ dx H', H' dx = some (.xd [("name", .str z)]) → Same Hb H' → E (.ref (cNN K)) (some dx) H')
theorem sc_Drop : FnScope ["self", "name", "given", "recipes"] ["self", "name"] (defScope xDrop.st) := ⟨rfl, rfl, rfl, by decide +kernel, rfl, by decide +kernel, by decide +kernel⟩
theorem ok_drop (T : T K mg) : Ok P w K mg base (L2.CX P w) 3 xDrop ["self", "name"] (spDrop K) := by
  refine ok_ofX T.d_Drop sc_Drop (fun vs H Q E h => ?_) (fun _ _ _ _ _ _ us hl => match us, hl with | [_, _], _ => rfl) (fun f cdv A outer s H vs Q E hr h => ?_)
  · obtain ⟨Hb, p, ds, ts, z, rfl, _⟩ := h
    rfl
  · obtain ⟨Hb, p, ds, ts, z, rfl, h, sb, hz, hlen, k1, k2⟩ := h
    have nd := sc_Drop.nd
    have hr1 : Room 1 _ := hr.mono (by decide)
    have hu := hu_of hr
    obtain ⟨fd, F1, hb, kp⟩ := (ok_nnInit (P := P) (w := w) (base := base) T).ex
    refine ⟨_, pss_cons (ps_expr (pe_cl (ok_needNames T) hr T.g_need_names pass0 (pa_cons (pe_lst (pa_cons (pv 1) pa_nil)) pa_nil)))
      (pss_cons (ps_asg (pe_cl (ok_houseBy T) hr1 T.g_house_by pass0 (pa_cons (pe_fld (pv 0) rfl) pa_nil)) (pg_tup (by rfl) (pgs_cons (pg_name (i := 2) nd rfl (Or.inl rfl)) (pgs_cons (pg_name (i := 3) nd rfl (Or.inl rfl)) pgs_nil))))
      (pss_cons (ps_if (PW.pt (pw_and (pt_cmp (pc_dnotin hu (pv 1) (pv 2))) (pw_and1 (pt_cmp (pc_dnotin hu (pv 1) (pv 3))))))
        (pss_one (ps_raise rfl (takes_of rfl rfl rfl rfl) (pmk_oex T.o_NoName T.o_init T.o_fn F1 hr hb .nil pass0 (by rfl) T.g_NoName (pa_cons (pv 1) pa_nil)))) pss_nil)
      (pss_one (ps_expr (pe_mt (pv 0) T.c_History T.m_History_add (ok_add T) hr1 pass0 (pa_cons (pe_tup (pa_cons pe_str (pa_cons (pv 1) pa_nil))) pa_nil)))))), ?_⟩
    refine ⟨_, rfl, (by show 1 ≤ sizeLine; decide), fun l hl => ?_⟩
    refine ⟨l, [z], rfl, upd_same, fun y hy => by rw [List.mem_singleton.mp hy]; exact hz, fun H1 s1 => ?_⟩
    have s2 : Same H H1 := (same_new hl).trans s1
    obtain ⟨ld, lt, ps, lh, lm, lk, h1⟩ := h.same s2
    obtain ⟨as, d1, d2⟩ := h1.dn
    refine f_done T h1 ⟨ld, as, ds, rfl, d1, d2, Nat.le_trans hlen (by decide), fun H2 t g r s3 nt ng nr et hh => ?_⟩
    obtain ⟨hn, eg, er⟩ := hh
    have sx : Same H H2 := s2.trans s3
    have sy : Same Hb H2 := sb.trans sx
    refine ⟨t, _, rfl, SqT.of et, rfl, _, _, rfl, _, _, rfl, rfl, ?_⟩
    -- a new deed
    have go : lacks ds (.drop z) = false → ∀ σ : L2.St, σ = [some (.ref p), some (.str z), some (.ref g), some (.ref r)] → tDrop (tMeth (cHi K) "add" (spAdd K) [] E (tVar 0) (tCons (tTup (tCons (tC (.str "drop")) (tCons (tVar 1) tNil))) tNil)) { nx := fun x H' => Q V.non H', rt := Q } σ H2 := by
      rintro hl σ rfl
      have h2 := h1.same s3
      obtain ⟨dx, ob⟩ := h2.ob
      refine ⟨_, rfl, p, dx, _, rfl, ob, hF_no (by decide +kernel), _, rfl, (by show 2 ≤ sizeLine; decide), fun a ha => ?_⟩
      exact ⟨Hb, p, a, ds, ts, .drop z, rfl, ⟨ld, lt, ps, lh, lm, lk, h2.same (same_new ha)⟩, sy.trans (same_new ha), ⟨upd_same, hz, trivial⟩, hlen, k1 hl⟩
    refine ⟨_, rfl, _, rfl, g, _, rfl, DGet.k (k := Sum.inr z) eg, _, rfl, ?_⟩
    cases e1 : valV (houseL ds).1 (Sum.inr z : Key) with
    | some v =>
      exact iteF (iteF (go (by rw [lacks_drop]; rw [e1]; rfl) _ rfl))
    | none =>
      refine iteT ⟨_, rfl, _, rfl, r, _, rfl, DGet.k (k := Sum.inr z) er, _, rfl, ?_⟩
      cases e2 : valV (houseL ds).2 (Sum.inr z : Key) with
      | some v =>
        exact iteF (go (by rw [lacks_drop]; rw [e1, e2]; rfl) _ rfl)
      | none =>
        refine iteT ⟨_, rfl, (by show 1 ≤ 1000; decide), fun a ha => ?_⟩
        refine ⟨a, z, rfl, upd_same, fun dx h1 h2 => ?_⟩
        refine ⟨rfl, dx, [("name", .str z)], upd_same, ?_, ?_, ?_⟩
        · rw [upd_ne h2, upd_same]
        · rw [upd_ne h2] at h1
          exact h1
        · rw [upd_ne h2] at h1
          refine k2 (by rw [lacks_drop]; rw [e1, e2]; rfl) _ _ upd_same fun b o e => ?_
          have n1 : b ≠ a := ne_of_none (sy _ _ e) ha
          have n2 : b ≠ dx := ne_of_none (sy _ _ e) h1
          rw [upd_ne n2, del_ne n1, upd_ne n1, upd_ne n2, upd_ne n1]
          exact sy _ _ e

/-! ### a deed told as a tuple -/
def spDo (K : PySem.W.Frag) : Sp := fun vs H Q E => ∃ (Hb : Hp) (p a : Addr) (ds ts : List Deed) (d : Deed), vs = [.ref p, .ref a] ∧ HistAt K Hb H p ds ts ∧ Same Hb H ∧ DeedAt H a d ∧ ds.length ≤ 900 ∧
  (lacks ds d = false → ∀ H', HistAt K Hb H' p (ds ++ [d]) [] → Same Hb H' → Q .non H') ∧
  (lacks ds d = true → ∀ dx H', H' dx = some (.xd [("name", .str d.nm)]) → Same Hb H' → E (.ref (cNN K)) (some dx) H')
theorem sc_DoDeed : FnScope ["history", "deed"] ["history", "deed"] (defScope xDoDeed.st) := ⟨rfl, rfl, rfl, by decide +kernel, rfl, by decide +kernel, by decide +kernel⟩
theorem ok_doDeed (T : T K mg) : Ok P w K mg base (L2.CX P w) 6 xDoDeed ["history", "deed"] (spDo K) := by
  refine ok_ofX T.d_DoDeed sc_DoDeed (fun vs H Q E h => ?_) (fun _ _ _ _ _ _ us hl => match us, hl with | [_, _], _ => rfl) (fun f cdv A outer s H vs Q E hr h => ?_)
  · obtain ⟨Hb, p, a, ds, ts, d, rfl, _⟩ := h
    rfl
  · obtain ⟨Hb, p, a, ds, ts, d, rfl, h, sb, da, hlen, k1, k2⟩ := h
    have hu := hr.units
    have hr3 : Room 3 _ := hr.mono (by decide)
    refine ⟨_, pss_cons (ps_if (PW.pt (pw_or (pt_not (pt_val (pe_callB call_isi (by rfl) T.z_isinstance (by decide +kernel) (pa_cons (pv 1) (pa_cons (pe_bltn (v := .ty "tuple") (by rfl) T.z_tuple (by decide +kernel) rfl) pa_nil)))))
        (pw_or1 (pt_cmpR op_lt (pe_callB call_len (by rfl) T.z_len (by decide +kernel) (pa_cons (pv 1) pa_nil)) pe_int (nomark _))))) pss_never pss_nil)
      (pss_one (ps_if (PW.pt (pw_and (pt_cmpR op_eq (pe_ix ix_tup (pv 1) pe_int (fun _ _ => rfl)) pe_str (nomark _)) (pw_and1 (pt_cmpR op_eq (pe_callB call_len (by rfl) T.z_len (by decide +kernel) (pa_cons (pv 1) pa_nil)) pe_int (nomark _)))))
        (pss_one (ps_expr (pe_mt (pv 0) T.c_History T.m_History_give (ok_give T) hr3 pass0 (pa_cons (pe_ix ix_tup (pv 1) pe_int (fun _ _ => rfl)) (pa_cons (pe_ix ix_tup (pv 1) pe_int (fun _ _ => rfl)) pa_nil)))))
      (pss_one (ps_if (PW.pt (pw_and (pt_cmpR op_eq (pe_ix ix_tup (pv 1) pe_int (fun _ _ => rfl)) pe_str (nomark _)) (pw_and1 (pt_cmpR op_eq (pe_callB call_len (by rfl) T.z_len (by decide +kernel) (pa_cons (pv 1) pa_nil)) pe_int (nomark _)))))
        (pss_one (ps_expr (pe_mt (pv 0) T.c_History T.m_History_cook (ok_cook T) hr pass0 (pa_cons (pe_ix ix_tup (pv 1) pe_int (fun _ _ => rfl)) (pa_cons (pe_ix ix_tup (pv 1) pe_int (fun _ _ => rfl)) pa_nil)))))
      (pss_one (ps_if (PW.pt (pw_and (pt_cmpR op_eq (pe_ix ix_tup (pv 1) pe_int (fun _ _ => rfl)) pe_str (nomark _)) (pw_and1 (pt_cmpR op_eq (pe_callB call_len (by rfl) T.z_len (by decide +kernel) (pa_cons (pv 1) pa_nil)) pe_int (nomark _)))))
        (pss_one (ps_expr (pe_mt (pv 0) T.c_History T.m_History_drop (ok_drop T) hr3 (passes_call (takes_of rfl rfl rfl rfl) (fun _ _ _ _ q => q)) (pa_cons (pe_ix ix_tup (pv 1) pe_int (fun _ _ => rfl)) pa_nil))))
      pss_never)))))), ?_⟩
    have e := da.tup
    have sq : SqT K H a d.vs := SqT.of e
    have hz := da.name
    have l2 : 2 ≤ d.vs.length := by cases d <;> simp [Deed.vs]
    obtain ⟨ld, lt, ps, lh, lm, lk, h⟩ := h
    obtain ⟨dx, ob⟩ := h.ob
    refine ⟨_, rfl, _, _, _, _, true, rfl, .ty "tuple", .base (.tup e), kit_ty (by decide +kernel), _, rfl, iteF ?_⟩
    refine ⟨_, rfl, _, _, rfl, .inr ⟨_, sq, rfl⟩, _, _, rfl, rfl, _, rfl, iteN (decide_eq_false (by omega)) ?_⟩
    refine ⟨_, rfl, a, _, _, _, rfl, rfl, sq, at_of (j := 0) rfl (vs0 d), rfl, _, rfl, ?_⟩
    cases d with
    | give z i =>
      refine iteY str_yes ⟨_, rfl, _, _, rfl, .inr ⟨_, sq, rfl⟩, rfl, _, rfl, iteY (int_yes rfl) ?_⟩
      refine ⟨_, rfl, p, dx, _, rfl, ob, hF_no (by decide +kernel), _, rfl, a, _, _, _, rfl, rfl, sq, at_of (j := 1) rfl rfl, _, rfl, a, _, _, _, rfl, rfl, sq, at_of (j := 2) rfl rfl, ?_⟩
      exact ⟨Hb, p, ds, ts, z, i, rfl, ⟨ld, lt, ps, lh, lm, lk, h⟩, sb, hz, hlen, k1 rfl⟩
    | cook z r =>
      refine iteN (show decide (V.str "cook" = V.str "give") = false by decide +kernel) (iteF ?_)
      refine ⟨_, rfl, a, _, _, _, rfl, rfl, sq, at_of (j := 0) rfl rfl, rfl, _, rfl, iteY str_yes ?_⟩
      refine ⟨_, rfl, _, _, rfl, .inr ⟨_, sq, rfl⟩, rfl, _, rfl, iteY (int_yes rfl) ?_⟩
      refine ⟨_, rfl, p, dx, _, rfl, ob, hF_no (by decide +kernel), _, rfl, a, _, _, _, rfl, rfl, sq, at_of (j := 1) rfl rfl, _, rfl, a, _, _, _, rfl, rfl, sq, at_of (j := 2) rfl rfl, ?_⟩
      exact ⟨Hb, p, ds, ts, z, r, rfl, ⟨ld, lt, ps, lh, lm, lk, h⟩, sb, hz, da.more, hlen, k1 rfl⟩
    | drop z =>
      refine iteN (show decide (V.str "drop" = V.str "give") = false by decide +kernel) (iteF ?_)
      refine ⟨_, rfl, a, _, _, _, rfl, rfl, sq, at_of (j := 0) rfl rfl, rfl, _, rfl, iteN (show decide (V.str "drop" = V.str "cook") = false by decide +kernel) (iteF ?_)⟩
      refine ⟨_, rfl, a, _, _, _, rfl, rfl, sq, at_of (j := 0) rfl rfl, rfl, _, rfl, iteY str_yes ?_⟩
      refine ⟨_, rfl, _, _, rfl, .inr ⟨_, sq, rfl⟩, rfl, _, rfl, iteY (int_yes rfl) ?_⟩
      refine ⟨_, rfl, p, dx, _, rfl, ob, hF_no (by decide +kernel), _, rfl, a, _, _, _, rfl, rfl, sq, at_of (j := 1) rfl rfl, ?_⟩
      exact ⟨Hb, p, ds, ts, z, rfl, ⟨ld, lt, ps, lh, lm, lk, h⟩, sb, hz, hlen, k1, k2⟩

/-! ### a list of deeds, done again -/
def spReplayed (K : PySem.W.Frag) : Sp := fun vs H Q E => ∃ (l : Addr) (as : List Addr) (ds : List Deed), vs = [.ref l] ∧ H l = some (.lst (as.map V.ref)) ∧ DeedsAt H as ds ∧ ds.length ≤ 900 ∧
  (lackL ds = none → ∀ p H', HistAt K H H' p ds [] → Same H H' → Q (.ref p) H') ∧
  (∀ z, lackL ds = some z → ∀ dx H', H' dx = some (.xd [("name", .str z)]) → Same H H' → E (.ref (cNN K)) (some dx) H')
theorem sc_Replayed : FnScope ["deeds", "found", "deed"] ["deeds"] (defScope xReplayed.st) := ⟨rfl, rfl, rfl, by decide +kernel, rfl, by decide +kernel, by decide +kernel⟩
theorem ok_replayed (T : T K mg) : Ok P w K mg base (L2.CX P w) 7 xReplayed ["deeds"] (spReplayed K) := by
  refine ok_ofX T.d_Replayed sc_Replayed (fun vs H Q E h => ?_) (fun _ _ _ _ _ _ us hl => match us, hl with | [_], _ => rfl) (fun f cdv A outer s H vs Q E hr h => ?_)
  · obtain ⟨l, as, ds, rfl, _⟩ := h
    rfl
  · obtain ⟨l, as, ds, rfl, el, hds, hlen, k1, k2⟩ := h
    have nd := sc_Replayed.nd
    refine ⟨_, pss_cons (ps_set (i := 1) nd rfl (Or.inl rfl) (pe_mk0 T.k_History (ok_hInit T) (hr.mono (by decide)) T.g_History pass0))
      (pss_cons (ps_for (passes_of rfl) rfl (pi_list (pv 0)) (pg_name (i := 2) nd rfl (Or.inl rfl))
        (pss_one (ps_expr (pe_cl (ok_doDeed T) hr T.g_do_deed (passes_call (takes_of rfl rfl rfl rfl) (fun _ _ _ _ q => q)) (pa_cons (pv 1) (pa_cons (pv 2) pa_nil))))))
      (pss_one (ps_ret (pv 1)))), ?_⟩
    intro p dy np nd2 hne
    have sm := same_made (C := cHi K) np nd2
    refine ⟨H, p, dy, rfl, upd_same, np, sm, fun H1 h1 s1 => ⟨rfl, ?_⟩⟩
    refine ⟨_, rfl, l, rfl, ⟨_, SqL.of (s1 _ _ el)⟩, for_list (K := K) (a := l) (xs := as.map V.ref)
      (fun i σ H' => ∃ v2 : Option V, σ = [some (.ref l), some (.ref p), v2] ∧ Same H H' ∧ HistAt K H H' p (ds.take i) [] ∧ lackL ds = lackFrom (ds.take i) (ds.drop i))
      ⟨none, rfl, s1, h1, rfl⟩ (fun i σ H' _ ⟨_, _, s2, _⟩ => SqL.of (s2 _ _ el)) ?_ ?_⟩
    · rintro i y σ H2 hy ⟨v2, rfl, s2, h2, hl⟩
      obtain ⟨a, ha, rfl⟩ : ∃ a, as[i]? = some a ∧ V.ref a = y := by
        rw [List.getElem?_map] at hy
        exact Option.map_eq_some_iff.mp hy
      obtain ⟨d, hd, hda⟩ := pair_get hds ha
      rw [lack_at hd] at hl
      refine ⟨_, rfl, _, rfl, H, p, a, ds.take i, [], d, rfl, h2, s2, hda.tups (Same.tups s2), (by rw [List.length_take]; omega), fun hk H3 h3 s3 => ?_, fun hk dx H3 e3 s3 => ?_⟩
      · refine ⟨_, rfl, s3, by rw [take_at hd]; exact h3, ?_⟩
        rw [hl, hk]
        exact if_neg Bool.false_ne_true
      · refine k2 d.nm ?_ dx H3 e3 s3
        rw [hl, hk]
        exact if_pos rfl
    · rintro σ H2 ⟨v2, rfl, s2, h2, hl⟩
      have et : ds.take (as.map V.ref).length = ds := by rw [List.length_map, pair_len hds, List.take_length]
      have ed : ds.drop (as.map V.ref).length = [] := by rw [List.length_map, pair_len hds, List.drop_length]
      rw [et] at h2
      rw [et, ed] at hl
      exact ⟨_, rfl, k1 hl p H2 h2 s2⟩
end
end Mad

set_option Elab.async false
set_option linter.all false
set_option maxRecDepth 100000
set_option maxHeartbeats 4000000
/-! The law's numbers: a cell, a pool, what is taken of it. -/
namespace Mad
open PySem PySem.Spec PyProof.Rows L2
/-! ### all but one object stays -/
def Sb (a : Addr) (H H' : Hp) : Prop := ∀ b o, H b = some o → b ≠ a → H' b = some o
theorem Sb.trans {a : Addr} {H H1 H2 : Hp} (s : Sb a H H1) (t : Sb a H1 H2) : Sb a H H2 := fun b o e n => t b o (s b o e n) n
theorem Same.sb {a : Addr} {H H' : Hp} (s : Same H H') : Sb a H H' := fun b o e _ => s b o e
theorem sb_upd {a : Addr} {H : Hp} {o : HO} : Sb a H (upd H a o) := fun b u e n => fr e n
/-- what the elder heap does not track may change -/
theorem Same.sbt {a : Addr} {H H1 H2 : Hp} (s : Same H H1) (n : H a = none) (t : Sb a H1 H2) : Same H H2 := fun b o e => t b o (s b o e) (ne_of_none e n)
/-! ### a pool -/
def pk (r b c : V) : Kvs := [(Sum.inr "rest", r), (Sum.inr "mixed", b), (Sum.inr "count", c)]
theorem ne_rm : ¬ (("rest" : Str) = "mixed") := by decide +kernel
theorem ne_rc : ¬ (("rest" : Str) = "count") := by decide +kernel
theorem ne_mc : ¬ (("mixed" : Str) = "count") := by decide +kernel
theorem ne_mr : ¬ (("mixed" : Str) = "rest") := by decide +kernel
theorem ne_cr : ¬ (("count" : Str) = "rest") := by decide +kernel
theorem ne_cm : ¬ (("count" : Str) = "mixed") := by decide +kernel
theorem pk_rest {r b c : V} : valV (pk r b c) (Sum.inr "rest" : Key) = some r := valV_pos rfl
theorem pk_mixed {r b c : V} : valV (pk r b c) (Sum.inr "mixed" : Key) = some b := (valV_neg fun z => ne_rm (Sum.inr.inj z)).trans (valV_pos rfl)
theorem pk_count {r b c : V} : valV (pk r b c) (Sum.inr "count" : Key) = some c := (valV_neg fun z => ne_rc (Sum.inr.inj z)).trans ((valV_neg fun z => ne_mc (Sum.inr.inj z)).trans (valV_pos rfl))
theorem put_rest {r b c x : V} : putK (pk r b c) (Sum.inr "rest" : Key) x = pk x b c := by
  simp [putK, pk, ne_mr, ne_cr]
theorem put_count {r b c x : V} : putK (pk r b c) (Sum.inr "count" : Key) x = pk r b x := by
  simp [putK, pk, ne_rc, ne_mc]
theorem merge_pk {r b c : V} : mergeK [] (pk r b c) = pk r b c := by
  simp [mergeK, putK, pk, ne_rm, ne_rc, ne_mc, ne_mr, ne_cr, ne_cm]
def PoolAt (H : Hp) (a : Addr) (n : Nat) : Prop := ∃ (r : Int) (b : Bool) (c : Int), H a = some (.dK (pk (.int r) (.bl b) (.int c))) ∧ 0 ≤ c ∧ c ≤ (n : Int)
theorem PoolAt.mono {H : Hp} {a : Addr} {n m : Nat} (h : PoolAt H a n) (l : n ≤ m) : PoolAt H a m := by
  obtain ⟨r, b, c, e, c0, c1⟩ := h
  exact ⟨r, b, c, e, c0, by omega⟩
theorem PoolAt.same {H H' : Hp} {a : Addr} {n : Nat} (h : PoolAt H a n) (s : Same H H') : PoolAt H' a n := by
  obtain ⟨r, b, c, e, c0, c1⟩ := h
  exact ⟨r, b, c, s _ _ e, c0, c1⟩
theorem PoolAt.some {H : Hp} {a : Addr} {n : Nat} (h : PoolAt H a n) : ∃ kvs, H a = some (.dK kvs) := by
  obtain ⟨r, b, c, e, _⟩ := h
  exact ⟨_, e⟩
/-- tuples stay where but a dict changes -/
theorem Sb.tups {a : Addr} {H H' : Hp} {n : Nat} (s : Sb a H H') (h : PoolAt H a n) : Tups H H' := fun b xs e => by
  obtain ⟨kvs, k⟩ := h.some
  exact s b _ e (dif e k fun z => nomatch z)
section
variable {P : Program} {w : World} {K : PySem.W.Frag} {mg : Str → Option Value} {base : Heap}
/-! ### a cell -/
def spNth (K : PySem.W.Frag) : Sp := fun vs H Q _ => ∃ (l : Addr) (ns : List Int) (k : Int), vs = [.ref l, .int k] ∧ SqL K H l (ns.map V.int) ∧ ∀ i H', Same H H' → Q (.int i) H'
theorem sc_Nth : FnScope ["script", "k", "cell"] ["script", "k"] (defScope xNth.st) := ⟨rfl, rfl, rfl, by decide +kernel, rfl, by decide +kernel, by decide +kernel⟩
theorem cut_mem {xs : List V} {lo hi : Option Int} {x : V} (h : x ∈ cutV xs lo hi) : x ∈ xs := List.mem_of_mem_drop (List.mem_of_mem_take h)
theorem ok_nth (T : T K mg) : Ok P w K mg base CX0 1 xNth ["script", "k"] (spNth K) := by
  refine ok_of T.d_Nth sc_Nth (fun vs H Q E h => ?_) (fun _ _ _ _ _ _ us hl => match us, hl with | [_, _], _ => rfl) (fun f cdv A outer s H vs Q E hr h => ?_)
  · obtain ⟨l, ns, k, rfl, _⟩ := h
    rfl
  · obtain ⟨l, ns, k, rfl, el, q⟩ := h
    have nd := sc_Nth.nd
    refine ⟨_, pss_cons (ps_for PassesOwn.never rfl (pi_list (pe_slice sl_list (pv 0) (po_some (pv 1)) (po_some (pe_op op_add (pv 1) pe_int)))) (pg_name (i := 2) nd rfl (Or.inl rfl))
      (pss_one (ps_ret (pv 2)))) (pss_one (ps_ret pe_int)), ?_⟩
    refine ⟨_, rfl, _, rfl, k, rfl, _, rfl, k, 1, rfl, rfl, k + 1, rfl, l, _, rfl, el, fun p hp => ⟨p, rfl, ⟨_, SqL.of upd_same⟩, ?_⟩⟩
    have sp := same_new (o := .lst (cutV (ns.map V.int) (some k) (some (k + 1)))) hp
    refine for_list (K := K) (a := p) (xs := cutV (ns.map V.int) (some k) (some (k + 1))) (fun i σ H' => σ = [some (.ref l), some (.int k), none] ∧ H' = upd H p (.lst (cutV (ns.map V.int) (some k) (some (k + 1)))))
      ⟨rfl, rfl⟩ (fun i σ H' _ e => SqL.of (by rw [e.2, upd_same])) ?_ ?_
    · rintro i x σ H' hx ⟨rfl, rfl⟩
      obtain ⟨j, _, rfl⟩ := List.mem_map.mp (cut_mem (List.mem_of_getElem? hx))
      exact ⟨_, rfl, q j _ sp⟩
    · rintro σ H' ⟨rfl, rfl⟩
      exact q 0 _ sp

/-! ### a pool of a cell -/
def spPool (K : PySem.W.Frag) : Sp := fun vs H Q _ => ∃ (l : Addr) (ns : List Int) (k : Int), vs = [.ref l, .int k] ∧ SqL K H l (ns.map V.int) ∧ 0 ≤ k ∧ k ≤ 100 ∧ ∀ a H', Same H H' → H a = none → PoolAt H' a 1000 → Q (.ref a) H'
theorem sc_Pool : FnScope ["script", "k", "cell"] ["script", "k"] (defScope xPool.st) := ⟨rfl, rfl, rfl, by decide +kernel, rfl, by decide +kernel, by decide +kernel⟩
theorem ok_pool (T : T K mg) : Ok P w K mg base CX0 2 xPool ["script", "k"] (spPool K) := by
  refine ok_of T.d_Pool sc_Pool (fun vs H Q E h => ?_) (fun _ _ _ _ _ _ us hl => match us, hl with | [_, _], _ => rfl) (fun f cdv A outer s H vs Q E hr h => ?_)
  · obtain ⟨l, ns, k, rfl, _⟩ := h
    rfl
  · obtain ⟨l, ns, k, rfl, el, k0, k1, q⟩ := h
    have nd := sc_Pool.nd
    refine ⟨_, pss_cons (ps_set (i := 2) nd rfl (Or.inl rfl) (pe_cl (ok_nth T) hr T.g_law_nth pass0 (pa_cons (pv 0) (pa_cons (pv 1) pa_nil))))
      (pss_one (ps_ret (pe_disp (pps_cons pe_str (pv 2) (pps_cons pe_str (pe_cmpR op_lt (pv 2) (pe_op op_pow pe_int pe_int) (nomark _)) (pps_cons pe_str (pe_op op_add pe_int (pe_op op_mul pe_int (pv 1))) pps_nil))) rfl rfl (by simp) (by decide)))), ?_⟩
    refine ⟨_, rfl, _, rfl, l, ns, k, rfl, el, fun i H1 s1 => ?_⟩
    intro p hp
    refine ⟨_, rfl, _, rfl, 10, 18, rfl, rfl, ⟨by decide, by decide, by decide⟩, i, _, rfl, rfl, _, rfl, 7, k, rfl, rfl, .inl ⟨by decide, by decide⟩, 5, 7 * k, rfl, rfl, ?_⟩
    refine ⟨upd_same, pk (.int i) (.bl (decide (i < 10 ^ 18))) (.int (5 + 7 * k)), rfl, (by show 3 ≤ 15; decide), ?_⟩
    rw [merge_pk]
    have np : H p = none := s1.free hp
    exact q p _ (Same.put (Same.put s1 np) np) np ⟨i, _, _, upd_same, by omega, by omega⟩

/-! ### a number taken of a pool -/
def spTake : Sp := fun vs H Q _ => ∃ (a : Addr) (n : Nat) (m : Int), vs = [.ref a, .int m] ∧ PoolAt H a n ∧ n ≤ 1000000 ∧ 0 < m ∧ m < 1000000 ∧ ∀ r H', 0 ≤ r → r < m → Sb a H H' → PoolAt H' a (n + 1) → Q (.int r) H'
theorem sc_Take : FnScope ["pool", "many", "rest"] ["pool", "many"] (defScope xTake.st) := ⟨rfl, rfl, rfl, by decide +kernel, rfl, by decide +kernel, by decide +kernel⟩
theorem ok_take (T : T K mg) : Ok P w K mg base CX0 1 xTake ["pool", "many"] spTake := by
  refine ok_of T.d_Take sc_Take (fun vs H Q E h => ?_) (fun _ _ _ _ _ _ us hl => match us, hl with | [_, _], _ => rfl) (fun f cdv A outer s H vs Q E hr h => ?_)
  · obtain ⟨a, n, m, rfl, _⟩ := h
    rfl
  · obtain ⟨a, n, m, rfl, ⟨r, b, c, e, c0, c1⟩, hn, m0, m1, q⟩ := h
    have nd := sc_Take.nd
    have hu := hu_of hr
    refine ⟨_, pss_cons (ps_set (i := 2) nd rfl (Or.inl rfl) (pe_dget hu (pv 0) pe_str (fun _ _ => rfl)))
      (pss_cons (ps_if (pt_not (pt_val (pe_dget hu (pv 0) pe_str (fun _ _ => rfl))))
        (pss_cons (ps_dput hu (pv 0) pe_str (pe_op op_fdiv (pv 2) (pv 1)) rfl) (pss_one (ps_ret (pe_op op_mod (pv 2) (pv 1))))) pss_nil)
      (pss_cons (ps_dput hu (pv 0) pe_str (pe_op op_add (pe_dget hu (pv 0) pe_str (fun _ _ => rfl)) pe_int) rfl)
      (pss_cons (ps_set (i := 2) nd rfl (Or.inl rfl) (pe_op op_add (pe_op op_mod (pv 2) pe_int) (pe_op op_mul pe_int (pe_dget hu (pv 0) pe_str (fun _ _ => rfl)))))
      (pss_cons (ps_set (i := 2) nd rfl (Or.inl rfl) (pe_op op_mod (pe_op op_mul (pv 2) (pe_op op_add (pv 2) pe_int)) pe_int))
      (pss_cons (ps_set (i := 2) nd rfl (Or.inl rfl) (pe_op op_mod (pe_op op_mul (pv 2) (pv 2)) pe_int))
      (pss_cons (ps_dput hu (pv 0) pe_str (pv 2) rfl)
      (pss_one (ps_ret (pe_op op_mod (pe_op op_fdiv (pv 2) pe_int) (pv 1)))))))))), ?_⟩
    have dg : ∀ {H' : Hp} {r b c : V} {k : Str} {v : V}, H' a = some (.dK (pk r b c)) → valV (pk r b c) (Sum.inr k : Key) = some v → DGet H' a (.str k) (some v) := fun {H' r b c k v} e1 e2 => by
      have := DGet.k (k := (Sum.inr k : Key)) e1
      rw [e2] at this
      exact this
    refine ⟨_, rfl, a, _, rfl, dg e pk_rest, ?_⟩
    refine ⟨_, rfl, a, _, rfl, dg e pk_mixed, b, rfl, ?_⟩
    cases b with
    | false =>
      refine iteT ?_
      refine ⟨_, rfl, _, rfl, r, m, rfl, rfl, ⟨m0, by omega⟩, _, rfl, a, _, rfl, DPut.k (k := Sum.inr "rest") e (small1000 (by show 3 ≤ 1000; decide)), ?_⟩
      rw [put_rest]
      refine ⟨_, rfl, _, rfl, r, m, rfl, rfl, m0, q _ _ (Int.emod_nonneg _ (by omega)) (Int.emod_lt_of_pos _ m0) sb_upd ⟨_, _, _, upd_same, c0, by omega⟩⟩
    | true =>
      refine iteF ?_
      refine ⟨_, rfl, a, _, rfl, dg e pk_count, c, 1, rfl, rfl, _, rfl, a, _, rfl, DPut.k (k := Sum.inr "count") e (small1000 (by show 3 ≤ 1000; decide)), ?_⟩
      rw [put_count]
      refine ⟨_, rfl, r, 1000000000259, rfl, rfl, (by show (0:Int) < 1000000000259; decide), _, rfl, a, _, rfl, dg upd_same pk_count, 80021, c + 1, rfl, rfl, .inl ⟨by decide, by decide⟩, _, _, rfl, rfl, ?_⟩
      have h0 : 0 ≤ r % 1000000000259 := Int.emod_nonneg _ (by decide)
      have h1 : r % 1000000000259 < 1000000000259 := Int.emod_lt_of_pos _ (by decide)
      have hx0 : 0 ≤ r % 1000000000259 + 80021 * (c + 1) := by omega
      have hx1 : r % 1000000000259 + 80021 * (c + 1) < 2000000000000 := by omega
      obtain ⟨x, hx⟩ : ∃ x, r % 1000000000259 + 80021 * (c + 1) = x := ⟨_, rfl⟩
      rw [hx] at hx0 hx1
      have vx : (V.int (r % 1000000000259 + 80021 * (c + 1))) = V.int x := congrArg V.int hx
      refine ⟨_, rfl, _, rfl, x, 41, vx, rfl, x, x + 41, vx, rfl, .inl ⟨by omega, by omega⟩, _, 1000000000273, rfl, rfl, (by show (0:Int) < 1000000000273; decide), ?_⟩
      have hy0 : 0 ≤ x * (x + 41) % 1000000000273 := Int.emod_nonneg _ (by decide)
      have hy1 : x * (x + 41) % 1000000000273 < 1000000000273 := Int.emod_lt_of_pos _ (by decide)
      obtain ⟨y, hy⟩ : ∃ y, x * (x + 41) % 1000000000273 = y := ⟨_, rfl⟩
      rw [hy] at hy0 hy1
      have vy : (V.int (x * (x + 41) % 1000000000273)) = V.int y := congrArg V.int hy
      refine ⟨_, rfl, _, rfl, y, y, vy, vy, .inl ⟨by omega, by omega⟩, _, 999999999899, rfl, rfl, (by show (0:Int) < 999999999899; decide), ?_⟩
      refine ⟨_, rfl, _, rfl, a, _, rfl, DPut.k (k := Sum.inr "rest") upd_same (small1000 (by show 3 ≤ 1000; decide)), ?_⟩
      rw [put_rest]
      refine ⟨_, rfl, _, 11, rfl, rfl, ⟨by decide, by decide⟩, _, rfl, _, m, rfl, rfl, m0, q _ _ (Int.emod_nonneg _ (by omega)) (Int.emod_lt_of_pos _ m0) (sb_upd.trans sb_upd) ⟨_, _, _, upd_same, by omega, by omega⟩⟩
end
end Mad

set_option Elab.async false
set_option linter.all false
set_option maxRecDepth 100000
set_option maxHeartbeats 4000000
/-! The law's recipes. -/
namespace Mad
open PySem PySem.Spec PyProof.Rows L2
/-! ### != of two lists of other lengths -/
def rDiffN (K : PySem.W.Frag) : R2 := fun x y H Q => ∃ a b xs ys, x = .ref a ∧ y = .ref b ∧ SqL K H a xs ∧ SqL K H b ys ∧ xs.length ≠ ys.length ∧ Q (.bl true) H
theorem op_diffN {X : Cx} (hu : X.A.units + 64 < cLine) : OpR X (compareOp .NotEq) (rDiffN X.K) := by
  intro pins s σ H x y v u Q I rx ry h
  obtain ⟨a, b, xs, ys, rfl, rfl, ha, hb, hp, q⟩ := h
  cases (show v = Value.ref a from rx)
  cases (show u = Value.ref b from ry)
  obtain ⟨us, r1, p1, _⟩ := I.list ha
  obtain ⟨ws, r2, p2, _⟩ := I.list hb
  have e1 := r1.length
  have e2 := r2.length
  have k := SeqAt.RcNeAt.lists_lengths (A := X.A) p1.isList p2.isList (by simp only [List.size_toArray, bne_iff_ne, ne_eq]; omega) (by omega)
  exact k X.prog X.w _ _ ⟨.bl true, H, I, rfl, q⟩
def sz : Nat → Nat
  | 0 => 1
  | t + 1 => 3 * sz t + 1
def bd : Nat → Nat
  | 0 => 3
  | t + 1 => 3 * bd t + 10
theorem sz_pos : ∀ t, ∃ m, sz t = m + 1
  | 0 => ⟨0, rfl⟩
  | t + 1 => ⟨3 * sz t, rfl⟩
theorem bd_pos : ∀ t, 3 ≤ bd t
  | 0 => by decide
  | t + 1 => by show 3 ≤ 3 * bd t + 10; omega
def spR (K : PySem.W.Frag) (t : Nat) : Sp := fun vs H Q _ => ∃ (a l : Addr) (zs : List Str) (n : Nat), vs = [.ref a, .ref l, .int (t : Int)] ∧ PoolAt H a n ∧ n + bd t ≤ 1000000 ∧ H l = some (.lst (zs.map V.str)) ∧ zs.length ≤ 9 ∧ (∀ z ∈ zs, OkName z) ∧
  ∀ b H', Sb a H H' → PoolAt H' a (n + bd t) → RcAt H' (t + 1) (sz t) b → Q (.ref b) H'
def spRec (K : PySem.W.Frag) : Nat → Sp
  | 0 => fun _ _ _ _ => False
  | t + 1 => spR K t
section
variable {P : Program} {w : World} {K : PySem.W.Frag} {mg : Str → Option Value} {base : Heap}
theorem sc_Recipe : FnScope ["pool", "names", "depth", "kind", "one", "k", "some", "other"] ["pool", "names", "depth"] (defScope xRecipe.st) := ⟨rfl, rfl, rfl, by decide +kernel, rfl, by decide +kernel, by decide +kernel⟩
theorem name_at {zs : List Str} {r : Int} (h0 : 0 ≤ r) (h1 : r < (zs.length : Int)) : ∃ z, z ∈ zs ∧ atI (zs.map V.str) r = some (.str z) := by
  have hj : r.toNat < zs.length := by omega
  refine ⟨zs[r.toNat], List.getElem_mem hj, at_of (j := r.toNat) (by omega) ?_⟩
  rw [List.getElem?_map, List.getElem?_eq_getElem hj]
  rfl
abbrev rSb : R2 := rI0 fun i j => .int (i - j)
abbrev rLt2 : R2 := rI0 fun i j => .bl (decide (i < j))
abbrev eTake (m : Int) : TE := tCall spTake [] E0 (tCons (tVar 0) (tCons (tC (.int m)) tNil))
abbrev ePick (K : PySem.W.Frag) : TE := tOp (rIxL K) (tVar 1) (tCall spTake [] E0 (tCons (tVar 0) (tCons (tCB (rLen K) (tCons (tVar 1) tNil)) tNil)))
abbrev eRec (K : PySem.W.Frag) (t : Nat) : TE := tCall (spRec K t) [] E0 (tCons (tVar 0) (tCons (tVar 1) (tCons (tOp rSb (tVar 2) (tC (.int 1))) tNil)))
abbrev tNum : TS := tRet (tTup (tCons (tC (.str "number")) (tCons (tOp rSb (eTake 9) (tC (.int 4))) tNil)))
abbrev tLeaf (K : PySem.W.Frag) : TS := tSeq (tIfS (tOr (tTest (tOp rEq (eTake 3) (tC (.int 0)))) (tTest (tOp (fun x y H Q => rSameL K true x y H Q ∨ rDiffL K x y H Q) (tVar 1) (tLst tNil)))) tNum tNext) (tRet (tTup (tCons (tC (.str "read")) (tCons (ePick K) tNil))))
theorem pick_run {a l : Addr} {zs : List Str} {n : Nat} {σ : L2.St} {H : Hp} {Q : VK} (s0 : σ[0]? = some (some (.ref a))) (s1 : σ[1]? = some (some (.ref l))) (hp : PoolAt H a n) (hn : n ≤ 1000000) (hl : H l = some (.lst (zs.map V.str))) (h0 : 1 ≤ zs.length) (h9 : zs.length ≤ 9)
    (k : ∀ z H', z ∈ zs → Sb a H H' → PoolAt H' a (n + 1) → Q (.str z) H') : ePick K σ H Q := by
  have na : l ≠ a := by
    obtain ⟨kvs, e⟩ := hp.some
    exact dif hl e fun z => nomatch z
  have el : (zs.map V.str).length = zs.length := List.length_map _
  refine ⟨_, s1, _, s0, _, s1, _, _, rfl, .inl ⟨_, SqL.of hl, rfl⟩, a, n, ((zs.map V.str).length : Nat), rfl, hp, hn, by omega, by omega, fun r H2 r0 r1 s2 p2 => ?_⟩
  obtain ⟨z, hz, e⟩ := name_at (zs := zs) r0 (by rw [el] at r1; exact r1)
  exact ⟨l, _, r, _, rfl, rfl, SqL.of (s2 _ _ hl na), e, k z H2 hz s2 p2⟩
theorem leaf {a l : Addr} {zs : List Str} {n t m : Nat} {σ : L2.St} {H : Hp} {D : Ends} (s0 : σ[0]? = some (some (.ref a))) (s1 : σ[1]? = some (some (.ref l))) (hp : PoolAt H a n) (hn : n + 2 ≤ 1000000) (hl : H l = some (.lst (zs.map V.str))) (h9 : zs.length ≤ 9)
    (hz : ∀ z ∈ zs, OkName z) (k : ∀ b H', Sb a H H' → PoolAt H' a (n + 2) → RcAt H' (t + 1) (m + 1) b → D.rt (.ref b) H') : tLeaf K D σ H := by
  have na : l ≠ a := by
    obtain ⟨kvs, e⟩ := hp.some
    exact dif hl e fun z => nomatch z
  have num : ∀ H2 n2, Sb a H H2 → PoolAt H2 a n2 → n2 + 1 ≤ n + 2 → tNum D σ H2 := fun H2 n2 s2 p2 l2 =>
    ⟨_, s0, a, n2, 9, rfl, p2, by omega, by decide, by decide, fun r H3 _ _ s3 p3 => ⟨r, 4, rfl, rfl, (by show 2 ≤ sizeLine; decide), fun p hp => k p _ ((s2.trans s3).trans (Same.sb (same_new hp))) ((p3.same (same_new hp)).mono l2) (.num upd_same)⟩⟩
  refine ⟨_, s0, a, n, 3, rfl, hp, by omega, by decide, by decide, fun r H2 _ _ s2 p2 => ⟨rfl, _, rfl, ?_⟩⟩
  by_cases hr : r = 0
  · exact iteY (int_yes hr) (iteT (num H2 _ s2 p2 (Nat.le_refl _)))
  · refine iteN (int_no hr) ⟨_, s1, (by show 0 ≤ sizeLine; exact Nat.zero_le _), fun e he => ?_⟩
    have l2 := s2 _ _ hl na
    by_cases hzs : zs = []
    · refine .inl ⟨l, e, [], [], rfl, rfl, SqL.of (same_new he _ _ (by rw [l2, hzs]; rfl)), SqL.of upd_same, .nil, _, rfl, iteT ?_⟩
      exact num _ _ (s2.trans (Same.sb (same_new he))) (p2.same (same_new he)) (Nat.le_refl _)
    · have l0 : 1 ≤ zs.length := List.length_pos_iff.mpr hzs
      refine .inr ⟨l, e, zs.map V.str, [], rfl, rfl, SqL.of (same_new he _ _ l2), SqL.of upd_same, (by rw [List.length_map]; simpa using hzs), _, rfl, iteF ?_⟩
      refine pick_run (a := a) (l := l) (zs := zs) (n := n + 1) s0 s1 (p2.same (same_new he)) (by omega) (same_new he _ _ l2) l0 h9 fun z H3 hm s3 p3 => ⟨(by show 2 ≤ sizeLine; decide), fun p hp => ?_⟩
      exact k p _ (((s2.trans (Same.sb (same_new he))).trans s3).trans (Same.sb (same_new hp))) (p3.same (same_new hp)) (.read (hz z hm) upd_same)
abbrev tRest (K : PySem.W.Frag) (t : Nat) : TS := tSeq (tIfS (tTest (tOp rEq (tVar 3) (tC (.int 3)))) (tRet (tTup (tCons (tC (.str "times")) (tCons (tVar 4) (tCons (tTup (tCons (tC (.str "number")) (tCons (tOp rSb (eTake 7) (tC (.int 3))) tNil))) tNil))))) tNext)
  (tSeq (tAsg (eRec K t) (gName 7)) (tSeq (tIfS (tTest (tOp rLt2 (tVar 3) (tC (.int 6)))) (tRet (tTup (tCons (tC (.str "pick")) (tCons (tVar 4) (tCons (tVar 7) (tCons (eRec K t) tNil)))))) tNext)
    (tRet (tTup (tCons (tOp (rIxL K) (tLst (tCons (tC (.str "plus")) (tCons (tC (.str "minus")) (tCons (tC (.str "most")) tNil)))) (tOp (rI (fun _ j => 0 < j) fun i j => .int (i % j)) (tVar 3) (tC (.int 3)))) (tCons (tVar 4) (tCons (tVar 7) tNil)))))))
theorem rest {a l b1 : Addr} {zs : List Str} {n s : Nat} {kd : Int} {H : Hp} {D : Ends} (hp : PoolAt H a n) (hn : n + 2 * bd s + 1 ≤ 1000000) (hl : H l = some (.lst (zs.map V.str))) (h9 : zs.length ≤ 9) (hz : ∀ z ∈ zs, OkName z) (R1 : RcAt H (s + 1) (sz s) b1) (kd0 : 0 ≤ kd)
    (k : ∀ b H', Sb a H H' → PoolAt H' a (n + 2 * bd s + 1) → RcAt H' (s + 1 + 1) (3 * sz s + 1) b → D.rt (.ref b) H') :
    tRest K (s + 1) D [some (.ref a), some (.ref l), some (.int ((s + 1 : Nat) : Int)), some (.int kd), some (.ref b1), none, none, none] H := by
  obtain ⟨ms, hms⟩ := sz_pos s
  have na : l ≠ a := by
    obtain ⟨kvs, e⟩ := hp.some
    exact dif hl e fun z => nomatch z
  have dep : [V.ref a, V.ref l, V.int (((s + 1 : Nat) : Int) - 1)] = [V.ref a, V.ref l, V.int (s : Int)] := congrArg (fun i => [V.ref a, V.ref l, V.int i]) (by omega)
  refine ⟨_, rfl, rfl, _, rfl, ?_⟩
  by_cases h3 : kd = 3
  · refine iteY (int_yes h3) ⟨_, rfl, _, rfl, a, n, 7, rfl, hp, by omega, by decide, by decide, fun r H3 _ _ s3 p3 => ⟨r, 3, rfl, rfl, (by show 2 ≤ sizeLine; decide), fun p hp2 => ⟨(by show 3 ≤ sizeLine; decide), fun q hq => ?_⟩⟩⟩
    have sa : Same H3 (upd (upd H3 p (.tup [.str "number", .int (r - 3)])) q (.tup [.str "times", .ref b1, .ref p])) := (same_new hp2).trans (same_new hq)
    have npq : p ≠ q := ne_of_none upd_same hq
    refine k q _ (s3.trans (Same.sb sa)) ((p3.same sa).mono (by omega)) (.two (k := "times") (n := sz s) (m := sz s) (by unfold twos; simp) upd_same (RcAt.tups ((s3.tups hp).trans (Same.tups sa)) R1) ?_ (by omega))
    rw [hms]
    exact .num (fr upd_same npq)
  · refine iteN (int_no h3) ⟨_, rfl, _, rfl, _, rfl, _, 1, rfl, rfl, a, l, zs, n, dep, hp, by omega, hl, h9, hz, fun b2 H3 s3 p3 Rb => ?_⟩
    have l3 := s3 _ _ hl na
    have R1' := RcAt.tups (s3.tups hp) R1
    refine ⟨_, rfl, kd, 6, rfl, rfl, _, rfl, ?_⟩
    by_cases h6 : kd < 6
    · refine iteY (decide_eq_true h6) ⟨_, rfl, _, rfl, _, rfl, _, rfl, _, rfl, _, 1, rfl, rfl, a, l, zs, n + bd s, dep, p3, by omega, l3, h9, hz, fun b3 H4 s4 p4 Rc => ⟨(by show 4 ≤ sizeLine; decide), fun q hq => ?_⟩⟩
      have tu := (s4.tups p3).trans (Same.tups (same_new (o := .tup [.str "pick", .ref b1, .ref b2, .ref b3]) hq))
      exact k q _ ((s3.trans s4).trans (Same.sb (same_new hq))) ((p4.same (same_new hq)).mono (by omega)) (.pick (n := sz s) (m := sz s) (o := sz s) upd_same (RcAt.tups tu R1') (RcAt.tups tu Rb) (RcAt.tups (Same.tups (same_new hq)) Rc) (by omega))
    · refine iteN (decide_eq_false h6) ⟨(by show 3 ≤ sizeLine; decide), fun e he => ?_⟩
      have fin : ∀ z, z ∈ twos → ∀ q, upd H3 e (.lst [.str "plus", .str "minus", .str "most"]) q = none → D.rt (.ref q) (upd (upd H3 e (.lst [.str "plus", .str "minus", .str "most"])) q (.tup [.str z, .ref b1, .ref b2])) := fun z hm q hq => by
        have sa : Same H3 (upd (upd H3 e (.lst [.str "plus", .str "minus", .str "most"])) q (.tup [.str z, .ref b1, .ref b2])) := (same_new he).trans (same_new hq)
        exact k q _ (s3.trans (Same.sb sa)) ((p3.same sa).mono (by omega)) (.two (k := z) (n := sz s) (m := sz s) hm upd_same (RcAt.tups (Same.tups sa) R1') (RcAt.tups (Same.tups sa) Rb) (by omega))
      have c3 : kd % 3 = 0 ∨ kd % 3 = 1 ∨ kd % 3 = 2 := by omega
      rcases c3 with c | c | c
      · exact ⟨_, rfl, kd, 3, rfl, rfl, (by show (0 : Int) < 3; decide), e, _, _, _, rfl, rfl, SqL.of upd_same, at_of (j := 0) c rfl, _, rfl, _, rfl, (by show 3 ≤ sizeLine; decide), fun q hq => fin _ (by unfold twos; simp) q hq⟩
      · exact ⟨_, rfl, kd, 3, rfl, rfl, (by show (0 : Int) < 3; decide), e, _, _, _, rfl, rfl, SqL.of upd_same, at_of (j := 1) c rfl, _, rfl, _, rfl, (by show 3 ≤ sizeLine; decide), fun q hq => fin _ (by unfold twos; simp) q hq⟩
      · exact ⟨_, rfl, kd, 3, rfl, rfl, (by show (0 : Int) < 3; decide), e, _, _, _, rfl, rfl, SqL.of upd_same, at_of (j := 2) c rfl, _, rfl, _, rfl, (by show 3 ≤ sizeLine; decide), fun q hq => fin _ (by unfold twos; simp) q hq⟩
theorem ok_recipe0 (T : T K mg) : Ok P w K mg base CX0 1 xRecipe ["pool", "names", "depth"] (spRec K 0) :=
  ok_of T.d_Recipe sc_Recipe (fun _ _ _ _ h => h.elim) (fun _ _ _ _ _ _ us hl => match us, hl with | [_, _, _], _ => rfl) (fun _ _ _ _ _ _ _ _ _ _ h => h.elim)
theorem ok_recipeS (T : T K mg) (t : Nat) (G : Ok P w K mg base CX0 (t + 1) xRecipe ["pool", "names", "depth"] (spRec K t)) : Ok P w K mg base CX0 (t + 1 + 1) xRecipe ["pool", "names", "depth"] (spRec K (t + 1)) := by
  refine ok_of T.d_Recipe sc_Recipe (fun vs H Q E h => ?_) (fun _ _ _ _ _ _ us hl => match us, hl with | [_, _, _], _ => rfl) (fun f cdv A outer s H vs Q E hr h => ?_)
  · obtain ⟨a, l, zs, n, rfl, _⟩ := h
    rfl
  · obtain ⟨a, l, zs, n, rfl, hp, hn, hl, h9, hz, k⟩ := h
    have nd := sc_Recipe.nd
    have hu := hr.units
    have hr1 : Room 1 _ := hr.mono (by omega)
    refine ⟨_, pss_cons (ps_set (i := 3) nd rfl (Or.inl rfl) (pe_cl (ok_take T) hr1 T.g_law_take pass0 (pa_cons (pv 0) (pa_cons pe_int pa_nil))))
      (pss_cons (ps_if (PW.pt (pw_or (pt_cmpR op_eq (pv 2) pe_int (nomark _)) (pw_or1 (pt_cmpR op_lt (pv 3) pe_int (nomark _)))))
        (pss_cons (ps_if (PW.pt (pw_or (pt_cmpR op_eq (pe_cl (ok_take T) hr1 T.g_law_take pass0 (pa_cons (pv 0) (pa_cons pe_int pa_nil))) pe_int (nomark _)) (pw_or1 (pt_cmpR ((op_sameL hu).or (op_diffL hu)) (pv 1) (pe_lst pa_nil) (nomark _)))))
          (pss_one (ps_ret (pe_tup (pa_cons pe_str (pa_cons (pe_op op_sub (pe_cl (ok_take T) hr1 T.g_law_take pass0 (pa_cons (pv 0) (pa_cons pe_int pa_nil))) pe_int) pa_nil))))) pss_nil)
        (pss_one (ps_ret (pe_tup (pa_cons pe_str (pa_cons (pe_ix ix_list (pv 1) (pe_cl (ok_take T) hr1 T.g_law_take pass0 (pa_cons (pv 0) (pa_cons (pe_callB call_len (by rfl) T.z_len (by decide +kernel) (pa_cons (pv 1) pa_nil)) pa_nil))) (fun _ _ => rfl)) pa_nil)))))) pss_nil)
      (pss_cons (ps_set (i := 4) nd rfl (Or.inl rfl) (pe_cl G hr T.g_law_recipe pass0 (pa_cons (pv 0) (pa_cons (pv 1) (pa_cons (pe_op op_sub (pv 2) pe_int) pa_nil)))))
      (pss_cons (ps_if (PW.pt (pw_and (pt_cmpR op_eq (pv 3) pe_int (nomark _)) (pw_and1 (pt_cmpR ((op_unlikeL hu).or (op_diffN hu)) (pv 1) (pe_lst pa_nil) (nomark _)))))
        (pss_cons (ps_setLc (i := 6) (own := [("k", 5)]) (g := gName 5) (tt := tYes) (te := tOp (rIxL K) (tVar 1) (tCall spTake [] E0 (tCons (tVar 0) (tCons (tCB (rLen K) (tCons (tVar 1) tNil)) tNil)))) rfl nd rfl rfl (sw_true rfl rfl rfl rfl)
            (pi_range1 (by rfl) T.z_range (pa_cons (pe_op op_add pe_int (pe_cl (ok_take T) hr1 T.g_law_take pass0 (pa_cons (pv 0) (pa_cons pe_int pa_nil)))) pa_nil))
            (blkOk_by (N := ["pool", "names", "depth", "kind", "one", "k", "some", "other"]) (sc := defScope xRecipe.st) (by decide +kernel))
            (fun _ _ _ _ _ => pg_name (i := 5) nd rfl (Or.inl rfl)) (fun _ _ _ _ _ => pts_nil)
            (fun _ _ _ _ _ => pe_ix ix_list (pv 1) (pe_cl (ok_take T) hr1 T.g_law_take pass0 (pa_cons (pv 0) (pa_cons (pe_callB call_len (by rfl) T.z_len (by decide +kernel) (pa_cons (pv 1) pa_nil)) pa_nil))) (fun _ _ => rfl)))
          (pss_one (ps_ret (pe_tup (pa_cons pe_str (pa_cons (pv 4) (pa_cons (pe_callTy call_tuple_of (by rfl) T.z_tuple (by decide +kernel) (pa_cons (pv 6) pa_nil)) pa_nil))))))) pss_nil)
      (pss_cons (ps_if (pt_cmpR op_eq (pv 3) pe_int (nomark _))
        (pss_one (ps_ret (pe_tup (pa_cons pe_str (pa_cons (pv 4) (pa_cons (pe_tup (pa_cons pe_str (pa_cons (pe_op op_sub (pe_cl (ok_take T) hr1 T.g_law_take pass0 (pa_cons (pv 0) (pa_cons pe_int pa_nil))) pe_int) pa_nil))) pa_nil)))))) pss_nil)
      (pss_cons (ps_set (i := 7) nd rfl (Or.inl rfl) (pe_cl G hr T.g_law_recipe pass0 (pa_cons (pv 0) (pa_cons (pv 1) (pa_cons (pe_op op_sub (pv 2) pe_int) pa_nil)))))
      (pss_cons (ps_if (pt_cmpR op_lt (pv 3) pe_int (nomark _))
        (pss_one (ps_ret (pe_tup (pa_cons pe_str (pa_cons (pv 4) (pa_cons (pv 7) (pa_cons (pe_cl G hr T.g_law_recipe pass0 (pa_cons (pv 0) (pa_cons (pv 1) (pa_cons (pe_op op_sub (pv 2) pe_int) pa_nil)))) pa_nil))))))) pss_nil)
      (pss_one (ps_ret (pe_tup (pa_cons (pe_ix ix_list (pe_lst (pa_cons pe_str (pa_cons pe_str (pa_cons pe_str pa_nil)))) (pe_op op_mod (pv 3) pe_int) (fun _ _ => rfl)) (pa_cons (pv 4) (pa_cons (pv 7) pa_nil)))))))))))), ?_⟩
    have hbt := bd_pos t
    have na : l ≠ a := by
      obtain ⟨kvs, e⟩ := hp.some
      exact dif hl e fun z => nomatch z
    refine ⟨_, rfl, a, n, 10, rfl, hp, by omega, by decide, by decide, fun kd H1 kd0 kd1 s1 p1 => ?_⟩
    have l1 := s1 _ _ hl na
    refine ⟨_, rfl, rfl, _, rfl, ?_⟩
    cases t with
    | zero => exact iteY (int_yes rfl) (iteT (leaf (t := 0) (m := 0) rfl rfl p1 (by omega) l1 h9 hz fun b H' s2 p2 r => k b H' (s1.trans s2) p2 r))
    | succ s =>
      have eb : bd (s + 1) = 3 * bd s + 10 := rfl
      refine iteN (int_no (by omega)) ⟨_, rfl, kd, 2, rfl, rfl, _, rfl, ?_⟩
      by_cases hk : kd < 2
      · exact iteY (decide_eq_true hk) (leaf (t := s + 1) (m := 3 * sz s) rfl rfl p1 (by omega) l1 h9 hz fun b H' s2 p2 r => k b H' (s1.trans s2) (p2.mono (by omega)) r)
      · refine iteN (decide_eq_false hk) ?_
        have dep : [V.ref a, V.ref l, V.int (((s + 1 : Nat) : Int) - 1)] = [V.ref a, V.ref l, V.int (s : Int)] := congrArg (fun i => [V.ref a, V.ref l, V.int i]) (by omega)
        refine ⟨_, rfl, _, rfl, _, rfl, _, 1, rfl, rfl, a, l, zs, n + 1, dep, p1, by omega, l1, h9, hz, fun b1 H2 s2 p2 R1 => ?_⟩
        have l2 := s2 _ _ l1 na
        refine ⟨_, rfl, rfl, _, rfl, ?_⟩
        by_cases h2 : kd = 2
        · refine iteY (int_yes h2) ⟨_, rfl, (by show 0 ≤ sizeLine; exact Nat.zero_le _), fun e he => ?_⟩
          have se : Same H2 (upd H2 e (.lst [])) := same_new he
          by_cases hzs : zs = []
          · refine .inl ⟨l, e, [], [], rfl, rfl, SqL.of (se _ _ (by rw [l2, hzs]; rfl)), SqL.of upd_same, .nil, _, rfl, iteF ?_⟩
            exact rest (p2.same se) (by omega) (se _ _ l2) h9 hz (RcAt.tups (Same.tups se) R1) kd0 fun b H' s3 p3 r => k b H' (((s1.trans s2).trans (Same.sb se)).trans s3) (p3.mono (by omega)) r
          · have l0 : 1 ≤ zs.length := List.length_pos_iff.mpr hzs
            refine .inr ⟨l, e, zs.map V.str, [], rfl, rfl, SqL.of (se _ _ l2), SqL.of upd_same, (by rw [List.length_map]; simpa using hzs), _, rfl, iteT ?_⟩
            refine ⟨_, rfl, a, n + 1 + bd s, 3, rfl, p2.same se, by omega, by decide, by decide, fun r H3 r0 r1 s3 p3 => ⟨1, r, rfl, rfl, 1 + r, rfl, by omega, by omega, fun D hD => ?_⟩⟩
            have ss := (s2.trans (Same.sb se)).trans s3
            have l3 := s3 _ _ (se _ _ l2) na
            have nDa : D ≠ a := by
              obtain ⟨kvs, e'⟩ := p3.some
              exact (ne_of_none e' hD).symm
            refine lc_range (lo := 0) (n := (1 + r).toNat) (fun i H' => ∃ ys : List Str, H' D = some (.lst (ys.map V.str)) ∧ ys.length = i ∧ (∀ z ∈ ys, OkName z) ∧ Sb a H3 H' ∧ PoolAt H' a (n + 1 + bd s + 1 + i))
              ⟨[], upd_same, rfl, (fun _ h => nomatch h), Same.sb (same_new hD), p3.same (same_new hD)⟩ ?_ ?_
            · rintro i H4 hi ⟨ys, e4, len, hys, s4, p4⟩
              refine ⟨rfl, ?_⟩
              unfold tYes
              refine iteT (pick_run (a := a) (l := l) (zs := zs) (n := n + 1 + bd s + 1 + i) rfl rfl p4 (by omega) (s4 _ _ l3 na) l0 h9 fun z H5 hm s5 p5 => ?_)
              have e5 := s5 _ _ e4 nDa
              refine ⟨_, e5, ?_, ys ++ [z], ?_, ?_, ?_, ?_, ?_⟩
              · rw [List.length_map, len, sizeLine_eq]
                omega
              · rw [upd_same, List.map_append]
                rfl
              · rw [List.length_append, len]
                rfl
              · intro y hy
                rcases List.mem_append.mp hy with hy | hy
                · exact hys y hy
                · rw [List.mem_singleton.mp hy]
                  exact hz z hm
              · exact fun b o e' n' => fr ((s4.trans s5) b o e' n') (ne_of_none e' hD)
              · obtain ⟨r', b', c', e', c0, c1⟩ := p5
                exact ⟨r', b', c', fr e' nDa.symm, c0, by omega⟩
            · rintro H4 ⟨ys, e4, len, hys, s4, p4⟩
              refine ⟨_, rfl, _, rfl, D, _, rfl, .inl ⟨SqL.of e4, fun tt htt => ⟨(by show 3 ≤ sizeLine; decide), fun q hq => ?_⟩⟩⟩
              have sa : Same H4 (upd (upd H4 tt (.tup (ys.map V.str))) q (.tup [.str "choose", .ref b1, .ref tt])) := (same_new htt).trans (same_new hq)
              have tu : Tups H2 H4 := ((Same.tups se).trans (s3.tups (p2.same se))).trans (s4.tups p3)
              refine k q _ (((s1.trans ss).trans s4).trans (Same.sb sa)) ((p4.same sa).mono (by omega)) (.choose (n := sz s) (zs := ys) upd_same (RcAt.tups (tu.trans (Same.tups sa)) R1) (fr upd_same (ne_of_none upd_same hq)) (by omega) (by omega) hys (by omega))
        · refine iteN (int_no h2) (iteF ?_)
          exact rest p2 (by omega) l2 h9 hz R1 kd0 fun b H' s3 p3 r => k b H' ((s1.trans s2).trans s3) (p3.mono (by omega)) r
/-- of a depth up to 2 -/
theorem ok_recipe (T : T K mg) : ∀ t, Ok P w K mg base CX0 (t + 1) xRecipe ["pool", "names", "depth"] (spRec K t)
  | 0 => ok_recipe0 T
  | t + 1 => ok_recipeS T t (ok_recipe T t)
end
end Mad

set_option Elab.async false
set_option linter.all false
set_option maxRecDepth 100000
set_option maxHeartbeats 4000000
/-! The law's names, deeds, the first that lacks. -/
namespace Mad
open PySem PySem.Spec PyProof.Rows L2
theorem cut_take {xs : List V} {k : Nat} (h : k ≤ xs.length) : cutV xs none (some (k : Int)) = xs.take k := by
  unfold cutV
  rw [HT.sIx_none, HT.sIx_nat, List.drop_zero, Nat.sub_zero, Nat.min_eq_left h]
def nm0 : List Str := ["a", "b", "c", "d", "e", "f"]
def nm1 : List Str := ["a", "aa", "ab", "b", "ba", "aab"]
def nm2 : List Str := ["give", "cook", "wish", "undo", "made", "zzzzzzzz"]
def nm3 : List Str := ["none", "clean", "records", "why", "price", "total"]
theorem all_ok {zs : List Str} (h : zs.all okB = true) : ∀ z ∈ zs, OkName z := fun z hz => okName_of (List.all_eq_true.mp h z hz)
section
variable {P : Program} {w : World} {K : PySem.W.Frag} {mg : Str → Option Value} {base : Heap}
def spNames : Sp := fun vs H Q _ => ∃ (a : Addr) (n : Nat), vs = [.ref a] ∧ PoolAt H a n ∧ n ≤ 100000 ∧ ∀ (l : Addr) (zs : List Str) H', Sb a H H' → PoolAt H' a (n + 1) → H l = none → H' l = some (.lst (zs.map V.str)) → zs.length = 6 → (∀ z ∈ zs, OkName z) → Q (.ref l) H'
theorem sc_Names : FnScope ["pool", "some"] ["pool"] (defScope xNames.st) := ⟨rfl, rfl, rfl, by decide +kernel, rfl, by decide +kernel, by decide +kernel⟩
theorem ok_names (T : T K mg) : Ok P w K mg base CX0 2 xNames ["pool"] spNames := by
  refine ok_of T.d_Names sc_Names (fun vs H Q E h => ?_) (fun _ _ _ _ _ _ us hl => match us, hl with | [_], _ => rfl) (fun f cdv A outer s H vs Q E hr h => ?_)
  · obtain ⟨a, n, rfl, _⟩ := h
    rfl
  · obtain ⟨a, n, rfl, hp, hn, k⟩ := h
    have nd := sc_Names.nd
    refine ⟨_, pss_cons (ps_set (i := 1) nd rfl (Or.inl rfl) (pe_lst (pa_cons (pe_lst (pa_cons pe_str (pa_cons pe_str (pa_cons pe_str (pa_cons pe_str (pa_cons pe_str (pa_cons pe_str pa_nil)))))))
          (pa_cons (pe_lst (pa_cons pe_str (pa_cons pe_str (pa_cons pe_str (pa_cons pe_str (pa_cons pe_str (pa_cons pe_str pa_nil))))))) pa_nil))))
      (pss_cons (ps_expr (pe_bm PySem.F.plainAttrs_list PySem.F.slot_list_append PySem.F.type_list_append mt_append (pv 1) (pa_cons (pe_lst (pa_cons pe_str (pa_cons pe_str (pa_cons pe_str (pa_cons pe_str (pa_cons pe_str (pa_cons pe_str pa_nil))))))) pa_nil)))
      (pss_one (ps_ret (pe_ix ix_list (pe_op op_cat (pv 1) (pe_lst (pa_cons (pe_lst (pa_cons pe_str (pa_cons pe_str (pa_cons pe_str (pa_cons pe_str (pa_cons pe_str (pa_cons pe_str pa_nil))))))) pa_nil)))
        (pe_cl (ok_take T) hr T.g_law_take pass0 (pa_cons (pv 0) (pa_cons pe_int pa_nil))) (fun _ _ => rfl))))), ?_⟩
    refine ⟨(by show 6 ≤ sizeLine; decide), fun l0 h0 => ⟨(by show 6 ≤ sizeLine; decide), fun l1 h1 => ⟨(by show 2 ≤ sizeLine; decide), fun s hs => ?_⟩⟩⟩
    have q0 : upd H l0 (.lst (nm0.map V.str)) l0 = some (.lst (nm0.map V.str)) := upd_same
    have a1 : Same H (upd (upd (upd H l0 (.lst (nm0.map V.str))) l1 (.lst (nm1.map V.str))) s (.lst [.ref l0, .ref l1])) := ((same_new h0).trans (same_new h1)).trans (same_new hs)
    have f1 : H l1 = none := (same_new h0).free h1
    have fs : H s = none := ((same_new h0).trans (same_new h1)).free hs
    have n0s : l0 ≠ s := ne_of_none (same_new h1 _ _ q0) hs
    have n1s : l1 ≠ s := ne_of_none upd_same hs
    refine ⟨_, rfl, .inl ⟨rfl, _, SqL.of upd_same⟩, (by show 6 ≤ sizeLine; decide), fun l2 h2 => ?_⟩
    have ns2 : s ≠ l2 := ne_of_none upd_same h2
    have f2 : H l2 = none := a1.free h2
    refine ⟨s, [.ref l0, .ref l1], .ref l2, rfl, rfl, fr upd_same ns2, (by show 2 < sizeLine; decide), ?_⟩
    have a2 := Same.put (o := .lst ([.ref l0, .ref l1] ++ [.ref l2])) (a1.trans (same_new (o := .lst (nm2.map V.str)) h2)) fs
    have g0 : upd (upd (upd (upd (upd H l0 (.lst (nm0.map V.str))) l1 (.lst (nm1.map V.str))) s (.lst [.ref l0, .ref l1])) l2 (.lst (nm2.map V.str))) s (.lst ([.ref l0, .ref l1] ++ [.ref l2])) l0 = some (.lst (nm0.map V.str)) :=
      fr (same_new h2 _ _ (fr (same_new h1 _ _ q0) n0s)) n0s
    have g1 : upd (upd (upd (upd (upd H l0 (.lst (nm0.map V.str))) l1 (.lst (nm1.map V.str))) s (.lst [.ref l0, .ref l1])) l2 (.lst (nm2.map V.str))) s (.lst ([.ref l0, .ref l1] ++ [.ref l2])) l1 = some (.lst (nm1.map V.str)) :=
      fr (same_new h2 _ _ (fr upd_same n1s)) n1s
    have g2 : upd (upd (upd (upd (upd H l0 (.lst (nm0.map V.str))) l1 (.lst (nm1.map V.str))) s (.lst [.ref l0, .ref l1])) l2 (.lst (nm2.map V.str))) s (.lst ([.ref l0, .ref l1] ++ [.ref l2])) l2 = some (.lst (nm2.map V.str)) :=
      fr upd_same ns2.symm
    have gs : upd (upd (upd (upd (upd H l0 (.lst (nm0.map V.str))) l1 (.lst (nm1.map V.str))) s (.lst [.ref l0, .ref l1])) l2 (.lst (nm2.map V.str))) s (.lst ([.ref l0, .ref l1] ++ [.ref l2])) s = some (.lst ([.ref l0, .ref l1] ++ [.ref l2])) := upd_same
    have hu1 : ∀ H1 : Hp, H1 = upd (upd (upd (upd (upd H l0 (.lst (nm0.map V.str))) l1 (.lst (nm1.map V.str))) s (.lst [.ref l0, .ref l1])) l2 (.lst (nm2.map V.str))) s (.lst ([.ref l0, .ref l1] ++ [.ref l2])) →
        tOp (rIxL K) (tOp rCat (tVar 1) (tLst (tCons (tLst (tCons (tC (.str "none")) (tCons (tC (.str "clean")) (tCons (tC (.str "records")) (tCons (tC (.str "why")) (tCons (tC (.str "price")) (tCons (tC (.str "total")) tNil))))))) tNil))) (eTake 4)
          [some (.ref a), some (.ref s)] H1 Q := by
      intro H1 e1
      rw [← e1] at a2 g0 g1 g2 gs
      refine ⟨_, rfl, (by show 6 ≤ sizeLine; decide), fun l3 h3 => ⟨(by show 1 ≤ sizeLine; decide), fun b hb => ?_⟩⟩
      have a3 := a2.trans ((same_new (o := .lst (nm3.map V.str)) h3).trans (same_new (o := .lst [.ref l3]) hb))
      have s3 := (same_new (o := .lst (nm3.map V.str)) h3).trans (same_new (o := .lst [.ref l3]) hb)
      have g3 : upd (upd H1 l3 (.lst (nm3.map V.str))) b (.lst [.ref l3]) l3 = some (.lst (nm3.map V.str)) := fr upd_same (ne_of_none upd_same hb)
      refine ⟨s, b, _, _, rfl, rfl, s3 _ _ gs, upd_same, (by show 4 ≤ sizeLine; decide), fun r hr2 => ?_⟩
      have s4 := s3.trans (same_new (o := .lst ([.ref l0, .ref l1] ++ [.ref l2] ++ [.ref l3])) hr2)
      have a4 := a2.trans s4
      have f3 : H l3 = none := a2.free h3
      have fr' : H r = none := a3.free hr2
      refine ⟨_, rfl, a, n, 4, rfl, hp.same a4, by omega, by decide, by decide, fun i H2 i0 i1 s5 p5 => ?_⟩
      have out : ∀ {l : Addr}, H l = none → l ≠ a := fun {l} hl => by
        obtain ⟨kvs, e⟩ := hp.some
        exact (ne_of_none e hl).symm
      have er : H2 r = some (.lst [.ref l0, .ref l1, .ref l2, .ref l3]) := s5 _ _ upd_same (out fr')
      have c : i = 0 ∨ i = 1 ∨ i = 2 ∨ i = 3 := by omega
      have sb : Sb a H H2 := (Same.sb a4).trans s5
      rcases c with rfl | rfl | rfl | rfl
      · exact ⟨r, _, 0, _, rfl, rfl, SqL.of er, at_of (j := 0) rfl rfl, k l0 nm0 H2 sb p5 h0 (s5 _ _ (s4 _ _ g0) (out h0)) rfl (all_ok (by decide +kernel))⟩
      · exact ⟨r, _, 1, _, rfl, rfl, SqL.of er, at_of (j := 1) rfl rfl, k l1 nm1 H2 sb p5 f1 (s5 _ _ (s4 _ _ g1) (out f1)) rfl (all_ok (by decide +kernel))⟩
      · exact ⟨r, _, 2, _, rfl, rfl, SqL.of er, at_of (j := 2) rfl rfl, k l2 nm2 H2 sb p5 f2 (s5 _ _ (s4 _ _ g2) (out f2)) rfl (all_ok (by decide +kernel))⟩
      · exact ⟨r, _, 3, _, rfl, rfl, SqL.of er, at_of (j := 3) rfl rfl, k l3 nm3 H2 sb p5 f3 (s5 _ _ (same_new hr2 _ _ g3) (out f3)) rfl (all_ok (by decide +kernel))⟩
    exact hu1 _ rfl
end
end Mad

set_option Elab.async false
set_option linter.all false
set_option maxRecDepth 100000
set_option maxHeartbeats 4000000
/-! A deed that the law makes; the first that lacks. -/
namespace Mad
open PySem PySem.Spec PyProof.Rows L2
section
variable {P : Program} {w : World} {K : PySem.W.Frag} {mg : Str → Option Value} {base : Heap}
def spDeed : Sp := fun vs H Q _ => ∃ (a l : Addr) (zs : List Str) (n : Nat), vs = [.ref a, .ref l] ∧ PoolAt H a n ∧ n ≤ 100000 ∧ H l = some (.lst (zs.map V.str)) ∧ zs.length = 6 ∧ (∀ z ∈ zs, OkName z) ∧
  ∀ (x : Addr) (d : Deed) H', Sb a H H' → DeedAt H' x d → Q (.ref x) H'
theorem sc_Deed : FnScope ["pool", "names", "at", "way", "some"] ["pool", "names"] (defScope xDeed.st) := ⟨rfl, rfl, rfl, by decide +kernel, rfl, by decide +kernel, by decide +kernel⟩
theorem ok_deed (T : T K mg) : Ok P w K mg base CX0 5 xDeed ["pool", "names"] spDeed := by
  refine ok_of T.d_Deed sc_Deed (fun vs H Q E h => ?_) (fun _ _ _ _ _ _ us hl => match us, hl with | [_, _], _ => rfl) (fun f cdv A outer s H vs Q E hr h => ?_)
  · obtain ⟨a, l, zs, n, rfl, _⟩ := h
    rfl
  · obtain ⟨a, l, zs, n, rfl, hp, hn, hl, h6, hz, k⟩ := h
    have nd := sc_Deed.nd
    have hr1 : Room 1 _ := hr.mono (by decide)
    refine ⟨_, pss_cons (ps_set (i := 2) nd rfl (Or.inl rfl) (pe_cl (ok_take T) hr1 T.g_law_take pass0 (pa_cons (pv 0) (pa_cons pe_int pa_nil))))
      (pss_cons (ps_set (i := 3) nd rfl (Or.inl rfl) (pe_cl (ok_take T) hr1 T.g_law_take pass0 (pa_cons (pv 0) (pa_cons pe_int pa_nil))))
      (pss_cons (ps_if (pt_cmpR op_lt (pv 3) pe_int (nomark _))
        (pss_one (ps_ret (pe_tup (pa_cons pe_str (pa_cons (pe_ix ix_list (pv 1) (pv 2) (fun _ _ => rfl)) (pa_cons (pe_op op_sub (pe_cl (ok_take T) hr1 T.g_law_take pass0 (pa_cons (pv 0) (pa_cons pe_int pa_nil))) pe_int) pa_nil)))))) pss_nil)
      (pss_cons (ps_if (pt_cmpR op_eq (pv 3) pe_int (nomark _))
        (pss_one (ps_ret (pe_tup (pa_cons pe_str (pa_cons (pe_ix ix_list (pv 1) (pv 2) (fun _ _ => rfl)) pa_nil))))) pss_nil)
      (pss_cons (ps_set (i := 4) nd rfl (Or.inl rfl) (pe_slice sl_list (pv 1) po_none (po_some (pv 2))))
      (pss_cons (ps_if (pt_cmpR op_eq (pe_cl (ok_take T) hr1 T.g_law_take pass0 (pa_cons (pv 0) (pa_cons pe_int pa_nil))) pe_int (nomark _))
        (pss_one (ps_set (i := 4) nd rfl (Or.inl rfl) (pv 1))) pss_nil)
      (pss_one (ps_ret (pe_tup (pa_cons pe_str (pa_cons (pe_ix ix_list (pv 1) (pv 2) (fun _ _ => rfl)) (pa_cons (pe_cl (ok_recipe T 3) hr T.g_law_recipe pass0 (pa_cons (pv 0) (pa_cons (pv 4) (pa_cons pe_int pa_nil)))) pa_nil))))))))))), ?_⟩
    have na : l ≠ a := by
      obtain ⟨kvs, e⟩ := hp.some
      exact dif hl e fun z => nomatch z
    refine ⟨_, rfl, a, n, 6, rfl, hp, by omega, by decide, by decide, fun i H1 i0 i1 s1 p1 => ?_⟩
    refine ⟨_, rfl, a, n + 1, 8, rfl, p1, by omega, by decide, by decide, fun y H2 y0 y1 s2 p2 => ?_⟩
    have l2 := s2 _ _ (s1 _ _ hl na) na
    have s12 := s1.trans s2
    obtain ⟨z, hm, ez⟩ := name_at (zs := zs) i0 (by rw [h6]; exact i1)
    refine ⟨_, rfl, y, 3, rfl, rfl, _, rfl, ?_⟩
    by_cases h3 : y < 3
    · refine iteY (decide_eq_true h3) ⟨_, rfl, _, rfl, l, _, i, _, rfl, rfl, SqL.of l2, ez, _, rfl, a, n + 1 + 1, 9, rfl, p2, by omega, by decide, by decide, fun r H3 _ _ s3 p3 => ⟨r, 4, rfl, rfl, (by show 3 ≤ sizeLine; decide), fun p hp3 => ?_⟩⟩
      exact k p (.give z (r - 4)) _ ((s12.trans s3).trans (Same.sb (same_new hp3))) ⟨upd_same, hz z hm, trivial⟩
    · refine iteN (decide_eq_false h3) ⟨_, rfl, rfl, _, rfl, ?_⟩
      by_cases h4 : y = 3
      · refine iteY (int_yes h4) ⟨_, rfl, _, rfl, l, _, i, _, rfl, rfl, SqL.of l2, ez, (by show 2 ≤ sizeLine; decide), fun p hp3 => ?_⟩
        exact k p (.drop z) _ (s12.trans (Same.sb (same_new hp3))) ⟨upd_same, hz z hm, trivial⟩
      · refine iteN (int_no h4) ?_
        refine ⟨_, rfl, _, rfl, i, rfl, l, _, rfl, SqL.of l2, fun q hq => ?_⟩
        obtain ⟨j, rfl⟩ : ∃ j : Nat, i = (j : Int) := ⟨i.toNat, by omega⟩
        have hj : j ≤ (zs.map V.str).length := by rw [List.length_map]; omega
        rw [cut_take hj, ← List.map_take]
        have sq : Same H2 (upd H2 q (.lst ((zs.take j).map V.str))) := same_new hq
        refine ⟨_, rfl, a, n + 1 + 1, 6, rfl, p2.same sq, by omega, by decide, by decide, fun u H3 _ _ s3 p3 => ⟨rfl, _, rfl, ?_⟩⟩
        have l3 := s3 _ _ (sq _ _ l2) na
        have nqa : q ≠ a := by
          obtain ⟨kvs, e⟩ := p2.some
          exact (ne_of_none e hq).symm
        have q3 := s3 _ _ upd_same nqa
        have s13 := (s12.trans (Same.sb sq)).trans s3
        by_cases hu : u = 0
        · refine iteY (int_yes hu) ⟨_, rfl, ?_⟩
          refine ⟨_, rfl, _, rfl, l, _, _, _, rfl, rfl, SqL.of l3, ez, _, rfl, _, rfl, a, l, zs, n + 1 + 1 + 1, rfl, p3, by show n + 1 + 1 + 1 + bd 2 ≤ 1000000; unfold bd; unfold bd; unfold bd; omega, l3, by omega, hz, fun b H4 s4 p4 R => ⟨(by show 3 ≤ sizeLine; decide), fun p hp3 => ?_⟩⟩
          exact k p (.cook z b) _ ((s13.trans s4).trans (Same.sb (same_new hp3))) ⟨upd_same, hz z hm, RcAt.tups (Same.tups (same_new hp3)) R⟩
        · refine iteN (int_no hu) ?_
          refine ⟨_, rfl, _, rfl, l, _, _, _, rfl, rfl, SqL.of l3, ez, _, rfl, _, rfl, a, q, zs.take j, n + 1 + 1 + 1, rfl, p3, by show n + 1 + 1 + 1 + bd 2 ≤ 1000000; unfold bd; unfold bd; unfold bd; omega, q3, by rw [List.length_take]; omega, fun z hz' => hz z (List.mem_of_mem_take hz'), fun b H4 s4 p4 R => ⟨(by show 3 ≤ sizeLine; decide), fun p hp3 => ?_⟩⟩
          exact k p (.cook z b) _ ((s13.trans s4).trans (Same.sb (same_new hp3))) ⟨upd_same, hz z hm, RcAt.tups (Same.tups (same_new hp3)) R⟩

/-! ### the first that lacks -/
def spLacks : Sp := fun vs H Q _ => ∃ (l : Addr) (as : List Addr) (ds : List Deed), vs = [.ref l] ∧ H l = some (.lst (as.map V.ref)) ∧ DeedsAt H as ds ∧ ds.length ≤ 900 ∧
  (lackL ds = none → ∀ H', Same H H' → Q .non H') ∧ (∀ z, lackL ds = some z → ∀ H', Same H H' → Q (.str z) H')
theorem sc_Lacks : FnScope ["deeds", "k", "given", "recipes"] ["deeds"] (defScope xLacks.st) := ⟨rfl, rfl, rfl, by decide +kernel, rfl, by decide +kernel, by decide +kernel⟩
abbrev aDk (K : PySem.W.Frag) (j : Int) : TE := tOp (rIxT K) (tOp (rIxL K) (tVar 0) (tVar 1)) (tC (.int j))
theorem ok_lacks (T : T K mg) : Ok P w K mg base CX0 2 xLacks ["deeds"] spLacks := by
  refine ok_of T.d_Lacks sc_Lacks (fun vs H Q E h => ?_) (fun _ _ _ _ _ _ us hl => match us, hl with | [_], _ => rfl) (fun f cdv A outer s H vs Q E hr h => ?_)
  · obtain ⟨l, as, ds, rfl, _⟩ := h
    rfl
  · obtain ⟨l, as, ds, rfl, el, hds, hlen, k1, k2⟩ := h
    have nd := sc_Lacks.nd
    have hu := hu_of hr
    have ll : (as.map V.ref).length = ds.length := by rw [List.length_map, pair_len hds]
    refine ⟨_, pss_cons (ps_for PassesOwn.never rfl (pi_range1 (by rfl) T.z_range (pa_cons (pe_callB call_len (by rfl) T.z_len (by decide +kernel) (pa_cons (pv 0) pa_nil)) pa_nil)) (pg_name (i := 1) nd rfl (Or.inl rfl))
        (pss_cons (ps_asg (pe_cl (ok_lHouse T) hr T.g_law_house pass0 (pa_cons (pe_slice sl_list (pv 0) po_none (po_some (pv 1))) pa_nil)) (pg_tup (by rfl) (pgs_cons (pg_name (i := 2) nd rfl (Or.inl rfl)) (pgs_cons (pg_name (i := 3) nd rfl (Or.inl rfl)) pgs_nil))))
        (pss_one (ps_if (PW.pt (pw_and (pt_cmpR op_eq (pe_ix ix_tup (pe_ix ix_list (pv 0) (pv 1) (fun _ _ => rfl)) pe_int (fun _ _ => rfl)) pe_str (nomark _))
            (pw_and (pt_cmp (pc_dnotin hu (pe_ix ix_tup (pe_ix ix_list (pv 0) (pv 1) (fun _ _ => rfl)) pe_int (fun _ _ => rfl)) (pv 2)))
            (pw_and1 (pt_cmp (pc_dnotin hu (pe_ix ix_tup (pe_ix ix_list (pv 0) (pv 1) (fun _ _ => rfl)) pe_int (fun _ _ => rfl)) (pv 3)))))))
          (pss_one (ps_ret (pe_ix ix_tup (pe_ix ix_list (pv 0) (pv 1) (fun _ _ => rfl)) pe_int (fun _ _ => rfl)))) pss_nil))))
      (pss_one (ps_ret pe_non)), ?_⟩
    refine ⟨_, rfl, _, _, rfl, .inl ⟨_, SqL.of el, rfl⟩, _, rfl, by omega, by omega, ?_⟩
    have en : (((as.map V.ref).length : Nat) : Int).toNat = ds.length := by rw [ll]; omega
    rw [en]
    refine for_range (lo := 0) (n := ds.length) (fun i σ H' => ∃ v1 v2 v3 : Option V, σ = [some (.ref l), v1, v2, v3] ∧ Same H H' ∧ lackL ds = lackFrom (ds.take i) (ds.drop i)) ⟨none, none, none, rfl, Same.refl _, rfl⟩ ?_ ?_
    · rintro i σ H1 hi ⟨v1, v2, v3, rfl, s1, hl⟩
      obtain ⟨d, hd⟩ : ∃ d, ds[i]? = some d := ⟨ds[i], List.getElem?_eq_getElem hi⟩
      obtain ⟨a, ha⟩ : ∃ a, as[i]? = some a := by
        have h : i < as.length := by rw [pair_len hds]; exact hi
        exact ⟨as[i], List.getElem?_eq_getElem h⟩
      obtain ⟨d', hd', da⟩ := pair_get hds ha
      rw [hd] at hd'
      cases hd'
      rw [lack_at hd] at hl
      have ei : (0 : Int) + (i : Int) = ((i : Nat) : Int) := by omega
      refine ⟨_, rfl, _, rfl, _, rfl, l, _, rfl, SqL.of (s1 _ _ el), fun q hq => ?_⟩
      rw [ei, cut_take (by rw [ll]; omega), ← List.map_take]
      have sq : Same H1 (upd H1 q (.lst ((as.take i).map V.ref))) := same_new hq
      have ix : ∀ {H2 : Hp} {σ : L2.St} {j : Int} {v : V} {Q : VK}, σ[0]? = some (some (.ref l)) → σ[1]? = some (some (.int (i : Int))) → Same H H2 → atI d.vs j = some v → Q v H2 → aDk K j σ H2 Q := fun {H2 σ j v Q} h0 h1 s e q =>
        ⟨_, h0, _, h1, l, _, _, _, rfl, rfl, SqL.of (s _ _ el), at_of (j := i) rfl (by rw [List.getElem?_map, ha]; rfl), a, _, _, _, rfl, rfl, SqT.of (s _ _ da.tup), e, q⟩
      refine ⟨q, as.take i, ds.take i, rfl, upd_same, DeedsAt.tups (Same.tups (s1.trans sq)) (pair_take hds i), by rw [List.length_take]; omega, fun H2 t g r s2 nt ng nr et hh => ?_⟩
      obtain ⟨hn, eg, er⟩ := hh
      have s3 : Same H H2 := (s1.trans sq).trans s2
      refine ⟨t, _, rfl, SqT.of et, rfl, _, _, rfl, _, _, rfl, rfl, ?_⟩
      have next : lacks (ds.take i) d = false → ∃ v1 v2 v3 : Option V, [some (V.ref l), some (V.int ((i : Nat) : Int)), some (V.ref g), some (V.ref r)] = [some (.ref l), v1, v2, v3] ∧ Same H H2 ∧ lackL ds = lackFrom (ds.take (i + 1)) (ds.drop (i + 1)) := fun hk =>
        ⟨_, _, _, rfl, s3, by rw [hl, hk]; exact if_neg Bool.false_ne_true⟩
      refine ix rfl rfl s3 (at_of (j := 0) rfl (vs0 d)) ⟨rfl, _, rfl, ?_⟩
      cases d with
      | give z i => exact iteN (show decide (V.str "give" = V.str "drop") = false by decide +kernel) (iteF (next rfl))
      | cook z i => exact iteN (show decide (V.str "cook" = V.str "drop") = false by decide +kernel) (iteF (next rfl))
      | drop z =>
        refine iteY str_yes (ix rfl rfl s3 (at_of (j := 1) rfl rfl) ⟨_, rfl, g, _, rfl, DGet.k (k := Sum.inr z) eg, _, rfl, ?_⟩)
        cases e1 : valV (houseL (ds.take i)).1 (Sum.inr z : Key) with
        | some v => exact iteF (iteF (next (by rw [lacks_drop, e1]; rfl)))
        | none =>
          refine iteT (ix rfl rfl s3 (at_of (j := 1) rfl rfl) ⟨_, rfl, r, _, rfl, DGet.k (k := Sum.inr z) er, _, rfl, ?_⟩)
          cases e2 : valV (houseL (ds.take i)).2 (Sum.inr z : Key) with
          | some v => exact iteF (next (by rw [lacks_drop, e1, e2]; rfl))
          | none =>
            refine iteT (ix rfl rfl s3 (at_of (j := 1) rfl rfl) (k2 z ?_ _ s3))
            rw [hl, lacks_drop, e1, e2]
            exact if_pos rfl
    · rintro σ H1 ⟨v1, v2, v3, rfl, s1, hl⟩
      rw [lack_end] at hl
      exact k1 hl _ s1
end
end Mad

set_option Elab.async false
set_option linter.all false
set_option maxRecDepth 100000
set_option maxHeartbeats 4000000
/-! A history is alike to some deeds; it is taken back to nothing and done again; a history is made of deeds, or refused. -/
namespace Mad
open PySem PySem.Spec PyProof.Rows L2
theorem passX0 {X : Cx} : Passes (L2.CX X.prog X.w) X E0 := fun pins σ H s e s' I c => by
  obtain ⟨_, _, _, _, _, _, _, _, _, _, _, _, z⟩ := c
  exact z.elim
section
variable {P : Program} {w : World} {K : PySem.W.Frag} {mg : Str → Option Value} {base : Heap}
def spAlike (K : PySem.W.Frag) : Sp := fun vs H Q _ => ∃ (Hb : Hp) (p l : Addr) (as : List Addr) (ds ts : List Deed), vs = [.ref p, .ref l] ∧ HistAt K Hb H p ds ts ∧ H l = some (.lst (as.map V.ref)) ∧ DeedsAt H as ds ∧ ds.length ≤ 900 ∧ ∀ H', Same H H' → Q (.bl true) H'
theorem sc_Alike : FnScope ["history", "deeds"] ["history", "deeds"] (defScope xAlike.st) := ⟨rfl, rfl, rfl, by decide +kernel, rfl, by decide +kernel, by decide +kernel⟩
theorem ok_alike (T : T K mg) : Ok P w K mg base CX0 3 xAlike ["history", "deeds"] (spAlike K) := by
  refine ok_of T.d_Alike sc_Alike (fun vs H Q E h => ?_) (fun _ _ _ _ _ _ us hl => match us, hl with | [_, _], _ => rfl) (fun f cdv A outer s H vs Q E hr h => ?_)
  · obtain ⟨Hb, p, l, as, ds, ts, rfl, _⟩ := h
    rfl
  · obtain ⟨Hb, p, l, as, ds, ts, rfl, ⟨ld, lt, ps, lh, lm, lk, h⟩, el, dl, hlen, k⟩ := h
    have hu := hr.units
    have hr1 : Room 1 _ := hr.mono (by decide)
    refine ⟨_, pss_cons (ps_if (PW.pt (pw_or (pt_cmpR (op_unlikeL hu) (pe_mt0 (pv 0) T.c_History T.m_History_deeds (ok_deeds T) hr1 pass0) (pv 1) (nomark _))
        (pw_or1 (pt_cmpR (op_unlikeP hu) (pe_mt0 (pv 0) T.c_History T.m_History_house (ok_house T) hr pass0) (pe_cl (ok_lHouse T) hr1 T.g_law_house pass0 (pa_cons (pv 1) pa_nil)) (nomark _))))) pss_never pss_nil)
      (pss_one (ps_ret (pe_and (pe_cmpR (op_sameL hu) (pe_mt0 (pv 0) T.c_History T.m_History_made (ok_made T) hr1 pass0) (pe_lst pa_nil) (nomark _))
        (pe_and (pe_cmpR (op_sameL hu) (pe_mt0 (pv 0) T.c_History T.m_History_kept (ok_kept T) hr1 pass0) (pe_lst pa_nil) (nomark _))
          (pe_one (pe_cmpR (op_sameL hu) (pe_mt0 (pv 0) T.c_History T.m_History_store_records (ok_storeRecords T) hr pass0) (pe_lst pa_nil) (nomark _))))))), ?_⟩
    obtain ⟨dx, ob⟩ := h.ob
    obtain ⟨k1, k2⟩ := house_ok ds
    have hist : ∀ {H' : Hp}, Same H H' → HistAt K Hb H' p ds ts := fun {H'} s => ⟨ld, lt, ps, lh, lm, lk, h.same s⟩
    refine ⟨_, rfl, p, dx, _, rfl, ob, hF_no (by decide +kernel), Hb, p, ds, ts, rfl, hist (Same.refl _), fun l1 as1 hl1 dl1 => ?_⟩
    have s1 : Same H (upd H l1 (.lst (as1.map V.ref))) := same_new hl1
    refine ⟨_, rfl, l1, l, _, _, rfl, rfl, SqL.of upd_same, SqL.of (s1 _ _ el), deeds_same (DeedsAt.tups (Same.tups s1) dl1) (DeedsAt.tups (Same.tups s1) dl), _, rfl, iteF ?_⟩
    refine ⟨_, rfl, p, dx, _, rfl, s1 _ _ ob, hF_no (by decide +kernel), Hb, p, ds, ts, rfl, hist s1, Nat.le_trans hlen (by decide), fun H2 t g r s2 nt ng nr et hh => ?_⟩
    have s12 := s1.trans s2
    refine ⟨_, rfl, l, as, ds, rfl, s12 _ _ el, DeedsAt.tups (Same.tups s12) dl, Nat.le_trans hlen (by decide), fun H3 t' g' r' s3 nt' ng' nr' et' hh' => ?_⟩
    have s13 := s12.trans s3
    refine ⟨t, t', .ref g, .ref r, .ref g', .ref r', rfl, rfl, SqT.of (s3 _ _ et), SqT.of et', ⟨g, g', _, rfl, rfl, s3 _ _ hh.2.1, hh'.2.1, k1.nd, k1.fl⟩, ⟨r, r', _, rfl, rfl, s3 _ _ hh.2.2, hh'.2.2, k2.nd, k2.fl⟩, _, rfl, iteF ?_⟩
    refine ⟨_, rfl, p, dx, _, rfl, s13 _ _ ob, hF_no (by decide +kernel), Hb, p, ds, ts, rfl, hist s13, fun q1 H4 s4 e4 => ⟨(by show 0 ≤ sizeLine; exact Nat.zero_le _), fun b1 hb1 => ?_⟩⟩
    have s14 := (s13.trans s4).trans (same_new (o := .lst []) hb1)
    refine ⟨q1, b1, [], [], rfl, rfl, SqL.of (same_new hb1 _ _ e4), SqL.of upd_same, .nil, true, rfl, iteT ?_⟩
    refine ⟨_, rfl, p, dx, _, rfl, s14 _ _ ob, hF_no (by decide +kernel), Hb, p, ds, ts, rfl, hist s14, fun q2 H5 s5 e5 => ⟨(by show 0 ≤ sizeLine; exact Nat.zero_le _), fun b2 hb2 => ?_⟩⟩
    have s15 := (s14.trans s5).trans (same_new (o := .lst []) hb2)
    refine ⟨q2, b2, [], [], rfl, rfl, SqL.of (same_new hb2 _ _ e5), SqL.of upd_same, .nil, true, rfl, iteT ?_⟩
    refine ⟨_, rfl, p, dx, _, rfl, s15 _ _ ob, hF_no (by decide +kernel), Hb, p, ds, ts, rfl, hist s15, fun q3 H6 s6 e6 => ⟨(by show 0 ≤ sizeLine; exact Nat.zero_le _), fun b3 hb3 => ?_⟩⟩
    exact ⟨q3, b3, [], [], rfl, rfl, SqL.of (same_new hb3 _ _ e6), SqL.of upd_same, .nil, k _ ((s15.trans s6).trans (same_new hb3))⟩

/-! ### no deed is left to take back -/
def spEnds (K : PySem.W.Frag) : Sp := fun vs H Q _ => ∃ (Hb : Hp) (p : Addr) (ts : List Deed), vs = [.ref p] ∧ HistAt K Hb H p [] ts ∧ Same Hb H ∧ ts.length ≤ 900 ∧ ∀ H', Same H H' → Q (.bl true) H'
theorem sc_Ends : FnScope ["history", "caught", "e"] ["history"] (defScope xEnds.st) := ⟨rfl, rfl, rfl, by decide +kernel, rfl, by decide +kernel, by decide +kernel⟩
theorem ok_ends (T : T K mg) : Ok P w K mg base CX0 2 xEnds ["history"] (spEnds K) := by
  refine ok_of T.d_Ends sc_Ends (fun vs H Q E h => ?_) (fun _ _ _ _ _ _ us hl => match us, hl with | [_], _ => rfl) (fun f cdv A outer s H vs Q E hr h => ?_)
  · obtain ⟨Hb, p, ts, rfl, _⟩ := h
    rfl
  · obtain ⟨Hb, p, ts, rfl, ⟨ld, lt, ps, lh, lm, lk, h⟩, sb, hlen, k⟩ := h
    have nd := sc_Ends.nd
    have notk : ∀ {X : Cx} {xe : Value → Shared → Prop} {pn : List (Addr × Obj)}, Takes (X.tr pn xe) (fun _ _ _ _ => False) := fun {X xe pn} u s' z => by
      obtain ⟨_, _, _, _, _, _, _, _, _, _, _, _, _, _, _, _, z⟩ := z
      exact z.elim
    have notk0 : ∀ {X : Cx}, Takes X (fun _ _ _ _ => False) := fun {X} u s' z => by
      obtain ⟨_, _, _, _, _, _, _, _, _, _, _, _, _, _, _, _, z⟩ := z
      exact z.elim
    refine ⟨_, pss_cons (ps_set (i := 1) nd rfl (Or.inl rfl) pe_non)
      (pss_cons (ps_try_as (i := 2) (c := .ref (cND K)) (Wout := fun _ _ _ _ => False) (ts := fun a cls d => tAsg (tVar 2) (gName 1)) rfl rfl nd rfl rfl ⟨by rfl, by decide, .inl T.g_NoDeed⟩ notk0
          (fun W pn xe tk pass => pss_one (ps_expr (pe_mtS0 (pv 0) T.c_History T.m_History_undo (ok_undo T) hr tk)))
          (fun a oe cls d pn hz hf => pss_one (ps_set (i := 1) nd rfl (Or.inl rfl) (pv 2))))
      (pss_one (ps_ret (pe_cmpR op_notN (pv 1) pe_non (nomark _))))), ?_⟩
    obtain ⟨dx, ob⟩ := h.ob
    refine ⟨_, rfl, p, dx, _, rfl, ob, hF_no (by decide +kernel), Hb, p, [], ts, rfl, ⟨ld, lt, ps, lh, lm, lk, h⟩, sb, hlen, .inl ⟨rfl, fun H1 s1 => ?_⟩⟩
    refine ⟨true, T.e_NoDeed, fun _ a ha => ?_, fun z => nomatch z⟩
    refine ⟨_, rfl, _, rfl, rfl, k _ s1⟩
end
end Mad

set_option Elab.async false
set_option linter.all false
set_option maxRecDepth 100000
set_option maxHeartbeats 4000000
/-! Back to nothing and on again; a history is made of deeds, or refused. -/
namespace Mad
open PySem PySem.Spec PyProof.Rows L2
theorem same_upd {H H' : Hp} {x : Addr} {o : HO} (s : Same H H') : Same (upd H x o) (upd H' x o) := fun b u e => by
  by_cases h : b = x
  · rw [h, upd_same] at e ⊢
    exact e
  · rw [upd_ne h] at e ⊢
    exact s b u e
section
variable {P : Program} {w : World} {K : PySem.W.Frag} {mg : Str → Option Value} {base : Heap}
def spBackOn (K : PySem.W.Frag) : Sp := fun vs H Q _ => ∃ (Hb : Hp) (p l : Addr) (as : List Addr) (ds : List Deed), vs = [.ref p, .ref l] ∧ HistAt K Hb H p ds [] ∧ Same Hb H ∧ Hb l = some (.lst (as.map V.ref)) ∧ DeedsAt Hb as ds ∧ ds.length ≤ 900 ∧
  ∀ H', HistAt K Hb H' p ds [] → Same Hb H' → Q (.bl true) H'
theorem sc_BackOn : FnScope ["history", "deeds", "k"] ["history", "deeds"] (defScope xBackOn.st) := ⟨rfl, rfl, rfl, by decide +kernel, rfl, by decide +kernel, by decide +kernel⟩
theorem ok_backOn (T : T K mg) : Ok P w K mg base CX0 4 xBackOn ["history", "deeds"] (spBackOn K) := by
  refine ok_of T.d_BackOn sc_BackOn (fun vs H Q E h => ?_) (fun _ _ _ _ _ _ us hl => match us, hl with | [_, _], _ => rfl) (fun f cdv A outer s H vs Q E hr h => ?_)
  · obtain ⟨Hb, p, l, as, ds, rfl, _⟩ := h
    rfl
  · obtain ⟨Hb, p, l, as, ds, rfl, h, sb, el, dl, hlen, k⟩ := h
    have nd := sc_BackOn.nd
    have hr1 : Room 1 _ := hr.mono (by decide)
    have hr2 : Room 2 _ := hr.mono (by decide)
    have ll : (as.map V.ref).length = ds.length := by rw [List.length_map, pair_len dl]
    refine ⟨_, pss_cons (ps_for PassesOwn.never rfl (pi_range1 (by rfl) T.z_range (pa_cons (pe_callB call_len (by rfl) T.z_len (by decide +kernel) (pa_cons (pv 1) pa_nil)) pa_nil)) (pg_name (i := 2) nd rfl (Or.inl rfl))
        (pss_one (ps_if (pt_cmpR op_notN (pe_mt0 (pv 0) T.c_History T.m_History_undo (ok_undo T) hr1 passX0) pe_non (nomark _)) pss_never pss_nil)))
      (pss_cons (ps_if (PW.pt (pw_or (pt_not (pt_val (pe_cl (ok_alike T) hr T.g_law_alike pass0 (pa_cons (pv 0) (pa_cons (pe_lst pa_nil) pa_nil))))) (pw_or1 (pt_not (pt_val (pe_cl (ok_ends T) hr2 T.g_law_ends pass0 (pa_cons (pv 0) pa_nil))))))) pss_never pss_nil)
      (pss_cons (ps_for PassesOwn.never rfl (pi_range1 (by rfl) T.z_range (pa_cons (pe_callB call_len (by rfl) T.z_len (by decide +kernel) (pa_cons (pv 1) pa_nil)) pa_nil)) (pg_name (i := 2) nd rfl (Or.inl rfl))
        (pss_one (ps_if (PW.pt (pw_or (pt_cmpR op_notN (pe_mt0 (pv 0) T.c_History T.m_History_redo (ok_redo T) hr1 pass0) pe_non (nomark _))
          (pw_or1 (PW.pt (pw_and (pt_cmpR op_eq (pe_op op_mod (pv 2) pe_int) pe_int (nomark _))
            (pw_and1 (pt_not (pt_val (pe_cl (ok_alike T) hr T.g_law_alike pass0 (pa_cons (pv 0) (pa_cons (pe_slice sl_list (pv 1) po_none (po_some (pe_op op_add (pv 2) pe_int))) pa_nil))))))))))) pss_never pss_nil)))
      (pss_one (ps_ret (pe_cl (ok_alike T) hr T.g_law_alike pass0 (pa_cons (pv 0) (pa_cons (pv 1) pa_nil))))))), ?_⟩
    have en : (((as.map V.ref).length : Nat) : Int).toNat = ds.length := by rw [ll]; omega
    refine ⟨_, rfl, _, _, rfl, .inl ⟨_, SqL.of (sb _ _ el), rfl⟩, _, rfl, by omega, by omega, ?_⟩
    rw [en]
    refine for_range (lo := 0) (n := ds.length) (fun i σ H' => ∃ v2 : Option V, σ = [some (.ref p), some (.ref l), v2] ∧ Same Hb H' ∧ HistAt K Hb H' p (ds.take (ds.length - i)) (ds.drop (ds.length - i)).reverse)
      ⟨none, rfl, sb, by rw [Nat.sub_zero, List.take_length, List.drop_length]; exact h⟩ ?_ ?_
    · rintro i σ H1 hi ⟨v2, rfl, s1, h1⟩
      obtain ⟨m, hm⟩ : ∃ m, ds.length - i = m + 1 := ⟨ds.length - i - 1, by omega⟩
      have hml : m < ds.length := by omega
      obtain ⟨d, hd⟩ : ∃ d, ds[m]? = some d := ⟨ds[m], List.getElem?_eq_getElem hml⟩
      have em : ds.length - (i + 1) = m := by omega
      have h1' := h1
      rw [hm] at h1'
      obtain ⟨ld, lt, ps, lh, lm, lk, hh⟩ := h1
      obtain ⟨dx, ob⟩ := hh.ob
      refine ⟨_, rfl, p, dx, _, rfl, ob, hF_no (by decide +kernel), Hb, p, _, _, rfl, h1', s1, by rw [List.length_reverse, List.length_drop]; omega, .inr ⟨_, d, take_at hd, fun H2 h2 s2 => ⟨rfl, _, rfl, iteF ⟨_, rfl, s2, ?_⟩⟩⟩⟩
      rw [em, drop_at hd, List.reverse_cons]
      exact h2
    · rintro σ H1 ⟨v2, rfl, s1, h1⟩
      rw [Nat.sub_self, List.take_zero, List.drop_zero] at h1
      refine ⟨_, rfl, (by show 0 ≤ sizeLine; exact Nat.zero_le _), fun e he => ⟨Hb, p, e, [], [], ds.reverse, rfl, h1.same (same_new he), upd_same, .nil, Nat.zero_le _, fun H2 s2 => ⟨_, rfl, iteF ?_⟩⟩⟩
      have s12 := (same_new (o := .lst []) he).trans s2
      refine ⟨_, rfl, Hb, p, ds.reverse, rfl, h1.same s12, s1.trans s12, by rw [List.length_reverse]; exact hlen, fun H3 s3 => ⟨_, rfl, iteF ?_⟩⟩
      have s13 := s12.trans s3
      have h3 := h1.same s13
      have sb3 : Same Hb H3 := s1.trans s13
      refine ⟨_, rfl, _, _, rfl, .inl ⟨_, SqL.of (sb3 _ _ el), rfl⟩, _, rfl, by omega, by omega, ?_⟩
      rw [en]
      refine for_range (lo := 0) (n := ds.length) (fun i σ H' => ∃ v2 : Option V, σ = [some (.ref p), some (.ref l), v2] ∧ Same Hb H' ∧ HistAt K Hb H' p (ds.take i) (ds.drop i).reverse)
        ⟨v2, rfl, sb3, by rw [List.take_zero, List.drop_zero]; exact h3⟩ ?_ ?_
      · rintro i σ H4 hi ⟨u2, rfl, s4, h4⟩
        obtain ⟨d, hd⟩ : ∃ d, ds[i]? = some d := ⟨ds[i], List.getElem?_eq_getElem hi⟩
        rw [drop_at hd, List.reverse_cons] at h4
        have h4' := h4
        obtain ⟨ld, lt, ps, lh, lm, lk, hh⟩ := h4
        obtain ⟨dx, ob⟩ := hh.ob
        have ei : (0 : Int) + (i : Int) = ((i : Nat) : Int) := by omega
        refine ⟨_, rfl, p, dx, _, rfl, ob, hF_no (by decide +kernel), Hb, p, _, _, d, rfl, h4', s4, by rw [List.length_take]; omega, fun H5 h5 s5 => ⟨rfl, _, rfl, iteF ?_⟩⟩
        rw [← take_at hd] at h5
        have fin : ∀ H6, Same H5 H6 → ∃ v2 : Option V, [some (V.ref p), some (V.ref l), some (V.int (0 + (i : Int)))] = [some (.ref p), some (.ref l), v2] ∧ Same Hb H6 ∧ HistAt K Hb H6 p (ds.take (i + 1)) (ds.drop (i + 1)).reverse := fun H6 s6 => ⟨_, rfl, s5.trans s6, h5.same s6⟩
        refine ⟨_, rfl, _, 16, rfl, rfl, (by show (0 : Int) < 16; decide), rfl, _, rfl, ?_⟩
        by_cases h16 : ((0 : Int) + (i : Int)) % 16 = 0
        · refine iteY (int_yes h16) ⟨_, rfl, _, rfl, _, rfl, _, 1, rfl, rfl, _, rfl, l, _, rfl, SqL.of (s5 _ _ el), fun q hq => ?_⟩
          rw [show (0 : Int) + (i : Int) + 1 = ((i + 1 : Nat) : Int) from by omega, cut_take (by rw [ll]; omega), ← List.map_take]
          exact ⟨Hb, p, q, as.take (i + 1), ds.take (i + 1), _, rfl, h5.same (same_new hq), upd_same, DeedsAt.tups (Same.tups (s5.trans (same_new hq))) (pair_take dl _), by rw [List.length_take]; omega, fun H6 s6 => ⟨_, rfl, iteF (fin _ ((same_new hq).trans s6))⟩⟩
        · exact iteN (int_no h16) (iteF (fin _ (Same.refl _)))
      · rintro σ H4 ⟨u2, rfl, s4, h4⟩
        rw [List.take_length, List.drop_length] at h4
        exact ⟨_, rfl, _, rfl, Hb, p, l, as, ds, _, rfl, h4, s4 _ _ el, DeedsAt.tups (Same.tups s4) dl, hlen, fun H5 s5 => k _ (h4.same s5) (s4.trans s5)⟩

/-! ### made of deeds, or refused -/
def spMadeOf (K : PySem.W.Frag) : Sp := fun vs H Q _ => ∃ (l : Addr) (as : List Addr) (ds : List Deed), vs = [.ref l] ∧ H l = some (.lst (as.map V.ref)) ∧ DeedsAt H as ds ∧ ds.length ≤ 900 ∧
  (lackL ds = none → ∀ q p H', H q = none → HistAt K (upd H q (.lst [.str "told", .ref p])) H' p ds [] → Same (upd H q (.lst [.str "told", .ref p])) H' → Q (.ref q) H') ∧
  (∀ z, lackL ds = some z → ∀ q H', Same H H' → H' q = some (.lst [.str "refused", .str z]) → Q (.ref q) H')
theorem sc_MadeOf : FnScope ["deeds", "caught", "told", "e"] ["deeds"] (defScope xMadeOf.st) := ⟨rfl, rfl, rfl, by decide +kernel, rfl, by decide +kernel, by decide +kernel⟩
theorem ok_madeOf (T : T K mg) : Ok P w K mg base CX0 8 xMadeOf ["deeds"] (spMadeOf K) := by
  refine ok_of T.d_MadeOf sc_MadeOf (fun vs H Q E h => ?_) (fun _ _ _ _ _ _ us hl => match us, hl with | [_], _ => rfl) (fun f cdv A outer s H vs Q E hr h => ?_)
  · obtain ⟨l, as, ds, rfl, _⟩ := h
    rfl
  · obtain ⟨l, as, ds, rfl, el, dl, hlen, k1, k2⟩ := h
    have nd := sc_MadeOf.nd
    refine ⟨_, pss_cons (ps_set (i := 1) nd rfl (Or.inl rfl) pe_non) (pss_cons (ps_set (i := 2) nd rfl (Or.inl rfl) pe_non)
      (pss_cons (ps_try_keep (i := 3) (c := .ref (cME K)) (ts := fun a cls d => tAsg (tVar 3) (gName 1)) rfl rfl rfl nd rfl rfl ⟨by rfl, by decide, .inl T.g_MadeError⟩
          (fun W pn xe tk pass => pss_one (ps_set (i := 2) nd rfl (Or.inl rfl) (pe_clS (ok_replayed T) hr T.g_replayed tk (pa_cons (pv 0) pa_nil))))
          (fun a oe cls d pn hz hf => pss_one (ps_set (i := 1) nd rfl (Or.inl rfl) (pv 3))))
      (pss_cons (ps_if (pt_cmpR op_isN (pv 1) pe_non (nomark _)) (pss_one (ps_ret (pe_lst (pa_cons pe_str (pa_cons (pv 2) pa_nil))))) pss_nil)
      (pss_one (ps_ret (pe_lst (pa_cons pe_str (pa_cons (pe_andT (pe_callB (call_isKept T.o_is) (by rfl) T.z_isinstance (by decide +kernel) (pa_cons (pv 1) (pa_cons (pe_glob (v := .ref (cNN K)) (by rfl) T.g_NoName rfl) pa_nil)))
          (pe_one (pe_keptF T.o_xf T.o_name (pv 1)))) pa_nil)))))))), ?_⟩
    refine ⟨_, rfl, l, as, ds, rfl, el, dl, hlen, fun hn p H1 h1 s1 => ?_, fun z hz dx H1 ed s1 => ?_⟩
    · refine ⟨_, rfl, rfl, _, rfl, iteT ⟨_, rfl, (by show 2 ≤ sizeLine; decide), fun q hq => ?_⟩⟩
      exact k1 hn q p _ (s1.free hq) (h1.put (.inl hq) (fun xs e => by rw [hq] at e; cases e)) (same_upd s1)
    · refine ⟨T.e_NoName, fun a ha => ⟨_, rfl, ?_⟩⟩
      have nda : dx ≠ a := ne_of_none ed ha
      refine ⟨_, rfl, rfl, _, rfl, iteF ?_⟩
      refine ⟨_, rfl, a, dx, _, rfl, upd_same, fr ed nda, true, rfl, iteT ⟨_, rfl, a, dx, _, _, rfl, upd_same, fr ed nda, lk_here, (by show 2 ≤ sizeLine; decide), fun q hq => ?_⟩⟩
      exact k2 z hz q _ ((s1.trans (same_new ha)).trans (same_new hq)) upd_same
end
end Mad

set_option Elab.async false
set_option linter.all false
set_option maxRecDepth 100000
set_option maxHeartbeats 4000000
/-! A wish for a name that has a number. -/
namespace Mad
open PySem PySem.Spec PyProof.Rows L2
/-- a build's fields -/
def bF (ps g r w wn ln af : Addr) : List (Str × V) := [("store", .ref ps), ("given", .ref g), ("recipes", .ref r), ("worths", .ref w), ("worked_names", .ref wn), ("left_names", .ref ln), ("asked_for", .ref af)]
theorem bF_given {ps g r w wn ln af : Addr} : (bF ps g r w wn ln af).lookup ("given" : Str) = some (V.ref g) := (lk_past (by decide +kernel)).trans lk_here
theorem bF_worths {ps g r w wn ln af : Addr} : (bF ps g r w wn ln af).lookup ("worths" : Str) = some (V.ref w) := (lk_past (by decide +kernel)).trans ((lk_past (by decide +kernel)).trans ((lk_past (by decide +kernel)).trans lk_here))
theorem bF_worked {ps g r w wn ln af : Addr} : (bF ps g r w wn ln af).lookup ("worked_names" : Str) = some (V.ref wn) := (lk_past (by decide +kernel)).trans ((lk_past (by decide +kernel)).trans ((lk_past (by decide +kernel)).trans ((lk_past (by decide +kernel)).trans lk_here)))
theorem bF_left {ps g r w wn ln af : Addr} : (bF ps g r w wn ln af).lookup ("left_names" : Str) = some (V.ref ln) := (lk_past (by decide +kernel)).trans ((lk_past (by decide +kernel)).trans ((lk_past (by decide +kernel)).trans ((lk_past (by decide +kernel)).trans ((lk_past (by decide +kernel)).trans lk_here))))
theorem bF_settle {ps g r w wn ln af : Addr} : (bF ps g r w wn ln af).lookup ("settle" : Str) = none := (lk_past (by decide +kernel)).trans ((lk_past (by decide +kernel)).trans ((lk_past (by decide +kernel)).trans ((lk_past (by decide +kernel)).trans ((lk_past (by decide +kernel)).trans ((lk_past (by decide +kernel)).trans ((lk_past (by decide +kernel)).trans rfl))))))
theorem bF_eq {ps g r w wn ln af : Addr} : putF "asked_for" (V.ref af) (putF "left_names" (.ref ln) (putF "worked_names" (.ref wn) (putF "worths" (.ref w) (putF "recipes" (.ref r) (putF "given" (.ref g) (putF "store" (.ref ps) [])))))) = bF ps g r w wn ln af := by
  have a1 : ¬ (("store" : Str) = "given") := by decide +kernel
  have a2 : ¬ (("store" : Str) = "recipes") := by decide +kernel
  have a3 : ¬ (("store" : Str) = "worths") := by decide +kernel
  have a4 : ¬ (("store" : Str) = "worked_names") := by decide +kernel
  have a5 : ¬ (("store" : Str) = "left_names") := by decide +kernel
  have a6 : ¬ (("store" : Str) = "asked_for") := by decide +kernel
  have b2 : ¬ (("given" : Str) = "recipes") := by decide +kernel
  have b3 : ¬ (("given" : Str) = "worths") := by decide +kernel
  have b4 : ¬ (("given" : Str) = "worked_names") := by decide +kernel
  have b5 : ¬ (("given" : Str) = "left_names") := by decide +kernel
  have b6 : ¬ (("given" : Str) = "asked_for") := by decide +kernel
  have c3 : ¬ (("recipes" : Str) = "worths") := by decide +kernel
  have c4 : ¬ (("recipes" : Str) = "worked_names") := by decide +kernel
  have c5 : ¬ (("recipes" : Str) = "left_names") := by decide +kernel
  have c6 : ¬ (("recipes" : Str) = "asked_for") := by decide +kernel
  have d4 : ¬ (("worths" : Str) = "worked_names") := by decide +kernel
  have d5 : ¬ (("worths" : Str) = "left_names") := by decide +kernel
  have d6 : ¬ (("worths" : Str) = "asked_for") := by decide +kernel
  have e5 : ¬ (("worked_names" : Str) = "left_names") := by decide +kernel
  have e6 : ¬ (("worked_names" : Str) = "asked_for") := by decide +kernel
  have f6 : ¬ (("left_names" : Str) = "asked_for") := by decide +kernel
  simp only [putF, if_neg a1, if_neg a2, if_neg a3, if_neg a4, if_neg a5, if_neg a6, if_neg b2, if_neg b3, if_neg b4, if_neg b5, if_neg b6, if_neg c3, if_neg c4, if_neg c5, if_neg c6, if_neg d4, if_neg d5, if_neg d6, if_neg e5, if_neg e6, if_neg f6]
  rfl
section
variable {P : Program} {w : World} {K : PySem.W.Frag} {mg : Str → Option Value} {base : Heap}
def spSBInit (K : PySem.W.Frag) : Sp := fun vs H Q _ => ∃ x dx ps t g r : Addr, vs = [.ref x, .ref ps, .ref t] ∧ H x = some (.ins (cSB K) dx []) ∧ H t = some (.tup [.ref g, .ref r]) ∧
  ∀ (H' : Hp) (wd wn ln af : Addr), (∀ b o, H b = some o → b ≠ x → H' b = some o) → H' x = some (.ins (cSB K) dx (bF ps g r wd wn ln af)) → H wd = none → H' wd = some (.dK []) → H' wn = some (.lst []) → H' ln = some (.lst []) → Q .non H'
theorem sc_SBInit : FnScope ["self", "store", "house"] ["self", "store", "house"] (defScope xSBInit.st) := ⟨rfl, rfl, rfl, by decide +kernel, rfl, by decide +kernel, by decide +kernel⟩
theorem ok_sbInit (T : T K mg) : Ok P w K mg base CX0 1 xSBInit ["self", "store", "house"] (spSBInit K) := by
  refine ok_of T.d_SBInit sc_SBInit (fun vs H Q E h => ?_) (fun _ _ _ _ _ _ us hl => match us, hl with | [_, _, _], _ => rfl) (fun f cdv A outer s H vs Q E hr h => ?_)
  · obtain ⟨x, dx, ps, t, g, r, rfl, _⟩ := h
    rfl
  · obtain ⟨x, dx, ps, t, g, r, rfl, hx, ht, k⟩ := h
    refine ⟨_, pss_cons (ps_fld (pv 0) (pv 1) rfl)
      (pss_cons (ps_asg (pv 2) (pg_tup (by rfl) (pgs_cons (pg_attr (pv 0)) (pgs_cons (pg_attr (pv 0)) pgs_nil))))
      (pss_cons (ps_fld (pv 0) pe_dnewK rfl) (pss_cons (ps_fld (pv 0) (pe_lst pa_nil) rfl) (pss_cons (ps_fld (pv 0) (pe_lst pa_nil) rfl) (pss_one (ps_fld (pv 0) (pe_lst pa_nil) rfl)))))), ?_⟩
    have ntx : t ≠ x := dif ht hx fun z => nomatch z
    refine ⟨_, rfl, _, rfl, x, cSB K, dx, [], rfl, hx, T.c_StoreBuild, T.n_StoreBuild_store, (by show 0 < 1000; decide), ?_⟩
    refine ⟨_, rfl, t, _, rfl, SqT.of (fr ht ntx), rfl, _, _, rfl, ?_⟩
    refine ⟨_, rfl, x, cSB K, dx, _, rfl, upd_same, T.c_StoreBuild, T.n_StoreBuild_given, (by show 1 < 1000; decide), _, _, rfl, ?_⟩
    refine ⟨_, rfl, x, cSB K, dx, _, rfl, upd_same, T.c_StoreBuild, T.n_StoreBuild_recipes, (by show 2 < 1000; decide), rfl, ?_⟩
    intro wd h1
    have x1 : x ≠ wd := ne_of_none upd_same h1
    refine ⟨_, rfl, x, cSB K, dx, _, rfl, fr upd_same x1, T.c_StoreBuild, T.n_StoreBuild_worths, (by show 3 < 1000; decide), ?_⟩
    refine ⟨(by show 0 ≤ sizeLine; exact Nat.zero_le _), fun wn h2 => ?_⟩
    have x2 : x ≠ wn := ne_of_none upd_same h2
    refine ⟨_, rfl, x, cSB K, dx, _, rfl, fr upd_same x2, T.c_StoreBuild, T.n_StoreBuild_worked_names, (by show 4 < 1000; decide), ?_⟩
    refine ⟨(by show 0 ≤ sizeLine; exact Nat.zero_le _), fun ln h3 => ?_⟩
    have x3 : x ≠ ln := ne_of_none upd_same h3
    refine ⟨_, rfl, x, cSB K, dx, _, rfl, fr upd_same x3, T.c_StoreBuild, T.n_StoreBuild_left_names, (by show 5 < 1000; decide), ?_⟩
    refine ⟨(by show 0 ≤ sizeLine; exact Nat.zero_le _), fun af h4 => ?_⟩
    have x4 : x ≠ af := ne_of_none upd_same h4
    refine ⟨_, rfl, x, cSB K, dx, _, rfl, fr upd_same x4, T.c_StoreBuild, T.n_StoreBuild_asked_for, (by show 6 < 1000; decide), ?_⟩
    rw [bF_eq]
    -- what stands beside the build stays; the new ones stand
    have un : ∀ {A : Hp} {b c : Addr} {o1 u : HO}, upd (upd A c o1) x u b = none → b ≠ x → b ≠ c → A b = none := fun {A b c o1 u} e n1 n2 => by rw [upd_ne n1, upd_ne n2] at e; exact e
    have ux : ∀ {A : Hp} {b : Addr} {u : HO}, upd A x u b = none → b ≠ x → A b = none := fun {A b u} e n1 => by rw [upd_ne n1] at e; exact e
    have st : ∀ {A : Hp} {b c : Addr} {o o1 u : HO}, A c = none → A b = some o → b ≠ x → upd (upd A c o1) x u b = some o := fun {A b c o o1 u} hc e n => fr (fr e (ne_of_none e hc)) n
    have g1 : H wd = none := ux (ux (ux h1 x1.symm) x1.symm) x1.symm
    refine k _ wd wn ln af (fun b o e n => ?_) upd_same g1 ?_ ?_ ?_
    · exact st h4 (st h3 (st h2 (st h1 (fr (fr (fr e n) n) n) n) n) n) n
    · exact st h4 (st h3 (st h2 (fr upd_same x1.symm) x1.symm) x1.symm) x1.symm
    · exact st h4 (st h3 (fr upd_same x2.symm) x2.symm) x2.symm
    · exact st h4 (fr upd_same x3.symm) x3.symm
def spSettle (K : PySem.W.Frag) : Sp := fun vs H Q _ => ∃ (x dx ps g r wd wn ln af : Addr) (z : Str) (i : Int) (kv : Kvs), vs = [.ref x, .str z] ∧ H x = some (.ins (cSB K) dx (bF ps g r wd wn ln af)) ∧ H wd = some (.dK []) ∧ H g = some (.dK kv) ∧ g ≠ wd ∧
  valV kv (Sum.inr z) = some (.int i) ∧ Q (.int i) (upd H wd (.dK [(Sum.inr z, .int i)]))
theorem sc_Settle : FnScope ["self", "name", "record"] ["self", "name"] (defScope xSettle.st) := ⟨rfl, rfl, rfl, by decide +kernel, rfl, by decide +kernel, by decide +kernel⟩
theorem ok_settle (T : T K mg) : Ok P w K mg base CX0 1 xSettle ["self", "name"] (spSettle K) := by
  refine ok_of T.d_Settle sc_Settle (fun vs H Q E h => ?_) (fun _ _ _ _ _ _ us hl => match us, hl with | [_, _], _ => rfl) (fun f cdv A outer s H vs Q E hr h => ?_)
  · obtain ⟨x, dx, ps, g, r, wd, wn, ln, af, z, i, kv, rfl, _⟩ := h
    rfl
  · obtain ⟨x, dx, ps, g, r, wd, wn, ln, af, z, i, kv, rfl, hx, hw, hg, ngw, hv, k⟩ := h
    have hu := hu_of hr
    refine ⟨_, pss_cons (ps_if (pt_cmp (pc_din hu (pv 1) (pe_fld (pv 0) rfl))) pss_never pss_nil)
      (pss_cons (ps_if (pt_cmp (pc_din hu (pv 1) (pe_fld (pv 0) rfl))) (pss_cons (ps_dput hu (pe_fld (pv 0) rfl) (pv 1) (pe_dget hu (pe_fld (pv 0) rfl) (pv 1) (fun _ _ => rfl)) rfl) (pss_one (ps_ret (pe_dget hu (pe_fld (pv 0) rfl) (pv 1) (fun _ _ => rfl))))) pss_nil) pss_never), ?_⟩
    have dg : ∀ {H' : Hp}, H' g = some (.dK kv) → DGet H' g (.str z) (some (.int i)) := fun {H'} e => by
      have := DGet.k (k := (Sum.inr z : Key)) e
      rw [hv] at this
      exact this
    have nxw : x ≠ wd := dif hx hw fun z => nomatch z
    refine ⟨_, rfl, _, rfl, x, cSB K, dx, _, _, rfl, hx, T.c_StoreBuild, T.n_StoreBuild_worths, bF_worths, wd, _, rfl, DGet.k (k := Sum.inr z) hw, _, rfl, iteF ?_⟩
    refine ⟨_, rfl, _, rfl, x, cSB K, dx, _, _, rfl, hx, T.c_StoreBuild, T.n_StoreBuild_given, bF_given, g, _, rfl, dg hg, _, rfl, iteT ?_⟩
    refine ⟨_, rfl, x, cSB K, dx, _, _, rfl, hx, T.c_StoreBuild, T.n_StoreBuild_given, bF_given, _, rfl, g, _, rfl, dg hg, ?_⟩
    refine ⟨_, rfl, x, cSB K, dx, _, _, rfl, hx, T.c_StoreBuild, T.n_StoreBuild_worths, bF_worths, _, rfl, wd, _, rfl, DPut.k (k := Sum.inr z) hw (small1000 (by show 0 ≤ 1000; decide)), ?_⟩
    exact ⟨_, rfl, x, cSB K, dx, _, _, rfl, fr hx nxw, T.c_StoreBuild, T.n_StoreBuild_given, bF_given, _, rfl, g, _, rfl, dg (fr hg ngw), k⟩
def spBuild (K : PySem.W.Frag) : Sp := fun vs H Q _ => ∃ (ps t g r l : Addr) (z : Str) (i : Int) (kv : Kvs), vs = [.ref ps, .ref t, .ref l] ∧ H t = some (.tup [.ref g, .ref r]) ∧ H g = some (.dK kv) ∧ H l = some (.lst [.str z]) ∧ valV kv (Sum.inr z) = some (.int i) ∧
  ∀ H' q wd wn ln, Same H H' → H' q = some (.tup [.ref wd, .ref wn, .ref ln]) → H' wd = some (.dK [(Sum.inr z, .int i)]) → H' wn = some (.lst []) → H' ln = some (.lst []) → Q (.ref q) H'
theorem sc_Build : FnScope ["self", "house", "wishes", "build", "name"] ["self", "house", "wishes"] (defScope xBuild.st) := ⟨rfl, rfl, rfl, by decide +kernel, rfl, by decide +kernel, by decide +kernel⟩
theorem ok_build (T : T K mg) : Ok P w K mg base CX0 3 xBuild ["self", "house", "wishes"] (spBuild K) := by
  refine ok_of T.d_Build sc_Build (fun vs H Q E h => ?_) (fun _ _ _ _ _ _ us hl => match us, hl with | [_, _, _], _ => rfl) (fun f cdv A outer s H vs Q E hr h => ?_)
  · obtain ⟨ps, t, g, r, l, z, i, kv, rfl, _⟩ := h
    rfl
  · obtain ⟨ps, t, g, r, l, z, i, kv, rfl, ht, hg, hl, hv, k⟩ := h
    have nd := sc_Build.nd
    have hr1 : Room 1 _ := hr.mono (by decide)
    refine ⟨_, pss_cons (ps_set (i := 3) nd rfl (Or.inl rfl) (pe_mk T.k_StoreBuild (ok_sbInit T) hr T.g_StoreBuild pass0 (pa_cons (pv 0) (pa_cons (pv 1) pa_nil))))
      (pss_cons (ps_for PassesOwn.never rfl (pi_list (pv 2)) (pg_name (i := 4) nd rfl (Or.inl rfl)) (pss_one (ps_expr (pe_mt (pv 3) T.c_StoreBuild T.m_StoreBuild_settle (ok_settle T) hr1 pass0 (pa_cons (pv 4) pa_nil)))))
      (pss_one (ps_ret (pe_tup (pa_cons (pe_fld (pv 3) rfl) (pa_cons (pe_fld (pv 3) rfl) (pa_cons (pe_fld (pv 3) rfl) pa_nil))))))), ?_⟩
    refine ⟨_, rfl, _, rfl, fun x dx nx ndx hne => ?_⟩
    have sm := same_made (C := cSB K) nx ndx
    refine ⟨x, dx, ps, t, g, r, rfl, upd_same, sm _ _ ht, fun H1 wd wn ln af keep ex fw ew en el => ⟨rfl, ?_⟩⟩
    have s1 : Same H H1 := fun b o e => keep b o (sm b o e) (ne_of_none e nx)
    have hw0 : H wd = none := sm.free fw
    have ngw : g ≠ wd := ne_of_none hg hw0
    have nlw : l ≠ wd := ne_of_none hl hw0
    refine ⟨_, rfl, l, rfl, ⟨_, SqL.of (s1 _ _ hl)⟩, for_list (K := K) (a := l) (xs := [.str z]) (fun j σ H' => ∃ v4 : Option V, σ = [some (.ref ps), some (.ref t), some (.ref l), some (.ref x), v4] ∧ ((j = 0 ∧ H' = H1) ∨ (j = 1 ∧ H' = upd H1 wd (.dK [(Sum.inr z, .int i)]))))
      ⟨none, rfl, .inl ⟨rfl, rfl⟩⟩ (fun j σ H' _ ⟨_, _, q⟩ => by
        rcases q with ⟨_, rfl⟩ | ⟨_, rfl⟩
        · exact SqL.of (s1 _ _ hl)
        · exact SqL.of (fr (s1 _ _ hl) nlw)) ?_ ?_⟩
    · rintro j y σ H2 hy ⟨v4, rfl, q⟩
      rcases q with ⟨rfl, rfl⟩ | ⟨rfl, rfl⟩
      · cases hy
        refine ⟨_, rfl, x, dx, _, rfl, ex, bF_settle, _, rfl, x, dx, ps, g, r, wd, wn, ln, af, z, i, kv, rfl, ex, ew, s1 _ _ hg, ngw, hv, ?_⟩
        exact ⟨_, rfl, .inr ⟨rfl, rfl⟩⟩
      · cases hy
    · rintro σ H2 ⟨v4, rfl, q⟩
      rcases q with ⟨z, _⟩ | ⟨_, rfl⟩
      · cases z
      · have nxw : x ≠ wd := dif ex ew fun z => nomatch z
        have ex2 : ∀ {o : HO}, upd H1 wd o x = some (.ins (cSB K) dx (bF ps g r wd wn ln af)) := fun {o} => fr ex nxw
        refine ⟨_, rfl, x, cSB K, dx, _, _, rfl, ex2, T.c_StoreBuild, T.n_StoreBuild_worths, bF_worths, _, rfl, x, cSB K, dx, _, _, rfl, ex2, T.c_StoreBuild, T.n_StoreBuild_worked_names, bF_worked,
          _, rfl, x, cSB K, dx, _, _, rfl, ex2, T.c_StoreBuild, T.n_StoreBuild_left_names, bF_left, (by show 3 ≤ sizeLine; decide), fun q hq => ?_⟩
        exact k _ q wd wn ln ((Same.put s1 hw0).trans (same_new hq)) upd_same (same_new hq _ _ upd_same) (same_new hq _ _ (fr en (dif en ew fun z => nomatch z))) (same_new hq _ _ (fr el (dif el ew fun z => nomatch z)))
end
end Mad

set_option Elab.async false
set_option linter.all false
set_option maxRecDepth 100000
set_option maxHeartbeats 4000000
/-! A wish for one name that has a number. -/
namespace Mad
open PySem PySem.Spec PyProof.Rows L2
section
variable {P : Program} {w : World} {K : PySem.W.Frag} {mg : Str → Option Value} {base : Heap}
theorem put_len {f : Str} {v : V} : ∀ {fs : List (Str × V)}, (putF f v fs).length ≤ fs.length + 1
  | [] => Nat.le_refl _
  | (g, x) :: r => by
    unfold putF
    split
    · exact Nat.le_succ _
    · exact Nat.succ_le_succ put_len
def spWish (K : PySem.W.Frag) : Sp := fun vs H Q _ => ∃ (Hb : Hp) (p l : Addr) (ds ts : List Deed) (z : Str) (i : Int), vs = [.ref p, .ref l] ∧ HistAt K Hb H p ds ts ∧ H l = some (.lst [.str z]) ∧ Same Hb H ∧ OkName z ∧ ds.length ≤ 900 ∧ valV (houseL ds).1 (Sum.inr z) = some (.int i) ∧
  ∀ H' q, H' q = some (.lst [.int i]) → Same Hb H' → Q (.ref q) H'
theorem sc_Wish : FnScope ["self", "names", "worths", "made", "kept", "name"] ["self", "names"] (defScope xWish.st) := ⟨rfl, rfl, rfl, by decide +kernel, rfl, by decide +kernel, by decide +kernel⟩
theorem ok_wish (T : T K mg) : Ok P w K mg base CX0 4 xWish ["self", "names"] (spWish K) := by
  refine ok_of T.d_Wish sc_Wish (fun vs H Q E h => ?_) (fun _ _ _ _ _ _ us hl => match us, hl with | [_, _], _ => rfl) (fun f cdv A outer s H vs Q E hr h => ?_)
  · obtain ⟨Hb, p, l, ds, ts, z, i, rfl, _⟩ := h
    rfl
  · obtain ⟨Hb, p, l, ds, ts, z, i, rfl, ⟨ld, lt, ps, lh, lm, lk, h⟩, hl, sb, hz, hlen, hv, k⟩ := h
    have nd := sc_Wish.nd
    have hu := hu_of hr
    have hr1 : Room 1 _ := hr.mono (by decide)
    have hr2 : Room 2 _ := hr.mono (by decide)
    refine ⟨_, pss_cons (ps_expr (pe_cl (ok_needNames T) hr2 T.g_need_names pass0 (pa_cons (pv 1) pa_nil)))
      (pss_cons (ps_asg (pe_mt (pe_fld (pv 0) rfl) T.c_Store T.m_Store_build (ok_build T) hr pass0 (pa_cons (pe_cl (ok_houseBy T) hr1 T.g_house_by pass0 (pa_cons (pe_fld (pv 0) rfl) pa_nil))
          (pa_cons (pe_callTy call_list_of (by rfl) T.z_list (by decide +kernel) (pa_cons (pv 1) pa_nil)) pa_nil)))
        (pg_tup (by rfl) (pgs_cons (pg_name (i := 2) nd rfl (Or.inr rfl)) (pgs_cons (pg_name (i := 3) nd rfl (Or.inl rfl)) (pgs_cons (pg_name (i := 4) nd rfl (Or.inl rfl)) pgs_nil)))))
      (pss_cons (ps_fld (pv 0) (pe_callTy call_list_of (by rfl) T.z_list (by decide +kernel) (pa_cons (pv 3) pa_nil)) rfl)
      (pss_cons (ps_fld (pv 0) (pe_callTy call_list_of (by rfl) T.z_list (by decide +kernel) (pa_cons (pv 4) pa_nil)) rfl)
      (pss_one (ps_ret (pe_lc (own := [("name", 5)]) (g := gName 5) (tt := tYes) (te := tDGet (tVar 2) (tVar 5)) rfl nd (pi_list (pv 1))
          (blkOk_by (N := ["self", "names", "worths", "made", "kept", "name"]) (sc := defScope xWish.st) (by decide +kernel))
          (fun _ _ _ _ _ => pg_name (i := 5) nd rfl (Or.inl rfl)) (fun _ _ _ _ _ => pts_nil) (fun _ _ _ _ _ => pe_dget hu (pv 2) (pv 5) (fun _ _ => rfl)))))))), ?_⟩
    refine ⟨_, rfl, l, [z], rfl, hl, (fun y hy => by rw [List.mem_singleton.mp hy]; exact hz), fun H1 s1 => ?_⟩
    have h1 := h.same s1
    obtain ⟨dy, st⟩ := h1.st
    obtain ⟨as, d1, d2⟩ := h1.dn
    refine f_store T h1 ⟨ps, dy, _, rfl, st, lk_past (by decide +kernel), f_done T h1 ⟨ld, as, ds, rfl, d1, d2, Nat.le_trans hlen (by decide), fun H2 t g r s2 nt ng nr et hh => ?_⟩⟩
    have s12 := s1.trans s2
    refine ⟨_, rfl, l, _, rfl, .inl (SqL.of (s12 _ _ hl)), fun l2 hl2 => ?_⟩
    have s3 : Same H2 (upd H2 l2 (.lst [.str z])) := same_new hl2
    refine ⟨ps, t, g, r, l2, z, i, (houseL ds).1, rfl, s3 _ _ et, s3 _ _ hh.2.1, upd_same, hv, fun H4 q wd wn ln s4 eq ew en el => ?_⟩
    have s14 := (s12.trans s3).trans s4
    refine ⟨q, _, rfl, SqT.of eq, rfl, _, _, rfl, _, _, rfl, _, _, rfl, rfl, ?_⟩
    refine ⟨_, rfl, wn, _, rfl, .inl (SqL.of en), fun m1 hm1 => ?_⟩
    obtain ⟨dx, ob⟩ := (h.same s14).ob
    have q1 : p ≠ m1 := ne_of_none ob hm1
    refine ⟨_, rfl, p, cHi K, dx, _, rfl, fr ob q1, T.c_History, T.n_History_last_made, (by show 5 < 1000; decide), ?_⟩
    have nwp : wd ≠ p := dif ew ob fun z => nomatch z
    have nlp : ln ≠ p := dif el ob fun z => nomatch z
    have lp : l ≠ p := dif (s14 _ _ hl) ob fun z => nomatch z
    refine ⟨_, rfl, ln, _, rfl, .inl (SqL.of (fr (same_new hm1 _ _ el) nlp)), fun m2 hm2 => ?_⟩
    have q2 : p ≠ m2 := ne_of_none upd_same hm2
    refine ⟨_, rfl, p, cHi K, dx, _, rfl, fr upd_same q2, T.c_History, T.n_History_last_kept, Nat.lt_of_le_of_lt put_len (by show 6 < 1000; decide), ?_⟩
    have keep : ∀ {b : Addr} {o v : HO}, H4 b = some o → b ≠ p → upd (upd (upd (upd H4 m1 (.lst [])) p (.ins (cHi K) dx (putF "last_made" (V.ref m1) (hF ld lt ps lm lk)))) m2 (.lst [])) p v b = some o := fun {b o v} e n => by
      have e1 : upd (upd H4 m1 (.lst [])) p (.ins (cHi K) dx (putF "last_made" (V.ref m1) (hF ld lt ps lm lk))) b = some o := fr (same_new hm1 _ _ e) n
      exact fr (same_new hm2 _ _ e1) n
    have sbk : ∀ {v : HO}, Same Hb (upd (upd (upd (upd H4 m1 (.lst [])) p (.ins (cHi K) dx (putF "last_made" (V.ref m1) (hF ld lt ps lm lk)))) m2 (.lst [])) p v) := fun {v} b o e => keep (s14 _ _ (sb _ _ e)) (ne_of_none e h.b1)
    have el1 : ∀ {v : HO}, upd (upd (upd (upd H4 m1 (.lst [])) p (.ins (cHi K) dx (putF "last_made" (V.ref m1) (hF ld lt ps lm lk)))) m2 (.lst [])) p v l = some (.lst [.str z]) := fun {v} => keep (s14 _ _ hl) lp
    have ew1 : ∀ {v : HO}, upd (upd (upd (upd H4 m1 (.lst [])) p (.ins (cHi K) dx (putF "last_made" (V.ref m1) (hF ld lt ps lm lk)))) m2 (.lst [])) p v wd = some (.dK [(Sum.inr z, .int i)]) := fun {v} => keep ew nwp
    refine ⟨_, rfl, l, rfl, ⟨_, SqL.of el1⟩, fun D hD => lc_list (K := K) (a := l) (xs := [.str z])
      (fun j H' => (j = 0 ∧ H' = upd (upd (upd (upd (upd H4 m1 (.lst [])) p (.ins (cHi K) dx (putF "last_made" (V.ref m1) (hF ld lt ps lm lk)))) m2 (.lst [])) p (.ins (cHi K) dx (putF "last_kept" (V.ref m2) (putF "last_made" (V.ref m1) (hF ld lt ps lm lk))))) D (.lst [])) ∨
        (j = 1 ∧ H' D = some (.lst [.int i]) ∧ Same Hb H' ∧ H' l = some (.lst [.str z])))
      (.inl ⟨rfl, rfl⟩) ?_ ?_ ?_⟩
    · rintro j H' _ (⟨_, rfl⟩ | ⟨_, _, _, e⟩)
      · exact SqL.of (same_new hD _ _ el1)
      · exact SqL.of e
    · rintro j y H' hy (⟨rfl, rfl⟩ | ⟨rfl, _⟩)
      · cases hy
        refine ⟨rfl, ?_⟩
        unfold tYes
        have e := same_new (o := .lst []) hD _ _ (ew1 (v := .ins (cHi K) dx (putF "last_kept" (V.ref m2) (putF "last_made" (V.ref m1) (hF ld lt ps lm lk)))))
        refine iteT ⟨_, rfl, _, rfl, wd, .int i, rfl, ?_, [], upd_same, (by show 0 < sizeLine; decide), .inr ⟨rfl, upd_same, ?_, ?_⟩⟩
        · have q := DGet.k (k := (Sum.inr z : Key)) e
          rw [show valV [((Sum.inr z : Key), V.int i)] (Sum.inr z) = some (.int i) from valV_pos rfl] at q
          exact q
        · exact fun b o e' => fr (fr (sbk _ _ e') (ne_of_none (sbk _ _ e') hD)) (ne_of_none (sbk _ _ e') hD)
        · exact fr (fr el1 (ne_of_none el1 hD)) (ne_of_none el1 hD)
      · cases hy
    · rintro H' (⟨z, _⟩ | ⟨_, e, s, _⟩)
      · cases z
      · exact k _ D e s
end
end Mad

set_option Elab.async false
set_option linter.all false
set_option maxRecDepth 100000
set_option maxHeartbeats 4000000
/-! The law: behind the deeds that it makes. -/
namespace Mad
open PySem PySem.Spec PyProof.Rows L2
theorem SqL.same {K : PySem.W.Frag} {H H' : Hp} {a : Addr} {xs : List V} (h : SqL K H a xs) (s : Same H H') : SqL K H' a xs := by
  rcases h with (r | ⟨o, r⟩) | k
  · exact .inl (.inl (s _ _ r))
  · exact .inl (.inr ⟨o, s _ _ r⟩)
  · exact .inr k
theorem give_last {ds : List Deed} {z : Str} {i : Int} : valV (houseL (ds ++ [.give z i])).1 (Sum.inr z : Key) = some (.int i) := by
  rw [houseL_snoc]
  show valV (putK (dropK (houseL ds).1 (Sum.inr z)) (Sum.inr z) (.int i)) (Sum.inr z) = _
  have nd := (house_ok ds).1.nd
  rw [putK_new _ (drop_none nd)]
  have h0 := drop_none (z := (Sum.inr z : Key)) nd
  generalize dropK (houseL ds).1 (Sum.inr z) = k at h0
  induction k with
  | nil => exact valV_pos rfl
  | cons p r ih =>
    by_cases e : p.1 = Sum.inr z
    · rw [valV_pos e] at h0
      cases h0
    · rw [valV_neg e] at h0
      exact (valV_neg e).trans (ih h0)
abbrev nLaw : List Str := ["script", "pool", "names", "deeds", "k", "deed", "given", "recipes", "handed", "found", "lack"]
theorem sc_Law : FnScope nLaw ["script"] (defScope xLaw.st) := ⟨rfl, rfl, rfl, by decide +kernel, rfl, by decide +kernel, by decide +kernel⟩
section
variable {P : Program} {w : World} {K : PySem.W.Frag} {mg : Str → Option Value} {base : Heap}
theorem hist_ob {Hb H : Hp} {p : Addr} {ds ts : List Deed} (h : HistAt K Hb H p ds ts) : ∃ dx fs, H p = some (.ins (cHi K) dx fs) ∧ ∀ m : Str, noF m = true → fs.lookup m = none := by
  obtain ⟨ld, lt, ps, lh, lm, lk, h⟩ := h
  obtain ⟨dx, ob⟩ := h.ob
  exact ⟨dx, _, ob, fun m hm => hF_no hm⟩
theorem law_tail (T : T K mg) {f : Addr} {cdv : Value} {A : Around} {outer : List Env} {s : Shared} {H : Hp} {E : XK} (hr : Room 8 (A.deeper (envOfC xLaw.qual (defScope xLaw.st) s.heap.objs.size f cdv))) :
    ∃ tt, PSs (cxOf CX0 P w K mg base nLaw xLaw.qual (defScope xLaw.st) f cdv A outer s H E).nox ((defBody xLaw.st).drop 5) tt ∧
      ∀ (D : Ends) (σ : L2.St) (H1 : Hp) (v0 v1 v2 : V) (v4 v5 v6 v7 : Option V) (dl : Addr) (as : List Addr) (ds : List Deed), σ = [some v0, some v1, some v2, some (.ref dl), v4, v5, v6, v7, none, none, none] →
        H1 dl = some (.lst (as.map V.ref)) → DeedsAt H1 as ds → ds.length ≤ 100 → (∀ H', D.rt (.bl true) H') → tt D σ H1 := by
  have nd := sc_Law.nd
  have hu := hr.units
  have hr1 : Room 1 (A.deeper (envOfC xLaw.qual (defScope xLaw.st) s.heap.objs.size f cdv)) := hr.mono (by decide)
  have hr2 : Room 2 (A.deeper (envOfC xLaw.qual (defScope xLaw.st) s.heap.objs.size f cdv)) := hr.mono (by decide)
  have hr3 : Room 3 (A.deeper (envOfC xLaw.qual (defScope xLaw.st) s.heap.objs.size f cdv)) := hr.mono (by decide)
  have hr4 : Room 4 (A.deeper (envOfC xLaw.qual (defScope xLaw.st) s.heap.objs.size f cdv)) := hr.mono (by decide)
  have hr7 : Room 7 (A.deeper (envOfC xLaw.qual (defScope xLaw.st) s.heap.objs.size f cdv)) := hr.mono (by decide)
  refine ⟨_, pss_cons (ps_set (i := 8) nd rfl (Or.inl rfl) (pe_callTy call_list_of (by rfl) T.z_list (by decide +kernel) (pa_cons (pv 3) pa_nil)))
    (pss_cons (ps_set (i := 9) nd rfl (Or.inl rfl) (pe_cl (ok_madeOf T) hr T.g_law_made_of pass0 (pa_cons (pv 8) pa_nil)))
    (pss_cons (ps_if (pt_cmpR (op_unlikeL hu) (pv 8) (pv 3) (nomark _)) pss_never pss_nil)
    (pss_cons (ps_set (i := 10) nd rfl (Or.inl rfl) (pe_cl (ok_lacks T) hr2 T.g_law_lacks pass0 (pa_cons (pv 3) pa_nil)))
    (pss_cons (ps_if (pt_cmpR op_notN (pv 10) pe_non (nomark _)) (pss_one (ps_ret (pe_cmpR (op_sameL hu) (pv 9) (pe_lst (pa_cons pe_str (pa_cons (pv 10) pa_nil))) (nomark _)))) pss_nil)
    (pss_cons (ps_if (pt_cmpR op_ne (pe_ix ix_list (pv 9) pe_int (fun _ _ => rfl)) pe_str (nomark _)) pss_never pss_nil)
    (pss_cons (ps_expr (pe_bm0 PySem.F.plainAttrs_list PySem.F.slot_list_clear PySem.F.type_list_clear mt_clear (pv 8)))
    (pss_cons (ps_if (PW.pt (pw_or (pt_not (pt_val (pe_cl (ok_alike T) hr3 T.g_law_alike pass0 (pa_cons (pe_ix ix_list (pv 9) pe_int (fun _ _ => rfl)) (pa_cons (pv 3) pa_nil)))))
      (pw_or1 (pt_not (pt_val (pe_cl (ok_alike T) hr3 T.g_law_alike pass0 (pa_cons (pe_cl (ok_replayed T) hr7 T.g_replayed passX0
        (pa_cons (pe_mt0 (pe_ix ix_list (pv 9) pe_int (fun _ _ => rfl)) T.c_History T.m_History_deeds (ok_deeds T) hr1 pass0) pa_nil)) (pa_cons (pv 3) pa_nil)))))))) pss_never pss_nil)
    (pss_cons (ps_if (PW.pt (pw_or (pt_not (pt_val (pe_cl (ok_backOn T) hr4 T.g_law_back_and_on pass0 (pa_cons (pe_ix ix_list (pv 9) pe_int (fun _ _ => rfl)) (pa_cons (pv 3) pa_nil)))))
      (pw_or1 (pt_cmpR op_notN (pe_mt (pe_ix ix_list (pv 9) pe_int (fun _ _ => rfl)) T.c_History T.m_History_give (ok_give T) hr3 pass0 (pa_cons pe_str (pa_cons pe_int pa_nil))) pe_non (nomark _))))) pss_never pss_nil)
    (pss_cons (ps_if (PW.pt (pw_or (pt_not (pt_val (pe_cl (ok_alike T) hr3 T.g_law_alike pass0 (pa_cons (pe_ix ix_list (pv 9) pe_int (fun _ _ => rfl))
        (pa_cons (pe_op op_cat (pv 3) (pe_lst (pa_cons (pe_tup (pa_cons pe_str (pa_cons pe_str (pa_cons pe_int pa_nil)))) pa_nil))) pa_nil)))))
      (pw_or1 (pt_cmpR op_notN (pe_mt0 (pe_ix ix_list (pv 9) pe_int (fun _ _ => rfl)) T.c_History T.m_History_undo (ok_undo T) hr1 passX0) pe_non (nomark _))))) pss_never pss_nil)
    (pss_one (ps_ret (pe_and (pe_cl (ok_alike T) hr3 T.g_law_alike pass0 (pa_cons (pe_ix ix_list (pv 9) pe_int (fun _ _ => rfl)) (pa_cons (pv 3) pa_nil)))
      (pe_and (pe_cmpR op_isN (pe_mt0 (pe_ix ix_list (pv 9) pe_int (fun _ _ => rfl)) T.c_History T.m_History_redo (ok_redo T) hr1 pass0) pe_non (nomark _))
      (pe_one (pe_cmpR (op_sameL hu) (pe_mt (pe_ix ix_list (pv 9) pe_int (fun _ _ => rfl)) T.c_History T.m_History_wish (ok_wish T) hr4 pass0 (pa_cons (pe_lst (pa_cons pe_str pa_nil)) pa_nil)) (pe_lst (pa_cons pe_int pa_nil)) (nomark _)))))))))))))))),
    ?_⟩
  rintro D σ H1 v0 v1 v2 v4 v5 v6 v7 dl as ds rfl el dsat hlen k
  -- the list handed in
  refine ⟨_, rfl, dl, _, rfl, .inl (SqL.of el), fun hd fh => ?_⟩
  have sh : Same H1 (upd H1 hd (.lst (as.map V.ref))) := same_new fh
  have dat1 := DeedsAt.tups (Same.tups sh) dsat
  refine ⟨_, rfl, hd, as, ds, rfl, upd_same, dat1, by omega, fun hn q p H2 fq h2 s2 => ?_, fun z hz q H2 s2 eq => ?_⟩
  · -- made
    have sq : Same (upd H1 hd (.lst (as.map V.ref))) (upd (upd H1 hd (.lst (as.map V.ref))) q (.lst [.str "told", .ref p])) := same_new fq
    have nhq : hd ≠ q := ne_of_none upd_same fq
    have b_hd := sq _ _ upd_same
    have b_dl := sq _ _ (sh _ _ el)
    have dat2 := DeedsAt.tups (Same.tups sq) dat1
    refine ⟨_, rfl, _, rfl, hd, dl, _, _, rfl, rfl, SqL.of (s2 _ _ b_hd), SqL.of (s2 _ _ b_dl), deeds_same (DeedsAt.tups (Same.tups s2) dat2) (DeedsAt.tups (Same.tups s2) dat2), _, rfl, iteF ?_⟩
    refine ⟨_, rfl, dl, as, ds, rfl, s2 _ _ b_dl, DeedsAt.tups (Same.tups s2) dat2, by omega, fun _ H3 s3 => ?_, (fun z hz => by rw [hn] at hz; cases hz)⟩
    have s23 := s2.trans s3
    refine ⟨_, rfl, rfl, _, rfl, iteF ?_⟩
    refine ⟨_, rfl, q, _, _, _, rfl, rfl, SqL.of (s23 _ _ upd_same), at_of (j := 0) rfl rfl, rfl, _, rfl, iteF ?_⟩
    refine ⟨_, rfl, .inl ⟨rfl, _, SqL.of (s23 _ _ b_hd)⟩, hd, _, rfl, rfl, s23 _ _ b_hd, ?_⟩
    -- the list handed in is emptied
    have h4 : HistAt K (upd (upd (upd H1 hd (.lst (as.map V.ref))) q (.lst [.str "told", .ref p])) hd (.lst [])) (upd H3 hd (.lst [])) p ds [] := (h2.same s3).put (.inr ⟨_, b_hd⟩) fun xs e => by rw [s23 _ _ b_hd] at e; cases e
    have s4 : Same (upd (upd (upd H1 hd (.lst (as.map V.ref))) q (.lst [.str "told", .ref p])) hd (.lst [])) (upd H3 hd (.lst [])) := same_upd s23
    have ndh : dl ≠ hd := ne_of_none el fh
    have c_dl := fr (u := .lst []) b_dl ndh
    have c_q : upd (upd (upd H1 hd (.lst (as.map V.ref))) q (.lst [.str "told", .ref p])) hd (.lst []) q = some (.lst [.str "told", .ref p]) := fr upd_same nhq.symm
    have dat := DeedsAt.tups (tups_lst (o := .lst []) b_hd) dat2
    generalize upd (upd (upd H1 hd (.lst (as.map V.ref))) q (.lst [.str "told", .ref p])) hd (.lst []) = Hb at h4 s4 c_dl c_q dat
    generalize upd H3 hd (.lst []) = H4 at h4 s4 ⊢
    have fnd : ∀ {H' : Hp} {σ : L2.St} {Q : VK}, Same Hb H' → σ[9]? = some (some (.ref q)) → Q (.ref p) H' → tOp (rIxL K) (tVar 9) (tC (.int 1)) σ H' Q := fun {H' σ Q} s h9 k => ⟨_, h9, q, _, _, _, rfl, rfl, SqL.of (s _ _ c_q), at_of (j := 1) rfl rfl, k⟩
    have dts : ∀ {H' : Hp}, Same Hb H' → DeedsAt H' as ds := fun {H'} s => DeedsAt.tups (Same.tups s) dat
    have okq : OkName "qq" := okName_of (by decide +kernel)
    refine fnd s4 rfl ⟨_, rfl, Hb, p, dl, as, ds, [], rfl, h4, s4 _ _ c_dl, dts s4, by omega, fun H5 s5 => ⟨_, rfl, iteF ?_⟩⟩
    have h5 := h4.same s5
    have sb5 := s4.trans s5
    obtain ⟨dx5, fs5, ob5, no5⟩ := hist_ob h5
    refine fnd sb5 rfl ⟨p, dx5, fs5, rfl, ob5, no5 _ (by decide +kernel), Hb, p, ds, [], rfl, h5, fun l1 as1 hl1 d1 => ?_⟩
    have s6 : Same H5 (upd H5 l1 (.lst (as1.map V.ref))) := same_new hl1
    refine ⟨l1, as1, ds, rfl, upd_same, DeedsAt.tups (Same.tups s6) d1, by omega, fun _ p2 H7 h7 s7 => ?_, (fun z hz => by rw [hn] at hz; cases hz)⟩
    have sb7 := (sb5.trans s6).trans s7
    refine ⟨_, rfl, _, p2, dl, as, ds, [], rfl, h7, sb7 _ _ c_dl, dts sb7, by omega, fun H8 s8 => ⟨_, rfl, iteF ?_⟩⟩
    have h8 := h5.same ((s6.trans s7).trans s8)
    have sb8 := sb7.trans s8
    refine fnd sb8 rfl ⟨_, rfl, Hb, p, dl, as, ds, rfl, h8, sb8, c_dl, dat, by omega, fun H9 h9 sb9 => ⟨_, rfl, iteF ?_⟩⟩
    obtain ⟨dx9, fs9, ob9, no9⟩ := hist_ob h9
    refine fnd sb9 rfl ⟨p, dx9, fs9, rfl, ob9, no9 _ (by decide +kernel), Hb, p, ds, [], "qq", 5, rfl, h9, sb9, okq, by omega, fun H10 h10 sb10 => ⟨rfl, _, rfl, iteF ?_⟩⟩
    refine fnd sb10 rfl ⟨_, rfl, (by show 3 ≤ sizeLine; decide), fun x hx => ⟨(by show 1 ≤ sizeLine; decide), fun b hb => ?_⟩⟩
    have s12 : Same H10 (upd (upd H10 x (.tup [.str "give", .str "qq", .int 5])) b (.lst [.ref x])) := (same_new hx).trans (same_new hb)
    have lenV : (as.map V.ref).length = ds.length := by rw [List.length_map, pair_len dat]
    refine ⟨dl, b, _, _, rfl, rfl, (sb10.trans s12) _ _ c_dl, upd_same, ?_, fun r hr2 => ?_⟩
    · rw [lenV, sizeLine_eq]
      show ds.length + 1 ≤ _
      omega
    have s13 := s12.trans (same_new (o := .lst (as.map V.ref ++ [.ref x])) hr2)
    have ex : (upd (upd (upd H10 x (.tup [.str "give", .str "qq", .int 5])) b (.lst [.ref x])) r (.lst (as.map V.ref ++ [.ref x]))) x = some (.tup [.str "give", .str "qq", .int 5]) := same_new hr2 _ _ (same_new hb _ _ upd_same)
    refine ⟨Hb, p, r, as ++ [x], ds ++ [.give "qq" 5], [], rfl, h10.same s13, ?_, pair_app (dts (sb10.trans s13)) (.cons (show DeedAt _ x (.give "qq" 5) from ⟨ex, okq, trivial⟩) .nil), ?_, fun H14 s14 => ⟨_, rfl, iteF ?_⟩⟩
    · rw [upd_same, List.map_append]
      rfl
    · rw [List.length_append]
      show ds.length + 1 ≤ 900
      omega
    have h14 := h10.same (s13.trans s14)
    have sb14 := (sb10.trans s13).trans s14
    obtain ⟨dx14, fs14, ob14, no14⟩ := hist_ob h14
    refine fnd sb14 rfl ⟨p, dx14, fs14, rfl, ob14, no14 _ (by decide +kernel), Hb, p, ds ++ [.give "qq" 5], [], rfl, h14, sb14, Nat.zero_le _, .inr ⟨ds, _, rfl, fun H15 h15 sb15 => ⟨rfl, _, rfl, iteF ?_⟩⟩⟩
    refine fnd sb15 rfl ⟨_, rfl, Hb, p, dl, as, ds, _, rfl, h15, sb15 _ _ c_dl, dts sb15, by omega, fun H16 s16 => ⟨true, rfl, iteT ?_⟩⟩
    have h16 := h15.same s16
    have sb16 := sb15.trans s16
    obtain ⟨dx16, fs16, ob16, no16⟩ := hist_ob h16
    refine fnd sb16 rfl ⟨p, dx16, fs16, rfl, ob16, no16 _ (by decide +kernel), Hb, p, ds, [], _, rfl, h16, sb16, by omega, fun H17 h17 sb17 => ⟨rfl, true, rfl, iteT ?_⟩⟩
    obtain ⟨dx17, fs17, ob17, no17⟩ := hist_ob h17
    refine fnd sb17 rfl ⟨p, dx17, fs17, rfl, ob17, no17 _ (by decide +kernel), (by show 1 ≤ sizeLine; decide), fun y hy => ?_⟩
    refine ⟨Hb, p, y, ds ++ [.give "qq" 5], [], "qq", 5, rfl, h17.same (same_new hy), upd_same, sb17.trans (same_new hy), okq, ?_, give_last, fun H18 wl hw sb18 => ⟨(by show 1 ≤ sizeLine; decide), fun e he => ?_⟩⟩
    · rw [List.length_append]
      show ds.length + 1 ≤ 900
      omega
    exact ⟨wl, e, _, _, rfl, rfl, SqL.of (same_new he _ _ hw), SqL.of upd_same, .cons (.inl ⟨rfl, .inl rfl⟩) .nil, k _⟩
  · -- refused
    refine ⟨_, rfl, _, rfl, hd, dl, _, _, rfl, rfl, SqL.of (s2 _ _ upd_same), SqL.of (s2 _ _ (sh _ _ el)), deeds_same (DeedsAt.tups (Same.tups s2) dat1) (DeedsAt.tups (Same.tups s2) dat1), _, rfl, iteF ?_⟩
    refine ⟨_, rfl, dl, as, ds, rfl, s2 _ _ (sh _ _ el), DeedsAt.tups (Same.tups s2) dat1, by omega, (fun hn => by rw [hz] at hn; cases hn), fun z' hz' H3 s3 => ?_⟩
    rw [hz] at hz'
    cases hz'
    refine ⟨_, rfl, rfl, _, rfl, iteT ?_⟩
    refine ⟨_, rfl, _, rfl, (by show 2 ≤ sizeLine; decide), fun e he => ?_⟩
    exact ⟨q, e, _, _, rfl, rfl, SqL.of (same_new he _ _ (s3 _ _ eq)), SqL.of upd_same, .cons (.inl ⟨rfl, .inl rfl⟩) (.cons (.inl ⟨rfl, .inl rfl⟩) .nil), k _⟩
end
end Mad

set_option Elab.async false
set_option linter.all false
set_option maxRecDepth 100000
set_option maxHeartbeats 4000000
/-! The law keeps its promise. -/
namespace Mad
open PySem PySem.Spec PyProof.Rows L2
section
variable {P : Program} {w : World} {K : PySem.W.Frag} {mg : Str → Option Value} {base : Heap}
def spLaw (K : PySem.W.Frag) : Sp := fun vs H Q _ => ∃ (a : Addr) (ns : List Int), vs = [.ref a] ∧ SqL K H a (ns.map V.int) ∧ ns.length ≤ 63 ∧ ∀ H', Q (.bl true) H'
/-- from the body, the def's object in hand -/
theorem fn_of {t : Tx} {N ps : List Str} {k : Nat} {sp : Sp} {fd : FuncData} (F : FunD K t.name t.qual (defArgs t.st) (defBody t.st) (defScope t.st) [] [] (t.ad K) fd) (S : FnScope N ps (defScope t.st)) (len : ∀ vs H Q E, sp vs H Q E → vs.length = ps.length)
    (hbody : ∀ (f : Addr) (cdv : Value) (A : Around) (outer : List Env) (s : Shared) (H : Hp) (vs : List V) (Q : VK) (E : XK), Room k (A.deeper (envOfC t.qual (defScope t.st) s.heap.objs.size f cdv)) → sp vs H Q E →
      ∃ tt, PSs (cxOf CX0 P w K mg base N t.qual (defScope t.st) f cdv A outer s H E).nox (defBody t.st) tt ∧ tt { nx := fun _ H' => Q .non H', rt := Q } (start N vs) H) : FnOk P w K mg base CX0 (k + 1) (t.ad K) fd ps sp :=
  F.ok S len fun cdv A outer s H vs Q E hr hsp => by
    obtain ⟨tt, h, q⟩ := hbody _ cdv A outer s H vs Q E hr hsp
    exact ⟨tt, h.nox, q⟩
theorem fn_law (T : T K mg) {fd : FuncData} (F : FunD K xLaw.name xLaw.qual (defArgs xLaw.st) (defBody xLaw.st) (defScope xLaw.st) [] [] (xLaw.ad K) fd) : FnOk P w K mg base CX0 9 (xLaw.ad K) fd ["script"] (spLaw K) := by
  refine fn_of F sc_Law (fun vs H Q E h => ?_) (fun f cdv A outer s H vs Q E hr h => ?_)
  · obtain ⟨a, ns, rfl, _⟩ := h
    rfl
  · obtain ⟨sa, ns, rfl, hS, hns, k⟩ := h
    have nd := sc_Law.nd
    have hu := hu_of hr
    have hr1 : Room 1 _ := hr.mono (by decide)
    have hr2 : Room 2 _ := hr.mono (by decide)
    have hr5 : Room 5 _ := hr.mono (by decide)
    obtain ⟨tt, htt, hq⟩ := law_tail (P := P) (w := w) (base := base) (outer := outer) (H := H) (E := E) T hr
    refine ⟨_, pss_cons (ps_set (i := 1) nd rfl (Or.inl rfl) (pe_cl (ok_pool T) hr2 T.g_law_pool pass0 (pa_cons (pv 0) (pa_cons pe_int pa_nil))))
      (pss_cons (ps_set (i := 2) nd rfl (Or.inl rfl) (pe_cl (ok_names T) hr2 T.g_law_names pass0 (pa_cons (pv 1) pa_nil)))
      (pss_cons (ps_set (i := 3) nd rfl (Or.inl rfl) (pe_lst pa_nil))
      (pss_cons (ps_for PassesOwn.never rfl (pi_range2 (by rfl) T.z_range (pa_cons pe_int (pa_cons (pe_callB (call_min2 rfl) (by rfl) T.z_min (by decide +kernel) (pa_cons pe_int (pa_cons (pe_callB call_len (by rfl) T.z_len (by decide +kernel) (pa_cons (pv 0) pa_nil)) pa_nil))) pa_nil))) (pg_name (i := 4) nd rfl (Or.inl rfl))
        (pss_cons (ps_set (i := 5) nd rfl (Or.inl rfl) (pe_cl (ok_deed T) hr5 T.g_law_deed pass0 (pa_cons (pe_cl (ok_pool T) hr2 T.g_law_pool pass0 (pa_cons (pv 0) (pa_cons (pv 4) pa_nil))) (pa_cons (pv 2) pa_nil))))
        (pss_cons (ps_asg (pe_cl (ok_lHouse T) hr1 T.g_law_house pass0 (pa_cons (pv 3) pa_nil)) (pg_tup (by rfl) (pgs_cons (pg_name (i := 6) nd rfl (Or.inl rfl)) (pgs_cons (pg_name (i := 7) nd rfl (Or.inl rfl)) pgs_nil))))
        (pss_one (ps_if (PW.pt (pw_or (pt_cmpR op_ne (pe_ix ix_tup (pv 5) pe_int (fun _ _ => rfl)) pe_str (nomark _)) (pw_or (pt_cmp (pc_din hu (pe_ix ix_tup (pv 5) pe_int (fun _ _ => rfl)) (pv 6))) (pw_or1 (pt_cmp (pc_din hu (pe_ix ix_tup (pv 5) pe_int (fun _ _ => rfl)) (pv 7)))))))
          (pss_one (ps_expr (pe_bm PySem.F.plainAttrs_list PySem.F.slot_list_append PySem.F.type_list_append mt_append (pv 3) (pa_cons (pv 5) pa_nil)))) pss_nil)))))
      (pss_cons (ps_if (pt_cmpR op_eq (pe_cl (ok_take T) hr1 T.g_law_take pass0 (pa_cons (pv 1) (pa_cons pe_int pa_nil))) pe_int (nomark _))
        (pss_one (ps_expr (pe_bm PySem.F.plainAttrs_list PySem.F.slot_list_insert PySem.F.type_list_insert mt_insert (pv 3)
          (pa_cons (pe_cl (ok_take T) hr1 T.g_law_take pass0 (pa_cons (pv 1) (pa_cons (pe_op op_add (pe_callB call_len (by rfl) T.z_len (by decide +kernel) (pa_cons (pv 3) pa_nil)) pe_int) pa_nil)))
          (pa_cons (pe_tup (pa_cons pe_str (pa_cons (pe_ix ix_list (pv 2) (pe_cl (ok_take T) hr1 T.g_law_take pass0 (pa_cons (pv 1) (pa_cons pe_int pa_nil))) (fun _ _ => rfl)) pa_nil))) pa_nil))))) pss_nil)
      htt)))), ?_⟩
    refine ⟨_, rfl, sa, ns, 1, rfl, hS, by decide, by decide, fun pa H1 s1 fpa p1 => ?_⟩
    refine ⟨_, rfl, pa, 1000, rfl, p1, by decide, fun nl zs H2 sb2 p2 fnl en h6 hz => ⟨(by show 0 ≤ sizeLine; exact Nat.zero_le _), fun dl hdl => ?_⟩⟩
    have s2 : Same H H2 := Same.sbt s1 fpa sb2
    have sd : Same H2 (upd H2 dl (.lst [])) := same_new hdl
    have fdl : H dl = none := s2.free hdl
    have nnd : nl ≠ dl := ne_of_none en hdl
    have npd : pa ≠ dl := by
      obtain ⟨kvs, e⟩ := p2.some
      exact ne_of_none e hdl
    have nnp : nl ≠ pa := by
      obtain ⟨kvs, e⟩ := p2.some
      exact dif en e fun z => nomatch z
    obtain ⟨j, hj⟩ : ∃ j : Int, (if (((ns.map V.int).length : Nat) : Int) < 63 then (((ns.map V.int).length : Nat) : Int) else 63) = j := ⟨_, rfl⟩
    have hj63 : j ≤ 63 := by
      rw [← hj]
      split <;> omega
    have hj0 : 0 ≤ j := by
      rw [← hj]
      split <;> omega
    have vj := congrArg V.int hj
    refine ⟨_, rfl, _, _, rfl, .inl ⟨_, SqL.same hS (s2.trans sd), rfl⟩, 63, _, rfl, 2, j, congrArg (fun v => [V.int 2, v]) vj, ⟨by decide, by decide, by omega, by omega⟩, ?_⟩
    refine for_range (lo := 2) (n := (j - 2).toNat) (fun i σ H' => ∃ v4 v5 v6 v7 : Option V, σ = [some (.ref sa), some (.ref pa), some (.ref nl), some (.ref dl), v4, v5, v6, v7, none, none, none] ∧ Same H H' ∧ PoolAt H' pa 1001 ∧ H' nl = some (.lst (zs.map V.str)) ∧
        ∃ as ds, H' dl = some (.lst (as.map V.ref)) ∧ DeedsAt H' as ds ∧ ds.length ≤ i)
      ⟨none, none, none, none, rfl, s2.trans sd, p2.same sd, sd _ _ en, [], [], upd_same, .nil, Nat.le_refl _⟩ ?_ ?_
    · rintro i σ H3 hi ⟨v4, v5, v6, v7, rfl, s3, p3, en3, as, ds, ed3, dat3, hlen⟩
      refine ⟨_, rfl, _, rfl, sa, ns, 2 + (i : Int), rfl, SqL.same hS s3, by omega, by omega, fun a2 H4 s4 fa2 p4 => ?_⟩
      refine ⟨_, rfl, a2, nl, zs, 1000, rfl, p4, by decide, s4 _ _ en3, h6, hz, fun x d H5 sb5 dx => ?_⟩
      have s35 : Same H3 H5 := Same.sbt s4 fa2 sb5
      refine ⟨_, rfl, dl, as, ds, rfl, s35 _ _ ed3, DeedsAt.tups (Same.tups s35) dat3, by omega, fun H6 t g r s6 nt ng nr et hh => ?_⟩
      obtain ⟨hn, eg, er⟩ := hh
      refine ⟨t, _, rfl, SqT.of et, rfl, _, _, rfl, _, _, rfl, rfl, ?_⟩
      have s36 := s35.trans s6
      have e6 := s36 _ _ ed3
      have dx6 : DeedAt H6 x d := dx.tups (Same.tups s6)
      have app : ∀ D : Ends, (∀ H7, H7 = upd H6 dl (.lst (as.map V.ref ++ [.ref x])) → D.nx [some (.ref sa), some (.ref pa), some (.ref nl), some (.ref dl), some (.int (2 + (i : Int))), some (.ref x), some (.ref g), some (.ref r), none, none, none] H7) →
          tDrop (tBM K "list" rAppend (tVar 3) (tCons (tVar 5) tNil)) D [some (.ref sa), some (.ref pa), some (.ref nl), some (.ref dl), some (.int (2 + (i : Int))), some (.ref x), some (.ref g), some (.ref r), none, none, none] H6 := fun D h =>
        ⟨_, rfl, .inl ⟨rfl, _, SqL.of e6⟩, _, rfl, dl, _, _, rfl, rfl, e6, by rw [List.length_map, pair_len dat3, sizeLine_eq]; omega, h _ rfl⟩
      have more : ∀ H7, H7 = upd H6 dl (.lst (as.map V.ref ++ [.ref x])) → ∃ v4 v5 v6 v7 : Option V, [some (V.ref sa), some (V.ref pa), some (V.ref nl), some (V.ref dl), some (V.int (2 + (i : Int))), some (V.ref x), some (V.ref g), some (V.ref r), none, none, none] = [some (.ref sa), some (.ref pa), some (.ref nl), some (.ref dl), v4, v5, v6, v7, none, none, none] ∧ Same H H7 ∧ PoolAt H7 pa 1001 ∧ H7 nl = some (.lst (zs.map V.str)) ∧
          ∃ as ds, H7 dl = some (.lst (as.map V.ref)) ∧ DeedsAt H7 as ds ∧ ds.length ≤ i + 1 := by
        rintro H7 rfl
        obtain ⟨r', b', c', e', c0, c1⟩ := p3.same s36
        refine ⟨_, _, _, _, rfl, Same.put (s3.trans s36) fdl, ⟨r', b', c', fr e' npd, c0, c1⟩, fr (s36 _ _ en3) nnd, as ++ [x], ds ++ [d], ?_, DeedsAt.tups (tups_lst e6) (pair_app (DeedsAt.tups (Same.tups s36) dat3) (.cons dx6 .nil)), by rw [List.length_append]; show ds.length + 1 ≤ i + 1; omega⟩
        rw [upd_same, List.map_append]
        rfl
      have less : ∃ v4 v5 v6 v7 : Option V, [some (V.ref sa), some (V.ref pa), some (V.ref nl), some (V.ref dl), some (V.int (2 + (i : Int))), some (V.ref x), some (V.ref g), some (V.ref r), none, none, none] = [some (.ref sa), some (.ref pa), some (.ref nl), some (.ref dl), v4, v5, v6, v7, none, none, none] ∧ Same H H6 ∧ PoolAt H6 pa 1001 ∧ H6 nl = some (.lst (zs.map V.str)) ∧
          ∃ as ds, H6 dl = some (.lst (as.map V.ref)) ∧ DeedsAt H6 as ds ∧ ds.length ≤ i + 1 :=
        ⟨_, _, _, _, rfl, s3.trans s36, p3.same s36, s36 _ _ en3, as, ds, e6, DeedsAt.tups (Same.tups s36) dat3, by omega⟩
      refine ⟨_, rfl, x, _, _, _, rfl, rfl, SqT.of dx6.tup, at_of (j := 0) rfl (vs0 d), rfl, _, rfl, ?_⟩
      cases d with
      | give z i => exact iteY (show (!decide (V.str "give" = V.str "drop")) = true by decide +kernel) (iteT (app _ more))
      | cook z i => exact iteY (show (!decide (V.str "cook" = V.str "drop")) = true by decide +kernel) (iteT (app _ more))
      | drop z =>
        refine iteN (show (!decide (V.str "drop" = V.str "drop")) = false by decide +kernel) ?_
        refine ⟨_, rfl, x, _, _, _, rfl, rfl, SqT.of dx6.tup, at_of (j := 1) rfl rfl, _, rfl, g, _, rfl, DGet.k (k := Sum.inr z) eg, _, rfl, ?_⟩
        cases e1 : valV (houseL ds).1 (Sum.inr z : Key) with
        | some v => exact iteT (iteT (app _ more))
        | none =>
          refine iteF ⟨_, rfl, x, _, _, _, rfl, rfl, SqT.of dx6.tup, at_of (j := 1) rfl rfl, _, rfl, r, _, rfl, DGet.k (k := Sum.inr z) er, _, rfl, ?_⟩
          cases e2 : valV (houseL ds).2 (Sum.inr z : Key) with
          | some v => exact iteT (app _ more)
          | none => exact iteF less
    · rintro σ H3 ⟨v4, v5, v6, v7, rfl, s3, p3, en3, as, ds, ed3, dat3, hlen⟩
      have ndp : dl ≠ pa := npd.symm
      refine ⟨_, rfl, pa, 1001, 3, rfl, p3, by decide, by decide, by decide, fun r H6 r0 r1 sb6 p6 => ⟨rfl, _, rfl, ?_⟩⟩
      have ed6 := sb6 _ _ ed3 ndp
      have en6 := sb6 _ _ en3 nnp
      have dat6 := DeedsAt.tups (sb6.tups p3) dat3
      by_cases h0 : r = 0
      · refine iteY (int_yes h0) ?_
        have lenV : (as.map V.ref).length = ds.length := by rw [List.length_map, pair_len dat3]
        refine ⟨_, rfl, .inl ⟨rfl, _, SqL.of ed6⟩, _, rfl, _, rfl, _, _, rfl, .inl ⟨_, SqL.of ed6, rfl⟩, _, 1, rfl, rfl, pa, 1002, _, rfl, p6, by decide, by omega, by omega, fun i H7 i0 i1 sb7 p7 => ?_⟩
        refine ⟨_, rfl, _, rfl, pa, 1003, 6, rfl, p7, by decide, by decide, by decide, fun m H8 m0 m1 sb8 p8 => ?_⟩
        obtain ⟨z, hm, ez⟩ := name_at (zs := zs) m0 (by rw [h6]; exact m1)
        have en8 := sb8 _ _ (sb7 _ _ en6 nnp) nnp
        have ed8 := sb8 _ _ (sb7 _ _ ed6 ndp) ndp
        have dat8 := DeedsAt.tups ((sb7.tups p6).trans (sb8.tups p7)) dat6
        refine ⟨nl, _, m, _, rfl, rfl, SqL.of en8, ez, (by show 2 ≤ sizeLine; decide), fun x hx => ?_⟩
        have sx : Same H8 (upd H8 x (.tup [.str "drop", .str z])) := same_new hx
        refine ⟨dl, _, i, .ref x, rfl, rfl, sx _ _ ed8, by rw [lenV, sizeLine_eq]; omega, i0, by omega, ?_⟩
        have el : (as.map V.ref).take i.toNat ++ [V.ref x] ++ (as.map V.ref).drop i.toNat = (as.take i.toNat ++ [x] ++ as.drop i.toNat).map V.ref := by simp
        have dd := DeedsAt.tups (Same.tups sx) dat8
        have ed : DeedAt (upd H8 x (.tup [.str "drop", .str z])) x (.drop z) := ⟨upd_same, hz z hm, trivial⟩
        refine hq _ _ _ _ _ _ _ _ _ _ dl (as.take i.toNat ++ [x] ++ as.drop i.toNat) (ds.take i.toNat ++ [.drop z] ++ ds.drop i.toNat) rfl ?_ (DeedsAt.tups (tups_lst (sx _ _ ed8)) (pair_app (pair_app (pair_take dd _) (.cons ed .nil)) (pair_drop dd _))) ?_ k
        · rw [upd_same, el]
        · simp only [List.length_append, List.length_take, List.length_drop, List.length_cons, List.length_nil]
          omega
      · exact iteN (int_no h0) (hq _ _ _ _ _ _ _ _ _ _ dl as ds rfl ed6 dat6 (by omega) k)
end
end Mad

set_option Elab.async false
set_option linter.all false
set_option maxRecDepth 100000
set_option maxHeartbeats 4000000
/-! The head: what the walk asks of the top, told by a look. -/
namespace Mad
open PySem PySem.Spec PyProof.Rows L2
/-! ### the facts beside the kit's -/
def oexB (K : PySem.W.Frag) (C : Addr) : Bool := match K.lookup C with
  | some ⟨.type "type", _, .cls cd, sl⟩ => (match cd.mro, sl.toList with
    | .ref C' :: bm, [_, _, _, _, some (.builtin n), _] => C' == C && (n == "ValueError.__new__" && (!cd.hasDel && (cd.hasDict && PySem.HandSPX.refsVE bm)))
    | _, _ => false)
  | _ => false
theorem oexB_ok {K : PySem.W.Frag} {C : Addr} (q : oexB K C = true) : ∃ nm q N bs bm sn sub ab col dd k0 k1 k2 k3 k5, K.lookup C = some (excClassObj nm q C N bs bm true sn sub ab col dd k0 k1 k2 k3 k5 "ValueError.__new__") ∧ PySem.HandSPX.refsVE bm = true := by
  unfold oexB at q
  split at q
  · rename_i dd cd sl ho
    split at q
    · rename_i C' bm k0 k1 k2 k3 n k5 hm hs
      simp only [Bool.and_eq_true, beq_iff_eq, Bool.not_eq_true'] at q
      obtain ⟨rfl, rfl, hdel, hdi, hr⟩ := q
      obtain ⟨nm, bs, mro, ns, qn, hd, sn, sub, ab, col, del⟩ := cd
      dsimp only at hm hdel hdi
      subst hm hdel hdi
      have hsl : sl = #[k0, k1, k2, k3, some (.builtin "ValueError.__new__"), k5] := by
        obtain ⟨l⟩ := sl
        simp only at hs
        rw [hs]
      subst hsl
      exact ⟨nm, qn, ns, bs, bm, sn, sub, ab, col, dd, k0, k1, k2, k3, k5, ho, hr⟩
    · cases q
  · cases q
def bs2 (a b : Bool) : Bool := a && b
def exB (K : PySem.W.Frag) : Bool :=
  He.tupB K "TWOS" [.str "plus", .str "minus", .str "times", .str "most"] && (oexB K (cNN K) && (decide (PySem.W.findIn K (.ref (cNN K)) "__setattr__" = some (some (.builtin "object.__setattr__"))) && (decide (PySem.W.subIn K (.ref (cNN K)) (.type "BaseException") = some true) &&
  (decide (PySem.W.typeIn K (.ref (cNN K)) = some (.type "type")) && (PySem.W.keepIn K (.ref (cNN K)) && (decide (PySem.W.findIn K (.ref (cNN K)) "__init__" = some (some (.ref (xNoNameInit.ad K)))) && (decide (PySem.W.typeIn K (.ref (xNoNameInit.ad K)) = some (.type "function")) &&
  (decide (PySem.W.findIn K (.ref (cNN K)) "name" = some none) && (xfB K (cNN K) && (decide (PySem.W.findIn K (.ref (cNN K)) "__class__" = some (some (.builtin "object.__class__"))) &&
  (decide (PySem.W.specialIn K (.builtin "object.__class__") "__get__" = some (some (.builtin "getset_descriptor.__get__"))) && (decide (PySem.W.takesIn K (.builtin "object.__class__") = some true) && decide (PySem.W.mroIn K (cNN K) (.type "object") = some true)))))))))))))
structure Ex (K : PySem.W.Frag) : Prop where
  t_TWOS : He.tupB K "TWOS" [.str "plus", .str "minus", .str "times", .str "most"] = true
  cls : oexB K (cNN K) = true
  sa : PySem.W.findIn K (.ref (cNN K)) "__setattr__" = some (some (.builtin "object.__setattr__"))
  exC : PySem.W.subIn K (.ref (cNN K)) (.type "BaseException") = some true
  tyC : PySem.W.typeIn K (.ref (cNN K)) = some (.type "type")
  kC : PySem.W.keepIn K (.ref (cNN K)) = true
  init : PySem.W.findIn K (.ref (cNN K)) "__init__" = some (some (.ref (xNoNameInit.ad K)))
  fn : PySem.W.typeIn K (.ref (xNoNameInit.ad K)) = some (.type "function")
  nm : PySem.W.findIn K (.ref (cNN K)) "name" = some none
  xf : xfB K (cNN K) = true
  ca : PySem.W.findIn K (.ref (cNN K)) "__class__" = some (some (.builtin "object.__class__"))
  cg : PySem.W.specialIn K (.builtin "object.__class__") "__get__" = some (some (.builtin "getset_descriptor.__get__"))
  ct : PySem.W.takesIn K (.builtin "object.__class__") = some true
  cm : PySem.W.mroIn K (cNN K) (.type "object") = some true
theorem exB_ok {K : PySem.W.Frag} (h : exB K = true) : Ex K := by
  obtain ⟨h1, h⟩ := Bool.and_eq_true_iff.mp h
  obtain ⟨h2, h⟩ := Bool.and_eq_true_iff.mp h
  obtain ⟨h3, h⟩ := Bool.and_eq_true_iff.mp h
  obtain ⟨h4, h⟩ := Bool.and_eq_true_iff.mp h
  obtain ⟨h5, h⟩ := Bool.and_eq_true_iff.mp h
  obtain ⟨h6, h⟩ := Bool.and_eq_true_iff.mp h
  obtain ⟨h7, h⟩ := Bool.and_eq_true_iff.mp h
  obtain ⟨h8, h⟩ := Bool.and_eq_true_iff.mp h
  obtain ⟨h9, h⟩ := Bool.and_eq_true_iff.mp h
  obtain ⟨h10, h⟩ := Bool.and_eq_true_iff.mp h
  obtain ⟨h11, h⟩ := Bool.and_eq_true_iff.mp h
  obtain ⟨h12, h⟩ := Bool.and_eq_true_iff.mp h
  obtain ⟨h13, h14⟩ := Bool.and_eq_true_iff.mp h
  exact ⟨h1, h2, of_decide_eq_true h3, of_decide_eq_true h4, of_decide_eq_true h5, h6, of_decide_eq_true h7, of_decide_eq_true h8, of_decide_eq_true h9, h10, of_decide_eq_true h11, of_decide_eq_true h12, of_decide_eq_true h13, of_decide_eq_true h14⟩
section
variable {K : PySem.W.Frag} (xx : exB K = true)
include xx
theorem ex_t_TWOS : ∀ H : Hp, SqT K H (He.ga K "TWOS") [.str "plus", .str "minus", .str "times", .str "most"] := fun H => He.tupB_ok (exB_ok xx).t_TWOS H
theorem ex_o_NoName : OexC K (cNN K) := ⟨oexB_ok (exB_ok xx).cls, (exB_ok xx).sa, (exB_ok xx).exC, (exB_ok xx).tyC, (exB_ok xx).kC⟩
theorem ex_o_init : PySem.W.findIn K (.ref (cNN K)) "__init__" = some (some (.ref (xNoNameInit.ad K))) := (exB_ok xx).init
theorem ex_o_fn : PySem.W.typeIn K (.ref (xNoNameInit.ad K)) = some (.type "function") := (exB_ok xx).fn
theorem ex_o_name : PySem.W.findIn K (.ref (cNN K)) "name" = some none := (exB_ok xx).nm
theorem ex_o_xf : XfC K (cNN K) := xfB_ok (exB_ok xx).xf
theorem ex_o_is : ExcC K (cNN K) := by
  have x := xfB_ok (exB_ok xx).xf
  exact ⟨x.ga, x.gg, x.exC, x.hdC, (exB_ok xx).ca, (exB_ok xx).cg, (exB_ok xx).ct, (exB_ok xx).cm⟩
end
def fa1 : List He.Fa := [
  .free "isinstance",
  .free "int",
  .free "bool",
  .free "str",
  .free "tuple",
  .free "list",
  .free "len",
  .free "range",
  .free "min",
  .str "LETTERS" letters,
  .int "LONGEST" 8,
  .int "DEEPEST" 8,
  .int "MOST" 100,
  .int "MOST_NAMES" 9,
  .glo "is_whole_recipes",
  .glo "is_name",
  .glo "are_names",
  .glo "within",
  .glo "is_recipe",
  .glo "house_by",
  .glo "need_names",
  .glo "do_deed",
  .glo "replayed",
  .glo "_law_nth",
  .glo "_law_pool",
  .glo "_law_take"]
def fa2 : List He.Fa := [
  .glo "_law_recipe",
  .glo "_law_house",
  .glo "_law_names",
  .glo "_law_deed",
  .glo "_law_lacks",
  .glo "_law_made_of",
  .glo "_law_alike",
  .glo "_law_ends",
  .glo "_law_back_and_on",
  .glo "NoName",
  .glo "NoDeed",
  .glo "MadeError",
  .glo "StoreBuild",
  .glo "Store",
  .glo "History",
  .glo "TWOS",
  .cls "StoreBuild",
  .cls "Store",
  .cls "History",
  .noat "History" "done",
  .noat "History" "taken_back",
  .noat "History" "store",
  .noat "History" "last_made",
  .noat "History" "last_kept",
  .noat "Store" "held",
  .noat "StoreBuild" "store"]
def fa3 : List He.Fa := [
  .noat "StoreBuild" "given",
  .noat "StoreBuild" "recipes",
  .noat "StoreBuild" "worths",
  .noat "StoreBuild" "worked_names",
  .noat "StoreBuild" "left_names",
  .noat "StoreBuild" "asked_for",
  .meth "History" "add",
  .meth "History" "give",
  .meth "History" "cook",
  .meth "History" "drop",
  .meth "History" "undo",
  .meth "History" "redo",
  .meth "History" "house",
  .meth "History" "deeds",
  .meth "History" "wish",
  .meth "History" "made",
  .meth "History" "kept",
  .meth "History" "store_records",
  .meth "Store" "records",
  .meth "Store" "build",
  .meth "StoreBuild" "settle",
  .mkr "StoreBuild",
  .mkr "Store",
  .mkr "History",
  .exc "NoDeed",
  .exm "NoDeed" "NoDeed" true,
  .exm "NoName" "MadeError" true,
  .glo "law"]
def fa : List He.Fa := fa1 ++ (fa2 ++ fa3)
def txs : List Tx := [xNoNameInit, xIsWhole, xIsName, xAreNames, xWithin, xIsRecipe, xSBInit, xSettle, xStoreInit, xRecords, xBuild, xHouseBy, xNeedNames, xHInit, xAdd, xGive, xCook, xDrop, xUndo, xRedo, xHouse, xDeeds, xWish, xMade, xKept, xStoreRecords, xDoDeed, xReplayed, xNth, xPool, xTake, xRecipe, xLHouse, xNames, xDeed, xLacks, xMadeOf, xAlike, xEnds, xBackOn, xLaw]
def fn : List He.DefD := txs.map Tx.dd
theorem t_mk {K : PySem.W.Frag} {h : Heap} {mg : Str → Option Value} (X : K.In h) (G : h.Ns mainGlobals mg) (c : He.SaysD fa fn K) (xx : exB K = true) : T K mg where
  z_isinstance := He.free_ok X G (c.fact 0 rfl)
  z_int := He.free_ok X G (c.fact 1 rfl)
  z_bool := He.free_ok X G (c.fact 2 rfl)
  z_str := He.free_ok X G (c.fact 3 rfl)
  z_tuple := He.free_ok X G (c.fact 4 rfl)
  z_list := He.free_ok X G (c.fact 5 rfl)
  z_len := He.free_ok X G (c.fact 6 rfl)
  z_range := He.free_ok X G (c.fact 7 rfl)
  z_min := He.free_ok X G (c.fact 8 rfl)
  s_LETTERS := He.str_ok X G (c.fact 9 rfl)
  i_LONGEST := He.int_ok X G (c.fact 10 rfl)
  i_DEEPEST := He.int_ok X G (c.fact 11 rfl)
  i_MOST := He.int_ok X G (c.fact 12 rfl)
  i_MOST_NAMES := He.int_ok X G (c.fact 13 rfl)
  g_is_whole_recipes := He.glo_ok X G (c.fact 14 rfl)
  g_is_name := He.glo_ok X G (c.fact 15 rfl)
  g_are_names := He.glo_ok X G (c.fact 16 rfl)
  g_within := He.glo_ok X G (c.fact 17 rfl)
  g_is_recipe := He.glo_ok X G (c.fact 18 rfl)
  g_house_by := He.glo_ok X G (c.fact 19 rfl)
  g_need_names := He.glo_ok X G (c.fact 20 rfl)
  g_do_deed := He.glo_ok X G (c.fact 21 rfl)
  g_replayed := He.glo_ok X G (c.fact 22 rfl)
  g_law_nth := He.glo_ok X G (c.fact 23 rfl)
  g_law_pool := He.glo_ok X G (c.fact 24 rfl)
  g_law_take := He.glo_ok X G (c.fact 25 rfl)
  g_law_recipe := He.glo_ok X G (c.fact 26 rfl)
  g_law_house := He.glo_ok X G (c.fact 27 rfl)
  g_law_names := He.glo_ok X G (c.fact 28 rfl)
  g_law_deed := He.glo_ok X G (c.fact 29 rfl)
  g_law_lacks := He.glo_ok X G (c.fact 30 rfl)
  g_law_made_of := He.glo_ok X G (c.fact 31 rfl)
  g_law_alike := He.glo_ok X G (c.fact 32 rfl)
  g_law_ends := He.glo_ok X G (c.fact 33 rfl)
  g_law_back_and_on := He.glo_ok X G (c.fact 34 rfl)
  g_NoName := He.glo_ok X G (c.fact 35 rfl)
  g_NoDeed := He.glo_ok X G (c.fact 36 rfl)
  g_MadeError := He.glo_ok X G (c.fact 37 rfl)
  g_StoreBuild := He.glo_ok X G (c.fact 38 rfl)
  g_Store := He.glo_ok X G (c.fact 39 rfl)
  g_History := He.glo_ok X G (c.fact 40 rfl)
  g_TWOS := He.glo_ok X G (c.fact 41 rfl)
  c_StoreBuild := He.cls_ok (c.fact 42 rfl)
  c_Store := He.cls_ok (c.fact 43 rfl)
  c_History := He.cls_ok (c.fact 44 rfl)
  n_History_done := He.noat_ok (c.fact 45 rfl)
  n_History_taken_back := He.noat_ok (c.fact 46 rfl)
  n_History_store := He.noat_ok (c.fact 47 rfl)
  n_History_last_made := He.noat_ok (c.fact 48 rfl)
  n_History_last_kept := He.noat_ok (c.fact 49 rfl)
  n_Store_held := He.noat_ok (c.fact 50 rfl)
  n_StoreBuild_store := He.noat_ok (c.fact 51 rfl)
  n_StoreBuild_given := He.noat_ok (c.fact 52 rfl)
  n_StoreBuild_recipes := He.noat_ok (c.fact 53 rfl)
  n_StoreBuild_worths := He.noat_ok (c.fact 54 rfl)
  n_StoreBuild_worked_names := He.noat_ok (c.fact 55 rfl)
  n_StoreBuild_left_names := He.noat_ok (c.fact 56 rfl)
  n_StoreBuild_asked_for := He.noat_ok (c.fact 57 rfl)
  m_History_add := He.meth_ok (c.fact 58 rfl)
  m_History_give := He.meth_ok (c.fact 59 rfl)
  m_History_cook := He.meth_ok (c.fact 60 rfl)
  m_History_drop := He.meth_ok (c.fact 61 rfl)
  m_History_undo := He.meth_ok (c.fact 62 rfl)
  m_History_redo := He.meth_ok (c.fact 63 rfl)
  m_History_house := He.meth_ok (c.fact 64 rfl)
  m_History_deeds := He.meth_ok (c.fact 65 rfl)
  m_History_wish := He.meth_ok (c.fact 66 rfl)
  m_History_made := He.meth_ok (c.fact 67 rfl)
  m_History_kept := He.meth_ok (c.fact 68 rfl)
  m_History_store_records := He.meth_ok (c.fact 69 rfl)
  m_Store_records := He.meth_ok (c.fact 70 rfl)
  m_Store_build := He.meth_ok (c.fact 71 rfl)
  m_StoreBuild_settle := He.meth_ok (c.fact 72 rfl)
  k_StoreBuild := He.mkr_ok (c.fact 73 rfl)
  k_Store := He.mkr_ok (c.fact 74 rfl)
  k_History := He.mkr_ok (c.fact 75 rfl)
  x_NoDeed := He.exc_ok (c.fact 76 rfl)
  e_NoDeed := He.exm_ok (c.fact 77 rfl)
  e_NoName := He.exm_ok (c.fact 78 rfl)
  t_TWOS := ex_t_TWOS xx
  o_NoName := ex_o_NoName xx
  o_init := ex_o_init xx
  o_fn := ex_o_fn xx
  o_name := ex_o_name xx
  o_xf := ex_o_xf xx
  o_is := ex_o_is xx
  d_NoNameInit := c.def_ 0 rfl
  d_IsWhole := c.def_ 1 rfl
  d_IsName := c.def_ 2 rfl
  d_AreNames := c.def_ 3 rfl
  d_Within := c.def_ 4 rfl
  d_IsRecipe := c.def_ 5 rfl
  d_SBInit := c.def_ 6 rfl
  d_Settle := c.def_ 7 rfl
  d_StoreInit := c.def_ 8 rfl
  d_Records := c.def_ 9 rfl
  d_Build := c.def_ 10 rfl
  d_HouseBy := c.def_ 11 rfl
  d_NeedNames := c.def_ 12 rfl
  d_HInit := c.def_ 13 rfl
  d_Add := c.def_ 14 rfl
  d_Give := c.def_ 15 rfl
  d_Cook := c.def_ 16 rfl
  d_Drop := c.def_ 17 rfl
  d_Undo := c.def_ 18 rfl
  d_Redo := c.def_ 19 rfl
  d_House := c.def_ 20 rfl
  d_Deeds := c.def_ 21 rfl
  d_Wish := c.def_ 22 rfl
  d_Made := c.def_ 23 rfl
  d_Kept := c.def_ 24 rfl
  d_StoreRecords := c.def_ 25 rfl
  d_DoDeed := c.def_ 26 rfl
  d_Replayed := c.def_ 27 rfl
  d_Nth := c.def_ 28 rfl
  d_Pool := c.def_ 29 rfl
  d_Take := c.def_ 30 rfl
  d_Recipe := c.def_ 31 rfl
  d_LHouse := c.def_ 32 rfl
  d_Names := c.def_ 33 rfl
  d_Deed := c.def_ 34 rfl
  d_Lacks := c.def_ 35 rfl
  d_MadeOf := c.def_ 36 rfl
  d_Alike := c.def_ 37 rfl
  d_Ends := c.def_ 38 rfl
  d_BackOn := c.def_ 39 rfl
  d_Law := c.def_ 40 rfl
theorem g_law {K : PySem.W.Frag} {h : Heap} {mg : Str → Option Value} (X : K.In h) (G : h.Ns mainGlobals mg) (c : He.SaysD fa fn K) : mg "law" = some (.ref (xLaw.ad K)) := He.glo_ok X G (c.fact 79 rfl)
/-! ### the look -/
abbrev AlX : Type := He.AlD × Bool
def obsX (K : PySem.W.Frag) : AlX := (He.obsD fa fn K, exB K)
def obsXG (n : Nat) (g : Addr → Option Obj) : AlX := obsX (He.frG g (He.asD g n))
def hookX (n : Nat) : PySem.W.Hook where
  α := AlX
  obs := fun s => obsXG n s.heap.get?
  val := fun _ => (He.valD fn, true)
  says := fun _ h => ∃ K : PySem.W.Frag, K.In h ∧ He.SaysD fa fn K ∧ exB K = true
  of := fun _ _ e => ⟨_, He.frG_in, congrArg (fun z : AlX => z.1) e, congrArg (fun z : AlX => z.2) e⟩
  keeps := fun _ _ _ ⟨K, hK, c⟩ k => ⟨K, PySem.W.Frag.In.keeps hK k, c⟩
theorem obsXG_eq {n : Nat} {g : Addr → Option Obj} {s : Shared} (h : ∀ a, g a = s.heap.get? a) : obsXG n g = (hookX n).obs s := by
  have e : g = s.heap.get? := funext h
  rw [e] <;> rfl
end Mad

set_option Elab.async false
set_option linter.all false
set_option maxRecDepth 100000
set_option maxHeartbeats 0
/-! The top's run. -/
namespace Mad
open PySem PySem.Spec PyProof.Rows L2
abbrev RR : PySem.W.OpenRow := PySem.W.OpenLaw.row PySem.Challenge.rw_madeagain_k76_replayed
abbrev hk : PySem.W.Hook := hookX 4
def ob (s : PySem.W.SharedT) : AlX := obsXG 4 (HandSHeadRun.getT s)
theorem ob_eq (s : PySem.W.SharedT) : ob s = hk.obs s.abs := obsXG_eq (HandSHeadRun.getT_eq s)
def lo1 : List PySem.Str := ["MadeError", "NoName", "Ring", "NoRead", "NoRecord", "NoDeed", "NoText", "LETTERS", "LONGEST", "DEEPEST", "MOST", "MOST_NAMES", "TWOS", "is_whole", "is_whole_recipes", "is_name", "are_names", "within", "is_recipe", "Going"]
def lo2 : List PySem.Str := ["behind", "is_whole_behind", "is_read", "is_true_record", "StoreBuild", "Store", "kept_by", "built", "needed", "house_by", "need_names", "History", "do_deed", "replayed"]
def lo3 : List PySem.Str := ["_law_nth", "_law_pool", "_law_take", "_law_recipe", "_law_house", "_law_names", "_law_deed", "_law_lacks", "_law_made_of", "_law_alike", "_law_ends", "_law_back_and_on"]
def lo : List PySem.Str := lo1 ++ (lo2 ++ lo3)
open HandSHeadRun PySem.W in
theorem run1 (w : PySem.World) (os : OsState) : (endF (stepQ (denQ tabQ) RR.prog w) 12000 RR.prog w os).map (fun s => (looksF RR.prog (boot_heap w.params) s.abs, seenQ (PySem.W.view RR.prog [54]) lo (importedModules RR.prog.main.body) (fun s => xlAt (PySem.W.view RR.prog [54]) [] s && recOk RR.toRowW.records s) s.abs)) =
    some (true, openGood (PySem.W.view RR.prog [54]) lo) := by kernel_rfl
open HandSHeadRun PySem.W in
theorem run2 (w : PySem.World) (os : OsState) : (endF (stepQ (denQ tabQ) RR.prog w) 12000 RR.prog w os).map ob = some (hk.val w) := by kernel_rfl
theorem both {α β γ δ : Type} {o : Option α} {f : α → β} {g : α → γ} {k : α → δ} {b : β} {c : γ} {d : δ} (h1 : o.map (fun s => (f s, g s)) = some (b, c)) (h2 : o.map k = some d) : o.map (fun s => (f s, g s, k s)) = some (b, c, d) := by
  cases o with
  | none => cases h2
  | some s =>
    cases h1
    cases h2
    rfl
theorem run (w : PySem.World) : HandSHeadRun.RunEq RR (PySem.W.view RR.prog [54]) hk ob 12000 lo w := fun os => both (run1 w os) (run2 w os)
end Mad

set_option Elab.async false
set_option linter.all false
set_option maxRecDepth 100000
set_option maxHeartbeats 0
open PySem PySem.W PySem.Calls PyProof.Rows
theorem PySem.Challenge.cw_madeagain_k76_replayed_holds : PySem.Challenge.rw_madeagain_k76_replayed.Holds := by
  w_on; o_law
  refine HandSHeadRun.head_any (r := OpenLaw.row PySem.Challenge.rw_madeagain_k76_replayed) (q := view (OpenLaw.row PySem.Challenge.rw_madeagain_k76_replayed).prog [54]) (H := Mad.hk) (ob := Mad.ob) (M := 12000) (loose := Mad.lo) (d := HandSHeadRun.topDef (OpenLaw.row PySem.Challenge.rw_madeagain_k76_replayed).prog 54) (kwd := []) Mad.ob_eq
    (by kernel_rfl) (fun s => by kernel_rfl) Mad.run (by kernel_rfl) (by kernel_rfl) (by kernel_rfl) (by rfl) (by first | assumption | decide +kernel) (by decide +kernel) ⟨rfl, rfl, rfl, rfl, rfl, by decide +kernel⟩ ?hw ?hc
  case hw => w_witness2
  case hc =>
    refine L2.walk_ofE (l := PySem.Challenge.rw_madeagain_k76_replayed) (n := 63) (k := 9) (x := "script") (CX := L2.CX0) rfl (by decide) (by kernel_rfl) ⟨rfl, by decide, by decide⟩ ?F (fun _ _ _ _ z => z)
    intro w mg fa h Y G hmg0
    obtain ⟨K, KX, c, xx⟩ := Y
    have hmg : mg ("law" : PySem.Str) = some (.ref fa) := by
      have e : (HandSHeadRun.topDef (OpenLaw.row PySem.Challenge.rw_madeagain_k76_replayed).prog 54).name = ("law" : PySem.Str) := by kernel_rfl
      rw [← e]
      exact hmg0
    have TT := Mad.t_mk KX G c xx
    have e := hmg.symm.trans (Mad.g_law KX G c)
    cases e
    obtain ⟨fd, F⟩ := TT.d_Law
    have b := L2.FunD.bindsA (ps := ["script"]) F fun _ _ _ _ _ _ us hl => match us, hl with | [_], _ => rfl
    exact ⟨K, fd, Mad.spLaw K, KX, fun s v => b s [v] rfl, fun H a ns hl _ hS => ⟨a, ns, rfl, hS, hl, fun _ => rfl⟩, fun base _ _ => Mad.fn_law TT F⟩
#print axioms PySem.Challenge.cw_madeagain_k76_replayed_holds
