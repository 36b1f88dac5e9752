import PyProof.Rows.All
import Wide.All
import OpenK.AllK
import Wide.FinOn
import HandS.ForMost
import HandS.More
import HandS.Codes
import HandS.Wide
import HandS.Defaults
import HandS.IsInst
import HandS.Style
import HandS.Zip
import HandS.TupAny
import PySem.Challenge.RW_hourlanes_k33_whole_scenes_keep
set_option Elab.async false
set_option maxRecDepth 100000
set_option maxHeartbeats 4000000
/-! own rules: a chain of four comparisons that hold, != by an own == -/
namespace Hl
open PySem PySem.Spec PyProof.Rows L2
section
variable {X : Cx}
/-- a op b op c op d op e, each link true -/
def tChain4 (r1 r2 r3 r4 : R2) (ta tb tc td te : TE) : TE := fun σ H Q => ta σ H fun x H1 => tb σ H1 fun y H2 => r1 x y H2 fun z H3 => z = .bl true ∧
  tc σ H3 fun u H4 => r2 y u H4 fun z H5 => z = .bl true ∧ td σ H5 fun v H6 => r3 u v H6 fun z H7 => z = .bl true ∧ te σ H7 fun w' H8 => r4 v w' H8 Q
theorem pe_chain4 {o1 o2 o3 o4 : CmpOp} {r1 r2 r3 r4 : R2} {a b c d e : Expr} {ta tb tc td te : TE} {pos : Pos} (h1 : OpR X (compareOp o1) r1) (h2 : OpR X (compareOp o2) r2) (h3 : OpR X (compareOp o3) r3) (h4 : OpR X (compareOp o4) r4)
    (ha : PE X a ta) (hb : PE X b tb) (hc : PE X c tc) (hd : PE X d td) (he : PE X e te)
    (hm : lastMarks [o1, o2, o3, o4] [b, c, d, e] = false := by with_unfolding_all rfl) : PE X (.Compare a [o1, o2, o3, o4] [b, c, d, e] pos) (tChain4 r1 r2 r3 r4 ta tb tc td te) := by
  refine ⟨fun pins s σ H Q I h => ?_⟩
  refine Compare_chain (thn (ha.run pins s σ H _ I h) fun v s1 ⟨x, H1, I1, q1, g1⟩ => chain_link (thn (hb.run pins s1 σ H1 _ I1 g1) fun u s2 ⟨y, H2, I2, q2, g2⟩ =>
    thn (h1 pins s2 σ H2 x y v u _ I2 q1 q2 g2) fun z s3 ⟨zz, H3, I3, q3, e3, g3⟩ => ?_)) hm
  subst e3
  cases q3
  refine wpAny_truthy_bool (ite_tt (chain_link (thn (hc.run pins s3 σ H3 _ I3 g3) fun u2 s4 ⟨y2, H4, I4, q4, g4⟩ =>
    thn (h2 pins s4 σ H4 y y2 u u2 _ I4 q2 q4 g4) fun z s5 ⟨zz, H5, I5, q5, e5, g5⟩ => ?_)))
  subst e5
  cases q5
  refine wpAny_truthy_bool (ite_tt (chain_link (thn (hd.run pins s5 σ H5 _ I5 g5) fun u3 s6 ⟨y3, H6, I6, q6, g6⟩ =>
    thn (h3 pins s6 σ H6 y2 y3 u2 u3 _ I6 q4 q6 g6) fun z s7 ⟨zz, H7, I7, q7, e7, g7⟩ => ?_)))
  subst e7
  cases q7
  exact wpAny_truthy_bool (ite_tt (chain_last (thn (he.run pins s7 σ H7 _ I7 g7) fun u4 s8 ⟨y4, H8, I8, q8, g8⟩ => h4 pins s8 σ H8 y3 y4 u3 u4 Q I8 q6 q8 g8)))
theorem pt_chain4 {o1 o2 o3 o4 : CmpOp} {r1 r2 r3 r4 : R2} {a b c d e : Expr} {ta tb tc td te : TE} {pos : Pos} (h1 : OpR X (compareOp o1) r1) (h2 : OpR X (compareOp o2) r2) (h3 : OpR X (compareOp o3) r3) (h4 : OpR X (compareOp o4) r4)
    (ha : PE X a ta) (hb : PE X b tb) (hc : PE X c tc) (hd : PE X d td) (he : PE X e te)
    (hm : lastMarks [o1, o2, o3, o4] [b, c, d, e] = false := by with_unfolding_all rfl) : PT X (.Compare a [o1, o2, o3, o4] [b, c, d, e] pos) (tTest (tChain4 r1 r2 r3 r4 ta tb tc td te)) := by
  refine ⟨fun pins s σ H Q I h => ?_⟩
  refine isTrue_chain (thn (ha.run pins s σ H _ I h) fun v s1 ⟨x, H1, I1, q1, g1⟩ => test_link (thn (hb.run pins s1 σ H1 _ I1 g1) fun u s2 ⟨y, H2, I2, q2, g2⟩ =>
    thn (h1 pins s2 σ H2 x y v u _ I2 q1 q2 g2) fun z s3 ⟨zz, H3, I3, q3, e3, g3⟩ => ?_)) hm
  subst e3
  cases q3
  refine wpAny_truthy_bool (ite_tt (test_link (thn (hc.run pins s3 σ H3 _ I3 g3) fun u2 s4 ⟨y2, H4, I4, q4, g4⟩ =>
    thn (h2 pins s4 σ H4 y y2 u u2 _ I4 q2 q4 g4) fun z s5 ⟨zz, H5, I5, q5, e5, g5⟩ => ?_)))
  subst e5
  cases q5
  refine wpAny_truthy_bool (ite_tt (test_link (thn (hd.run pins s5 σ H5 _ I5 g5) fun u3 s6 ⟨y3, H6, I6, q6, g6⟩ =>
    thn (h3 pins s6 σ H6 y2 y3 u2 u3 _ I6 q4 q6 g6) fun z s7 ⟨zz, H7, I7, q7, e7, g7⟩ => ?_)))
  subst e7
  cases q7
  refine wpAny_truthy_bool (ite_tt (test_last (thn (he.run pins s7 σ H7 _ I7 g7) fun u4 s8 ⟨y4, H8, I8, q8, g8⟩ => thn (h4 pins s8 σ H8 y3 y4 u3 u4 _ I8 q6 q8 g8) fun d' s9 ⟨z2, H9, I9, q9, k2, e9, g9⟩ => ?_)))
  subst e9
  cases q9
  exact wpAny_truthy_bool ⟨H9, I9, g9⟩
end

/-! ### != where the class has its own == and object's != -/
section
open PySem.W
variable {prog : Program} {w : World} {A : Around} {E : Value → Shared → Prop} {s : Shared} {K : PySem.W.Frag} {x y C f : Addr} {ox : Obj} {od : Option Obj} {name : Str}
theorem ifBoundB_K {M : Model} {id : String} {args : List Value} {Q : Option Value → Shared → Prop} (Xs : K.In s.heap) (I : InstAt s.heap x ox C od) (hs : findIn K (.ref C) name = some (some (.builtin id)))
    (hb : bindSpecial (.builtin id) (.ref x) = pure (.builtin id, [.ref x]))
    (h : wpAny M A (call (.builtin id) (.ref x :: args)) (fun v => Q (some v)) E s) : wpAny M A (callSpecialIfBound? (.ref x) name args) Q E s := by
  simp only [callSpecialIfBound?, bindSpecialIfBound?]
  refine wpAny_holding (wpAny_bind (wpAny_bind (wpAny_bind (I.type.here ((looks_findIn Xs hs).here ?_)))))
  refine wpAny_bind (wpAny_askSetting (wpAny_ite ?_))
  have fin : wpAny M A (call (.builtin id) ([.ref x] ++ args) >>= fun v => pure (some v)) Q E s := wpAny_bind (wpAny_mono h (fun v s' h' => wpAny_pure h') fun _ _ h' => h')
  rw [hb]
  split
  · exact wpAny_bind (wpAny_pure (wpAny_pure (by exact fin)))
  · exact wpAny_tryCatch (wpAny_bind (wpAny_pure (wpAny_pure (by exact fin))))
theorem ne_K {Q : Value → Shared → Prop} (hu : A.units + 1 < cLine) (Xs : K.In s.heap) (I : InstAt s.heap x ox C od) (hy : Looks (model prog w) s.heap (typeOf (.ref y)) (.ref C))
    (hne : findIn K (.ref C) "__ne__" = some (some (.builtin "object.__ne__"))) (hm : mroIn K C (.type "object") = some true)
    (hs : findIn K (.ref C) "__eq__" = some (some (.ref f))) (hf : isFn K (.ref f) = true)
    (h : wpAny (model prog w) A.in1 (call (.ref f) [.ref x, .ref y]) (fun v s' => ∃ b, v = .bool b ∧ Q (.bool (!b)) s') E s) : wpAny (model prog w) A (richCompare .NotEq (.ref x) (.ref y)) Q E s := by
  have sub : Looks (model prog w) s.heap (isInstance (.ref x) (.type "object")) true := I.type.andThen (looks_mroIn Xs hm)
  have body : wpAny (model prog w) A.in1 (Builtin.«object.__ne__» ⟨[.ref x, .ref y], []⟩) (fun fin s' => match fin with
      | .done g => (wants (fun v s' => Q v s' ∧ ∃ b, v = .bool b) E) (.ok g) s'
      | .again c' => c'.quiet = true ∧ codeAny (model prog w) A c' (wants (fun v s' => Q v s' ∧ ∃ b, v = .bool b) E) s') (fun e s' => (wants (fun v s' => Q v s' ∧ ∃ b, v = .bool b) E) (.error e) s') s := by
    unfold Builtin.«object.__ne__»
    repeat (first
      | with_reducible refine wpAny_cRoomFor (A := A.in1) hu ?_
      | (refine wpAny_bind (m := callSpecialIfBound? (.ref x) (Str.ofString "__eq__") [.ref y])
          (ifBound_K Xs I hs hf (wpAny_mono h (fun r s' hr => by
            obtain ⟨b, rfl, hq⟩ := hr
            repeat (first | exact ⟨hq, _, rfl⟩ | exact wpAny_pure ⟨hq, _, rfl⟩ | exact wpAny_truthy_bool ⟨hq, _, rfl⟩ | (refine wpAny_bind (m := truthy (.bool _)) (wpAny_truthy_bool ?_)) | wp_step)) fun _ _ e => e)))
      | wp_step)
  have cl : wpAny (model prog w) A (call (.builtin "object.__ne__") [.ref x, .ref y]) (fun v s' => Q v s' ∧ ∃ b, v = .bool b) E s :=
    wpAny_call (codeAny_call_builtin F.slot_object_ne.plain F.entry_object_ne (check_slot F.cmpKind_ne F.cmpSplit_ne sub (F.cmpArgs_ne _ _) body))
  have one : wpAny (model prog w) A (tryCompare (.ref x) (cmpInfo .NotEq).2.1 (.ref y)) (fun r s' => ∃ v, r = some v ∧ Q v s') E s := by
    unfold tryCompare
    refine wpAny_bind (ifBoundB_K Xs I hne (F.slot_object_ne.bind _) (wpAny_mono cl (fun v s' ⟨q, b, e⟩ => ?_) fun _ _ e => e))
    subst e
    exact wpAny_pure ⟨_, rfl, q⟩
  unfold richCompare
  simp only [oneThing_ref]
  refine wpAny_holding (wpAny_bind (wpAny_cRoomFor (Nat.lt_of_succ_lt hu) ?_))
  refine wpAny_bind (I.type.here (wpAny_bind (hy.here ?_)))
  rw [show (Value.ref C != Value.ref C) = false from by simp]
  simp only [Bool.false_eq_true, if_false]
  refine wpAny_bind (wpAny_pure ?_)
  simp only [Bool.false_eq_true, if_false]
  refine wpAny_bind (wpAny_mono one (fun r s' z => ?_) fun _ _ e => e)
  obtain ⟨v, rfl, hq⟩ := z
  exact wpAny_pure hq
end
section
variable {X : Cx}
/-- a != b, both of the class at C, whose own == keeps sp -/
def rNeO (C : Addr) (sp : Sp) (E : XK) : R2 := fun x y H Q => ∃ a b dx dy fs gs, x = .ref a ∧ y = .ref b ∧ H a = some (.ins C dx fs) ∧ H b = some (.ins C dy gs) ∧ sp [.ref a, .ref b] H (fun v H' => ∃ k, v = .bl k ∧ Q (.bl (!k)) H') E
theorem op_neO {CX : CXT} {C f : Addr} {fd : FuncData} {ps : List Str} {n : Nat} {sp : Sp} {E : XK} (F : FnOk X.prog X.w X.K X.mg X.base CX n f fd ps sp) (hr : Room (n + 1) X.A)
    (hne : PySem.W.findIn X.K (.ref C) "__ne__" = some (some (.builtin "object.__ne__"))) (hm : PySem.W.mroIn X.K C (.type "object") = some true)
    (hs : PySem.W.findIn X.K (.ref C) "__eq__" = some (some (.ref f))) (hf : PySem.W.isFn X.K (.ref f) = true) (hb : Binds X.K fd ps []) (hx : Passes CX X E) : OpR X (compareOp .NotEq) (rNeO C sp E) := by
  intro pins s σ H x y v u Q I rx ry hq
  obtain ⟨a, b, dx, dy, fs, gs, rfl, rfl, ha, hb', hsp⟩ := hq
  cases rx
  cases ry
  obtain ⟨mA, J, _⟩ := ins_get I.hok ha
  obtain ⟨mB, J', _⟩ := ins_get I.hok hb'
  obtain ⟨od, J, _⟩ := J.look
  obtain ⟨od', J', _⟩ := J'.look
  show wpAny (model X.prog X.w) X.A (richCompare .NotEq (.ref a) (.ref b)) (EP X pins σ Q) X.xe s
  refine ne_K (hu_of hr) I.kIn J J'.type hne hm hs hf ?_
  have e0 : Env0 X.prog X.w X.K X.mg X.base X.A.in1 X.stack s H := I.env0.in1
  have hl := F.len _ _ _ _ hsp
  have r2 : Vals [V.ref a, V.ref b] [Value.ref a, Value.ref b] := .cons rfl (.cons rfl .nil)
  refine wpAny_call (codeAny_mono (F.run X.A.in1 X.stack s H ⟨[.ref a, .ref b], []⟩ [.ref a, .ref b] [.ref a, .ref b] _ E hr.in1 e0 (by
    have := hb s [.ref a, .ref b] I.kIn (by simpa using hl)
    simpa using this) r2 hsp) fun r s' hq => ?_)
  cases r with
  | error e => exact hx pins σ H s e s' I hq
  | ok fl =>
    cases fl with
    | ret w =>
      obtain ⟨z, H', I', rz, k, ez, ex⟩ := I.after hq
      subst ez
      cases rz
      exact ⟨k, rfl, .bl (!k), H', I', rfl, ex⟩
    | next => exact False.elim hq
    | brk => exact False.elim hq
    | cont => exact False.elim hq
end
end Hl
set_option Elab.async false
set_option maxRecDepth 100000
set_option maxHeartbeats 4000000
/-! the text by places; data over the abstract heap; jars and flows -/
namespace Hl
open PySem L2
def top (i : Nat) : Stmt := PySem.Challenge.pw_hourlanes_k33_whole_scenes_keep.main.body.getD i (.Pass ⟨0, 0, 0, 0⟩)
abbrev sFI : Stmt := inClass (top 7) 0
abbrev sFMay : Stmt := inClass (top 7) 1
abbrev sFCome : Stmt := inClass (top 7) 2
abbrev sFAhead : Stmt := inClass (top 7) 3
abbrev sFMost : Stmt := inClass (top 7) 4
abbrev sWindow : Stmt := top 9
abbrev sSI : Stmt := inClass (top 10) 0
abbrev sSKnown : Stmt := inClass (top 10) 1
abbrev sSAsk : Stmt := inClass (top 10) 2
abbrev sSNeedK : Stmt := inClass (top 10) 3
abbrev sSNeedA : Stmt := inClass (top 10) 4
abbrev sSNeed : Stmt := inClass (top 10) 5
abbrev sSHolds : Stmt := inClass (top 10) 6
abbrev sSWAsk : Stmt := inClass (top 10) 7
abbrev sSWWidth : Stmt := inClass (top 10) 8
abbrev sSWOpens : Stmt := inClass (top 10) 9
abbrev sJI : Stmt := inClass (top 13) 0
abbrev sJEq : Stmt := inClass (top 13) 1
abbrev sJTold : Stmt := inClass (top 13) 4
abbrev sBegun : Stmt := top 15
abbrev sTake : Stmt := top 16
abbrev sPick : Stmt := top 17
abbrev sSome : Stmt := top 18
abbrev sAsk : Stmt := top 19
abbrev sKnown : Stmt := top 20
abbrev sPlain : Stmt := top 21
abbrev sFlow : Stmt := top 22
abbrev sMost : Stmt := top 23
abbrev sNeed : Stmt := top 24
abbrev sTicks : Stmt := top 25
abbrev sIs : Stmt := top 26
abbrev sRowsAre : Stmt := top 27
abbrev sAsksAre : Stmt := top 28
abbrev sStays : Stmt := top 29
abbrev sAsGiven : Stmt := top 30
abbrev sChange : Stmt := top 31
abbrev sBuilt : Stmt := top 32
abbrev sRight : Stmt := top 33
abbrev sLaw : Stmt := top 34

/-! ### heaps -/
/-- all that was tracked, but what M names, is as it was -/
def Keep (M : List Addr) (H H' : Hp) : Prop := ∀ b o, H b = some o → b ∉ M → H' b = some o
theorem Keep.refl {M : List Addr} {H : Hp} : Keep M H H := fun _ _ h _ => h
theorem Keep.trans {M : List Addr} {H H1 H2 : Hp} (a : Keep M H H1) (b : Keep M H1 H2) : Keep M H H2 := fun c o e n => b c o (a c o e n) n
theorem Keep.of {M : List Addr} {H H' : Hp} (a : Same H H') : Keep M H H' := fun c o e _ => a c o e
theorem Keep.mono {M N : List Addr} {H H' : Hp} (a : Keep M H H') (h : ∀ x ∈ M, x ∈ N) : Keep N H H' := fun c o e n => a c o e fun z => n (h c z)
theorem Same.upd {H H' : Hp} {p : Addr} {o : HO} (s : Same H H') (h : H p = none) : Same H (upd H' p o) := fun b u e => by
  rw [upd_ne (ne_of_none e h)]
  exact s b u e
theorem Same.upd0 {H : Hp} {p : Addr} {o : HO} (h : H p = none) : Same H (L2.upd H p o) := Same.upd (Same.refl H) h
theorem Same.to {H H' : Hp} {l : Addr} (s : Same H H') {o : HO} (h : H l = some o) : H' l = some o := s l o h
/-- a new instance laid -/
theorem Same.inst {H : Hp} {x dx : Addr} {o o' : HO} (nx : H x = none) (nd : H dx = none) : Same H (L2.upd (L2.upd H dx o') x o) := Same.upd (Same.upd0 nd) nx

/-! ### lists of data -/
theorem Paired.get {α β : Type} {R : α → β → Prop} : ∀ {xs : List α} {ys : List β} {i : Nat} {x : α}, Paired R xs ys → xs[i]? = some x → ∃ y, ys[i]? = some y ∧ R x y
  | _, _, _, _, .nil, e => by simp at e
  | _, _, 0, _, .cons r _, e => by simp at e; subst e; exact ⟨_, rfl, r⟩
  | _, _, i + 1, x, .cons _ t, e => by
    obtain ⟨u, h1, h2⟩ := Paired.get (i := i) (x := x) t (by simpa using e)
    exact ⟨u, by simpa using h1, h2⟩
theorem Paired.get' {α β : Type} {R : α → β → Prop} : ∀ {xs : List α} {ys : List β} {i : Nat} {y : β}, Paired R xs ys → ys[i]? = some y → ∃ x, xs[i]? = some x ∧ R x y
  | _, _, _, _, .nil, e => by simp at e
  | _, _, 0, _, .cons r _, e => by simp at e; subst e; exact ⟨_, rfl, r⟩
  | _, _, i + 1, x, .cons _ t, e => by
    obtain ⟨u, h1, h2⟩ := Paired.get' (i := i) (y := x) t (by simpa using e)
    exact ⟨u, by simpa using h1, h2⟩
theorem Paired.app {α β : Type} {R : α → β → Prop} : ∀ {xs xs' : List α} {ys ys' : List β}, Paired R xs ys → Paired R xs' ys' → Paired R (xs ++ xs') (ys ++ ys')
  | _, _, _, _, .nil, s => s
  | _, _, _, _, .cons r t, s => .cons r (Paired.app t s)
theorem Paired.snoc {α β : Type} {R : α → β → Prop} {xs : List α} {ys : List β} {x : α} {y : β} (p : Paired R xs ys) (r : R x y) : Paired R (xs ++ [x]) (ys ++ [y]) := Paired.app p (.cons r .nil)
theorem Paired.tk {α β : Type} {R : α → β → Prop} : ∀ {xs : List α} {ys : List β} (n : Nat), Paired R xs ys → Paired R (xs.take n) (ys.take n)
  | _, _, 0, _ => .nil
  | _, _, _ + 1, .nil => .nil
  | _, _, n + 1, .cons r t => .cons r (Paired.tk n t)
theorem take_snoc {α : Type} {xs : List α} {i : Nat} {x : α} (h : xs[i]? = some x) : xs.take (i + 1) = xs.take i ++ [x] := by
  rw [List.take_add_one, h]
  rfl

/-- a jar's three numbers -/
structure Jr where
  s : Int
  r : Int
  m : Int
structure Jr.Ok (j : Jr) : Prop where
  r1 : 1 ≤ j.r
  rm : j.r ≤ j.m
  ms : j.m ≤ j.s
  s9 : j.s ≤ 1000000000
/-- an ask: the jar's numbers, marks, after, wait -/
structure Ak where
  j : Jr
  k : Int
  a : Int
  w : Int
structure Ak.Ok (x : Ak) : Prop where
  j : x.j.Ok
  k0 : 0 ≤ x.k
  k1 : x.k ≤ x.j.s
/-- something known -/
structure Kn where
  c : Int
  h : Int
  m : Int

def jrF (j : Jr) : List (Str × V) := [("size", .int j.s), ("rate", .int j.r), ("mouth", .int j.m)]
def flF (q : Addr) (k : Int) : List (Str × V) := [("jar", .ref q), ("marks", .int k)]
def scF (w n o : Int) (l1 l2 : Addr) : List (Str × V) := [("width", .int w), ("now", .int n), ("opens", .int o), ("sure", .ref l1), ("open_asks", .ref l2)]

/-- a jar of the class at CJ -/
def JarAt (CJ : Addr) (H : Hp) (q : Addr) (j : Jr) : Prop := ∃ dx, H q = some (.ins CJ dx (jrF j))
theorem JarAt.keep {CJ : Addr} {H H' : Hp} {q : Addr} {j : Jr} (s : Same H H') (h : JarAt CJ H q j) : JarAt CJ H' q j := let ⟨dx, e⟩ := h; ⟨dx, s _ _ e⟩

structure Txt (K : PySem.W.Frag) (mg : Str → Option Value) (CJ CF CS : Addr) : Prop where
  cJ : Cls K CJ
  cF : Cls K CF
  cS : Cls K CS
  nJs : NoAttr K CJ "size"
  nJr : NoAttr K CJ "rate"
  nJm : NoAttr K CJ "mouth"
  nFj : NoAttr K CF "jar"
  nFm : NoAttr K CF "marks"
  nSw : NoAttr K CS "width"
  nSn : NoAttr K CS "now"
  nSo : NoAttr K CS "opens"
  nSs : NoAttr K CS "sure"
  nSa : NoAttr K CS "open_asks"
  iJ : C8.InsC K CJ
  iF : C8.InsC K CF
  mJ : mg "Jar" = some (.ref CJ)
  mF : mg "Flow" = some (.ref CF)
  mS : mg "Scene" = some (.ref CS)
  mMOST : ∃ t, mg "MOST" = some (.int 1000000000 t)
  min : mg "min" = none
  max : mg "max" = none
  sum : mg "sum" = none
  len : mg "len" = none
  list : mg "list" = none
  int : mg "int" = none
  bool : mg "bool" = none
  tuple : mg "tuple" = none
  isi : mg "isinstance" = none
  zip : mg "zip" = none
  range : mg "range" = none

section
variable {P : Program} {w : World} {K : PySem.W.Frag} {mg : Str → Option Value} {base : Heap} {CJ CF CS : Addr}
/-! ### Jar -/
def spJI (CJ : Addr) : Sp := fun vs H Q _ => ∃ (p dx : Addr) (j : Jr), vs = [.ref p, .int j.s, .int j.r, .int j.m] ∧ H p = some (.ins CJ dx []) ∧ j.Ok ∧ Q .non (upd H p (.ins CJ dx (jrF j)))
theorem scJI : FnScope ["self", "size", "rate", "mouth"] ["self", "size", "rate", "mouth"] (defScope sJI) := ⟨rfl, rfl, rfl, by decide +kernel, rfl, by decide +kernel, by decide +kernel⟩
theorem ok_JI {f : Addr} {fd : FuncData} (F : Fun K "__init__" "Jar.__init__" sJI f fd) (T : Txt K mg CJ CF CS) : FnOk P w K mg base CX0 1 f fd ["self", "size", "rate", "mouth"] (spJI CJ) := by
  refine F.ok scJI (fun vs H Q E h => ?_) (fun cdv A outer s H vs Q E hr h => ?_)
  · obtain ⟨p, dx, j, rfl, _⟩ := h
    rfl
  · obtain ⟨p, dx, j, rfl, hp, ok, k⟩ := h
    obtain ⟨tk, hM⟩ := T.mMOST
    refine ⟨_, pss_cons (ps_if (pt_not (pt_chain4 op_le op_le op_le op_le pe_int (pv 2) (pv 3) (pv 1) (pe_glob (v := .int 1000000000) rfl hM ⟨_, rfl⟩))) (pss_one ps_never) pss_nil)
      (pss_cons (ps_fld (pv 0) (pv 1) rfl) (pss_cons (ps_fld (pv 0) (pv 2) rfl) (pss_one (ps_fld (pv 0) (pv 3) rfl)))), ?_⟩
    have h1 : decide ((1 : Int) ≤ j.r) = true := decide_eq_true ok.r1
    have h2 : decide (j.r ≤ j.m) = true := decide_eq_true ok.rm
    have h3 : decide (j.m ≤ j.s) = true := decide_eq_true ok.ms
    have h4 : decide (j.s ≤ (1000000000 : Int)) = true := decide_eq_true ok.s9
    refine ⟨_, rfl, _, _, rfl, rfl, congrArg V.bl h1, _, rfl, _, _, rfl, rfl, congrArg V.bl h2, _, rfl, _, _, rfl, rfl, congrArg V.bl h3, _, _, rfl, rfl, _, rfl, ?_⟩
    rw [h4]
    refine iteF ?_
    refine ⟨_, rfl, _, rfl, p, CJ, dx, [], rfl, hp, T.cJ, T.nJs, (by show 0 < 1000; decide), ?_⟩
    refine ⟨_, rfl, _, rfl, p, CJ, dx, _, rfl, upd_same, T.cJ, T.nJr, (by show 1 < 1000; decide), ?_⟩
    refine ⟨_, rfl, _, rfl, p, CJ, dx, _, rfl, upd_same, T.cJ, T.nJm, (by show 2 < 1000; decide), ?_⟩
    rw [upd_upd, upd_upd]
    exact k

/-- told() of a jar: a new tuple -/
def spJTold (CJ : Addr) : Sp := fun vs H Q _ => ∃ (p : Addr) (j : Jr), vs = [.ref p] ∧ JarAt CJ H p j ∧ ∀ t, H t = none → Q (.ref t) (upd H t (.tup [.int j.s, .int j.r, .int j.m]))
theorem lk_ne {a k : Str} {v : V} {r : List (Str × V)} (h : (a == k) = false) : List.lookup a ((k, v) :: r) = List.lookup a r := by
  rw [List.lookup_cons, h]
theorem lk_eq {a : Str} {v : V} {r : List (Str × V)} : List.lookup a ((a, v) :: r) = some v := by
  rw [List.lookup_cons, beq_self_eq_true]
theorem jr_s (j : Jr) : (jrF j).lookup ("size" : Str) = some (.int j.s) := by kernel_rfl
theorem jr_r (j : Jr) : (jrF j).lookup ("rate" : Str) = some (.int j.r) := by kernel_rfl
theorem jr_m (j : Jr) : (jrF j).lookup ("mouth" : Str) = some (.int j.m) := by kernel_rfl
theorem jr_told (j : Jr) : (jrF j).lookup ("told" : Str) = none := by kernel_rfl
theorem fl_j (q : Addr) (k : Int) : (flF q k).lookup ("jar" : Str) = some (.ref q) := by kernel_rfl
theorem fl_m (q : Addr) (k : Int) : (flF q k).lookup ("marks" : Str) = some (.int k) := by kernel_rfl
theorem scJTold : FnScope ["self"] ["self"] (defScope sJTold) := ⟨rfl, rfl, rfl, by decide +kernel, rfl, by decide +kernel, by decide +kernel⟩
theorem ok_JTold {f : Addr} {fd : FuncData} (F : Fun K "told" "Jar.told" sJTold f fd) (T : Txt K mg CJ CF CS) : FnOk P w K mg base CX0 1 f fd ["self"] (spJTold CJ) := by
  refine F.ok scJTold (fun vs H Q E h => ?_) (fun cdv A outer s H vs Q E hr h => ?_)
  · obtain ⟨p, j, rfl, _⟩ := h
    rfl
  · obtain ⟨p, j, rfl, ⟨dx, hp⟩, k⟩ := h
    refine ⟨_, pss_one (ps_ret (pe_tup (pa_cons (pe_fld (pv 0) rfl) (pa_cons (pe_fld (pv 0) rfl) (pa_cons (pe_fld (pv 0) rfl) pa_nil))))), ?_⟩
    refine ⟨_, rfl, p, CJ, dx, _, _, rfl, hp, T.cJ, T.nJs, jr_s j, _, rfl, p, CJ, dx, _, _, rfl, hp, T.cJ, T.nJr, jr_r j, _, rfl, p, CJ, dx, _, _, rfl, hp, T.cJ, T.nJm, jr_m j, (by show 3 ≤ sizeLine; decide), ?_⟩
    exact k

/-- == of a jar and a jar of the same numbers -/
def spJEq (CJ : Addr) : Sp := fun vs H Q _ => ∃ (p q : Addr) (j : Jr), vs = [.ref p, .ref q] ∧ JarAt CJ H p j ∧ JarAt CJ H q j ∧ ∀ H', Same H H' → Q (.bl true) H'
theorem eqv_tri (a b c : Int) : PyData.eqv (.tuple [.int a, .int b, .int c]) (.tuple [.int a, .int b, .int c]) = true := SeqAt.eqv_refl _ rfl
theorem dp_tri {H : Hp} {t : Addr} {a b c : Int} (h : H t = some (.tup [.int a, .int b, .int c])) : Dp K H (.ref t) (.tuple [.int a, .int b, .int c]) := .tup (SqT.of h) (.cons (.int a) (.cons (.int b) (.cons (.int c) .nil)))
theorem scJEq : FnScope ["self", "other"] ["self", "other"] (defScope sJEq) := ⟨rfl, rfl, rfl, by decide +kernel, rfl, by decide +kernel, by decide +kernel⟩
theorem ok_JEq {f ft : Addr} {fd fdt : FuncData} (F : Fun K "__eq__" "Jar.__eq__" sJEq f fd) (T : Txt K mg CJ CF CS) (cT : C8.Met P w K mg base 1 CJ "told" (spJTold CJ) []) : FnOk P w K mg base CX0 2 f fd ["self", "other"] (spJEq CJ) := by
  refine F.ok scJEq (fun vs H Q E h => ?_) (fun cdv A outer s H vs Q E hr h => ?_)
  · obtain ⟨p, q, j, rfl, _⟩ := h
    rfl
  · obtain ⟨p, q, j, rfl, ⟨dx, hp⟩, ⟨dy, hq⟩, k⟩ := h
    refine ⟨_, pss_one (ps_ret (pe_and (pe_callB (C8.call_isC T.iJ) (by rfl) T.isi (by decide +kernel) (pa_cons (pv 1) (pa_cons (pe_glob (v := .ref CJ) rfl T.mJ rfl) pa_nil)))
      (pe_one (pe_cmpR (op_eqD hr.units) (C8.pe_mt0 cT hr (by decide) (pv 0)) (C8.pe_mt0 cT hr (by decide) (pv 1)) (nomark _))))), ?_⟩
    refine ⟨_, rfl, q, dy, _, rfl, hq, _, rfl, iteT ?_⟩
    refine ⟨_, rfl, p, dx, _, rfl, hp, jr_told j, p, j, rfl, ⟨dx, hp⟩, fun t1 n1 => ?_⟩
    have s1 : Same H (upd H t1 (.tup [.int j.s, .int j.r, .int j.m])) := Same.upd0 n1
    refine ⟨_, rfl, q, dy, _, rfl, s1 _ _ hq, jr_told j, q, j, rfl, ⟨dy, s1 _ _ hq⟩, fun t2 n2 => ?_⟩
    have s2 := Same.upd s1 (s1.free n2) (o := .tup [.int j.s, .int j.r, .int j.m])
    have e1 : (upd (upd H t1 (.tup [.int j.s, .int j.r, .int j.m])) t2 (.tup [.int j.s, .int j.r, .int j.m])) t1 = some (.tup [.int j.s, .int j.r, .int j.m]) := by
      rw [upd_ne (ne_of_none upd_same n2)]
      exact upd_same
    refine ⟨_, _, dp_tri e1, dp_tri upd_same, rfl, rfl, ?_⟩
    rw [eqv_tri]
    exact k _ (fun b o e => Same.upd0 n2 _ _ (s1 _ _ e))
end
end Hl
set_option Elab.async false
set_option maxRecDepth 100000
set_option maxHeartbeats 4000000
set_option linter.all false
/-! flows, window -/
namespace Hl
open PySem L2
/-- a flow at p with the jar's numbers j and k marks -/
def FlowAt (CJ CF : Addr) (H : Hp) (p : Addr) (j : Jr) (k : Int) : Prop := ∃ dx q, H p = some (.ins CF dx (flF q k)) ∧ JarAt CJ H q j
theorem FlowAt.keep {CJ CF : Addr} {H H' : Hp} {q : Addr} {j : Jr} {k : Int} (s : Same H H') (h : FlowAt CJ CF H q j k) : FlowAt CJ CF H' q j k := let ⟨dx, q, e, r⟩ := h; ⟨dx, q, s _ _ e, r.keep s⟩
def mn (a b : Int) : Int := if b < a then b else a
def mx (a b : Int) : Int := if b > a then b else a
theorem mn_le1 {a b : Int} : mn a b ≤ a := by unfold mn; split <;> omega
theorem mn_le2 {a b : Int} : mn a b ≤ b := by unfold mn; split <;> omega
theorem le_mn {a b c : Int} (h1 : c ≤ a) (h2 : c ≤ b) : c ≤ mn a b := by unfold mn; split <;> omega
theorem mx_ge1 {a b : Int} : a ≤ mx a b := by unfold mx; split <;> omega
theorem mx_ge2 {a b : Int} : b ≤ mx a b := by unfold mx; split <;> omega
theorem fl_may (q : Addr) (k : Int) : (flF q k).lookup ("may" : Str) = none := by kernel_rfl
theorem fl_come (q : Addr) (k : Int) : (flF q k).lookup ("come" : Str) = none := by kernel_rfl
theorem fl_ahead (q : Addr) (k : Int) : (flF q k).lookup ("ahead" : Str) = none := by kernel_rfl
theorem fl_most (q : Addr) (k : Int) : (flF q k).lookup ("most" : Str) = none := by kernel_rfl
theorem fl_put (q : Addr) (k l : Int) : putF ("marks" : Str) (.int l) (flF q k) = flF q l := by kernel_rfl
theorem fl_new (q : Addr) (k : Int) : putF ("marks" : Str) (.int k) (putF ("jar" : Str) (.ref q) []) = flF q k := by kernel_rfl
section
variable {P : Program} {w : World} {K : PySem.W.Frag} {mg : Str → Option Value} {base : Heap} {CJ CF CS : Addr}
def spFI (CJ CF : Addr) : Sp := fun vs H Q _ => ∃ (p dx q : Addr) (mv : V) (j : Jr) (k : Int), vs = [.ref p, .ref q, mv] ∧ H p = some (.ins CF dx []) ∧ JarAt CJ H q j ∧ 0 ≤ k ∧ k ≤ j.s ∧ ((mv = .non ∧ k = j.s) ∨ mv = .int k) ∧
  Q .non (upd H p (.ins CF dx (flF q k)))
theorem scFI : FnScope ["self", "jar", "marks"] ["self", "jar", "marks"] (defScope sFI) := ⟨rfl, rfl, rfl, by decide +kernel, rfl, by decide +kernel, by decide +kernel⟩
theorem ok_FI {f : Addr} {fd : FuncData} {dvs : List V} {kws : List (Str × V)} (F : FunD K "__init__" "Flow.__init__" (defArgs sFI) (defBody sFI) (defScope sFI) dvs kws f fd) (T : Txt K mg CJ CF CS) : FnOk P w K mg base CX0 1 f fd ["self", "jar", "marks"] (spFI CJ CF) := by
  refine F.ok scFI (fun vs H Q E h => ?_) (fun cdv A outer s H vs Q E hr h => ?_)
  · obtain ⟨p, dx, q, mv, j, k, rfl, _⟩ := h
    rfl
  · obtain ⟨p, dx, q, mv, j, k, rfl, hp, ⟨dj, hq⟩, k0, k1, hm, kk⟩ := h
    refine ⟨_, PSs.nox (pss_cons (ps_if (pt_cmpR op_isN (pv 2) pe_non (nomark _)) (pss_one (ps_set (i := 2) scFI.nd rfl (Or.inl rfl) (pe_fld (pv 1) rfl))) pss_nil)
      (pss_cons (ps_if (pt_not (pt_chain op_le op_le pe_int (pv 2) (pe_fld (pv 1) rfl))) (pss_one ps_never) pss_nil)
      (pss_cons (ps_fld (pv 0) (pv 1) rfl) (pss_one (ps_fld (pv 0) (pv 2) rfl))))), ?_⟩
    have h1 : decide ((0 : Int) ≤ k) = true := decide_eq_true k0
    have h2 : decide (k ≤ j.s) = true := decide_eq_true k1
    refine ⟨_, rfl, rfl, _, rfl, ?_⟩
    rcases hm with ⟨rfl, rfl⟩ | rfl
    · refine iteT ?_
      refine ⟨_, rfl, q, CJ, dj, _, _, rfl, hq, T.cJ, T.nJs, jr_s j, ?_⟩
      refine ⟨_, rfl, _, _, rfl, rfl, _, rfl, ?_⟩
      rw [h1]
      refine iteT ?_
      refine ⟨_, rfl, q, CJ, dj, _, _, rfl, hq, T.cJ, T.nJs, jr_s j, _, _, rfl, rfl, _, rfl, ?_⟩
      rw [h2]
      refine iteF ?_
      refine ⟨_, rfl, _, rfl, p, CF, dx, [], rfl, hp, T.cF, T.nFj, (by show 0 < 1000; decide), ?_⟩
      refine ⟨_, rfl, _, rfl, p, CF, dx, _, rfl, upd_same, T.cF, T.nFm, (by show 1 < 1000; decide), ?_⟩
      rw [upd_upd, fl_new]
      exact kk
    · refine iteF ?_
      refine ⟨_, rfl, _, _, rfl, rfl, _, rfl, ?_⟩
      rw [h1]
      refine iteT ?_
      refine ⟨_, rfl, q, CJ, dj, _, _, rfl, hq, T.cJ, T.nJs, jr_s j, _, _, rfl, rfl, _, rfl, ?_⟩
      rw [h2]
      refine iteF ?_
      refine ⟨_, rfl, _, rfl, p, CF, dx, [], rfl, hp, T.cF, T.nFj, (by show 0 < 1000; decide), ?_⟩
      refine ⟨_, rfl, _, rfl, p, CF, dx, _, rfl, upd_same, T.cF, T.nFm, (by show 1 < 1000; decide), ?_⟩
      rw [upd_upd, fl_new]
      exact kk

def spMay (CJ CF : Addr) : Sp := fun vs H Q _ => ∃ (p : Addr) (j : Jr) (k : Int), vs = [.ref p] ∧ FlowAt CJ CF H p j k ∧ Q (.int (mn j.m k)) H
theorem scMay : FnScope ["self"] ["self"] (defScope sFMay) := ⟨rfl, rfl, rfl, by decide +kernel, rfl, by decide +kernel, by decide +kernel⟩
theorem ok_May {f : Addr} {fd : FuncData} (F : Fun K "may" "Flow.may" sFMay f fd) (T : Txt K mg CJ CF CS) : FnOk P w K mg base CX0 1 f fd ["self"] (spMay CJ CF) := by
  refine F.ok scMay (fun vs H Q E h => ?_) (fun cdv A outer s H vs Q E hr h => ?_)
  · obtain ⟨p, j, k, rfl, _⟩ := h
    rfl
  · obtain ⟨p, j, k, rfl, ⟨dx, q, hp, dj, hq⟩, kk⟩ := h
    refine ⟨_, pss_one (ps_ret (pe_callB (call_min2 rfl) (by rfl) T.min (by decide +kernel) (pa_cons (pe_fld (pe_fld (pv 0) rfl) rfl) (pa_cons (pe_fld (pv 0) rfl) pa_nil)))), ?_⟩
    refine ⟨_, rfl, p, CF, dx, _, _, rfl, hp, T.cF, T.nFj, fl_j q k, q, CJ, dj, _, _, rfl, hq, T.cJ, T.nJm, jr_m j, _, rfl, p, CF, dx, _, _, rfl, hp, T.cF, T.nFm, fl_m q k, _, _, rfl, ?_⟩
    exact kk

def spCome (CJ CF : Addr) : Sp := fun vs H Q _ => ∃ (p dx q : Addr) (c : Int) (j : Jr) (k : Int), vs = [.ref p, .int c] ∧ H p = some (.ins CF dx (flF q k)) ∧ JarAt CJ H q j ∧ j.Ok ∧ 0 ≤ k ∧ k ≤ j.s ∧ 0 ≤ c ∧ c ≤ mn j.m k ∧
  ∀ k', 0 ≤ k' → k' ≤ j.s → Q (.int k') (upd H p (.ins CF dx (flF q k')))
theorem scCome : FnScope ["self", "many"] ["self", "many"] (defScope sFCome) := ⟨rfl, rfl, rfl, by decide +kernel, rfl, by decide +kernel, by decide +kernel⟩
theorem ok_Come {f : Addr} {fd : FuncData} {dvs : List V} {kws : List (Str × V)} (F : FunD K "come" "Flow.come" (defArgs sFCome) (defBody sFCome) (defScope sFCome) dvs kws f fd) (T : Txt K mg CJ CF CS) (cM : C8.Met P w K mg base 1 CF "may" (spMay CJ CF) []) :
    FnOk P w K mg base CX0 2 f fd ["self", "many"] (spCome CJ CF) := by
  refine F.ok scCome (fun vs H Q E h => ?_) (fun cdv A outer s H vs Q E hr h => ?_)
  · obtain ⟨p, dx, q, c, j, k, rfl, _⟩ := h
    rfl
  · obtain ⟨p, dx, q, c, j, k, rfl, hp, ⟨dj, hq⟩, ok, k0, k1, c0, c1, kk⟩ := h
    refine ⟨_, PSs.nox (pss_cons (ps_if (pt_not (pt_chain op_le op_le pe_int (pv 1) (C8.pe_mt0 cM hr (by decide) (pv 0)))) (pss_one ps_never) pss_nil)
      (pss_cons (ps_fld (pv 0) (pe_callB (call_min2 rfl) (by rfl) T.min (by decide +kernel) (pa_cons (pe_fld (pe_fld (pv 0) rfl) rfl) (pa_cons (pe_op op_add (pe_op op_sub (pe_fld (pv 0) rfl) (pv 1)) (pe_fld (pe_fld (pv 0) rfl) rfl)) pa_nil))) rfl)
      (pss_one (ps_ret (pe_fld (pv 0) rfl))))), ?_⟩
    have h1 : decide ((0 : Int) ≤ c) = true := decide_eq_true c0
    have h2 : decide (c ≤ mn j.m k) = true := decide_eq_true c1
    refine ⟨_, rfl, _, _, rfl, rfl, _, rfl, ?_⟩
    rw [h1]
    refine iteT ?_
    refine ⟨_, rfl, p, dx, _, rfl, hp, fl_may q k, p, j, k, rfl, ⟨dx, q, hp, dj, hq⟩, _, _, rfl, rfl, _, rfl, ?_⟩
    rw [h2]
    refine iteF ?_
    refine ⟨_, rfl, p, CF, dx, _, _, rfl, hp, T.cF, T.nFj, fl_j q k, q, CJ, dj, _, _, rfl, hq, T.cJ, T.nJs, jr_s j, _, rfl, p, CF, dx, _, _, rfl, hp, T.cF, T.nFm, fl_m q k, _, rfl, _, _, rfl, rfl,
      _, rfl, p, CF, dx, _, _, rfl, hp, T.cF, T.nFj, fl_j q k, q, CJ, dj, _, _, rfl, hq, T.cJ, T.nJr, jr_r j, _, _, rfl, rfl, _, _, rfl, _, rfl, p, CF, dx, _, rfl, hp, T.cF, T.nFm, (by show 2 < 1000; decide), ?_⟩
    rw [fl_put]
    refine ⟨_, rfl, p, CF, dx, _, _, rfl, upd_same, T.cF, T.nFm, fl_m q _, ?_⟩
    have r1 := ok.r1
    have c2 := mn_le2 (a := j.m) (b := k)
    exact kk (mn j.s (k - c + j.r)) (le_mn (by omega) (by omega)) mn_le1

def aheadI (j : Jr) (k t : Int) : Int := mn j.s (k + j.r * t)
def mostI (j : Jr) (k a t : Int) : Int := if t ≤ 0 then 0 else mn (j.m * t) (aheadI j k a + j.r * (t - 1))
def spAhead (CJ CF : Addr) : Sp := fun vs H Q _ => ∃ (p : Addr) (t : Int) (j : Jr) (k : Int), vs = [.ref p, .int t] ∧ FlowAt CJ CF H p j k ∧ j.Ok ∧ 0 ≤ t ∧ Q (.int (aheadI j k t)) H
theorem scAhead : FnScope ["self", "ticks"] ["self", "ticks"] (defScope sFAhead) := ⟨rfl, rfl, rfl, by decide +kernel, rfl, by decide +kernel, by decide +kernel⟩
theorem Jr.Ok.rb {j : Jr} (ok : j.Ok) : -(2 ^ 64) < j.r ∧ j.r < 2 ^ 64 := by
  obtain ⟨a, b, c, d⟩ := ok
  omega
theorem Jr.Ok.mb {j : Jr} (ok : j.Ok) : -(2 ^ 64) < j.m ∧ j.m < 2 ^ 64 := by
  obtain ⟨a, b, c, d⟩ := ok
  omega
theorem ok_Ahead {f : Addr} {fd : FuncData} (F : Fun K "ahead" "Flow.ahead" sFAhead f fd) (T : Txt K mg CJ CF CS) : FnOk P w K mg base CX0 1 f fd ["self", "ticks"] (spAhead CJ CF) := by
  refine F.ok scAhead (fun vs H Q E h => ?_) (fun cdv A outer s H vs Q E hr h => ?_)
  · obtain ⟨p, t, j, k, rfl, _⟩ := h
    rfl
  · obtain ⟨p, t, j, k, rfl, ⟨dx, q, hp, dj, hq⟩, ok, t0, kk⟩ := h
    refine ⟨_, pss_cons (ps_if (pt_cmpR op_lt (pv 1) pe_int (nomark _)) (pss_one ps_never) pss_nil)
      (pss_one (ps_ret (pe_callB (call_min2 rfl) (by rfl) T.min (by decide +kernel) (pa_cons (pe_fld (pe_fld (pv 0) rfl) rfl) (pa_cons (pe_op op_add (pe_fld (pv 0) rfl) (pe_op op_mul (pe_fld (pe_fld (pv 0) rfl) rfl) (pv 1))) pa_nil))))), ?_⟩
    have h1 : decide (t < (0 : Int)) = false := decide_eq_false (by omega)
    refine ⟨_, rfl, _, _, rfl, rfl, _, rfl, ?_⟩
    rw [h1]
    refine iteF ?_
    refine ⟨_, rfl, p, CF, dx, _, _, rfl, hp, T.cF, T.nFj, fl_j q k, q, CJ, dj, _, _, rfl, hq, T.cJ, T.nJs, jr_s j, _, rfl, p, CF, dx, _, _, rfl, hp, T.cF, T.nFm, fl_m q k,
      _, rfl, p, CF, dx, _, _, rfl, hp, T.cF, T.nFj, fl_j q k, q, CJ, dj, _, _, rfl, hq, T.cJ, T.nJr, jr_r j, _, rfl, _, _, rfl, rfl, .inl ok.rb, _, _, rfl, rfl, _, _, rfl, ?_⟩
    exact kk

def spMost (CJ CF : Addr) : Sp := fun vs H Q _ => ∃ (p : Addr) (a t : Int) (j : Jr) (k : Int), vs = [.ref p, .int a, .int t] ∧ FlowAt CJ CF H p j k ∧ j.Ok ∧ 0 ≤ a ∧ Q (.int (mostI j k a t)) H
theorem scFMost : FnScope ["self", "after", "ticks", "marks"] ["self", "after", "ticks"] (defScope sFMost) := ⟨rfl, rfl, rfl, by decide +kernel, rfl, by decide +kernel, by decide +kernel⟩
theorem ok_FMost {f : Addr} {fd : FuncData} (F : Fun K "most" "Flow.most" sFMost f fd) (T : Txt K mg CJ CF CS) (cA : C8.Met P w K mg base 1 CF "ahead" (spAhead CJ CF) []) : FnOk P w K mg base CX0 2 f fd ["self", "after", "ticks"] (spMost CJ CF) := by
  refine F.ok scFMost (fun vs H Q E h => ?_) (fun cdv A outer s H vs Q E hr h => ?_)
  · obtain ⟨p, a, t, j, k, rfl, _⟩ := h
    rfl
  · obtain ⟨p, a, t, j, k, rfl, ⟨dx, q, hp, dj, hq⟩, ok, t0, kk⟩ := h
    refine ⟨_, pss_cons (ps_set (i := 3) scFMost.nd rfl (Or.inl rfl) (C8.pe_mt cA hr (by decide) (pv 0) (pa_cons (pv 1) pa_nil)))
      (pss_cons (ps_if (pt_cmpR op_le (pv 2) pe_int (nomark _)) (pss_one (ps_ret pe_int)) pss_nil)
      (pss_one (ps_ret (pe_callB (call_min2 rfl) (by rfl) T.min (by decide +kernel) (pa_cons (pe_op op_mul (pe_fld (pe_fld (pv 0) rfl) rfl) (pv 2)) (pa_cons (pe_op op_add (pv 3) (pe_op op_mul (pe_fld (pe_fld (pv 0) rfl) rfl) (pe_op op_sub (pv 2) pe_int))) pa_nil)))))), ?_⟩
    refine ⟨_, rfl, p, dx, _, rfl, hp, fl_ahead q k, _, rfl, p, a, j, k, rfl, ⟨dx, q, hp, dj, hq⟩, ok, t0, ?_⟩
    refine ⟨_, rfl, _, _, rfl, rfl, _, rfl, ?_⟩
    by_cases h : t ≤ 0
    · rw [decide_eq_true h]
      refine iteT ?_
      have e : mostI j k a t = 0 := by unfold mostI; rw [if_pos h]
      rw [e] at kk
      exact kk
    · rw [decide_eq_false h]
      refine iteF ?_
      have e : mostI j k a t = mn (j.m * t) (aheadI j k a + j.r * (t - 1)) := by unfold mostI; rw [if_neg h]
      rw [e] at kk
      refine ⟨_, rfl, p, CF, dx, _, _, rfl, hp, T.cF, T.nFj, fl_j q k, q, CJ, dj, _, _, rfl, hq, T.cJ, T.nJm, jr_m j, _, rfl, _, _, rfl, rfl, .inl ok.mb, _, rfl,
        _, rfl, p, CF, dx, _, _, rfl, hp, T.cF, T.nFj, fl_j q k, q, CJ, dj, _, _, rfl, hq, T.cJ, T.nJr, jr_r j, _, rfl, _, _, rfl, rfl, _, _, rfl, rfl, .inl ok.rb, _, _, rfl, rfl, _, _, rfl, ?_⟩
      exact kk

def spWin : Sp := fun vs H Q _ => ∃ (n f l : Int), vs = [.int n, .int f, .int l] ∧ ∀ t, H t = none → Q (.ref t) (upd H t (.tup [.int (mx n f - n), .int (l - mx n f + 1)]))
theorem scWin : FnScope ["now", "first", "last", "begin"] ["now", "first", "last"] (defScope sWindow) := ⟨rfl, rfl, rfl, by decide +kernel, rfl, by decide +kernel, by decide +kernel⟩
theorem ok_Win {f : Addr} {fd : FuncData} (F : Fun K "window" "window" sWindow f fd) (T : Txt K mg CJ CF CS) : FnOk P w K mg base CX0 1 f fd ["now", "first", "last"] spWin := by
  refine F.ok scWin (fun vs H Q E h => ?_) (fun cdv A outer s H vs Q E hr h => ?_)
  · obtain ⟨n, f, l, rfl, _⟩ := h
    rfl
  · obtain ⟨n, f, l, rfl, kk⟩ := h
    refine ⟨_, pss_cons (ps_set (i := 3) scWin.nd rfl (Or.inl rfl) (pe_callB (call_max2 rfl) (by rfl) T.max (by decide +kernel) (pa_cons (pv 0) (pa_cons (pv 1) pa_nil))))
      (pss_one (ps_ret (pe_tup (pa_cons (pe_op op_sub (pv 3) (pv 0)) (pa_cons (pe_op op_add (pe_op op_sub (pv 2) (pv 3)) pe_int) pa_nil))))), ?_⟩
    refine ⟨_, rfl, _, rfl, _, _, rfl, ?_⟩
    refine ⟨_, rfl, _, rfl, _, _, rfl, rfl, _, rfl, _, rfl, _, _, rfl, rfl, _, _, rfl, rfl, (by show 2 ≤ sizeLine; decide), ?_⟩
    exact kk
end
end Hl
set_option Elab.async false
set_option maxRecDepth 100000
set_option maxHeartbeats 4000000
set_option linter.all false
/-! comprehensions by maps and filters; what a scene holds; Scene.__init__ -/
namespace Hl
open PySem L2
/-! ### comprehensions, in general -/
/-- what is said of a value stays when the heap grows, or a list changes -/
structure MonL {β : Type} (R : Hp → V → β → Prop) : Prop where
  same : ∀ {H H' : Hp} {x : V} {b : β}, Same H H' → R H x b → R H' x b
  lst : ∀ {H : Hp} {x : V} {b : β} {D : Addr} {acc acc' : List V}, H D = some (.lst acc) → R H x b → R (upd H D (.lst acc')) x b
theorem MonL.pairs {β : Type} {R : Hp → V → β → Prop} (m : MonL R) {H H' : Hp} {xs : List V} {bs : List β} (s : Same H H') (p : Paired (R H) xs bs) : Paired (R H') xs bs := Paired.mapP p fun _ _ r => m.same s r
theorem MonL.pairsL {β : Type} {R : Hp → V → β → Prop} (m : MonL R) {H : Hp} {xs : List V} {bs : List β} {D : Addr} {acc acc' : List V} (h : H D = some (.lst acc)) (p : Paired (R H) xs bs) : Paired (R (upd H D (.lst acc'))) xs bs := Paired.mapP p fun _ _ r => m.lst h r
/-- [e for g in l]: each element a new thing, what is said of it: Ro -/
theorem lc_map {K : PySem.W.Frag} {a : Addr} {xs : List V} {α β : Type} {ds : List α} {Ri : V → α → Prop} {Ro : Hp → V → β → Prop} {f : α → β} {g : TG} {te : TE} {vs : List Nat} {σ : L2.St} {H1 : Hp} {D : Addr} {Qd : Hp → Prop}
    (hD : H1 D = none) (hl : SqL K H1 a xs) (hp : Paired Ri xs ds) (hn : xs.length ≤ 1000) (mo : MonL Ro)
    (hs : ∀ (i : Nat) (x : V) (d : α) (H : Hp), xs[i]? = some x → ds[i]? = some d → Ri x d → Same H1 H → ∀ N : V → Hp → Prop, (∀ y H', Same H H' → Ro H' y (f d) → N y H') → g x (wipe σ vs) H fun σ2 H2 => wipe σ2 vs = wipe σ vs ∧ te σ2 H2 N)
    (hd : ∀ H ys, Same H1 H → H D = some (.lst ys) → Paired (Ro H) ys (ds.map f) → Qd H) :
    ∃ W : Nat → Nat → Hp → Prop, (∃ m, W 0 m (upd H1 D (.lst []))) ∧ ∀ i m H, W i m H →
      ((Itl K a).stop i H ∧ Qd H) ∨ ((Itl K a).go i H ∧ ∃ Nx : Hp → Prop, (∀ H', Nx H' → ∃ m', m' < m ∧ W (i + 1) m' H') ∧ ∀ x H', (Itl K a).yld i H x H' → g x (wipe σ vs) H' fun σ2 H2 => wipe σ2 vs = wipe σ vs ∧ tYes σ2 H2 fun b H3 =>
        if b = true then te σ2 H3 fun y H4 => ∃ acc, H4 D = some (.lst acc) ∧ acc.length < sizeLine ∧ Nx (upd H4 D (.lst (acc ++ [y]))) else Nx H3) := by
  have hlen := Paired.length hp
  refine lc_list (K := K) (a := a) (xs := xs) (fun i H => Same H1 H ∧ ∃ ys, H D = some (.lst ys) ∧ Paired (Ro H) ys ((ds.take i).map f)) ⟨Same.upd0 hD, [], upd_same, .nil⟩ (fun i H _ q => q.1.seq hl) ?_ ?_
  · rintro i x H hx ⟨s, ys, hy, py⟩
    obtain ⟨d, hd', r⟩ := Paired.get hp hx
    have hi : i < xs.length := (List.getElem?_eq_some_iff.mp hx).1
    have yl : ys.length ≤ i := by
      have q := Paired.length py
      rw [List.length_map, List.length_take] at q
      omega
    refine hs i x d H hx hd' r s _ fun y H' s' ro => ?_
    refine ⟨ys, s' _ _ hy, small1000 (by omega), fun b o e => ?_, ys ++ [y], upd_same, ?_⟩
    · rw [upd_ne (ne_of_none e hD)]
      exact s' _ _ (s _ _ e)
    · rw [take_snoc hd', List.map_append]
      exact Paired.snoc (mo.pairsL (s' _ _ hy) (mo.pairs s' py)) (mo.lst (s' _ _ hy) ro)
  · rintro H ⟨s, ys, hy, py⟩
    rw [hlen, List.take_length] at py
    exact hd H ys s hy py

/-- [e for g in l if t]: e and t make nothing new that lasts; e is a plain value -/
theorem lc_sel {K : PySem.W.Frag} {a : Addr} {xs : List V} {α : Type} {ds : List α} {Ri : V → α → Prop} {p : α → Bool} {f : α → V} {g : TG} {tt : TT} {te : TE} {vs : List Nat} {σ : L2.St} {H1 : Hp} {D : Addr} {Qd : Hp → Prop}
    (hD : H1 D = none) (hl : SqL K H1 a xs) (hp : Paired Ri xs ds) (hn : xs.length ≤ 1000)
    (hs : ∀ (i : Nat) (x : V) (d : α) (H : Hp), xs[i]? = some x → ds[i]? = some d → Ri x d → Same H1 H → ∀ (N : V → Hp → Prop) (N' : Hp → Prop), (p d = true → ∀ H', Same H H' → N (f d) H') → (p d = false → ∀ H', Same H H' → N' H') →
      g x (wipe σ vs) H fun σ2 H2 => wipe σ2 vs = wipe σ vs ∧ tt σ2 H2 fun b H3 => if b = true then te σ2 H3 N else N' H3)
    (hd : ∀ H, Same H1 H → H D = some (.lst ((ds.filter p).map f)) → Qd H) :
    ∃ W : Nat → Nat → Hp → Prop, (∃ m, W 0 m (upd H1 D (.lst []))) ∧ ∀ i m H, W i m H →
      ((Itl K a).stop i H ∧ Qd H) ∨ ((Itl K a).go i H ∧ ∃ Nx : Hp → Prop, (∀ H', Nx H' → ∃ m', m' < m ∧ W (i + 1) m' H') ∧ ∀ x H', (Itl K a).yld i H x H' → g x (wipe σ vs) H' fun σ2 H2 => wipe σ2 vs = wipe σ vs ∧ tt σ2 H2 fun b H3 =>
        if b = true then te σ2 H3 fun y H4 => ∃ acc, H4 D = some (.lst acc) ∧ acc.length < sizeLine ∧ Nx (upd H4 D (.lst (acc ++ [y]))) else Nx H3) := by
  have hlen := Paired.length hp
  refine lc_list (K := K) (a := a) (xs := xs) (fun i H => Same H1 H ∧ H D = some (.lst (((ds.take i).filter p).map f))) ⟨Same.upd0 hD, upd_same⟩ (fun i H _ q => q.1.seq hl) ?_ ?_
  · rintro i x H hx ⟨s, hy⟩
    obtain ⟨d, hd', r⟩ := Paired.get hp hx
    have hi : i < xs.length := (List.getElem?_eq_some_iff.mp hx).1
    have yl : (((ds.take i).filter p).map f).length ≤ i := by
      rw [List.length_map]
      have q := List.length_filter_le p (ds.take i)
      rw [List.length_take] at q
      omega
    refine hs i x d H hx hd' r s _ _ (fun hpd H' s' => ?_) (fun hpd H' s' => ?_)
    · refine ⟨_, s' _ _ hy, small1000 (by omega), fun b o e => ?_, ?_⟩
      · rw [upd_ne (ne_of_none e hD)]
        exact s' _ _ (s _ _ e)
      · rw [upd_same, take_snoc hd', List.filter_append, List.map_append, List.filter_cons, if_pos hpd]
        rfl
    · refine ⟨s.trans s', ?_⟩
      rw [take_snoc hd', List.filter_append, List.filter_cons, if_neg (by rw [hpd]; exact Bool.false_ne_true), List.filter_nil, List.append_nil]
      exact s' _ _ hy
  · rintro H ⟨s, hy⟩
    rw [hlen, List.take_length] at hy
    exact hd H s hy

/-! ### what a scene holds -/
/-- a known row -/
def KnR (H : Hp) (x : V) (k : Kn) : Prop := ∃ t, x = .ref t ∧ H t = some (.tup [.int k.c, .int k.h, .int k.m])
/-- an ask as handed in: (flow, after, wait) -/
def OaR (CJ CF : Addr) (H : Hp) (x : V) (a : Ak) : Prop := ∃ t f, x = .ref t ∧ H t = some (.tup [.ref f, .int a.a, .int a.w]) ∧ FlowAt CJ CF H f a.j a.k
/-- .. made since H -/
def KnN (H : Hp) (H' : Hp) (x : V) (k : Kn) : Prop := ∃ t, x = .ref t ∧ H t = none ∧ H' t = some (.tup [.int k.c, .int k.h, .int k.m])
def OaN (CJ CF : Addr) (H : Hp) (H' : Hp) (x : V) (a : Ak) : Prop := ∃ t f dx q, x = .ref t ∧ H t = none ∧ H f = none ∧ H' t = some (.tup [.ref f, .int a.a, .int a.w]) ∧ H' f = some (.ins CF dx (flF q a.k)) ∧ JarAt CJ H q a.j
theorem mon_KnR : MonL KnR := ⟨fun s ⟨t, e, h⟩ => ⟨t, e, s _ _ h⟩, fun hD ⟨t, e, h⟩ => ⟨t, e, by rw [upd_ne (ne_of h hD (fun z => nomatch z))]; exact h⟩⟩
theorem mon_KnN {H : Hp} : MonL (KnN H) := ⟨fun s ⟨t, e, n, h⟩ => ⟨t, e, n, s _ _ h⟩, fun hD ⟨t, e, n, h⟩ => ⟨t, e, n, by rw [upd_ne (ne_of h hD (fun z => nomatch z))]; exact h⟩⟩
theorem mon_OaN {CJ CF : Addr} {H : Hp} : MonL (OaN CJ CF H) :=
  ⟨fun s ⟨t, f, dx, q, e, n, n', h, h', j⟩ => ⟨t, f, dx, q, e, n, n', s _ _ h, s _ _ h', j⟩,
    fun hD ⟨t, f, dx, q, e, n, n', h, h', j⟩ => ⟨t, f, dx, q, e, n, n', by rw [upd_ne (ne_of h hD (fun z => nomatch z))]; exact h, by rw [upd_ne (ne_of h' hD (fun z => nomatch z))]; exact h', j⟩⟩
theorem FlowAt.lst {CJ CF : Addr} {H : Hp} {f D : Addr} {j : Jr} {k : Int} {acc acc' : List V} (hD : H D = some (.lst acc)) (h : FlowAt CJ CF H f j k) : FlowAt CJ CF (upd H D (.lst acc')) f j k := by
  obtain ⟨dx, q, h1, dj, h2⟩ := h
  exact ⟨dx, q, by rw [upd_ne (ne_of h1 hD (fun z => nomatch z))]; exact h1, dj, by rw [upd_ne (ne_of h2 hD (fun z => nomatch z))]; exact h2⟩
theorem mon_OaR {CJ CF : Addr} : MonL (OaR CJ CF) :=
  ⟨fun s ⟨t, f, e, h, fl⟩ => ⟨t, f, e, s _ _ h, fl.keep s⟩, fun hD ⟨t, f, e, h, fl⟩ => ⟨t, f, e, by rw [upd_ne (ne_of h hD (fun z => nomatch z))]; exact h, fl.lst hD⟩⟩

theorem KnN.out {H H1 : Hp} {p : Addr} {o u : HO} {x : V} {k : Kn} (hp : H p = some u) (h : KnN H H1 x k) : KnN H (upd H1 p o) x k := by
  obtain ⟨t, e, n, ht⟩ := h
  exact ⟨t, e, n, by rw [upd_ne (ne_of_none hp n).symm]; exact ht⟩
theorem OaN.out {CJ CF : Addr} {H H1 : Hp} {p : Addr} {o u : HO} {x : V} {a : Ak} (hp : H p = some u) (h : OaN CJ CF H H1 x a) : OaN CJ CF H (upd H1 p o) x a := by
  obtain ⟨t, f, dx, q, e, n, n', ht, hf, hj⟩ := h
  exact ⟨t, f, dx, q, e, n, n', by rw [upd_ne (ne_of_none hp n).symm]; exact ht, by rw [upd_ne (ne_of_none hp n').symm]; exact hf, hj⟩
/-- marks within the jar -/
def AkB (a : Ak) : Prop := 0 ≤ a.k ∧ a.k ≤ a.j.s
/-- a scene: width, now, opens, the known rows, the asks -/
def SceneAt (CJ CF CS : Addr) (H : Hp) (p : Addr) (wd n o : Int) (ks : List Kn) (as : List Ak) : Prop :=
  ∃ dx l1 l2 x1 x2, H p = some (.ins CS dx (scF wd n o l1 l2)) ∧ H l1 = some (.lst x1) ∧ Paired (KnR H) x1 ks ∧ H l2 = some (.lst x2) ∧ Paired (OaR CJ CF H) x2 as
/-- .. its parts made since H -/
def SceneN (CJ CF CS : Addr) (H H' : Hp) (p : Addr) (wd n o : Int) (ks : List Kn) (as : List Ak) : Prop :=
  ∃ dx l1 l2 x1 x2, H' p = some (.ins CS dx (scF wd n o l1 l2)) ∧ H l1 = none ∧ H' l1 = some (.lst x1) ∧ Paired (KnN H H') x1 ks ∧ H l2 = none ∧ H' l2 = some (.lst x2) ∧ Paired (OaN CJ CF H H') x2 as
theorem SceneAt.keep {CJ CF CS : Addr} {H H' : Hp} {p : Addr} {wd n o : Int} {ks : List Kn} {as : List Ak} (s : Same H H') (h : SceneAt CJ CF CS H p wd n o ks as) : SceneAt CJ CF CS H' p wd n o ks as :=
  let ⟨dx, l1, l2, x1, x2, e, e1, p1, e2, p2⟩ := h
  ⟨dx, l1, l2, x1, x2, s _ _ e, s _ _ e1, mon_KnR.pairs s p1, s _ _ e2, mon_OaR.pairs s p2⟩
/-- what was made since H, and the jars of H, make the scene -/
theorem SceneN.at_ {CJ CF CS : Addr} {H H' G : Hp} {p : Addr} {wd n o : Int} {ks : List Kn} {as : List Ak} (h : SceneN CJ CF CS H H' p wd n o ks as) (hp : ∀ o, H' p = some o → G p = some o) (hG : ∀ a o, H a = none → H' a = some o → G a = some o)
    (hJ : ∀ q j, JarAt CJ H q j → JarAt CJ G q j) : SceneAt CJ CF CS G p wd n o ks as := by
  obtain ⟨dx, l1, l2, x1, x2, e, n1, e1, p1, n2, e2, p2⟩ := h
  refine ⟨dx, l1, l2, x1, x2, hp _ e, hG _ _ n1 e1, Paired.mapP p1 fun x k ⟨t, et, nt, ht⟩ => ⟨t, et, hG _ _ nt ht⟩, hG _ _ n2 e2, Paired.mapP p2 fun x a ⟨t, f, df, q, et, nt, nf, ht, hf, hj⟩ => ⟨t, f, et, hG _ _ nt ht, df, q, hG _ _ nf hf, hJ _ _ hj⟩⟩
/-- the same, since an earlier heap -/
theorem SceneN.since {CJ CF CS : Addr} {H0 H H' : Hp} {p : Addr} {wd n o : Int} {ks : List Kn} {as : List Ak} (h : SceneN CJ CF CS H H' p wd n o ks as) (s : Same H0 H) (hJ : ∀ q j, JarAt CJ H q j → JarAt CJ H0 q j) : SceneN CJ CF CS H0 H' p wd n o ks as := by
  obtain ⟨dx, l1, l2, x1, x2, e, n1, e1, p1, n2, e2, p2⟩ := h
  refine ⟨dx, l1, l2, x1, x2, e, s.free n1, e1, Paired.mapP p1 fun x k ⟨t, et, nt, ht⟩ => ⟨t, et, s.free nt, ht⟩, s.free n2, e2, Paired.mapP p2 fun x a ⟨t, f, df, q, et, nt, nf, ht, hf, hj⟩ => ⟨t, f, df, q, et, s.free nt, s.free nf, ht, hf, hJ _ _ hj⟩⟩

theorem sc_w (wd n o : Int) (a b : Addr) : (scF wd n o a b).lookup ("width" : Str) = some (.int wd) := by kernel_rfl
theorem sc_n (wd n o : Int) (a b : Addr) : (scF wd n o a b).lookup ("now" : Str) = some (.int n) := by kernel_rfl
theorem sc_o (wd n o : Int) (a b : Addr) : (scF wd n o a b).lookup ("opens" : Str) = some (.int o) := by kernel_rfl
theorem sc_s (wd n o : Int) (a b : Addr) : (scF wd n o a b).lookup ("sure" : Str) = some (.ref a) := by kernel_rfl
theorem sc_a (wd n o : Int) (a b : Addr) : (scF wd n o a b).lookup ("open_asks" : Str) = some (.ref b) := by kernel_rfl
def scF3 (wd n o : Int) : List (Str × V) := [("width", .int wd), ("now", .int n), ("opens", .int o)]
def scF4 (wd n o : Int) (a : Addr) : List (Str × V) := [("width", .int wd), ("now", .int n), ("opens", .int o), ("sure", .ref a)]
theorem sc_new3 (wd n o : Int) : putF ("opens" : Str) (.int o) (putF ("now" : Str) (.int n) (putF ("width" : Str) (.int wd) [])) = scF3 wd n o := by kernel_rfl
theorem sc_new4 (wd n o : Int) (a : Addr) : putF ("sure" : Str) (.ref a) (scF3 wd n o) = scF4 wd n o a := by kernel_rfl
theorem sc_new5 (wd n o : Int) (a b : Addr) : putF ("open_asks" : Str) (.ref b) (scF4 wd n o a) = scF wd n o a b := by kernel_rfl
theorem Keep.free {p : Addr} {H H' : Hp} {o : HO} (k : Keep [p] H H') (hp : H' p = some o) {t : Addr} (h : H' t = none) : H t = none := by
  cases e : H t with
  | none => rfl
  | some u =>
    by_cases q : t = p
    · rw [q, hp] at h
      cases h
    · rw [k t u e (by simpa using q)] at h
      cases h
theorem Keep.at1 {p : Addr} {H H' : Hp} (k : Keep [p] H H') {t : Addr} {o u : HO} (h : H t = some o) (hp : H p = some u) (d : o ≠ u) : H' t = some o := k t o h (by simpa using ne_of h hp d)
theorem Keep.set {p : Addr} {H H' : Hp} {o : HO} (k : Keep [p] H H') : Keep [p] H (upd H' p o) := fun b u e n => by
  have q : b ≠ p := by simpa using n
  rw [upd_ne q]
  exact k b u e n
theorem Keep.upd {M : List Addr} {H H' : Hp} {p : Addr} {o : HO} (k : Keep M H H') (h : H p = none) : Keep M H (L2.upd H' p o) := fun b u e n => by
  rw [upd_ne (ne_of_none e h)]
  exact k b u e n
section
variable {P : Program} {w : World} {K : PySem.W.Frag} {mg : Str → Option Value} {base : Heap} {CJ CF CS : Addr}
def spSI (CJ CF CS : Addr) : Sp := fun vs H Q _ => ∃ (p dx lk la : Addr) (wd n o : Int) (xk xa : List V) (ks : List Kn) (as : List Ak), vs = [.ref p, .int wd, .int n, .ref lk, .ref la, .int o] ∧ H p = some (.ins CS dx []) ∧
  H lk = some (.lst xk) ∧ Paired (KnR H) xk ks ∧ H la = some (.lst xa) ∧ Paired (OaR CJ CF H) xa as ∧ (∀ a ∈ as, AkB a) ∧ xk.length ≤ 1000 ∧ xa.length ≤ 1000 ∧
  ∀ H', Keep [p] H H' → SceneN CJ CF CS H H' p wd n o ks as → Q .non H'
abbrev NSI : List Str := ["self", "width", "now", "knowns", "asks", "opens", "come", "hour", "many", "flow", "after", "wait"]
theorem scSI : FnScope NSI ["self", "width", "now", "knowns", "asks", "opens"] (defScope sSI) := ⟨rfl, rfl, rfl, by decide +kernel, rfl, by decide +kernel, by decide +kernel⟩
theorem ok_SI {f : Addr} {fd : FuncData} {dvs : List V} {kws : List (Str × V)} (F : FunD K "__init__" "Scene.__init__" (defArgs sSI) (defBody sSI) (defScope sSI) dvs kws f fd) (T : Txt K mg CJ CF CS)
    (mkF : C8.Mak P w K mg base 1 "Flow" CF (spFI CJ CF) []) : FnOk P w K mg base CX0 3 f fd ["self", "width", "now", "knowns", "asks", "opens"] (spSI CJ CF CS) := by
  refine F.ok scSI (fun vs H Q E h => ?_) (fun cdv A outer s H vs Q E hr h => ?_)
  · obtain ⟨p, dx, lk, la, wd, n, o, xk, xa, ks, as, rfl, _⟩ := h
    rfl
  · obtain ⟨p, dx, lk, la, wd, n, o, xk, xa, ks, as, rfl, hp, hk, pk, ha, pa, hB, lk1, la1, kk⟩ := h
    refine ⟨_, PSs.nox (pss_cons (ps_fld (pv 0) (pv 1) rfl) (pss_cons (ps_fld (pv 0) (pv 2) rfl) (pss_cons (ps_fld (pv 0) (pv 5) rfl)
      (pss_cons (ps_fld (pv 0) (pe_lc (own := [("come", 6), ("hour", 7), ("many", 8)]) (g := gTup K 3 (gCons (gName 6) (gCons (gName 7) (gCons (gName 8) gNil)))) (tt := tYes) rfl scSI.nd (pi_list (pv 3)) (blkOk_by (N := NSI) (sc := defScope sSI) (by decide +kernel))
        (fun _ _ _ _ _ => pg_tup rfl (pgs_cons (pg_name (i := 6) scSI.nd rfl (Or.inl rfl)) (pgs_cons (pg_name (i := 7) scSI.nd rfl (Or.inl rfl)) (pgs_cons (pg_name (i := 8) scSI.nd rfl (Or.inl rfl)) pgs_nil)))) (fun _ _ _ _ _ => pts_nil)
        (fun _ _ _ _ _ => pe_tup (pa_cons (pv 6) (pa_cons (pv 7) (pa_cons (pv 8) pa_nil))))) rfl)
      (pss_one (ps_fld (pv 0) (pe_lc (own := [("flow", 9), ("after", 10), ("wait", 11)]) (g := gTup K 3 (gCons (gName 9) (gCons (gName 10) (gCons (gName 11) gNil)))) (tt := tYes)
        (te := tTup (tCons (tMake CF (spFI CJ CF) [] E0 (tCons (tFld K (tVar 9) "jar") (tCons (tFld K (tVar 9) "marks") tNil))) (tCons (tVar 10) (tCons (tVar 11) tNil)))) rfl scSI.nd (pi_list (pv 4)) (blkOk_by (N := NSI) (sc := defScope sSI) (by decide +kernel))
        (fun _ _ _ _ _ => pg_tup rfl (pgs_cons (pg_name (i := 9) scSI.nd rfl (Or.inl rfl)) (pgs_cons (pg_name (i := 10) scSI.nd rfl (Or.inl rfl)) (pgs_cons (pg_name (i := 11) scSI.nd rfl (Or.inl rfl)) pgs_nil)))) (fun _ _ _ _ _ => pts_nil)
        (fun _ _ _ _ _ => pe_tup (pa_cons (C8.pe_mk mkF hr (by decide) rfl (pa_cons (pe_fld (pv 9) rfl) (pa_cons (pe_fld (pv 9) rfl) pa_nil))) (pa_cons (pv 10) (pa_cons (pv 11) pa_nil))))) rfl)))))), ?_⟩
    -- self.width, self.now, self.opens
    refine ⟨_, rfl, _, rfl, p, CS, dx, [], rfl, hp, T.cS, T.nSw, (by show 0 < 1000; decide), ?_⟩
    refine ⟨_, rfl, _, rfl, p, CS, dx, _, rfl, upd_same, T.cS, T.nSn, (by show 1 < 1000; decide), ?_⟩
    refine ⟨_, rfl, _, rfl, p, CS, dx, _, rfl, upd_same, T.cS, T.nSo, (by show 2 < 1000; decide), ?_⟩
    rw [upd_upd, upd_upd, sc_new3]
    have ka : Keep [p] H (upd H p (.ins CS dx (scF3 wd n o))) := Keep.set Keep.refl
    -- self.sure
    refine ⟨_, rfl, lk, rfl, ⟨_, SqL.of (ka.at1 hk hp fun z => nomatch z)⟩, fun D hD => lc_map (a := lk) (Ri := KnR H) (Ro := KnN H) (f := fun k => k) hD (SqL.of (ka.at1 hk hp fun z => nomatch z)) pk lk1 mon_KnN ?_ ?_⟩
    · rintro i x k H1 hx hd ⟨t, rfl, ht⟩ s1 N kN
      have kp1 : Keep [p] H H1 := ka.trans (Keep.of s1)
      refine ⟨t, _, rfl, SqT.of (kp1.at1 ht hp fun z => nomatch z), rfl, _, _, rfl, _, _, rfl, _, _, rfl, rfl, rfl, _, rfl, _, rfl, _, rfl, (by show 3 ≤ sizeLine; decide), fun t' nt => ?_⟩
      exact kN _ _ (Same.upd0 nt) ⟨t', rfl, kp1.free (s1 _ _ upd_same) nt, upd_same⟩
    rintro H1 ys s1 hy1 py1
    rw [List.map_id'] at py1
    have kp1 : Keep [p] H H1 := ka.trans (Keep.of s1)
    have fD : H D = none := ka.free upd_same hD
    refine ⟨_, rfl, p, CS, dx, _, rfl, s1 _ _ upd_same, T.cS, T.nSs, (by show 3 < 1000; decide), ?_⟩
    rw [sc_new4]
    have kb : Keep [p] H (upd H1 p (.ins CS dx (scF4 wd n o D))) := kp1.set
    -- self.open_asks
    refine ⟨_, rfl, la, rfl, ⟨_, SqL.of (kb.at1 ha hp fun z => nomatch z)⟩, fun D2 hD2 => lc_map (a := la) (Ri := OaR CJ CF H) (Ro := OaN CJ CF H) (f := fun k => k) hD2 (SqL.of (kb.at1 ha hp fun z => nomatch z)) pa la1 mon_OaN ?_ ?_⟩
    · rintro i x a H2 hx hd ⟨t, f', rfl, ht, df, q, hf, dj, hj⟩ s2 N kN
      have kp2 : Keep [p] H H2 := kb.trans (Keep.of s2)
      have ba := hB a (List.mem_of_getElem? hd)
      have hf2 : H2 f' = some (.ins CF df (flF q a.k)) := kp2.at1 hf hp fun z => by
        have z' := HO.ins.inj z
        cases z'.2.2
      have hj2 : H2 q = some (.ins CJ dj (jrF a.j)) := kp2.at1 hj hp fun z => by
        have z' := HO.ins.inj z
        cases z'.2.2
      have fr : ∀ {t : Addr}, H2 t = none → H t = none := fun n0 => kp2.free (s2 _ _ upd_same) n0
      refine ⟨t, _, rfl, SqT.of (kp2.at1 ht hp fun z => nomatch z), rfl, _, _, rfl, _, _, rfl, _, _, rfl, rfl, rfl, _, rfl, f', CF, df, _, _, rfl, hf2, T.cF, T.nFj, fl_j q _, _, rfl, f', CF, df, _, _, rfl, hf2, T.cF, T.nFm, fl_m q _,
        fun y dy ny ndy ney => ⟨y, dy, q, _, a.j, a.k, rfl, upd_same, ⟨dj, (Same.inst ny ndy) _ _ hj2⟩, ba.1, ba.2, .inr rfl, rfl, _, rfl, _, rfl, (by show 3 ≤ sizeLine; decide), fun t' nt => ?_⟩⟩
      rw [upd_upd] at nt ⊢
      have s3 : Same H2 (upd (upd H2 dy (.own y)) y (.ins CF dy (flF q a.k))) := Same.inst ny ndy
      have nyt : y ≠ t' := ne_of_none upd_same nt
      refine kN _ _ (Same.upd s3 (s3.free nt)) ⟨t', y, dy, q, rfl, fr (s3.free nt), fr ny, upd_same, by rw [upd_ne nyt]; exact upd_same, dj, hj⟩
    rintro H2 ys2 s2 hy2 py2
    rw [List.map_id'] at py2
    have kp2 : Keep [p] H H2 := kb.trans (Keep.of s2)
    have fD2 : H D2 = none := kb.free upd_same hD2
    refine ⟨_, rfl, p, CS, dx, _, rfl, s2 _ _ upd_same, T.cS, T.nSa, (by show 4 < 1000; decide), ?_⟩
    rw [sc_new5]
    have npD : p ≠ D := ne_of_none hp fD
    have npD2 : p ≠ D2 := ne_of_none hp fD2
    refine kk _ kp2.set ⟨dx, D, D2, ys, ys2, upd_same, fD, ?_, ?_, fD2, by rw [upd_ne npD2.symm]; exact hy2, Paired.mapP py2 fun _ _ r => r.out hp⟩
    · rw [upd_ne npD.symm]
      refine s2 _ _ ?_
      rw [upd_ne npD.symm]
      exact hy1
    · refine Paired.mapP (mon_KnN.pairs s2 (Paired.mapP py1 fun _ _ r => KnN.out hp r)) fun _ _ r => KnN.out hp r
end
end Hl
set_option Elab.async false
set_option maxRecDepth 100000
set_option maxHeartbeats 4000000
set_option linter.all false
/-! the scene's methods -/
namespace Hl
open PySem L2
theorem sc_no (wd n o : Int) (a b : Addr) {m : Str} (h : (decide (m = "width") || decide (m = "now") || decide (m = "opens") || decide (m = "sure") || decide (m = "open_asks")) = false) : (scF wd n o a b).lookup m = none := by
  simp only [Bool.or_eq_false_iff, decide_eq_false_iff_not] at h
  unfold scF
  rw [lk_ne (beq_eq_false_iff_ne.mpr h.1.1.1.1), lk_ne (beq_eq_false_iff_ne.mpr h.1.1.1.2), lk_ne (beq_eq_false_iff_ne.mpr h.1.1.2), lk_ne (beq_eq_false_iff_ne.mpr h.1.2), lk_ne (beq_eq_false_iff_ne.mpr h.2)]
  rfl
theorem jr_nil {j : Jr} : jrF j ≠ [] := fun z => by unfold jrF at z; cases z
/-- no jar but those of H -/
def NJ (CJ : Addr) (H H' : Hp) : Prop := ∀ q j, JarAt CJ H' q j → JarAt CJ H q j
theorem NJ.refl {CJ : Addr} {H : Hp} : NJ CJ H H := fun _ _ h => h
theorem NJ.trans {CJ : Addr} {H H1 H2 : Hp} (a : NJ CJ H H1) (b : NJ CJ H1 H2) : NJ CJ H H2 := fun q j h => a q j (b q j h)
theorem NJ.upd {CJ : Addr} {H H' : Hp} {p : Addr} {o : HO} (n : NJ CJ H H') (ho : ∀ dx j, o ≠ .ins CJ dx (jrF j)) : NJ CJ H (upd H' p o) := fun q j ⟨dx, h⟩ => by
  by_cases e : q = p
  · rw [e, upd_same] at h
    exact absurd (Option.some.inj h) (ho dx j)
  · rw [upd_ne e] at h
    exact n q j ⟨dx, h⟩
theorem NJ.tup {CJ : Addr} {H H' : Hp} {p : Addr} {xs : List V} (n : NJ CJ H H') : NJ CJ H (L2.upd H' p (.tup xs)) := n.upd fun _ _ z => nomatch z
theorem NJ.lst {CJ : Addr} {H H' : Hp} {p : Addr} {xs : List V} (n : NJ CJ H H') : NJ CJ H (L2.upd H' p (.lst xs)) := n.upd fun _ _ z => nomatch z
theorem NJ.own {CJ : Addr} {H H' : Hp} {p x : Addr} (n : NJ CJ H H') : NJ CJ H (L2.upd H' p (.own x)) := n.upd fun _ _ z => nomatch z
theorem Keep.same {p : Addr} {H H1 H2 : Hp} (k : Keep [p] H1 H2) (s : Same H H1) (n : H p = none) : Same H H2 := fun b o e => k b o (s b o e) (by simpa using ne_of_none e n)
/-- Scene(..): behind its arguments -/
theorem make_scene {CJ CF CS : Addr} {H H3 : Hp} {lk la : Addr} {xk xa : List V} {wd n o : Int} {ks : List Kn} {as : List Ak} {Q : VK} {E : XK} (s : Same H H3) (nj : NJ CJ H H3) (hk : H3 lk = some (.lst xk)) (pk : Paired (KnR H3) xk ks)
    (ha : H3 la = some (.lst xa)) (pa : Paired (OaR CJ CF H3) xa as) (hB : ∀ a ∈ as, AkB a) (lk1 : xk.length ≤ 1000) (la1 : xa.length ≤ 1000)
    (kk : ∀ p' H', Same H H' → H p' = none → SceneN CJ CF CS H H' p' wd n o ks as → Q (.ref p') H') :
    ∀ x dx, H3 x = none → H3 dx = none → dx ≠ x → spSI CJ CF CS (.ref x :: ([.int wd, .int n, .ref lk, .ref la, .int o] ++ [])) (upd (upd H3 dx (.own x)) x (.ins CS dx [])) (fun v H2 => v = .non ∧ Q (.ref x) H2) E := by
  intro x dx nx ndx ne
  have s4 : Same H3 (upd (upd H3 dx (.own x)) x (.ins CS dx [])) := Same.inst nx ndx
  refine ⟨x, dx, lk, la, wd, n, o, xk, xa, ks, as, rfl, upd_same, s4 _ _ hk, mon_KnR.pairs s4 pk, s4 _ _ ha, mon_OaR.pairs s4 pa, hB, lk1, la1, fun H' k' sn => ⟨rfl, ?_⟩⟩
  refine kk x H' (k'.same (s.trans s4) (s.free nx)) (s.free nx) (sn.since (s.trans s4) (nj.trans (NJ.refl.own.upd fun dx j z => ?_)))
  exact jr_nil (HO.ins.inj z).2.2.symm
theorem pw_len {α β : Type} {R : α → β → Prop} {xs : List α} {ys : List β} {n : Nat} (p : Paired R xs ys) (h : ys.length ≤ n) : xs.length ≤ n := by rw [Paired.length p]; exact h

def selK (first last : Int) (ks : List Kn) : List Int := (ks.filter fun k => decide (first ≤ k.c) && decide (k.h ≤ last)).map Kn.m
def askN (now first last : Int) (a : Ak) : Int := mostI a.j a.k (mx now (first - a.a) - now) (last - a.a - a.w - mx now (first - a.a) + 1)
def needN (now first last : Int) (ks : List Kn) (as : List Ak) : Int := (selK first last ks).sum + (as.map (askN now first last)).sum
def holdN (wd op first last : Int) : Int := wd * mx 0 (last - mx first op)
section
variable {P : Program} {w : World} {K : PySem.W.Frag} {mg : Str → Option Value} {base : Heap} {CJ CF CS : Addr}
def spKnR (CJ CF CS : Addr) : Sp := fun vs H Q _ => ∃ (p : Addr) (wd n o : Int) (ks : List Kn) (as : List Ak), vs = [.ref p] ∧ SceneAt CJ CF CS H p wd n o ks as ∧
  ∀ l xs, H l = none → Paired (KnR H) xs ks → Q (.ref l) (upd H l (.lst xs))
theorem scKnR : FnScope ["self"] ["self"] (defScope sSKnown) := ⟨rfl, rfl, rfl, by decide +kernel, rfl, by decide +kernel, by decide +kernel⟩
theorem ok_KnR {f : Addr} {fd : FuncData} (F : Fun K "known_rows" "Scene.known_rows" sSKnown f fd) (T : Txt K mg CJ CF CS) : FnOk P w K mg base CX0 1 f fd ["self"] (spKnR CJ CF CS) := by
  refine F.ok scKnR (fun vs H Q E h => ?_) (fun cdv A outer s H vs Q E hr h => ?_)
  · obtain ⟨p, wd, n, o, ks, as, rfl, _⟩ := h
    rfl
  · obtain ⟨p, wd, n, o, ks, as, rfl, ⟨dx, l1, l2, x1, x2, hp, h1, p1, h2, p2⟩, kk⟩ := h
    refine ⟨_, pss_one (ps_ret (pe_callTy call_list_of (by rfl) T.list (by decide +kernel) (pa_cons (pe_fld (pv 0) rfl) pa_nil))), ?_⟩
    refine ⟨_, rfl, p, CS, dx, _, _, rfl, hp, T.cS, T.nSs, sc_s .., l1, x1, rfl, .inl (SqL.of h1), fun l hl => ?_⟩
    exact kk l x1 hl p1

def spAskR (CJ CF CS : Addr) : Sp := fun vs H Q _ => ∃ (p : Addr) (wd n o : Int) (ks : List Kn) (as : List Ak), vs = [.ref p] ∧ SceneAt CJ CF CS H p wd n o ks as ∧ (∀ a ∈ as, AkB a) ∧ as.length ≤ 1000 ∧
  ∀ l ys H', Same H H' → H l = none → H' l = some (.lst ys) → Paired (OaN CJ CF H H') ys as → Q (.ref l) H'
abbrev NAR : List Str := ["self", "flow", "after", "wait"]
theorem scAskR : FnScope NAR ["self"] (defScope sSAsk) := ⟨rfl, rfl, rfl, by decide +kernel, rfl, by decide +kernel, by decide +kernel⟩
theorem ok_AskR {f : Addr} {fd : FuncData} (F : Fun K "ask_rows" "Scene.ask_rows" sSAsk f fd) (T : Txt K mg CJ CF CS) (mkF : C8.Mak P w K mg base 1 "Flow" CF (spFI CJ CF) []) : FnOk P w K mg base CX0 3 f fd ["self"] (spAskR CJ CF CS) := by
  refine F.ok scAskR (fun vs H Q E h => ?_) (fun cdv A outer s H vs Q E hr h => ?_)
  · obtain ⟨p, wd, n, o, ks, as, rfl, _⟩ := h
    rfl
  · obtain ⟨p, wd, n, o, ks, as, rfl, ⟨dx, l1, l2, x1, x2, hp, h1, p1, h2, p2⟩, hB, hl, kk⟩ := h
    refine ⟨_, pss_one (ps_ret (pe_lc (own := [("flow", 1), ("after", 2), ("wait", 3)]) (g := gTup K 3 (gCons (gName 1) (gCons (gName 2) (gCons (gName 3) gNil)))) (tt := tYes)
        (te := tTup (tCons (tMake CF (spFI CJ CF) [] E0 (tCons (tFld K (tVar 1) "jar") (tCons (tFld K (tVar 1) "marks") tNil))) (tCons (tVar 2) (tCons (tVar 3) tNil)))) rfl scAskR.nd (pi_list (pe_fld (pv 0) rfl)) (blkOk_by (N := NAR) (sc := defScope sSAsk) (by decide +kernel))
        (fun _ _ _ _ _ => pg_tup rfl (pgs_cons (pg_name (i := 1) scAskR.nd rfl (Or.inl rfl)) (pgs_cons (pg_name (i := 2) scAskR.nd rfl (Or.inl rfl)) (pgs_cons (pg_name (i := 3) scAskR.nd rfl (Or.inl rfl)) pgs_nil)))) (fun _ _ _ _ _ => pts_nil)
        (fun _ _ _ _ _ => pe_tup (pa_cons (C8.pe_mk mkF hr (by decide) rfl (pa_cons (pe_fld (pv 1) rfl) (pa_cons (pe_fld (pv 1) rfl) pa_nil))) (pa_cons (pv 2) (pa_cons (pv 3) pa_nil)))))), ?_⟩
    refine ⟨_, rfl, p, CS, dx, _, _, rfl, hp, T.cS, T.nSa, sc_a .., l2, rfl, ⟨_, SqL.of h2⟩, fun D hD => lc_map (a := l2) (Ri := OaR CJ CF H) (Ro := OaN CJ CF H) (f := fun k => k) hD (SqL.of h2) p2 (pw_len p2 hl) mon_OaN ?_ ?_⟩
    · rintro i x a H2 hx hd ⟨t, f', rfl, ht, df, q, hf, dj, hj⟩ s2 N kN
      have ba := hB a (List.mem_of_getElem? hd)
      have hf2 := s2 _ _ hf
      refine ⟨t, _, rfl, SqT.of (s2 _ _ ht), rfl, _, _, rfl, _, _, rfl, _, _, rfl, rfl, rfl, _, rfl, f', CF, df, _, _, rfl, hf2, T.cF, T.nFj, fl_j q _, _, rfl, f', CF, df, _, _, rfl, hf2, T.cF, T.nFm, fl_m q _,
        fun y dy ny ndy ney => ⟨y, dy, q, _, a.j, a.k, rfl, upd_same, ⟨dj, (Same.inst ny ndy) _ _ (s2 _ _ hj)⟩, ba.1, ba.2, .inr rfl, rfl, _, rfl, _, rfl, (by show 3 ≤ sizeLine; decide), fun t' nt => ?_⟩⟩
      rw [upd_upd] at nt ⊢
      have s3 : Same H2 (upd (upd H2 dy (.own y)) y (.ins CF dy (flF q a.k))) := Same.inst ny ndy
      have nyt : y ≠ t' := ne_of_none upd_same nt
      refine kN _ _ (Same.upd s3 (s3.free nt)) ⟨t', y, dy, q, rfl, s2.free (s3.free nt), s2.free ny, upd_same, by rw [upd_ne nyt]; exact upd_same, dj, hj⟩
    · rintro H2 ys2 s2 hy2 py2
      rw [List.map_id'] at py2
      exact kk D ys2 H2 s2 hD hy2 py2

def spNeedK (CJ CF CS : Addr) : Sp := fun vs H Q _ => ∃ (p : Addr) (fi la : Int) (wd n o : Int) (ks : List Kn) (as : List Ak), vs = [.ref p, .int fi, .int la] ∧ SceneAt CJ CF CS H p wd n o ks as ∧ ks.length ≤ 1000 ∧
  ∀ H', Same H H' → Q (.int (selK fi la ks).sum) H'
abbrev NNK : List Str := ["self", "first", "end", "come", "hour", "many"]
theorem scNeedK : FnScope NNK ["self", "first", "end"] (defScope sSNeedK) := ⟨rfl, rfl, rfl, by decide +kernel, rfl, by decide +kernel, by decide +kernel⟩
theorem ok_NeedK {f : Addr} {fd : FuncData} (F : Fun K "need_known" "Scene.need_known" sSNeedK f fd) (T : Txt K mg CJ CF CS) : FnOk P w K mg base CX0 1 f fd ["self", "first", "end"] (spNeedK CJ CF CS) := by
  refine F.ok scNeedK (fun vs H Q E h => ?_) (fun cdv A outer s H vs Q E hr h => ?_)
  · obtain ⟨p, fi, la, wd, n, o, ks, as, rfl, _⟩ := h
    rfl
  · obtain ⟨p, fi, la, wd, n, o, ks, as, rfl, ⟨dx, l1, l2, x1, x2, hp, h1, p1, h2, p2⟩, hl, kk⟩ := h
    refine ⟨_, pss_one (ps_ret (pe_callB (cr_sum rfl) (by rfl) T.sum (by decide +kernel) (pa_cons (pe_lc (own := [("come", 3), ("hour", 4), ("many", 5)]) (g := gTup K 3 (gCons (gName 3) (gCons (gName 4) (gCons (gName 5) gNil)))) rfl scNeedK.nd (pi_list (pe_fld (pv 0) rfl))
        (blkOk_by (N := NNK) (sc := defScope sSNeedK) (by decide +kernel))
        (fun _ _ _ _ _ => pg_tup rfl (pgs_cons (pg_name (i := 3) scNeedK.nd rfl (Or.inl rfl)) (pgs_cons (pg_name (i := 4) scNeedK.nd rfl (Or.inl rfl)) (pgs_cons (pg_name (i := 5) scNeedK.nd rfl (Or.inl rfl)) pgs_nil))))
        (fun _ _ _ _ _ => pts_one (PW.pt (pw_and (pt_cmpR op_ge (pv 3) (pv 1) (nomark _)) (pw_and1 (pt_cmpR op_le (pv 4) (pv 2) (nomark _))))))
        (fun _ _ _ _ _ => pv 5)) pa_nil))), ?_⟩
    refine ⟨_, rfl, p, CS, dx, _, _, rfl, hp, T.cS, T.nSs, sc_s .., l1, rfl, ⟨_, SqL.of h1⟩, fun D hD => lc_sel (a := l1) (Ri := KnR H) (p := fun k => decide (fi ≤ k.c) && decide (k.h ≤ la)) (f := fun k => .int k.m) hD (SqL.of h1) p1 (pw_len p1 hl) ?_ ?_⟩
    · rintro i x k H1 hx hd ⟨t, rfl, ht⟩ s1 N N' kN kN'
      refine ⟨t, _, rfl, SqT.of (s1 _ _ ht), rfl, _, _, rfl, _, _, rfl, _, _, rfl, rfl, rfl, _, rfl, _, rfl, _, _, rfl, rfl, _, rfl, ?_⟩
      by_cases e1 : fi ≤ k.c
      · rw [decide_eq_true e1] at kN kN' ⊢
        refine iteT ⟨_, rfl, _, rfl, _, _, rfl, rfl, _, rfl, ?_⟩
        by_cases e2 : k.h ≤ la
        · rw [decide_eq_true e2] at kN ⊢
          exact iteT ⟨_, rfl, kN rfl _ (Same.refl _)⟩
        · rw [decide_eq_false e2] at kN' ⊢
          exact iteF (kN' rfl _ (Same.refl _))
      · rw [decide_eq_false e1] at kN' ⊢
        exact iteF (iteF (kN' rfl _ (Same.refl _)))
    · rintro H1 s1 hy
      refine ⟨D, (selK fi la ks), rfl, SqL.of ?_, kk _ s1⟩
      rw [hy]
      unfold selK
      rw [List.map_map]
      rfl

def spNeedA (CJ CF CS : Addr) : Sp := fun vs H Q _ => ∃ (p : Addr) (fi la : Int) (wd n o : Int) (ks : List Kn) (as : List Ak), vs = [.ref p, .int fi, .int la] ∧ SceneAt CJ CF CS H p wd n o ks as ∧ (∀ a ∈ as, a.j.Ok) ∧
  ∀ H', Same H H' → Q (.int (as.map (askN n fi la)).sum) H'
abbrev NNA : List Str := ["self", "first", "end", "found", "flow", "after", "wait", "ahead", "ticks"]
theorem scNeedA : FnScope NNA ["self", "first", "end"] (defScope sSNeedA) := ⟨rfl, rfl, rfl, by decide +kernel, rfl, by decide +kernel, by decide +kernel⟩
theorem sum_snoc (xs : List Int) (x : Int) : (xs ++ [x]).sum = xs.sum + x := by
  rw [List.sum_append, List.sum_cons, List.sum_nil, Int.add_zero]
theorem ok_NeedA {f : Addr} {fd : FuncData} (F : Fun K "need_asked" "Scene.need_asked" sSNeedA f fd) (T : Txt K mg CJ CF CS) (cW : C8.Cal P w K mg base 1 "window" spWin []) (cM : C8.Met P w K mg base 2 CF "most" (spMost CJ CF) []) :
    FnOk P w K mg base CX0 3 f fd ["self", "first", "end"] (spNeedA CJ CF CS) := by
  refine F.ok scNeedA (fun vs H Q E h => ?_) (fun cdv A outer s H vs Q E hr h => ?_)
  · obtain ⟨p, fi, la, wd, n, o, ks, as, rfl, _⟩ := h
    rfl
  · obtain ⟨p, fi, la, wd, n, o, ks, as, rfl, ⟨dx, l1, l2, x1, x2, hp, h1, p1, h2, p2⟩, hO, kk⟩ := h
    refine ⟨_, pss_cons (ps_set (i := 3) scNeedA.nd rfl (Or.inl rfl) pe_int)
      (pss_cons (ps_for PassesOwn.never rfl (pi_list (pe_fld (pv 0) rfl)) (pg_tup rfl (pgs_cons (pg_name (i := 4) scNeedA.nd rfl (Or.inl rfl)) (pgs_cons (pg_name (i := 5) scNeedA.nd rfl (Or.inl rfl)) (pgs_cons (pg_name (i := 6) scNeedA.nd rfl (Or.inl rfl)) pgs_nil))))
        (pss_cons (ps_asg (C8.pe_c cW hr (by decide) rfl (pa_cons (pe_fld (pv 0) rfl) (pa_cons (pe_op op_sub (pv 1) (pv 5)) (pa_cons (pe_op op_sub (pe_op op_sub (pv 2) (pv 5)) (pv 6)) pa_nil))))
          (pg_tup (by rfl) (pgs_cons (pg_name (i := 7) scNeedA.nd rfl (Or.inl rfl)) (pgs_cons (pg_name (i := 8) scNeedA.nd rfl (Or.inl rfl)) pgs_nil))))
        (pss_one (ps_aug (i := 3) scNeedA.nd rfl (Or.inl rfl) (C8.pe_mt cM hr (by decide) (pv 4) (pa_cons (pv 7) (pa_cons (pv 8) pa_nil))) ip_add))))
      (pss_one (ps_ret (pv 3)))), ?_⟩
    have hlen := Paired.length p2
    refine ⟨_, rfl, p, CS, dx, _, _, rfl, hp, T.cS, T.nSa, sc_a .., l2, rfl, ⟨_, SqL.of h2⟩, for_list (K := K) (a := l2) (xs := x2) (fun i σ H' => ∃ z v4 v5 v6 v7 v8, σ = [some (.ref p), some (.int fi), some (.int la), some (.int z), v4, v5, v6, v7, v8] ∧ z = ((as.take i).map (askN n fi la)).sum ∧ Same H H')
      ⟨0, none, none, none, none, none, rfl, rfl, Same.refl _⟩ (fun i σ H' _ ⟨_, _, _, _, _, _, _, _, s1⟩ => s1.seq (SqL.of h2)) ?_ ?_⟩
    · rintro i x σ H' hx ⟨z, v4, v5, v6, v7, v8, rfl, ez, s1⟩
      obtain ⟨a, hd, t, f', rfl, ht, hf⟩ := Paired.get p2 hx
      have hf1 := hf.keep s1
      obtain ⟨df, q, hfi, _⟩ := id hf1
      refine ⟨t, _, rfl, SqT.of (s1 _ _ ht), rfl, _, _, rfl, _, _, rfl, _, _, rfl, rfl, ?_⟩
      refine ⟨_, rfl, p, CS, dx, _, _, rfl, s1 _ _ hp, T.cS, T.nSn, sc_n .., _, rfl, _, rfl, _, _, rfl, rfl, _, rfl, _, rfl, _, _, rfl, rfl, _, rfl, _, _, rfl, rfl, _, _, _, rfl, fun t2 nt => ?_⟩
      have s2 : Same H' (upd H' t2 (.tup [.int (mx n (fi - a.a) - n), .int (la - a.a - a.w - mx n (fi - a.a) + 1)])) := Same.upd0 nt
      refine ⟨t2, _, rfl, SqT.of upd_same, rfl, _, _, rfl, _, _, rfl, rfl, ?_⟩
      refine ⟨_, rfl, _, rfl, f', df, _, rfl, s2 _ _ hfi, fl_most q _, _, rfl, _, rfl, f', _, _, a.j, a.k, rfl, hf1.keep s2, hO a (List.mem_of_getElem? hd), (by have := mx_ge1 (a := n) (b := fi - a.a); omega), _, _, rfl, rfl, ?_⟩
      refine ⟨_, _, _, _, _, _, rfl, ?_, s1.trans s2⟩
      rw [take_snoc hd, List.map_append, List.map_singleton, sum_snoc, ez]
      rfl
    · rintro σ H' ⟨z, v4, v5, v6, v7, v8, rfl, ez, s1⟩
      rw [hlen, List.take_length] at ez
      subst ez
      exact ⟨_, rfl, kk H' s1⟩

def spNeed (CJ CF CS : Addr) : Sp := fun vs H Q _ => ∃ (p : Addr) (fi la : Int) (wd n o : Int) (ks : List Kn) (as : List Ak), vs = [.ref p, .int fi, .int la] ∧ SceneAt CJ CF CS H p wd n o ks as ∧ (∀ a ∈ as, a.j.Ok) ∧ ks.length ≤ 1000 ∧
  ∀ H', Same H H' → Q (.int (needN n fi la ks as)) H'
theorem scSNeed : FnScope ["self", "first", "end"] ["self", "first", "end"] (defScope sSNeed) := ⟨rfl, rfl, rfl, by decide +kernel, rfl, by decide +kernel, by decide +kernel⟩
theorem ok_SNeed {f : Addr} {fd : FuncData} (F : Fun K "need" "Scene.need" sSNeed f fd) (T : Txt K mg CJ CF CS) (cK : C8.Met P w K mg base 1 CS "need_known" (spNeedK CJ CF CS) []) (cA : C8.Met P w K mg base 3 CS "need_asked" (spNeedA CJ CF CS) []) :
    FnOk P w K mg base CX0 4 f fd ["self", "first", "end"] (spNeed CJ CF CS) := by
  refine F.ok scSNeed (fun vs H Q E h => ?_) (fun cdv A outer s H vs Q E hr h => ?_)
  · obtain ⟨p, fi, la, wd, n, o, ks, as, rfl, _⟩ := h
    rfl
  · obtain ⟨p, fi, la, wd, n, o, ks, as, rfl, hS, hO, hl, kk⟩ := h
    refine ⟨_, pss_one (ps_ret (pe_op op_add (C8.pe_mt cK hr (by decide) (pv 0) (pa_cons (pv 1) (pa_cons (pv 2) pa_nil))) (C8.pe_mt cA hr (by decide) (pv 0) (pa_cons (pv 1) (pa_cons (pv 2) pa_nil))))), ?_⟩
    obtain ⟨dx, l1, l2, x1, x2, hp, _⟩ := id hS
    refine ⟨_, rfl, p, dx, _, rfl, hp, sc_no _ _ _ _ _ (by decide +kernel), _, rfl, _, rfl, p, fi, la, wd, n, o, ks, as, rfl, hS, hl, fun H1 s1 => ?_⟩
    refine ⟨_, rfl, p, dx, _, rfl, s1 _ _ hp, sc_no _ _ _ _ _ (by decide +kernel), _, rfl, _, rfl, p, fi, la, wd, n, o, ks, as, rfl, hS.keep s1, hO, fun H2 s2 => ?_⟩
    exact ⟨_, _, rfl, rfl, kk H2 (s1.trans s2)⟩

def spHolds (CJ CF CS : Addr) : Sp := fun vs H Q _ => ∃ (p : Addr) (fi la : Int) (wd n o : Int) (ks : List Kn) (as : List Ak), vs = [.ref p, .int fi, .int la] ∧ SceneAt CJ CF CS H p wd n o ks as ∧ (-(2 ^ 64) < wd ∧ wd < 2 ^ 64) ∧
  Q (.int (holdN wd o fi la)) H
theorem scHolds : FnScope ["self", "first", "end"] ["self", "first", "end"] (defScope sSHolds) := ⟨rfl, rfl, rfl, by decide +kernel, rfl, by decide +kernel, by decide +kernel⟩
theorem ok_Holds {f : Addr} {fd : FuncData} (F : Fun K "holds" "Scene.holds" sSHolds f fd) (T : Txt K mg CJ CF CS) : FnOk P w K mg base CX0 1 f fd ["self", "first", "end"] (spHolds CJ CF CS) := by
  refine F.ok scHolds (fun vs H Q E h => ?_) (fun cdv A outer s H vs Q E hr h => ?_)
  · obtain ⟨p, fi, la, wd, n, o, ks, as, rfl, _⟩ := h
    rfl
  · obtain ⟨p, fi, la, wd, n, o, ks, as, rfl, ⟨dx, l1, l2, x1, x2, hp, h1, p1, h2, p2⟩, hw, kk⟩ := h
    refine ⟨_, pss_one (ps_ret (pe_op op_mul (pe_fld (pv 0) rfl) (pe_callB (call_max2 rfl) (by rfl) T.max (by decide +kernel) (pa_cons pe_int (pa_cons (pe_op op_sub (pv 2) (pe_callB (call_max2 rfl) (by rfl) T.max (by decide +kernel) (pa_cons (pv 1) (pa_cons (pe_fld (pv 0) rfl) pa_nil)))) pa_nil))))), ?_⟩
    refine ⟨_, rfl, p, CS, dx, _, _, rfl, hp, T.cS, T.nSw, sc_w .., _, rfl, _, rfl, _, rfl, p, CS, dx, _, _, rfl, hp, T.cS, T.nSo, sc_o .., _, _, rfl, ?_⟩
    refine ⟨_, _, rfl, rfl, _, _, rfl, ?_⟩
    refine ⟨_, _, rfl, rfl, .inl hw, ?_⟩
    exact kk

/-! ### new scenes out of a scene -/
def spWAsk (CJ CF CS : Addr) : Sp := fun vs H Q _ => ∃ (p f : Addr) (wd n o : Int) (ks : List Kn) (as : List Ak) (a : Ak), vs = [.ref p, .ref f, .int a.a, .int a.w] ∧ SceneAt CJ CF CS H p wd n o ks as ∧ FlowAt CJ CF H f a.j a.k ∧ (∀ b ∈ as, AkB b) ∧ AkB a ∧ ks.length ≤ 100 ∧ as.length ≤ 100 ∧
  ∀ p' H', Same H H' → H p' = none → SceneN CJ CF CS H H' p' wd n o ks (as ++ [a]) → Q (.ref p') H'
theorem scWAsk : FnScope ["self", "flow", "after", "wait"] ["self", "flow", "after", "wait"] (defScope sSWAsk) := ⟨rfl, rfl, rfl, by decide +kernel, rfl, by decide +kernel, by decide +kernel⟩
theorem ok_WAsk {f : Addr} {fd : FuncData} (F : Fun K "with_ask" "Scene.with_ask" sSWAsk f fd) (T : Txt K mg CJ CF CS) (mkS : C8.Mak P w K mg base 3 "Scene" CS (spSI CJ CF CS) []) : FnOk P w K mg base CX0 5 f fd ["self", "flow", "after", "wait"] (spWAsk CJ CF CS) := by
  refine F.ok scWAsk (fun vs H Q E h => ?_) (fun cdv A outer s H vs Q E hr h => ?_)
  · obtain ⟨p, f', wd, n, o, ks, as, a, rfl, _⟩ := h
    rfl
  · obtain ⟨p, f', wd, n, o, ks, as, a, rfl, ⟨dx, l1, l2, x1, x2, hp, h1, p1, h2, p2⟩, hf, hB, hb, hk, ha, kk⟩ := h
    refine ⟨_, pss_one (ps_ret (C8.pe_mk mkS hr (by decide) rfl (pa_cons (pe_fld (pv 0) rfl) (pa_cons (pe_fld (pv 0) rfl) (pa_cons (pe_fld (pv 0) rfl) (pa_cons (pe_op op_cat (pe_fld (pv 0) rfl) (pe_lst (pa_cons (pe_tup (pa_cons (pv 1) (pa_cons (pv 2) (pa_cons (pv 3) pa_nil)))) pa_nil))) (pa_cons (pe_fld (pv 0) rfl) pa_nil))))))), ?_⟩
    refine ⟨_, rfl, p, CS, dx, _, _, rfl, hp, T.cS, T.nSw, sc_w .., _, rfl, p, CS, dx, _, _, rfl, hp, T.cS, T.nSn, sc_n .., _, rfl, p, CS, dx, _, _, rfl, hp, T.cS, T.nSs, sc_s .., _, rfl, p, CS, dx, _, _, rfl, hp, T.cS, T.nSa, sc_a ..,
      _, rfl, _, rfl, _, rfl, (by show 3 ≤ sizeLine; decide), fun t nt => ⟨(by show 1 ≤ sizeLine; decide), fun m nm => ?_⟩⟩
    have s1 : Same H (upd H t (.tup [.ref f', .int a.a, .int a.w])) := Same.upd0 nt
    have s2 : Same H (upd (upd H t (.tup [.ref f', .int a.a, .int a.w])) m (.lst [.ref t])) := Same.upd s1 (s1.free nm)
    have lx2 := pw_len p2 ha
    refine ⟨l2, m, _, _, rfl, rfl, s2 _ _ h2, upd_same, Nat.le_of_lt (small1000 (by rw [List.length_singleton]; omega)), fun c nc => ?_⟩
    have s3 : Same H (upd (upd (upd H t (.tup [.ref f', .int a.a, .int a.w])) m (.lst [.ref t])) c (.lst (x2 ++ [.ref t]))) := Same.upd s2 (s2.free nc)
    have nj : NJ CJ H (upd (upd (upd H t (.tup [.ref f', .int a.a, .int a.w])) m (.lst [.ref t])) c (.lst (x2 ++ [.ref t]))) := NJ.refl.tup.lst.lst
    have ht : (upd (upd (upd H t (.tup [.ref f', .int a.a, .int a.w])) m (.lst [.ref t])) c (.lst (x2 ++ [.ref t]))) t = some (.tup [.ref f', .int a.a, .int a.w]) := by
      have e1 : t ≠ m := ne_of_none upd_same nm
      have e2 : (upd (upd H t (.tup [.ref f', .int a.a, .int a.w])) m (.lst [.ref t])) t = some (.tup [.ref f', .int a.a, .int a.w]) := by
        rw [upd_ne e1]
        exact upd_same
      rw [upd_ne (ne_of_none e2 nc)]
      exact e2
    refine ⟨_, rfl, p, CS, dx, _, _, rfl, s3 _ _ hp, T.cS, T.nSo, sc_o .., make_scene s3 nj (s3 _ _ h1) (mon_KnR.pairs s3 p1) upd_same (Paired.snoc (mon_OaR.pairs s3 p2) ⟨t, f', rfl, ht, hf.keep s3⟩) (fun b hbm => ?_) (pw_len p1 (by omega)) (by rw [List.length_append, List.length_singleton]; omega) kk⟩
    rcases List.mem_append.mp hbm with q | q
    · exact hB b q
    · rw [List.mem_singleton.mp q]
      exact hb

def spWWidth (CJ CF CS : Addr) : Sp := fun vs H Q _ => ∃ (p : Addr) (wd wd' n o : Int) (ks : List Kn) (as : List Ak), vs = [.ref p, .int wd'] ∧ SceneAt CJ CF CS H p wd n o ks as ∧ (∀ b ∈ as, AkB b) ∧ ks.length ≤ 100 ∧ as.length ≤ 100 ∧
  ∀ p' H', Same H H' → H p' = none → SceneN CJ CF CS H H' p' wd' n o ks as → Q (.ref p') H'
theorem scWWidth : FnScope ["self", "width"] ["self", "width"] (defScope sSWWidth) := ⟨rfl, rfl, rfl, by decide +kernel, rfl, by decide +kernel, by decide +kernel⟩
theorem ok_WWidth {f : Addr} {fd : FuncData} (F : Fun K "with_width" "Scene.with_width" sSWWidth f fd) (T : Txt K mg CJ CF CS) (mkS : C8.Mak P w K mg base 3 "Scene" CS (spSI CJ CF CS) []) : FnOk P w K mg base CX0 5 f fd ["self", "width"] (spWWidth CJ CF CS) := by
  refine F.ok scWWidth (fun vs H Q E h => ?_) (fun cdv A outer s H vs Q E hr h => ?_)
  · obtain ⟨p, wd, wd', n, o, ks, as, rfl, _⟩ := h
    rfl
  · obtain ⟨p, wd, wd', n, o, ks, as, rfl, ⟨dx, l1, l2, x1, x2, hp, h1, p1, h2, p2⟩, hB, hk, ha, kk⟩ := h
    refine ⟨_, pss_one (ps_ret (C8.pe_mk mkS hr (by decide) rfl (pa_cons (pv 1) (pa_cons (pe_fld (pv 0) rfl) (pa_cons (pe_fld (pv 0) rfl) (pa_cons (pe_fld (pv 0) rfl) (pa_cons (pe_fld (pv 0) rfl) pa_nil))))))), ?_⟩
    refine ⟨_, rfl, _, rfl, p, CS, dx, _, _, rfl, hp, T.cS, T.nSn, sc_n .., _, rfl, p, CS, dx, _, _, rfl, hp, T.cS, T.nSs, sc_s .., _, rfl, p, CS, dx, _, _, rfl, hp, T.cS, T.nSa, sc_a ..,
      _, rfl, p, CS, dx, _, _, rfl, hp, T.cS, T.nSo, sc_o .., make_scene (Same.refl _) NJ.refl h1 p1 h2 p2 hB (pw_len p1 (by omega)) (pw_len p2 (by omega)) kk⟩

def spWOpens (CJ CF CS : Addr) : Sp := fun vs H Q _ => ∃ (p : Addr) (wd n o o' : Int) (ks : List Kn) (as : List Ak), vs = [.ref p, .int o'] ∧ SceneAt CJ CF CS H p wd n o ks as ∧ (∀ b ∈ as, AkB b) ∧ ks.length ≤ 100 ∧ as.length ≤ 100 ∧
  ∀ p' H', Same H H' → H p' = none → SceneN CJ CF CS H H' p' wd n o' ks as → Q (.ref p') H'
theorem scWOpens : FnScope ["self", "opens"] ["self", "opens"] (defScope sSWOpens) := ⟨rfl, rfl, rfl, by decide +kernel, rfl, by decide +kernel, by decide +kernel⟩
theorem ok_WOpens {f : Addr} {fd : FuncData} (F : Fun K "with_opens" "Scene.with_opens" sSWOpens f fd) (T : Txt K mg CJ CF CS) (mkS : C8.Mak P w K mg base 3 "Scene" CS (spSI CJ CF CS) []) : FnOk P w K mg base CX0 5 f fd ["self", "opens"] (spWOpens CJ CF CS) := by
  refine F.ok scWOpens (fun vs H Q E h => ?_) (fun cdv A outer s H vs Q E hr h => ?_)
  · obtain ⟨p, wd, n, o, o', ks, as, rfl, _⟩ := h
    rfl
  · obtain ⟨p, wd, n, o, o', ks, as, rfl, ⟨dx, l1, l2, x1, x2, hp, h1, p1, h2, p2⟩, hB, hk, ha, kk⟩ := h
    refine ⟨_, pss_one (ps_ret (C8.pe_mk mkS hr (by decide) rfl (pa_cons (pe_fld (pv 0) rfl) (pa_cons (pe_fld (pv 0) rfl) (pa_cons (pe_fld (pv 0) rfl) (pa_cons (pe_fld (pv 0) rfl) (pa_cons (pv 1) pa_nil))))))), ?_⟩
    refine ⟨_, rfl, p, CS, dx, _, _, rfl, hp, T.cS, T.nSw, sc_w .., _, rfl, p, CS, dx, _, _, rfl, hp, T.cS, T.nSn, sc_n .., _, rfl, p, CS, dx, _, _, rfl, hp, T.cS, T.nSs, sc_s .., _, rfl, p, CS, dx, _, _, rfl, hp, T.cS, T.nSa, sc_a ..,
      _, rfl, make_scene (Same.refl _) NJ.refl h1 p1 h2 p2 hB (pw_len p1 (by omega)) (pw_len p2 (by omega)) kk⟩
end
end Hl
set_option Elab.async false
set_option maxRecDepth 100000
set_option maxHeartbeats 4000000
set_option linter.all false
/-! the law's drawing: the state, take, pick, some, ask, known -/
namespace Hl
open PySem L2
def stK (g c : Addr) (r t s : Int) : List (Key × V) := [(.inr "great", .ref g), (.inr "rest", .int r), (.inr "turn", .int t), (.inr "seed", .int s), (.inr "cells", .ref c)]
theorem stK_great (g c : Addr) (r t s : Int) : valV (stK g c r t s) (Sum.inr "great" : Key) = some (.ref g) := by kernel_rfl
theorem stK_rest (g c : Addr) (r t s : Int) : valV (stK g c r t s) (Sum.inr "rest" : Key) = some (.int r) := by kernel_rfl
theorem stK_turn (g c : Addr) (r t s : Int) : valV (stK g c r t s) (Sum.inr "turn" : Key) = some (.int t) := by kernel_rfl
theorem stK_seed (g c : Addr) (r t s : Int) : valV (stK g c r t s) (Sum.inr "seed" : Key) = some (.int s) := by kernel_rfl
theorem stK_cells (g c : Addr) (r t s : Int) : valV (stK g c r t s) (Sum.inr "cells" : Key) = some (.ref c) := by kernel_rfl
theorem stK_putR (g c : Addr) (r t s r' : Int) : putK (stK g c r t s) (Sum.inr "rest" : Key) (.int r') = stK g c r' t s := by kernel_rfl
theorem stK_putT (g c : Addr) (r t s t' : Int) : putK (stK g c r t s) (Sum.inr "turn" : Key) (.int t') = stK g c r t' s := by kernel_rfl
theorem stK_putS (g c : Addr) (r t s s' : Int) : putK (stK g c r t s) (Sum.inr "seed" : Key) (.int s') = stK g c r t s' := by kernel_rfl
section
variable {H : Hp} {st g c : Addr} {r t s : Int}
theorem st_great (e : H st = some (.dK (stK g c r t s))) : DGet H st (.str "great") (some (.ref g)) := by
  have q := DGet.k (k := Sum.inr "great") e
  rw [stK_great] at q
  exact q
theorem st_rest (e : H st = some (.dK (stK g c r t s))) : DGet H st (.str "rest") (some (.int r)) := by
  have q := DGet.k (k := Sum.inr "rest") e
  rw [stK_rest] at q
  exact q
theorem st_turn (e : H st = some (.dK (stK g c r t s))) : DGet H st (.str "turn") (some (.int t)) := by
  have q := DGet.k (k := Sum.inr "turn") e
  rw [stK_turn] at q
  exact q
theorem st_seed (e : H st = some (.dK (stK g c r t s))) : DGet H st (.str "seed") (some (.int s)) := by
  have q := DGet.k (k := Sum.inr "seed") e
  rw [stK_seed] at q
  exact q
theorem st_cells (e : H st = some (.dK (stK g c r t s))) : DGet H st (.str "cells") (some (.ref c)) := by
  have q := DGet.k (k := Sum.inr "cells") e
  rw [stK_cells] at q
  exact q
theorem st_putR (e : H st = some (.dK (stK g c r t s))) (r' : Int) : DPut H st (.str "rest") (.int r') (upd H st (.dK (stK g c r' t s))) := by
  have q := DPut.k (k := Sum.inr "rest") (v := .int r') e (by show 5 < sizeLine; decide)
  rw [stK_putR] at q
  exact q
theorem st_putT (e : H st = some (.dK (stK g c r t s))) (t' : Int) : DPut H st (.str "turn") (.int t') (upd H st (.dK (stK g c r t' s))) := by
  have q := DPut.k (k := Sum.inr "turn") (v := .int t') e (by show 5 < sizeLine; decide)
  rw [stK_putT] at q
  exact q
theorem st_putS (e : H st = some (.dK (stK g c r t s))) (s' : Int) : DPut H st (.str "seed") (.int s') (upd H st (.dK (stK g c r t s'))) := by
  have q := DPut.k (k := Sum.inr "seed") (v := .int s') e (by show 5 < sizeLine; decide)
  rw [stK_putS] at q
  exact q
end
/-- what holds of a state at st, its great cells at g; n: how many turns there were at most -/
structure StAt (H : Hp) (st g c : Addr) (gr ce : List Int) (r t s n : Int) : Prop where
  d : H st = some (.dK (stK g c r t s))
  hg : H g = some (.lst (gr.map V.int))
  hc : H c = some (.lst (ce.map V.int))
  ne : c ≠ g
  g0 : ∀ x ∈ gr, 0 ≤ x
  gl : gr.length ≤ 100
  r0 : 0 ≤ r
  t0 : 0 ≤ t
  tn : t ≤ n
  s0 : 0 ≤ s
  s1 : s < 2147483647
  c1 : 0 < ce.length
  cl : ce.length ≤ 100
  cb : ∀ x ∈ ce, 0 ≤ x ∧ x < 2147483629
def StI (H : Hp) (st g c : Addr) (n : Int) : Prop := ∃ gr ce r t s, StAt H st g c gr ce r t s n
theorem StAt.keep {H H' : Hp} {st g c : Addr} {gr ce : List Int} {r t s n : Int} (k : Same H H') (h : StAt H st g c gr ce r t s n) : StAt H' st g c gr ce r t s n := { h with d := k _ _ h.d, hg := k _ _ h.hg, hc := k _ _ h.hc }
theorem StI.keep {H H' : Hp} {st g c : Addr} {n : Int} (k : Same H H') (h : StI H st g c n) : StI H' st g c n := let ⟨gr, ce, r, t, s, q⟩ := h; ⟨gr, ce, r, t, s, q.keep k⟩
theorem StI.mono {H : Hp} {st g c : Addr} {n m : Int} (h : StI H st g c n) (l : n ≤ m) : StI H st g c m := let ⟨gr, ce, r, t, s, q⟩ := h; ⟨gr, ce, r, t, s, { q with tn := Int.le_trans q.tn l }⟩
theorem StAt.nsg {H : Hp} {st g c : Addr} {gr ce : List Int} {r t s n : Int} (h : StAt H st g c gr ce r t s n) : st ≠ g := ne_of h.d h.hg fun z => nomatch z
theorem StAt.nsc {H : Hp} {st g c : Addr} {gr ce : List Int} {r t s n : Int} (h : StAt H st g c gr ce r t s n) : st ≠ c := ne_of h.d h.hc fun z => nomatch z
/-- the numbers stored anew -/
theorem StAt.put {H : Hp} {st g c : Addr} {gr ce : List Int} {r t s n r' t' s' n' : Int} (h : StAt H st g c gr ce r t s n) (r0 : 0 ≤ r') (t0 : 0 ≤ t') (tn : t' ≤ n') (s0 : 0 ≤ s') (s1 : s' < 2147483647) :
    StAt (upd H st (.dK (stK g c r' t' s'))) st g c gr ce r' t' s' n' :=
  { h with d := upd_same, hg := by rw [upd_ne h.nsg.symm]; exact h.hg, hc := by rw [upd_ne h.nsc.symm]; exact h.hc, r0 := r0, t0 := t0, tn := tn, s0 := s0, s1 := s1 }
theorem Keep.mem {M : List Addr} {H H' : Hp} {p : Addr} {o : HO} (k : Keep M H H') (h : p ∈ M) : Keep M H (L2.upd H' p o) := fun b u e n => by
  have q : b ≠ p := fun z => by subst z; exact n h
  rw [upd_ne q]
  exact k b u e n
theorem Keep.new {M : List Addr} {H H' : Hp} {p : Addr} {o : HO} (k : Keep M H H') (h : H' p = none) : Keep M H (L2.upd H' p o) := fun b u e n => by
  have q := k b u e n
  rw [upd_ne (ne_of_none q h)]
  exact q
theorem dp_ints {K : PySem.W.Frag} {H : Hp} {a : Addr} {ns : List Int} (h : H a = some (.lst (ns.map V.int))) : Dp K H (.ref a) (.list (ns.map PyData.int)) := by
  refine .lst (SqL.of h) ?_
  induction ns with
  | nil => exact .nil
  | cons n ns ih =>
    have all : ∀ l : List Int, DpAll K H (l.map V.int) (l.map PyData.int) := fun l => by
      induction l with
      | nil => exact .nil
      | cons n l ih => exact .cons (.int n) ih
    exact all _
theorem shp_list {ds : List PyData} (h : ∀ d ∈ ds, d.canLay0 = true ∧ d.depth ≤ 63) : SeqAt.shaped (.list ds) = true := by
  have h1 : ∀ l : List PyData, (∀ d ∈ l, d.canLay0 = true ∧ d.depth ≤ 63) → PyData.canLayAll0 l = true ∧ PyData.depthAll l ≤ 63 := fun l => by
    induction l with
    | nil => exact fun _ => ⟨rfl, Nat.zero_le _⟩
    | cons d l ih =>
      intro q
      obtain ⟨a, b⟩ := ih fun e he => q e (List.mem_cons_of_mem _ he)
      obtain ⟨a', b'⟩ := q d (List.mem_cons_self ..)
      exact ⟨by show (d.canLay0 && PyData.canLayAll0 l) = true; rw [a, a']; rfl, Nat.max_le.mpr ⟨b', b⟩⟩
  obtain ⟨a, b⟩ := h1 ds h
  show (PyData.canLayAll0 ds && decide (PyData.depthAll ds + 1 ≤ 64)) = true
  rw [a, decide_eq_true (by omega)]
  rfl
theorem shp_ints (ns : List Int) : SeqAt.shaped (.list (ns.map PyData.int)) = true := shp_list fun d hd => by
  obtain ⟨n, _, rfl⟩ := List.mem_map.mp hd
  exact ⟨rfl, Nat.zero_le _⟩
theorem pos_pow64 {t : Int} (h0 : 0 ≤ t) (h1 : t ≤ 100000) : t.natAbs < 2 ^ 64 := by omega
theorem pos_pow31 {t : Int} (h0 : 0 ≤ t) (h1 : t < 2147483647) : t.natAbs < 2 ^ 64 := by omega
theorem pow_nn {a : Int} (h : 0 ≤ a) (n : Nat) : 0 ≤ a ^ n := Int.pow_nonneg h
section
variable {P : Program} {w : World} {K : PySem.W.Frag} {mg : Str → Option Value} {base : Heap} {CJ CF CS : Addr}
def bigM : Int := 10 ^ 41
theorem bigM_lt : bigM < 2 ^ 200 := by unfold bigM; decide
def spTake : Sp := fun vs H Q _ => ∃ (st g c : Addr) (n m : Int), vs = [.ref st, .int m] ∧ StI H st g c n ∧ n ≤ 99999 ∧ 0 < m ∧ m ≤ bigM ∧
  ∀ r H', 0 ≤ r → r < m → Keep [st, g] H H' → StI H' st g c (n + 1) → Q (.int r) H'
abbrev NTk : List Str := ["_law_state", "_law_many", "_law_found", "_law_turn", "_law_cell", "_law_seed", "_law_mixed"]
theorem scTake : FnScope NTk ["_law_state", "_law_many"] (defScope sTake) := ⟨rfl, rfl, rfl, by decide +kernel, rfl, by decide +kernel, by decide +kernel⟩
theorem ok_Take {f : Addr} {fd : FuncData} (F : Fun K "_law_take" "_law_take" sTake f fd) (T : Txt K mg CJ CF CS) : FnOk P w K mg base CX0 1 f fd ["_law_state", "_law_many"] spTake := by
  refine F.ok scTake (fun vs H Q E h => ?_) (fun cdv A outer s H vs Q E hr h => ?_)
  · obtain ⟨st, g, c, n, m, rfl, _⟩ := h
    rfl
  · obtain ⟨st, g, c, n, m, rfl, ⟨gr, ce, r, t, sd, S⟩, hn, m0, m1, kk⟩ := h
    have hu := hu_of hr
    refine ⟨_, C8.pss_cut (ps_if (PW.pt (pw_and (pt_cmpR op_eq (pe_dget hu (pv 0) pe_str (fun _ _ => rfl)) pe_int (nomark _)) (pw_and1 (pt_cmpR (op_neD hr.units) (pe_dget hu (pv 0) pe_str (fun _ _ => rfl)) (pe_lst pa_nil) (nomark _)))))
        (pss_one (ps_dput hu (pv 0) pe_str (pe_bm PySem.F.plainAttrs_list PySem.F.slot_list_pop PySem.F.type_list_pop mt_popAt (pe_dget hu (pv 0) pe_str (fun _ _ => rfl)) (pa_cons pe_int pa_nil)) rfl)) pss_nil)
      (pss_cons (ps_if (pt_cmpR op_gt (pe_dget hu (pv 0) pe_str (fun _ _ => rfl)) pe_int (nomark _))
        (pss_cons (ps_set (i := 2) scTake.nd rfl (Or.inl rfl) (pe_op op_mod (pe_dget hu (pv 0) pe_str (fun _ _ => rfl)) (pv 1)))
          (pss_cons (ps_dput hu (pv 0) pe_str (pe_op op_fdivW (pe_dget hu (pv 0) pe_str (fun _ _ => rfl)) (pv 1)) rfl) (pss_one (ps_ret (pv 2))))) pss_nil)
      (pss_cons (ps_set (i := 3) scTake.nd rfl (Or.inl rfl) (pe_dget hu (pv 0) pe_str (fun _ _ => rfl)))
      (pss_cons (ps_dput hu (pv 0) pe_str (pe_op op_add (pv 3) pe_int) rfl)
      (pss_cons (ps_set (i := 4) scTake.nd rfl (Or.inl rfl) (pe_ix ix_list (pe_dget hu (pv 0) pe_str (fun _ _ => rfl)) (pe_op op_mod (pv 3) (pe_callB call_len_seq (by rfl) T.len PySem.boot_len (pa_cons (pe_dget hu (pv 0) pe_str (fun _ _ => rfl)) pa_nil))) (fun _ _ => rfl)))
      (pss_cons (ps_set (i := 5) scTake.nd rfl (Or.inl rfl) (pe_op op_mod (pe_op op_add (pe_op op_add (pe_op op_mul (pe_dget hu (pv 0) pe_str (fun _ _ => rfl)) pe_int) (pe_op op_mul (pv 4) (pe_op op_add (pe_op op_mul pe_int (pv 3)) pe_int))) (pe_op op_pow (pv 3) pe_int)) pe_int))
      (pss_cons (ps_dput hu (pv 0) pe_str (pv 5) rfl)
      (pss_cons (ps_set (i := 6) scTake.nd rfl (Or.inl rfl) (pe_op op_add (pe_op op_mul (pe_op op_mod (pe_op op_pow (pv 5) pe_int) pe_int) pe_int) (pe_op op_mod (pe_op op_pow (pv 5) pe_int) pe_int)))
      (pss_one (ps_ret (pe_op op_mod (pe_op op_fdiv (pv 6) pe_int) (pv 1))))))))))), ?_⟩
    refine ⟨fun σ H' => σ = [some (.ref st), some (.int m), none, none, none, none, none] ∧ Keep [st, g] H H' ∧ ∃ gr' r', StAt H' st g c gr' ce r' t sd n, ?_, ?_⟩
    · -- the first if
      refine ⟨_, rfl, st, _, rfl, st_rest S.d, rfl, _, rfl, ?_⟩
      by_cases e1 : r = 0
      · subst e1
        refine iteT ⟨_, rfl, st, _, rfl, st_great S.d, (by show 0 ≤ sizeLine; decide), fun l nl => ?_⟩
        have S1 := S.keep (Same.upd0 nl (o := .lst []))
        refine ⟨_, _, dp_ints S1.hg, .lst (SqL.of upd_same) .nil, shp_ints _, rfl, _, rfl, ?_⟩
        cases gr with
        | nil =>
          refine iteF ?_
          exact ⟨rfl, Keep.of (Same.upd0 nl), _, _, S1⟩
        | cons x gr =>
          refine iteT ?_
          have h0 : (upd H l (.lst [])) g = some (.lst ((x :: gr).map V.int)) := S1.hg
          refine ⟨_, rfl, st, _, rfl, st_great S1.d, .inl ⟨rfl, _, SqL.of h0⟩, g, _, 0, 0, _, rfl, rfl, h0, by decide, by decide, seqIndex_of (by decide) (by rw [List.length_map, List.length_cons]; omega), rfl, ?_⟩
          have e3 : st ≠ g := S.nsg
          have S2 : StAt (upd (upd H l (.lst [])) g (.lst (gr.map V.int))) st g c gr ce 0 t sd n :=
            { S1 with d := by rw [upd_ne e3]; exact S1.d, hg := upd_same, hc := by rw [upd_ne S1.ne]; exact S1.hc, g0 := fun y hy => S.g0 y (List.mem_cons_of_mem _ hy), gl := by have := S.gl; rw [List.length_cons] at this; omega }
          refine ⟨_, rfl, st, _, rfl, st_putR S2.d x, ?_⟩
          have kS : Keep [st, g] H (upd (upd H l (.lst [])) g (.lst (gr.map V.int))) := (Keep.of (Same.upd0 nl)).mem (by simp)
          exact ⟨rfl, kS.mem (by simp), _, _, S2.put (S.g0 x (List.mem_cons_self ..)) S2.t0 S2.tn S2.s0 S2.s1⟩
      · have e2 : decide (V.int r = V.int 0) = false := decide_eq_false fun z => e1 (V.int.inj z)
        rw [e2]
        refine iteF (iteF ?_)
        exact ⟨rfl, Keep.refl, _, _, S⟩
    · rintro σ H' ⟨rfl, k1, gr', r', S1⟩
      refine ⟨_, rfl, st, _, rfl, st_rest S1.d, _, _, rfl, rfl, _, rfl, ?_⟩
      by_cases e1 : 0 < r'
      · rw [decide_eq_true e1]
        refine iteT ⟨_, rfl, st, _, rfl, st_rest S1.d, _, rfl, _, _, rfl, rfl, m0, ?_⟩
        refine ⟨_, rfl, st, _, rfl, st_rest S1.d, _, rfl, _, _, rfl, rfl, ?_, ?_⟩
        · exact wide_div m0 (b := 200) (by have := bigM_lt; omega) (by decide) (by decide)
        · have q0 : 0 ≤ r' / m := Int.ediv_nonneg S1.r0 (by omega)
          refine ⟨_, rfl, st, _, rfl, st_putR S1.d (r' / m), ?_⟩
          refine ⟨_, rfl, ?_⟩
          exact kk _ _ (Int.emod_nonneg _ (by omega)) (Int.emod_lt_of_pos _ m0) (k1.mem (by simp)) ⟨_, _, _, _, _, S1.put q0 S1.t0 (by have := S1.tn; omega) S1.s0 S1.s1⟩
      · rw [decide_eq_false e1]
        refine iteF ?_
        have t0 := S1.t0
        have tn := S1.tn
        have cl0 := S1.c1
        refine ⟨_, rfl, st, _, rfl, st_turn S1.d, ?_⟩
        -- turn + 1
        have S2 : StAt (upd H' st (.dK (stK g c r' (t + 1) sd))) st g c gr' ce r' (t + 1) sd (n + 1) := S1.put S1.r0 (by omega) (by omega) S1.s0 S1.s1
        refine ⟨_, rfl, _, _, rfl, rfl, _, rfl, st, _, rfl, st_putT S1.d (t + 1), ?_⟩
        -- the cell
        have lm : (ce.map V.int).length = ce.length := List.length_map ..
        obtain ⟨k, hk, hkl⟩ : ∃ k : Nat, t % ((ce.map V.int).length : Int) = (k : Int) ∧ k < ce.length := by
          rw [lm]
          have h1 := Int.emod_nonneg t (b := (ce.length : Int)) (by omega)
          have h2 := Int.emod_lt_of_pos t (b := (ce.length : Int)) (by omega)
          exact ⟨(t % (ce.length : Int)).toNat, by omega, by omega⟩
        have hcell : (ce.map V.int)[k]? = some (.int ce[k]) := by rw [List.getElem?_map, List.getElem?_eq_getElem hkl]; rfl
        have cb := S1.cb ce[k] (List.getElem_mem hkl)
        refine ⟨_, rfl, st, _, rfl, st_cells S2.d, _, rfl, _, rfl, st, _, rfl, st_cells S2.d, c, _, rfl, .inl (SqL.of S2.hc), _, _, rfl, rfl, (by rw [lm]; omega), c, _, _, .int ce[k], rfl, rfl, SqL.of S2.hc, (by rw [hk]; exact atI_nat hcell), ?_⟩
        -- the seed
        have s0 := S1.s0
        have s1 := S1.s1
        refine ⟨_, rfl, st, _, rfl, st_seed S2.d, _, _, rfl, rfl, .inl ⟨by omega, by omega⟩, _, rfl, _, rfl, _, _, rfl, rfl, .inl ⟨by decide, by decide⟩, _, _, rfl, rfl, _, _, rfl, rfl, .inl ⟨by omega, by omega⟩, _, _, rfl, rfl,
          _, rfl, _, _, rfl, rfl, ⟨by decide, by decide, pos_pow64 t0 (by omega)⟩, _, _, rfl, rfl, _, _, rfl, rfl, (by show (0 : Int) < 2147483647; decide), ?_⟩
        have y0 : 0 ≤ (sd * 48271 + ce[k] * (2 * t + 3) + t ^ (3 : Int).toNat) % 2147483647 := Int.emod_nonneg _ (by decide)
        have y1 : (sd * 48271 + ce[k] * (2 * t + 3) + t ^ (3 : Int).toNat) % 2147483647 < 2147483647 := Int.emod_lt_of_pos _ (by decide)
        have S3 := S2.put S2.r0 S2.t0 S2.tn y0 y1
        have yb := pos_pow31 y0 y1
        refine ⟨_, rfl, _, rfl, st, _, rfl, st_putS S2.d _, ?_⟩
        refine ⟨_, rfl, _, _, rfl, rfl, ⟨by decide, by decide, yb⟩, _, _, rfl, rfl, (by show (0 : Int) < 2147483629; decide), _, _, rfl, rfl, .inr ⟨by decide, by decide⟩, _, rfl, _, _, rfl, rfl, ⟨by decide, by decide, yb⟩, _, _, rfl, rfl, (by show (0 : Int) < 2147483579; decide), _, _, rfl, rfl, ?_⟩
        refine ⟨_, rfl, _, _, rfl, rfl, ⟨by decide, by decide⟩, _, rfl, _, _, rfl, rfl, m0, ?_⟩
        exact kk _ _ (Int.emod_nonneg _ (by omega)) (Int.emod_lt_of_pos _ m0) ((k1.mem (by simp)).mem (by simp)) ⟨_, _, _, _, _, S3⟩

end
end Hl
set_option Elab.async false
set_option maxRecDepth 100000
set_option maxHeartbeats 4000000
set_option linter.all false
/-! begun, pick, some, ask, known -/
namespace Hl
open PySem L2
theorem StI.dat {H : Hp} {st g c : Addr} {n : Int} (S : StI H st g c n) : ∃ kvs gs, H st = some (.dK kvs) ∧ H g = some (.lst gs) := let ⟨_, _, _, _, _, q⟩ := S; ⟨_, _, q.d, q.hg⟩
/-- what is neither a dict nor a list stands, when a state goes on -/
theorem StI.out {H H' : Hp} {st g c : Addr} {n : Int} (S : StI H st g c n) (k : Keep [st, g] H H') {t : Addr} {o : HO} (h : H t = some o) (h1 : ∀ kvs, o ≠ .dK kvs) (h2 : ∀ xs, o ≠ .lst xs) : H' t = some o := by
  obtain ⟨kvs, gs, e1, e2⟩ := S.dat
  refine k t o h fun z => ?_
  rcases List.mem_cons.mp z with q | q
  · rw [q, e1] at h
    exact h1 _ (Option.some.inj h).symm
  · rw [List.mem_singleton.mp q, e2] at h
    exact h2 _ (Option.some.inj h).symm
theorem StI.tup {H H' : Hp} {st g c : Addr} {n : Int} (S : StI H st g c n) (k : Keep [st, g] H H') {t : Addr} {xs : List V} (h : H t = some (.tup xs)) : H' t = some (.tup xs) := S.out k h (fun _ z => nomatch z) fun _ z => nomatch z
theorem StI.ne {H0 : Hp} {st g c : Addr} {n : Int} (S : StI H0 st g c n) {t : Addr} (h : H0 t = none) : t ∉ [st, g] := fun z => by
  obtain ⟨kvs, gs, e1, e2⟩ := S.dat
  rcases List.mem_cons.mp z with q | q
  · rw [q, e1] at h
    cases h
  · rw [List.mem_singleton.mp q, e2] at h
    cases h
theorem Keep.none {M : List Addr} {H H' : Hp} (k : Keep M H H') (hM : ∀ x ∈ M, H x ≠ Option.none → H' x ≠ Option.none) {t : Addr} (h : H' t = Option.none) : H t = Option.none := by
  cases e : H t with
  | none => rfl
  | some u =>
    by_cases q : t ∈ M
    · exact absurd h (hM t q (by rw [e]; exact fun z => nomatch z))
    · rw [k t u e q] at h
      cases h
/-- what is new behind the state's going on was free ahead of it -/
theorem StI.free {H H' : Hp} {st g c : Addr} {m : Int} (S : StI H' st g c m) (k : Keep [st, g] H H') {t : Addr} (h : H' t = none) : H t = none := by
  obtain ⟨kvs, gs, e1, e2⟩ := S.dat
  refine k.none (fun x hx _ => ?_) h
  rcases List.mem_cons.mp hx with q | q
  · rw [q, e1]
    exact fun z => nomatch z
  · rw [List.mem_singleton.mp q, e2]
    exact fun z => nomatch z
/-- an ask as the law holds it: ((size, rate, mouth), marks, after, wait) -/
def AkR (H : Hp) (x : V) (a : Ak) : Prop := ∃ p q, x = .ref p ∧ H p = some (.tup [.ref q, .int a.k, .int a.a, .int a.w]) ∧ H q = some (.tup [.int a.j.s, .int a.j.r, .int a.j.m])
theorem mon_AkR : MonL AkR := ⟨fun s ⟨p, q, e, h, h'⟩ => ⟨p, q, e, s _ _ h, s _ _ h'⟩, fun hD ⟨p, q, e, h, h'⟩ => ⟨p, q, e, by rw [upd_ne (ne_of h hD (fun z => nomatch z))]; exact h, by rw [upd_ne (ne_of h' hD (fun z => nomatch z))]; exact h'⟩⟩
theorem AkR.go {H H' : Hp} {st g c : Addr} {n : Int} {x : V} {a : Ak} (S : StI H st g c n) (k : Keep [st, g] H H') (h : AkR H x a) : AkR H' x a := let ⟨p, q, e, h1, h2⟩ := h; ⟨p, q, e, S.tup k h1, S.tup k h2⟩
theorem KnR.go {H H' : Hp} {st g c : Addr} {n : Int} {x : V} {a : Kn} (S : StI H st g c n) (k : Keep [st, g] H H') (h : KnR H x a) : KnR H' x a := let ⟨p, e, h1⟩ := h; ⟨p, e, S.tup k h1⟩
theorem paired_ints : ∀ ns : List Int, Paired (fun (x : V) (n : Int) => x = .int n) (ns.map V.int) ns
  | [] => .nil
  | n :: ns => .cons rfl (paired_ints ns)
section
variable {P : Program} {w : World} {K : PySem.W.Frag} {mg : Str → Option Value} {base : Heap} {CJ CF CS : Addr}
def spBegun (K : PySem.W.Frag) : Sp := fun vs H Q _ => ∃ (a : Addr) (ns : List Int), vs = [.ref a] ∧ SqL K H a (ns.map V.int) ∧ ns.length ≤ 63 ∧ ∀ st g c H', Same H H' → StI H' st g c 0 → Q (.ref st) H'
abbrev NBg : List Str := ["_law_script", "_law_cell"]
theorem scBegun : FnScope NBg ["_law_script"] (defScope sBegun) := ⟨rfl, rfl, rfl, by decide +kernel, rfl, by decide +kernel, by decide +kernel⟩
theorem stK_new (g c : Addr) : mergeK [] [(Sum.inr "great", V.ref g), (Sum.inr "rest", .int 0), (Sum.inr "turn", .int 0), (Sum.inr "seed", .int 7), (Sum.inr "cells", .ref c)] = stK g c 0 0 7 := by kernel_rfl
theorem ok_Begun {f : Addr} {fd : FuncData} (F : Fun K "_law_begun" "_law_begun" sBegun f fd) (T : Txt K mg CJ CF CS) : FnOk P w K mg base CX0 1 f fd ["_law_script"] (spBegun K) := by
  refine F.ok scBegun (fun vs H Q E h => ?_) (fun cdv A outer s H vs Q E hr h => ?_)
  · obtain ⟨a, ns, rfl, _⟩ := h
    rfl
  · obtain ⟨a, ns, rfl, hS, hl, kk⟩ := h
    refine ⟨_, pss_one (ps_ret (pe_disp (pps_cons pe_str (pe_lc (own := [("_law_cell", 1)]) (g := gName 1) rfl scBegun.nd (pi_list (pv 0)) (blkOk_by (N := NBg) (sc := defScope sBegun) (by decide +kernel)) (fun _ _ _ _ _ => pg_name (i := 1) scBegun.nd rfl (Or.inl rfl))
          (fun _ _ _ _ _ => pts_one (pt_cmpR op_ge (pv 1) (pe_op op_pow pe_int pe_int) (nomark _))) (fun _ _ _ _ _ => pv 1))
        (pps_cons pe_str pe_int (pps_cons pe_str pe_int (pps_cons pe_str pe_int (pps_cons pe_str (pe_op op_cat
          (pe_lc (own := [("_law_cell", 1)]) (g := gName 1) rfl scBegun.nd (pi_list (pv 0)) (blkOk_by (N := NBg) (sc := defScope sBegun) (by decide +kernel)) (fun _ _ _ _ _ => pg_name (i := 1) scBegun.nd rfl (Or.inl rfl))
            (fun _ _ _ _ _ => pts_nil) (fun _ _ _ _ _ => pe_op op_mod (pv 1) pe_int)) (pe_lst (pa_cons pe_int pa_nil))) pps_nil))))) (by rfl) (by rfl) (fun z => by cases z) (by decide))), ?_⟩
    have lm : (ns.map V.int).length ≤ 1000 := by rw [List.length_map]; omega
    intro st nst
    have s0 : Same H (upd H st (.dK [])) := Same.upd0 nst
    refine ⟨_, rfl, a, rfl, ⟨_, s0.seq hS⟩, fun D hD => lc_sel (a := a) (Ri := fun x n => x = .int n) (p := fun n => decide ((10 : Int) ^ (18 : Int).toNat ≤ n)) (f := V.int) hD (s0.seq hS) (paired_ints ns) lm ?_ ?_⟩
    · rintro i x n H1 hx hd rfl s1 N N' kN kN'
      refine ⟨rfl, _, rfl, _, _, rfl, rfl, ⟨by decide, by decide, by decide⟩, _, _, rfl, rfl, _, rfl, ?_⟩
      by_cases e : (10 : Int) ^ (18 : Int).toNat ≤ n
      · rw [decide_eq_true e] at kN ⊢
        exact iteT ⟨_, rfl, kN rfl _ (Same.refl _)⟩
      · rw [decide_eq_false e] at kN' ⊢
        exact iteF (kN' rfl _ (Same.refl _))
    · rintro H1 s1 h1
      have s01 := s0.trans s1
      refine ⟨_, rfl, a, rfl, ⟨_, s01.seq hS⟩, fun D2 hD2 => lc_sel (a := a) (Ri := fun x n => x = .int n) (p := fun n => true) (f := fun n => V.int (n % 2147483629)) hD2 (s01.seq hS) (paired_ints ns) lm ?_ ?_⟩
      · rintro i x n H2 hx hd rfl s2 N N' kN kN'
        exact ⟨rfl, iteT (B := N' H2) ⟨_, rfl, _, _, rfl, rfl, (by show (0 : Int) < 2147483629; decide), kN rfl _ (Same.refl _)⟩⟩
      · rintro H2 s2 h2
        rw [List.filter_eq_self.mpr (fun _ _ => rfl)] at h2
        refine ⟨(by show 1 ≤ sizeLine; decide), fun m nm => ?_⟩
        have s3 : Same H2 (upd H2 m (.lst [.int 77])) := Same.upd0 nm
        refine ⟨D2, m, _, _, rfl, rfl, s3 _ _ h2, upd_same, Nat.le_of_lt (small1000 (by rw [List.length_map, List.length_singleton]; omega)), fun c nc => ?_⟩
        have s4 := Same.upd s3 (s3.free nc) (o := .lst (ns.map (fun n => V.int (n % 2147483629)) ++ [.int 77]))
        have sA : Same H1 (upd (upd H2 m (.lst [.int 77])) c (.lst (ns.map (fun n => V.int (n % 2147483629)) ++ [.int 77]))) := s2.trans s4
        have hst : (upd (upd H2 m (.lst [.int 77])) c (.lst (ns.map (fun n => V.int (n % 2147483629)) ++ [.int 77]))) st = some (.dK []) := sA _ _ (s1 _ _ upd_same)
        refine ⟨hst, [(Sum.inr "great", V.ref D), (Sum.inr "rest", .int 0), (Sum.inr "turn", .int 0), (Sum.inr "seed", .int 7), (Sum.inr "cells", .ref c)], rfl, (by show 5 ≤ 15; decide), ?_⟩
        rw [stK_new]
        have e1 : ns.map (fun n => V.int (n % 2147483629)) ++ [V.int 77] = (ns.map (fun n => n % 2147483629) ++ [77]).map V.int := by
          rw [List.map_append, List.map_map]
          rfl
        have hD' := sA _ _ h1
        have hc' : (upd (upd H2 m (.lst [.int 77])) c (.lst (ns.map (fun n => V.int (n % 2147483629)) ++ [.int 77]))) c = some (.lst ((ns.map (fun n => n % 2147483629) ++ [77]).map V.int)) := by
          rw [upd_same, e1]
        have nDs : D ≠ st := ne_of hD' hst fun z => nomatch z
        have ncs : c ≠ st := ne_of hc' hst fun z => nomatch z
        have ncD : c ≠ D := fun z => by
          subst z
          have q := s2 _ _ h1
          rw [s3.free nc] at q
          cases q
        have gl := List.length_filter_le (fun n => decide ((10 : Int) ^ (18 : Int).toNat ≤ n)) ns
        refine kk st D c _ (fun b o e => ?_) ⟨_, _, 0, 0, 7, ⟨upd_same, by rw [upd_ne nDs]; exact hD', by rw [upd_ne ncs]; exact hc', ncD, fun x hx => ?_, by omega, Int.le_refl _, Int.le_refl _, Int.le_refl _, by decide, by decide, ?_, ?_, fun x hx => ?_⟩⟩
        · rw [upd_ne (ne_of_none e nst)]
          exact sA _ _ (s01 _ _ e)
        · have q := of_decide_eq_true (List.mem_filter.mp hx).2
          have q2 : (0 : Int) ≤ 10 ^ (18 : Int).toNat := by decide
          omega
        · rw [List.length_append, List.length_singleton]
          omega
        · rw [List.length_append, List.length_singleton, List.length_map]
          omega
        · rcases List.mem_append.mp hx with q | q
          · obtain ⟨y, _, rfl⟩ := List.mem_map.mp q
            exact ⟨Int.emod_nonneg _ (by decide), Int.emod_lt_of_pos _ (by decide)⟩
          · rw [List.mem_singleton.mp q]
            exact ⟨by decide, by decide⟩

def spPick : Sp := fun vs H Q _ => ∃ (st g c l : Addr) (n : Int) (xs : List V), vs = [.ref st, .ref l] ∧ StI H st g c n ∧ n ≤ 99000 ∧ H l = some (.lst xs) ∧ l ≠ g ∧ 0 < xs.length ∧ xs.length ≤ 1000 ∧
  ∀ x H', x ∈ xs → Keep [st, g] H H' → StI H' st g c (n + 1) → Q x H'
theorem scPick : FnScope ["_law_state", "_law_some_here"] ["_law_state", "_law_some_here"] (defScope sPick) := ⟨rfl, rfl, rfl, by decide +kernel, rfl, by decide +kernel, by decide +kernel⟩
theorem ok_Pick {f : Addr} {fd : FuncData} (F : Fun K "_law_pick" "_law_pick" sPick f fd) (T : Txt K mg CJ CF CS) (cT : C8.Cal P w K mg base 1 "_law_take" spTake []) : FnOk P w K mg base CX0 2 f fd ["_law_state", "_law_some_here"] spPick := by
  refine F.ok scPick (fun vs H Q E h => ?_) (fun cdv A outer s H vs Q E hr h => ?_)
  · obtain ⟨st, g, c, l, n, xs, rfl, _⟩ := h
    rfl
  · obtain ⟨st, g, c, l, n, xs, rfl, S, hn, hL, nlg, l0, l1, kk⟩ := h
    refine ⟨_, pss_one (ps_ret (pe_ix ix_list (pv 1) (C8.pe_c cT hr (by decide) rfl (pa_cons (pv 0) (pa_cons (pe_callB call_len_seq (by rfl) T.len PySem.boot_len (pa_cons (pv 1) pa_nil)) pa_nil))) (fun _ _ => rfl))), ?_⟩
    refine ⟨_, rfl, _, rfl, _, rfl, l, _, rfl, .inl (SqL.of hL), st, g, c, n, _, rfl, S, by omega, by omega, by unfold bigM; omega, fun r H' r0 r1 k S' => ?_⟩
    obtain ⟨kvs, gs, e1, e2⟩ := S.dat
    have hL' : H' l = some (.lst xs) := k _ _ hL fun z => by
      rcases List.mem_cons.mp z with q | q
      · rw [q, e1] at hL
        cases hL
      · exact nlg (List.mem_singleton.mp q)
    obtain ⟨j, rfl, hj⟩ : ∃ j : Nat, r = (j : Int) ∧ j < xs.length := ⟨r.toNat, by omega, by omega⟩
    exact ⟨l, _, _, xs[j], rfl, rfl, SqL.of hL', atI_nat (List.getElem?_eq_getElem hj), kk _ _ (List.getElem_mem hj) k S'⟩

def spSome : Sp := fun vs H Q _ => ∃ (st g c : Addr) (n m : Int), vs = [.ref st, .int m] ∧ StI H st g c n ∧ n ≤ 99000 ∧ 0 ≤ m ∧ m < bigM ∧
  ∀ r H', 0 ≤ r → r ≤ m → Keep [st, g] H H' → StI H' st g c (n + 2) → Q (.int r) H'
theorem scSome : FnScope ["_law_state", "_law_most_here", "_law_way"] ["_law_state", "_law_most_here"] (defScope sSome) := ⟨rfl, rfl, rfl, by decide +kernel, rfl, by decide +kernel, by decide +kernel⟩
theorem ok_Some {f : Addr} {fd : FuncData} (F : Fun K "_law_some" "_law_some" sSome f fd) (T : Txt K mg CJ CF CS) (cT : C8.Cal P w K mg base 1 "_law_take" spTake []) : FnOk P w K mg base CX0 2 f fd ["_law_state", "_law_most_here"] spSome := by
  refine F.ok scSome (fun vs H Q E h => ?_) (fun cdv A outer s H vs Q E hr h => ?_)
  · obtain ⟨st, g, c, n, m, rfl, _⟩ := h
    rfl
  · obtain ⟨st, g, c, n, m, rfl, S, hn, m0, m1, kk⟩ := h
    refine ⟨_, pss_cons (ps_set (i := 2) scSome.nd rfl (Or.inl rfl) (C8.pe_c cT hr (by decide) rfl (pa_cons (pv 0) (pa_cons pe_int pa_nil))))
      (pss_cons (ps_if (pt_cmpR op_eq (pv 2) pe_int (nomark _)) (pss_one (ps_ret pe_int)) pss_nil)
      (pss_cons (ps_if (pt_cmpR op_eq (pv 2) pe_int (nomark _)) (pss_one (ps_ret (C8.pe_c cT hr (by decide) rfl (pa_cons (pv 0) (pa_cons (pe_op op_add (pe_callB (call_min2 rfl) (by rfl) T.min (by decide +kernel) (pa_cons (pv 1) (pa_cons pe_int pa_nil))) pe_int) pa_nil))))) pss_nil)
      (pss_cons (ps_if (pt_cmpR op_eq (pv 2) pe_int (nomark _)) (pss_one (ps_ret (pe_op op_sub (pv 1) (C8.pe_c cT hr (by decide) rfl (pa_cons (pv 0) (pa_cons (pe_op op_add (pe_callB (call_min2 rfl) (by rfl) T.min (by decide +kernel) (pa_cons (pv 1) (pa_cons pe_int pa_nil))) pe_int) pa_nil)))))) pss_nil)
      (pss_one (ps_ret (C8.pe_c cT hr (by decide) rfl (pa_cons (pv 0) (pa_cons (pe_op op_add (pv 1) pe_int) pa_nil)))))))), ?_⟩
    refine ⟨_, rfl, st, g, c, n, 4, rfl, S, by omega, by decide, by decide, fun v H1 v0 v1 k1 S1 => ?_⟩
    have fin : ∀ r H', 0 ≤ r → r ≤ m → Keep [st, g] H1 H' → StI H' st g c (n + 1 + 1) → Q (.int r) H' := fun r H' a b c d => kk r H' a b (k1.trans c) (d.mono (by omega))
    refine ⟨_, rfl, rfl, _, rfl, ?_⟩
    refine ite2 (fun _ => kk 0 H1 (by decide) m0 k1 (S1.mono (by omega))) (fun _ => ?_)
    refine ⟨_, rfl, rfl, _, rfl, ?_⟩
    have b6 : ∀ b : Int, 0 ≤ b → b ≤ 6 → 0 ≤ (if b < m then b else m) ∧ (if b < m then b else m) ≤ m ∧ (if b < m then b else m) ≤ 6 := fun b h0 h6 => by split <;> omega
    refine ite2 (fun _ => ?_) (fun _ => ?_)
    · have q := b6 6 (by decide) (by decide)
      refine ⟨_, rfl, _, rfl, _, _, rfl, _, _, rfl, rfl, st, g, c, n + 1, _, rfl, S1, by omega, by omega, by unfold bigM; omega, fun r H' r0 r1 k2 S2 => fin r H' r0 (by omega) k2 S2⟩
    · refine ⟨_, rfl, rfl, _, rfl, ?_⟩
      refine ite2 (fun _ => ?_) (fun _ => ?_)
      · have q := b6 3 (by decide) (by decide)
        refine ⟨_, rfl, _, rfl, _, rfl, _, _, rfl, _, _, rfl, rfl, st, g, c, n + 1, _, rfl, S1, by omega, by omega, by unfold bigM; omega, fun r H' r0 r1 k2 S2 => ⟨_, _, rfl, rfl, fin (m - r) H' (by omega) (by omega) k2 S2⟩⟩
      · refine ⟨_, rfl, _, rfl, _, _, rfl, rfl, st, g, c, n + 1, _, rfl, S1, by omega, by omega, by omega, fun r H' r0 r1 k2 S2 => fin r H' r0 (by omega) k2 S2⟩

def spAsk : Sp := fun vs H Q _ => ∃ (st g c : Addr) (n m : Int), vs = [.ref st, .int m] ∧ StI H st g c n ∧ n ≤ 98000 ∧ 1 ≤ m ∧ m ≤ 1000000000 ∧
  ∀ x (a : Ak) H', a.Ok → AkR H' x a → Keep [st, g] H H' → StI H' st g c (n + 13) → Q x H'
abbrev NAk : List Str := ["_law_state", "_law_most_here", "_law_rate", "_law_mouth", "_law_size", "_law_marks", "_law_after"]
theorem scAsk : FnScope NAk ["_law_state", "_law_most_here"] (defScope sAsk) := ⟨rfl, rfl, rfl, by decide +kernel, rfl, by decide +kernel, by decide +kernel⟩
theorem ok_Ask {f : Addr} {fd : FuncData} (F : Fun K "_law_ask" "_law_ask" sAsk f fd) (T : Txt K mg CJ CF CS) (cT : C8.Cal P w K mg base 1 "_law_take" spTake []) (cS : C8.Cal P w K mg base 2 "_law_some" spSome []) : FnOk P w K mg base CX0 3 f fd ["_law_state", "_law_most_here"] spAsk := by
  refine F.ok scAsk (fun vs H Q E h => ?_) (fun cdv A outer s H vs Q E hr h => ?_)
  · obtain ⟨st, g, c, n, m, rfl, _⟩ := h
    rfl
  · obtain ⟨st, g, c, n, m, rfl, S, hn, m0, m1, kk⟩ := h
    refine ⟨_, pss_cons (ps_set (i := 2) scAsk.nd rfl (Or.inl rfl) (pe_op op_add pe_int (C8.pe_c cS hr (by decide) rfl (pa_cons (pv 0) (pa_cons (pe_op op_sub (pv 1) pe_int) pa_nil)))))
      (pss_cons (ps_set (i := 3) scAsk.nd rfl (Or.inl rfl) (pe_op op_add (pv 2) (C8.pe_c cS hr (by decide) rfl (pa_cons (pv 0) (pa_cons (pe_op op_sub (pv 1) (pv 2)) pa_nil)))))
      (pss_cons (ps_set (i := 4) scAsk.nd rfl (Or.inl rfl) (pe_op op_add (pv 3) (C8.pe_c cS hr (by decide) rfl (pa_cons (pv 0) (pa_cons (pe_op op_sub (pv 1) (pv 3)) pa_nil)))))
      (pss_cons (ps_set (i := 5) scAsk.nd rfl (Or.inl rfl) (pe_op op_sub (pv 4) (C8.pe_c cS hr (by decide) rfl (pa_cons (pv 0) (pa_cons (pv 4) pa_nil)))))
      (pss_cons (ps_set (i := 6) scAsk.nd rfl (Or.inl rfl) (C8.pe_c cS hr (by decide) rfl (pa_cons (pv 0) (pa_cons (pe_op op_mul (pv 1) (pe_op op_add pe_int (pe_op op_mul pe_int (C8.pe_c cT hr (by decide) rfl (pa_cons (pv 0) (pa_cons pe_int pa_nil)))))) pa_nil))))
      (pss_one (ps_ret (pe_tup (pa_cons (pe_tup (pa_cons (pv 4) (pa_cons (pv 2) (pa_cons (pv 3) pa_nil)))) (pa_cons (pv 5) (pa_cons (pv 6) (pa_cons (pe_op op_add pe_int (C8.pe_c cS hr (by decide) rfl (pa_cons (pv 0) (pa_cons (pe_op op_sub (pv 1) pe_int) pa_nil)))) pa_nil))))))))))), ?_⟩
    have bm : (1000000000 : Int) < bigM := by decide
    have bm3 : (3000000000 : Int) < bigM := by decide
    refine ⟨_, rfl, _, rfl, _, _, rfl, rfl, st, g, c, n, _, rfl, S, by omega, by omega, by omega, fun a H1 a0 a1 k1 S1 => ⟨_, _, rfl, rfl, ?_⟩⟩
    refine ⟨_, rfl, _, rfl, _, rfl, _, rfl, _, _, rfl, rfl, st, g, c, n + 2, _, rfl, S1, by omega, by omega, by omega, fun b H2 b0 b1 k2 S2 => ⟨_, _, rfl, rfl, ?_⟩⟩
    refine ⟨_, rfl, _, rfl, _, rfl, _, rfl, _, _, rfl, rfl, st, g, c, n + 2 + 2, _, rfl, S2, by omega, by omega, by omega, fun u H3 c0 c1 k3 S3 => ⟨_, _, rfl, rfl, ?_⟩⟩
    refine ⟨_, rfl, _, rfl, _, rfl, st, g, c, n + 2 + 2 + 2, _, rfl, S3, by omega, by omega, by omega, fun d H4 d0 d1 k4 S4 => ⟨_, _, rfl, rfl, ?_⟩⟩
    refine ⟨_, rfl, _, rfl, _, rfl, st, g, c, n + 2 + 2 + 2 + 2, 2, rfl, S4, by omega, by decide, by decide, fun e H5 e0 e1 k5 S5 => ⟨_, _, rfl, rfl, .inl ⟨by decide, by decide⟩, _, _, rfl, rfl, _, _, rfl, rfl, .inl ⟨by omega, by omega⟩, ?_⟩⟩
    have hz : 0 ≤ m * (1 + 2 * e) ∧ m * (1 + 2 * e) ≤ 3000000000 := by
      have : e = 0 ∨ e = 1 := by omega
      rcases this with rfl | rfl
      · omega
      · omega
    refine ⟨st, g, c, _, _, rfl, S5, by omega, by omega, by omega, fun h H6 h0 h1 k6 S6 => ?_⟩
    refine ⟨_, rfl, _, rfl, _, rfl, (by show 3 ≤ sizeLine; decide), fun q nq => ?_⟩
    have sq : Same H6 (upd H6 q (.tup [.int (1 + a + b + u), .int (1 + a), .int (1 + a + b)])) := Same.upd0 nq
    have S6q := S6.keep sq
    refine ⟨_, rfl, _, rfl, _, rfl, _, rfl, _, _, rfl, rfl, st, g, c, _, _, rfl, S6q, by omega, by omega, by omega, fun i H7 i0 i1 k7 S7 => ⟨_, _, rfl, rfl, (by show 4 ≤ sizeLine; decide), fun p np => ?_⟩⟩
    have hq7 := S6q.tup k7 upd_same
    have kall : Keep [st, g] H H7 := k1.trans (k2.trans (k3.trans (k4.trans (k5.trans (k6.trans ((Keep.of sq).trans k7))))))
    refine kk _ ⟨⟨1 + a + b + u, 1 + a, 1 + a + b⟩, 1 + a + b + u - d, h, 1 + i⟩ _ ⟨⟨?_, ?_, ?_, ?_⟩, ?_, ?_⟩ ⟨p, q, rfl, upd_same, ?_⟩ (kall.new np) ((S7.keep (Same.upd0 np)).mono (by omega))
    · show (1 : Int) ≤ 1 + a
      omega
    · show 1 + a ≤ 1 + a + b
      omega
    · show 1 + a + b ≤ 1 + a + b + u
      omega
    · show 1 + a + b + u ≤ 1000000000
      omega
    · show 0 ≤ 1 + a + b + u - d
      omega
    · show 1 + a + b + u - d ≤ 1 + a + b + u
      omega
    · rw [upd_ne (ne_of_none hq7 np)]
      exact hq7

def spKn : Sp := fun vs H Q _ => ∃ (st g c : Addr) (n now m : Int), vs = [.ref st, .int now, .int m] ∧ StI H st g c n ∧ n ≤ 98000 ∧ 1 ≤ m ∧ m ≤ 1000000000 ∧
  ∀ x (k : Kn) H', KnR H' x k → Keep [st, g] H H' → StI H' st g c (n + 6) → Q x H'
abbrev NKn : List Str := ["_law_state", "_law_now", "_law_most_here", "_law_come"]
theorem scKn : FnScope NKn ["_law_state", "_law_now", "_law_most_here"] (defScope sKnown) := ⟨rfl, rfl, rfl, by decide +kernel, rfl, by decide +kernel, by decide +kernel⟩
theorem ok_Kn {f : Addr} {fd : FuncData} (F : Fun K "_law_known" "_law_known" sKnown f fd) (T : Txt K mg CJ CF CS) (cS : C8.Cal P w K mg base 2 "_law_some" spSome []) : FnOk P w K mg base CX0 3 f fd ["_law_state", "_law_now", "_law_most_here"] spKn := by
  refine F.ok scKn (fun vs H Q E h => ?_) (fun cdv A outer s H vs Q E hr h => ?_)
  · obtain ⟨st, g, c, n, now, m, rfl, _⟩ := h
    rfl
  · obtain ⟨st, g, c, n, now, m, rfl, S, hn, m0, m1, kk⟩ := h
    refine ⟨_, pss_cons (ps_set (i := 3) scKn.nd rfl (Or.inl rfl) (pe_op op_add (pv 1) (C8.pe_c cS hr (by decide) rfl (pa_cons (pv 0) (pa_cons (pv 2) pa_nil)))))
      (pss_one (ps_ret (pe_tup (pa_cons (pv 3) (pa_cons (pe_op op_add (pe_op op_add (pv 3) pe_int) (C8.pe_c cS hr (by decide) rfl (pa_cons (pv 0) (pa_cons (pe_op op_sub (pv 2) pe_int) pa_nil))))
        (pa_cons (pe_op op_add pe_int (C8.pe_c cS hr (by decide) rfl (pa_cons (pv 0) (pa_cons (pe_op op_sub (pv 2) pe_int) pa_nil)))) pa_nil)))))), ?_⟩
    have bm : (1000000000 : Int) < bigM := by decide
    refine ⟨_, rfl, _, rfl, _, rfl, st, g, c, n, _, rfl, S, by omega, by omega, by omega, fun a H1 a0 a1 k1 S1 => ⟨_, _, rfl, rfl, ?_⟩⟩
    refine ⟨_, rfl, _, rfl, _, _, rfl, rfl, _, rfl, _, rfl, _, _, rfl, rfl, st, g, c, n + 2, _, rfl, S1, by omega, by omega, by omega, fun b H2 b0 b1 k2 S2 => ⟨_, _, rfl, rfl, ?_⟩⟩
    refine ⟨_, rfl, _, rfl, _, _, rfl, rfl, st, g, c, n + 2 + 2, _, rfl, S2, by omega, by omega, by omega, fun c H3 c0 c1 k3 S3 => ⟨_, _, rfl, rfl, (by show 3 ≤ sizeLine; decide), fun p np => ?_⟩⟩
    exact kk _ ⟨_, _, _⟩ _ ⟨p, rfl, upd_same⟩ ((k1.trans (k2.trans k3)).new np) ((S3.keep (Same.upd0 np)).mono (by omega))

def spPlain : Sp := fun vs H Q _ => ∃ (st g c : Addr) (n m : Int), vs = [.ref st, .int m, .int 3, .int 4] ∧ StI H st g c n ∧ n ≤ 97000 ∧ 1 ≤ m ∧ m ≤ 1000000000 ∧
  ∀ p l1 l2 x1 x2 (ks : List Kn) (as : List Ak) (now op : Int) H', 0 ≤ now → now ≤ 10 ^ 39 → H l1 = none → H l2 = none → H' p = some (.tup [.int now, .int op, .ref l1, .ref l2]) → H' l1 = some (.lst x1) → Paired (KnR H') x1 ks → H' l2 = some (.lst x2) → Paired (AkR H') x2 as →
    (∀ a ∈ as, a.Ok) → ks.length ≤ 8 → as.length ≤ 10 → Keep [st, g] H H' → StI H' st g c (n + 100) → Q (.ref p) H'
abbrev NPl : List Str := ["_law_state", "_law_most_here", "_law_sure", "_law_many", "_law_now", "_law_opens", "_law_way", "_law_twice", "_law_knowns", "_law_asks", "_law_turn"]
theorem scPlain : FnScope NPl ["_law_state", "_law_most_here", "_law_sure", "_law_many"] (defScope sPlain) := ⟨rfl, rfl, rfl, by decide +kernel, rfl, by decide +kernel, by decide +kernel⟩
/-- [e for x in range(N)], each e drawn from the state -/
theorem lc_draw {β : Type} {Ro : Hp → V → β → Prop} {Good : β → Prop} {te : TE} {tg : TG} {vs : List Nat} {σ : L2.St} {Hs : Hp} {D st g c : Addr} {Qd : Hp → Prop} (b n0 : Int) (N : Nat) (hN : N ≤ 100) (hD : Hs D = none) (S : StI Hs st g c n0) (mo : MonL Ro)
    (go : ∀ {H H' : Hp} {x : V} {d : β} {n : Int}, StI H st g c n → Keep [st, g] H H' → Ro H x d → Ro H' x d)
    (hs : ∀ (i : Nat) (H : Hp), i < N → StI H st g c (n0 + b * i) → ∀ Nx : V → Hp → Prop, (∀ y d H', Good d → Ro H' y d → Keep [st, g] H H' → StI H' st g c (n0 + b * i + b) → Nx y H') →
      tg (.int (0 + i)) (wipe σ vs) H fun σ2 H2 => wipe σ2 vs = wipe σ vs ∧ te σ2 H2 Nx)
    (hd : ∀ H ys (ds : List β), Keep [st, g] Hs H → StI H st g c (n0 + b * N) → H D = some (.lst ys) → Paired (Ro H) ys ds → ds.length = N → (∀ d ∈ ds, Good d) → Qd H) :
    ∃ W : Nat → Nat → Hp → Prop, (∃ m, W 0 m (upd Hs D (.lst []))) ∧ ∀ i m H, W i m H →
      ((Itr 0 N).stop i H ∧ Qd H) ∨ ((Itr 0 N).go i H ∧ ∃ Nx : Hp → Prop, (∀ H', Nx H' → ∃ m', m' < m ∧ W (i + 1) m' H') ∧ ∀ x H', (Itr 0 N).yld i H x H' → tg x (wipe σ vs) H' fun σ2 H2 => wipe σ2 vs = wipe σ vs ∧ tYes σ2 H2 fun b H3 =>
        if b = true then te σ2 H3 fun y H4 => ∃ acc, H4 D = some (.lst acc) ∧ acc.length < sizeLine ∧ Nx (upd H4 D (.lst (acc ++ [y]))) else Nx H3) := by
  have hDn : D ∉ [st, g] := S.ne hD
  obtain ⟨gr, ce, r, t, sd, S0⟩ := id S
  have hDc : D ≠ c := (ne_of_none S0.hc hD).symm
  have putD : ∀ {H : Hp} {n : Int} (acc : List V), StI H st g c n → StI (upd H D (.lst acc)) st g c n := fun {H n} acc ⟨gr, ce, r, t, sd, q⟩ => by
    have e1 : st ≠ D := fun z => hDn (by rw [z]; simp)
    have e2 : g ≠ D := fun z => hDn (by rw [z]; simp)
    exact ⟨gr, ce, r, t, sd, { q with d := by rw [upd_ne e1]; exact q.d, hg := by rw [upd_ne e2]; exact q.hg, hc := by rw [upd_ne hDc.symm]; exact q.hc }⟩
  refine lc_range (lo := 0) (n := N) (fun i H => Keep [st, g] Hs H ∧ StI H st g c (n0 + b * i) ∧ ∃ ys ds, H D = some (.lst ys) ∧ Paired (Ro H) ys ds ∧ ds.length = i ∧ ∀ d ∈ ds, Good d) ?_ ?_ ?_
  · exact ⟨Keep.new Keep.refl hD, by rw [show n0 + b * ((0 : Nat) : Int) = n0 from by simp]; exact putD _ S, [], [], upd_same, .nil, rfl, fun d hd => by cases hd⟩
  · rintro i H hi ⟨k, S1, ys, ds, hy, py, hl, hg⟩
    refine hs i H hi S1 _ fun y d H' gd ro k2 S2 => ?_
    have hy' : H' D = some (.lst ys) := k2 _ _ hy hDn
    have lys := Paired.length py
    have py' : Paired (Ro H') ys ds := Paired.mapP py fun _ _ q => go S1 k2 q
    refine ⟨ys, hy', small1000 (by omega), (k.trans k2).upd hD, ?_, ys ++ [y], ds ++ [d], upd_same, Paired.snoc (mo.pairsL hy' py') (mo.lst hy' ro), by rw [List.length_append, hl]; rfl, fun e he => ?_⟩
    · have e : n0 + b * ((i + 1 : Nat) : Int) = n0 + b * (i : Int) + b := by
        rw [Int.natCast_add, Int.mul_add]
        omega
      rw [e]
      exact putD _ S2
    · rcases List.mem_append.mp he with q | q
      · exact hg e q
      · rw [List.mem_singleton.mp q]
        exact gd
  · rintro H ⟨k, S1, ys, ds, hy, py, hl, hg⟩
    exact hd H ys ds k S1 hy py hl hg
theorem cut1 (xs : List V) : cutV xs none (some 1) = xs.take 1 := by
  show (xs.drop 0).take (HT.sIx xs.length xs.length (some ((1 : Nat) : Int)) - 0) = xs.take 1
  rw [HT.sIx_nat]
  cases xs with
  | nil => rfl
  | cons x r =>
    rw [show min 1 (x :: r).length - 0 = 1 from by rw [List.length_cons]; omega]
    rfl
theorem ok_Plain {f : Addr} {fd : FuncData} (F : Fun K "_law_plain" "_law_plain" sPlain f fd) (T : Txt K mg CJ CF CS) (cT : C8.Cal P w K mg base 1 "_law_take" spTake []) (cS : C8.Cal P w K mg base 2 "_law_some" spSome [])
    (cA : C8.Cal P w K mg base 3 "_law_ask" spAsk []) (cK : C8.Cal P w K mg base 3 "_law_known" spKn []) : FnOk P w K mg base CX0 4 f fd ["_law_state", "_law_most_here", "_law_sure", "_law_many"] spPlain := by
  refine F.ok scPlain (fun vs H Q E h => ?_) (fun cdv A outer s H vs Q E hr h => ?_)
  · obtain ⟨st, g, c, n, m, rfl, _⟩ := h
    rfl
  · obtain ⟨st, g, c, n, m, rfl, S, hn, m0, m1, kk⟩ := h
    refine ⟨_, C8.pss_cut (ps_set (i := 4) scPlain.nd rfl (Or.inr rfl) (C8.pe_c cS hr (by decide) rfl (pa_cons (pv 0) (pa_cons (pe_ifExp (pt_cmpR op_eq (pv 1) (pe_op op_pow pe_int pe_int) (nomark _)) (pe_op op_pow pe_int pe_int) (pe_op op_mul (pv 1) (pv 1))) pa_nil))))
      (pss_cons (ps_set (i := 5) scPlain.nd rfl (Or.inl rfl) pe_int)
      (pss_cons (ps_set (i := 6) scPlain.nd rfl (Or.inl rfl) (C8.pe_c cT hr (by decide) rfl (pa_cons (pv 0) (pa_cons pe_int pa_nil))))
      (C8.pss_cut (ps_if (pt_cmpR op_eq (pv 6) pe_int (nomark _)) (pss_one (ps_set (i := 5) scPlain.nd rfl (Or.inl rfl) (pe_op op_add (pv 4) (C8.pe_c cS hr (by decide) rfl (pa_cons (pv 0) (pa_cons (pv 1) pa_nil)))))) pss_nil)
      (C8.pss_cut (ps_if (pt_cmpR op_eq (pv 6) pe_int (nomark _)) (pss_one (ps_set (i := 5) scPlain.nd rfl (Or.inl rfl) (C8.pe_c cS hr (by decide) rfl (pa_cons (pv 0) (pa_cons (pv 4) pa_nil))))) pss_nil)
      (pss_cons (ps_set (i := 7) scPlain.nd rfl (Or.inl rfl) (pe_cmpR op_eq (C8.pe_c cT hr (by decide) rfl (pa_cons (pv 0) (pa_cons pe_int pa_nil))) pe_int (nomark _)))
      (pss_cons (ps_setLc (i := 8) (own := [("_law_turn", 10)]) (g := gName 10) (tt := tYes) rfl scPlain.nd rfl rfl (sw_true rfl rfl rfl (by decide +kernel)) (pi_range1 rfl T.range (pa_cons (C8.pe_c cT hr (by decide) rfl (pa_cons (pv 0) (pa_cons (pe_op op_add (pv 2) pe_int) pa_nil))) pa_nil))
          (blkOk_by (N := NPl) (sc := defScope sPlain) (by decide +kernel)) (fun _ _ _ _ _ => pg_name (i := 10) scPlain.nd rfl (Or.inl rfl)) (fun _ _ _ _ _ => pts_nil) (fun _ _ _ _ _ => C8.pe_c cK hr (by decide) rfl (pa_cons (pv 0) (pa_cons (pv 4) (pa_cons (pv 1) pa_nil)))))
      (pss_cons (ps_setLc (i := 9) (own := [("_law_turn", 10)]) (g := gName 10) (tt := tYes) rfl scPlain.nd rfl rfl (sw_true rfl rfl rfl (by decide +kernel)) (pi_range1 rfl T.range (pa_cons (C8.pe_c cT hr (by decide) rfl (pa_cons (pv 0) (pa_cons (pe_op op_add (pv 3) pe_int) pa_nil))) pa_nil))
          (blkOk_by (N := NPl) (sc := defScope sPlain) (by decide +kernel)) (fun _ _ _ _ _ => pg_name (i := 10) scPlain.nd rfl (Or.inl rfl)) (fun _ _ _ _ _ => pts_nil) (fun _ _ _ _ _ => C8.pe_c cA hr (by decide) rfl (pa_cons (pv 0) (pa_cons (pv 1) pa_nil))))
      (pss_cons (ps_if (pt_val (pv 7)) (pss_one (ps_ret (pe_tup (pa_cons (pv 4) (pa_cons (pv 5) (pa_cons (pe_op op_cat (pv 8) (pe_slice sl_list (pv 8) po_none (po_some pe_int))) (pa_cons (pe_op op_cat (pv 9) (pe_slice sl_list (pv 9) po_none (po_some pe_int))) pa_nil))))))) pss_nil)
      (pss_one (ps_ret (pe_tup (pa_cons (pv 4) (pa_cons (pv 5) (pa_cons (pv 8) (pa_cons (pv 9) pa_nil))))))))))))))), ?_⟩
    have b41 : (10 : Int) ^ 39 < bigM := by decide
    have p39 : (10 : Int) ^ (39 : Int).toNat = 10 ^ 39 := rfl
    refine ⟨fun σ H' => ∃ now : Int, σ = [some (.ref st), some (.int m), some (.int 3), some (.int 4), some (.int now), none, none, none, none, none, none] ∧ 0 ≤ now ∧ now ≤ 10 ^ 39 ∧ Keep [st, g] H H' ∧ StI H' st g c (n + 2), ?_, ?_⟩
    · refine ⟨_, rfl, _, rfl, _, _, rfl, rfl, ⟨by decide, by decide, by decide⟩, rfl, _, rfl, ?_⟩
      refine ite2 (fun _ => ?_) (fun _ => ?_)
      · refine ⟨_, _, rfl, rfl, ⟨by decide, by decide, by decide⟩, st, g, c, n, _, rfl, S, by omega, by decide, by decide, fun r H' r0 r1 k1 S1 => ?_⟩
        exact ⟨r, rfl, r0, r1, k1, S1⟩
      · have hmm : 0 ≤ m * m ∧ m * m ≤ 1000000000000000000 := by
          constructor
          · exact Int.mul_nonneg (by omega) (by omega)
          · calc m * m ≤ 1000000000 * m := Int.mul_le_mul_of_nonneg_right m1 (by omega)
              _ ≤ 1000000000 * 1000000000 := Int.mul_le_mul_of_nonneg_left m1 (by decide)
              _ ≤ 1000000000000000000 := by decide
        refine ⟨_, rfl, _, rfl, _, _, rfl, rfl, .inl ⟨by omega, by omega⟩, st, g, c, n, _, rfl, S, by omega, by omega, by omega, fun r H' r0 r1 k1 S1 => ?_⟩
        exact ⟨r, rfl, r0, by omega, k1, S1⟩
    rintro σ H1 ⟨now, rfl, n0, n1, k1, S1⟩
    refine ⟨_, rfl, st, g, c, n + 2, 4, rfl, S1, by omega, by decide, by decide, fun way H2 w0 w1 k2 S2 => ?_⟩
    refine ⟨fun σ H' => ∃ op : Int, σ = [some (.ref st), some (.int m), some (.int 3), some (.int 4), some (.int now), some (.int op), some (.int way), none, none, none, none] ∧ Keep [st, g] H H' ∧ StI H' st g c (n + 5), ?_, ?_⟩
    · refine ⟨_, rfl, rfl, _, rfl, ?_⟩
      refine ite2 (fun _ => ?_) (fun _ => ?_)
      · refine ⟨_, rfl, _, rfl, _, rfl, st, g, c, n + 2 + 1, _, rfl, S2, by omega, by omega, by omega, fun r H' r0 r1 k3 S3 => ⟨_, _, rfl, rfl, ?_⟩⟩
        exact ⟨_, rfl, (k1.trans k2).trans k3, S3.mono (by omega)⟩
      · exact ⟨_, rfl, k1.trans k2, S2.mono (by omega)⟩
    rintro σ H3 ⟨op1, rfl, k3, S3⟩
    refine ⟨fun σ H' => ∃ op : Int, σ = [some (.ref st), some (.int m), some (.int 3), some (.int 4), some (.int now), some (.int op), some (.int way), none, none, none, none] ∧ Keep [st, g] H H' ∧ StI H' st g c (n + 7), ?_, ?_⟩
    · refine ⟨_, rfl, rfl, _, rfl, ?_⟩
      refine ite2 (fun _ => ?_) (fun _ => ?_)
      · refine ⟨_, rfl, _, rfl, st, g, c, n + 5, _, rfl, S3, by omega, by omega, by omega, fun r H' r0 r1 k4 S4 => ?_⟩
        exact ⟨_, rfl, k3.trans k4, S4.mono (by omega)⟩
      · exact ⟨_, rfl, k3, S3.mono (by omega)⟩
    rintro σ H4 ⟨op, rfl, k4, S4⟩
    refine ⟨_, rfl, st, g, c, n + 7, 4, rfl, S4, by omega, by decide, by decide, fun tw H5 t0 t1 k5 S5 => ⟨rfl, ?_⟩⟩
    have k05 := k4.trans k5
    refine ⟨_, rfl, _, rfl, _, _, rfl, rfl, st, g, c, n + 7 + 1, _, rfl, S5, by omega, by decide, by decide, fun nk H6 nk0 nk1 k6 S6 => ⟨_, rfl, by omega, by omega, fun D hD => ?_⟩⟩
    have k06 := k05.trans k6
    refine lc_draw (Ro := KnR) (Good := fun _ => True) 6 (n + 7 + 1 + 1) nk.toNat (by omega) hD S6 mon_KnR (fun S k r => r.go S k) ?_ ?_
    · intro i H' hi S' Nx kN
      refine ⟨rfl, _, rfl, _, rfl, _, rfl, st, g, c, _, _, _, rfl, S', by omega, m0, m1, fun x kn H'' r k' S'' => kN x kn H'' trivial r k' S''⟩
    rintro H7 ys ks k7 S7 hy py lks _
    have k07 := k06.trans k7
    have lys := Paired.length py
    refine ⟨_, rfl, _, rfl, _, _, rfl, rfl, st, g, c, _, _, rfl, S7, by omega, by decide, by decide, fun na H8 na0 na1 k8 S8 => ⟨_, rfl, by omega, by omega, fun D2 hD2 => ?_⟩⟩
    have k08 := k07.trans k8
    have fD : H D = none := S6.free k06 hD
    have hy8 : H8 D = some (.lst ys) := k8 _ _ hy (S6.ne hD)
    have py8 : Paired (KnR H8) ys ks := Paired.mapP py fun _ _ q => q.go S7 k8
    refine lc_draw (Ro := AkR) (Good := Ak.Ok) 13 (n + 7 + 1 + 1 + 6 * (nk.toNat : Int) + 1) na.toNat (by omega) hD2 S8 mon_AkR (fun S k r => r.go S k) ?_ ?_
    · intro i H' hi S' Nx kN
      refine ⟨rfl, _, rfl, _, rfl, st, g, c, _, _, rfl, S', by omega, m0, m1, fun x ak H'' ok r k' S'' => kN x ak H'' ok r k' S''⟩
    rintro H9 zs as k9 S9 hz pz las oks
    have k09 := k08.trans k9
    have lzs := Paired.length pz
    have fD2 : H D2 = none := S8.free k08 hD2
    have hy9 : H9 D = some (.lst ys) := k9 _ _ hy8 (S6.ne hD)
    have py9 : Paired (KnR H9) ys ks := Paired.mapP py8 fun _ _ q => q.go S8 k9
    have S9' : StI H9 st g c (n + 100) := S9.mono (by omega)
    refine ⟨_, rfl, _, rfl, ?_⟩
    refine ite2 (fun _ => ?_) (fun _ => ?_)
    · refine ⟨_, rfl, _, rfl, _, rfl, _, rfl, _, rfl, D, ys, rfl, SqL.of hy9, fun c1 nc1 => ?_⟩
      have t1 : Same H9 (upd H9 c1 (.lst (cutV ys none (some 1)))) := Same.upd0 nc1
      rw [cut1] at t1 ⊢
      refine ⟨D, c1, _, _, rfl, rfl, t1 _ _ hy9, upd_same, Nat.le_of_lt (small1000 (by rw [List.length_take]; omega)), fun c2 nc2 => ?_⟩
      have t2 : Same H9 (upd (upd H9 c1 (.lst (ys.take 1))) c2 (.lst (ys ++ ys.take 1))) := Same.upd t1 (t1.free nc2)
      refine ⟨_, rfl, _, rfl, _, rfl, D2, zs, rfl, SqL.of (t2 _ _ hz), fun c3 nc3 => ?_⟩
      have t3 := Same.upd t2 (t2.free nc3) (o := .lst (cutV zs none (some 1)))
      rw [cut1] at t3 ⊢
      refine ⟨D2, c3, _, _, rfl, rfl, t3 _ _ hz, upd_same, Nat.le_of_lt (small1000 (by rw [List.length_take]; omega)), fun c4 nc4 => ⟨(by show 4 ≤ sizeLine; decide), fun p np => ?_⟩⟩
      have t4 := Same.upd t3 (t3.free nc4) (o := .lst (zs ++ zs.take 1))
      have t5 := Same.upd t4 (t4.free np) (o := .tup [.int now, .int op, .ref c2, .ref c4])
      have h2 : (upd (upd (upd (upd (upd H9 c1 (.lst (ys.take 1))) c2 (.lst (ys ++ ys.take 1))) c3 (.lst (zs.take 1))) c4 (.lst (zs ++ zs.take 1))) p (.tup [.int now, .int op, .ref c2, .ref c4])) c2 = some (.lst (ys ++ ys.take 1)) := by
        have a1 : ∀ {Hx : Hp} {q : Addr} {o : HO}, Hx c2 = some (.lst (ys ++ ys.take 1)) → Hx q = none → (upd Hx q o) c2 = some (.lst (ys ++ ys.take 1)) := fun e nq => by rw [upd_ne (ne_of_none e nq)]; exact e
        exact a1 (a1 (a1 upd_same nc3) nc4) np
      have h4 : (upd (upd (upd (upd (upd H9 c1 (.lst (ys.take 1))) c2 (.lst (ys ++ ys.take 1))) c3 (.lst (zs.take 1))) c4 (.lst (zs ++ zs.take 1))) p (.tup [.int now, .int op, .ref c2, .ref c4])) c4 = some (.lst (zs ++ zs.take 1)) := by
        rw [upd_ne (ne_of_none upd_same np)]
        exact upd_same
      refine kk p c2 c4 _ _ (ks ++ ks.take 1) (as ++ as.take 1) now op _ n0 n1 ?_ ?_ upd_same h2 ?_ h4 ?_ ?_ ?_ ?_ (k09.trans (Keep.of t5)) (S9'.keep t5)
      · exact S9.free k09 (t1.free nc2)
      · exact S9.free k09 (t3.free nc4)
      · exact Paired.app (mon_KnR.pairs t5 py9) (Paired.tk 1 (mon_KnR.pairs t5 py9))
      · exact Paired.app (mon_AkR.pairs t5 pz) (Paired.tk 1 (mon_AkR.pairs t5 pz))
      · intro a ha
        rcases List.mem_append.mp ha with q | q
        · exact oks a q
        · exact oks a (List.mem_of_mem_take q)
      · rw [List.length_append, List.length_take]
        omega
      · rw [List.length_append, List.length_take]
        omega
    · refine ⟨_, rfl, _, rfl, _, rfl, _, rfl, (by show 4 ≤ sizeLine; decide), fun p np => ?_⟩
      have t5 : Same H9 (upd H9 p (.tup [.int now, .int op, .ref D, .ref D2])) := Same.upd0 np
      exact kk p D D2 ys zs ks as now op _ n0 n1 fD fD2 upd_same (t5 _ _ hy9) (mon_KnR.pairs t5 py9) (t5 _ _ hz) (mon_AkR.pairs t5 pz) oks (by omega) (by omega) (k09.trans (Keep.of t5)) (S9'.keep t5)
end
end Hl
set_option Elab.async false
set_option maxRecDepth 100000
set_option maxHeartbeats 4000000
set_option linter.all false
/-! the law's own reckonings and looks -/
namespace Hl
open PySem L2
def PlainAt (H : Hp) (p : Addr) (now op : Int) (ks : List Kn) (as : List Ak) : Prop := ∃ l1 l2 x1 x2, H p = some (.tup [.int now, .int op, .ref l1, .ref l2]) ∧ H l1 = some (.lst x1) ∧ Paired (KnR H) x1 ks ∧ H l2 = some (.lst x2) ∧ Paired (AkR H) x2 as
theorem PlainAt.keep {H H' : Hp} {p : Addr} {now op : Int} {ks : List Kn} {as : List Ak} (s : Same H H') (h : PlainAt H p now op ks as) : PlainAt H' p now op ks as :=
  let ⟨l1, l2, x1, x2, e, e1, p1, e2, p2⟩ := h
  ⟨l1, l2, x1, x2, s _ _ e, s _ _ e1, mon_KnR.pairs s p1, s _ _ e2, mon_AkR.pairs s p2⟩
theorem at0 {x : V} {r : List V} : atI (x :: r) 0 = some x := atI_nat (j := 0) rfl
theorem at1 {x y : V} {r : List V} : atI (x :: y :: r) 1 = some y := atI_nat (j := 1) rfl
theorem at2 {x y z : V} {r : List V} : atI (x :: y :: z :: r) 2 = some z := atI_nat (j := 2) rfl
theorem at3 {x y z u : V} {r : List V} : atI (x :: y :: z :: u :: r) 3 = some u := atI_nat (j := 3) rfl
section
variable {P : Program} {w : World} {K : PySem.W.Frag} {mg : Str → Option Value} {base : Heap} {CJ CF CS : Addr}
def spFlow (CJ CF : Addr) : Sp := fun vs H Q _ => ∃ (x : V) (a : Ak), vs = [x] ∧ AkR H x a ∧ a.Ok ∧ ∀ f H', Same H H' → H f = none → FlowAt CJ CF H' f a.j a.k → Q (.ref f) H'
abbrev NFl : List Str := ["_law_ask_here", "_law_size", "_law_rate", "_law_mouth"]
theorem scFlow : FnScope NFl ["_law_ask_here"] (defScope sFlow) := ⟨rfl, rfl, rfl, by decide +kernel, rfl, by decide +kernel, by decide +kernel⟩
theorem ok_Flow {f : Addr} {fd : FuncData} (F : Fun K "_law_flow" "_law_flow" sFlow f fd) (T : Txt K mg CJ CF CS) (mkJ : C8.Mak P w K mg base 1 "Jar" CJ (spJI CJ) []) (mkF : C8.Mak P w K mg base 1 "Flow" CF (spFI CJ CF) []) (mkF0 : C8.Mak P w K mg base 1 "Flow" CF (spFI CJ CF) [.non]) :
    FnOk P w K mg base CX0 3 f fd ["_law_ask_here"] (spFlow CJ CF) := by
  refine F.ok scFlow (fun vs H Q E h => ?_) (fun cdv A outer s H vs Q E hr h => ?_)
  · obtain ⟨x, a, rfl, _⟩ := h
    rfl
  · obtain ⟨x, a, rfl, ⟨p, q, rfl, hp, hq⟩, ok, kk⟩ := h
    refine ⟨_, pss_cons (ps_asg (pe_ix ix_tup (pv 0) pe_int (fun _ _ => rfl)) (pg_tup (by rfl) (pgs_cons (pg_name (i := 1) scFlow.nd rfl (Or.inl rfl)) (pgs_cons (pg_name (i := 2) scFlow.nd rfl (Or.inl rfl)) (pgs_cons (pg_name (i := 3) scFlow.nd rfl (Or.inl rfl)) pgs_nil)))))
      (pss_cons (ps_if (pt_cmpR op_eq (pe_ix ix_tup (pv 0) pe_int (fun _ _ => rfl)) (pv 1) (nomark _)) (pss_one (ps_ret (C8.pe_mk mkF0 hr (by decide) rfl (pa_cons (C8.pe_mk mkJ hr (by decide) rfl (pa_cons (pv 1) (pa_cons (pv 2) (pa_cons (pv 3) pa_nil)))) pa_nil)))) pss_nil)
      (pss_one (ps_ret (C8.pe_mk mkF hr (by decide) rfl (pa_cons (C8.pe_mk mkJ hr (by decide) rfl (pa_cons (pv 1) (pa_cons (pv 2) (pa_cons (pv 3) pa_nil)))) (pa_cons (pe_ix ix_tup (pv 0) pe_int (fun _ _ => rfl)) pa_nil)))))), ?_⟩
    refine ⟨_, rfl, p, _, _, _, rfl, rfl, SqT.of hp, at0, q, _, rfl, SqT.of hq, rfl, _, _, rfl, _, _, rfl, _, _, rfl, rfl, ?_⟩
    refine ⟨_, rfl, p, _, _, _, rfl, rfl, SqT.of hp, at1, _, rfl, rfl, _, rfl, ?_⟩
    refine ite2 (fun e => ?_) (fun _ => ?_)
    · have e' : a.k = a.j.s := V.int.inj (of_decide_eq_true (by simpa using e))
      refine ⟨_, rfl, _, rfl, _, rfl, fun y dy ny ndy ney => ⟨y, dy, a.j, rfl, upd_same, ok.j, rfl, ?_⟩⟩
      rw [upd_upd]
      have s1 : Same H (upd (upd H dy (.own y)) y (.ins CJ dy (jrF a.j))) := Same.inst ny ndy
      intro z dz nz ndz nez
      have s2 := Same.inst nz ndz (o := .ins CF dz []) (o' := .own z)
      refine ⟨z, dz, y, _, a.j, a.k, rfl, upd_same, ⟨dy, s2 _ _ upd_same⟩, ok.k0, ok.k1, .inl ⟨rfl, e'⟩, rfl, ?_⟩
      rw [upd_upd]
      have s3 : Same (upd (upd H dy (.own y)) y (.ins CJ dy (jrF a.j))) (upd (upd (upd (upd H dy (.own y)) y (.ins CJ dy (jrF a.j))) dz (.own z)) z (.ins CF dz (flF y a.k))) := Same.inst nz ndz
      exact kk z _ (s1.trans s3) (s1.free nz) ⟨dz, y, upd_same, dy, s3 _ _ upd_same⟩
    · refine ⟨_, rfl, _, rfl, _, rfl, fun y dy ny ndy ney => ⟨y, dy, a.j, rfl, upd_same, ok.j, rfl, ?_⟩⟩
      rw [upd_upd]
      have s1 : Same H (upd (upd H dy (.own y)) y (.ins CJ dy (jrF a.j))) := Same.inst ny ndy
      refine ⟨_, rfl, p, _, _, _, rfl, rfl, SqT.of (s1 _ _ hp), at1, ?_⟩
      intro z dz nz ndz nez
      have s2 := Same.inst nz ndz (o := .ins CF dz []) (o' := .own z)
      refine ⟨z, dz, y, _, a.j, a.k, rfl, upd_same, ⟨dy, s2 _ _ upd_same⟩, ok.k0, ok.k1, .inr rfl, rfl, ?_⟩
      rw [upd_upd]
      have s3 : Same (upd (upd H dy (.own y)) y (.ins CJ dy (jrF a.j))) (upd (upd (upd (upd H dy (.own y)) y (.ins CJ dy (jrF a.j))) dz (.own z)) z (.ins CF dz (flF y a.k))) := Same.inst nz ndz
      exact kk z _ (s1.trans s3) (s1.free nz) ⟨dz, y, upd_same, dy, s3 _ _ upd_same⟩

def spMostL : Sp := fun vs H Q _ => ∃ (x : V) (ah t : Int) (a : Ak), vs = [x, .int ah, .int t] ∧ AkR H x a ∧ a.Ok ∧ Q (.int (mostI a.j a.k ah t)) H
abbrev NML : List Str := ["_law_ask_here", "_law_ahead", "_law_ticks_here", "_law_size", "_law_rate", "_law_mouth", "_law_marks"]
theorem scMostL : FnScope NML ["_law_ask_here", "_law_ahead", "_law_ticks_here"] (defScope sMost) := ⟨rfl, rfl, rfl, by decide +kernel, rfl, by decide +kernel, by decide +kernel⟩
theorem ok_MostL {f : Addr} {fd : FuncData} (F : Fun K "_law_most" "_law_most" sMost f fd) (T : Txt K mg CJ CF CS) : FnOk P w K mg base CX0 1 f fd ["_law_ask_here", "_law_ahead", "_law_ticks_here"] spMostL := by
  refine F.ok scMostL (fun vs H Q E h => ?_) (fun cdv A outer s H vs Q E hr h => ?_)
  · obtain ⟨x, ah, t, a, rfl, _⟩ := h
    rfl
  · obtain ⟨x, ah, t, a, rfl, ⟨p, q, rfl, hp, hq⟩, ok, kk⟩ := h
    refine ⟨_, pss_cons (ps_asg (pe_ix ix_tup (pv 0) pe_int (fun _ _ => rfl)) (pg_tup (by rfl) (pgs_cons (pg_name (i := 3) scMostL.nd rfl (Or.inl rfl)) (pgs_cons (pg_name (i := 4) scMostL.nd rfl (Or.inl rfl)) (pgs_cons (pg_name (i := 5) scMostL.nd rfl (Or.inl rfl)) pgs_nil)))))
      (pss_cons (ps_set (i := 6) scMostL.nd rfl (Or.inl rfl) (pe_callB (call_min2 rfl) (by rfl) T.min (by decide +kernel) (pa_cons (pv 3) (pa_cons (pe_op op_add (pe_ix ix_tup (pv 0) pe_int (fun _ _ => rfl)) (pe_op op_mul (pv 4) (pv 1))) pa_nil))))
      (pss_one (ps_ret (pe_ifExp (pt_cmpR op_gt (pv 2) pe_int (nomark _)) (pe_callB (call_min2 rfl) (by rfl) T.min (by decide +kernel) (pa_cons (pe_op op_mul (pv 5) (pv 2)) (pa_cons (pe_op op_add (pv 6) (pe_op op_mul (pv 4) (pe_op op_sub (pv 2) pe_int))) pa_nil))) pe_int)))), ?_⟩
    refine ⟨_, rfl, p, _, _, _, rfl, rfl, SqT.of hp, at0, q, _, rfl, SqT.of hq, rfl, _, _, rfl, _, _, rfl, _, _, rfl, rfl, ?_⟩
    refine ⟨_, rfl, _, rfl, p, _, _, _, rfl, rfl, SqT.of hp, at1, _, rfl, _, rfl, _, _, rfl, rfl, .inl ok.j.rb, _, _, rfl, rfl, _, _, rfl, ?_⟩
    refine ⟨_, rfl, _, _, rfl, rfl, _, rfl, ?_⟩
    by_cases h : 0 < t
    · rw [decide_eq_true h]
      have e : mostI a.j a.k ah t = mn (a.j.m * t) (aheadI a.j a.k ah + a.j.r * (t - 1)) := by unfold mostI; rw [if_neg (by omega)]
      rw [e] at kk
      refine iteT ⟨_, rfl, _, rfl, _, _, rfl, rfl, .inl ok.j.mb, _, rfl, _, rfl, _, rfl, _, _, rfl, rfl, _, _, rfl, rfl, .inl ok.j.rb, _, _, rfl, rfl, _, _, rfl, ?_⟩
      exact kk
    · rw [decide_eq_false h]
      have e : mostI a.j a.k ah t = 0 := by unfold mostI; rw [if_pos (by omega)]
      rw [e] at kk
      exact iteF kk

def spNeedL : Sp := fun vs H Q _ => ∃ (p : Addr) (fi la now op : Int) (ks : List Kn) (as : List Ak), vs = [.ref p, .int fi, .int la] ∧ PlainAt H p now op ks as ∧ (∀ a ∈ as, a.Ok) ∧ ks.length ≤ 1000 ∧ ∀ H', Same H H' → Q (.int (needN now fi la ks as)) H'
abbrev NNL : List Str := ["_law_plain_here", "_law_first", "_law_end", "_law_now", "_law_opens", "_law_knowns", "_law_asks", "_law_found", "_law_ask_here", "_law_begin", "_law_come", "_law_hour", "_law_many"]
theorem scNeedL : FnScope NNL ["_law_plain_here", "_law_first", "_law_end"] (defScope sNeed) := ⟨rfl, rfl, rfl, by decide +kernel, rfl, by decide +kernel, by decide +kernel⟩
theorem ok_NeedL {f : Addr} {fd : FuncData} (F : Fun K "_law_need" "_law_need" sNeed f fd) (T : Txt K mg CJ CF CS) (cM : C8.Cal P w K mg base 1 "_law_most" spMostL []) : FnOk P w K mg base CX0 2 f fd ["_law_plain_here", "_law_first", "_law_end"] spNeedL := by
  refine F.ok scNeedL (fun vs H Q E h => ?_) (fun cdv A outer s H vs Q E hr h => ?_)
  · obtain ⟨p, fi, la, now, op, ks, as, rfl, _⟩ := h
    rfl
  · obtain ⟨p, fi, la, now, op, ks, as, rfl, ⟨l1, l2, x1, x2, hp, h1, p1, h2, p2⟩, hO, hl, kk⟩ := h
    refine ⟨_, pss_cons (ps_asg (pv 0) (pg_tup (by rfl) (pgs_cons (pg_name (i := 3) scNeedL.nd rfl (Or.inl rfl)) (pgs_cons (pg_name (i := 4) scNeedL.nd rfl (Or.inl rfl)) (pgs_cons (pg_name (i := 5) scNeedL.nd rfl (Or.inl rfl)) (pgs_cons (pg_name (i := 6) scNeedL.nd rfl (Or.inl rfl)) pgs_nil))))))
      (pss_cons (ps_set (i := 7) scNeedL.nd rfl (Or.inl rfl) (pe_callB (cr_sum rfl) (by rfl) T.sum (by decide +kernel) (pa_cons (pe_lc (own := [("_law_come", 10), ("_law_hour", 11), ("_law_many", 12)]) (g := gTup K 3 (gCons (gName 10) (gCons (gName 11) (gCons (gName 12) gNil)))) rfl scNeedL.nd (pi_list (pv 5))
        (blkOk_by (N := NNL) (sc := defScope sNeed) (by decide +kernel))
        (fun _ _ _ _ _ => pg_tup rfl (pgs_cons (pg_name (i := 10) scNeedL.nd rfl (Or.inl rfl)) (pgs_cons (pg_name (i := 11) scNeedL.nd rfl (Or.inl rfl)) (pgs_cons (pg_name (i := 12) scNeedL.nd rfl (Or.inl rfl)) pgs_nil))))
        (fun _ _ _ _ _ => pts_one (PW.pt (pw_and (pt_cmpR op_le (pv 1) (pv 10) (nomark _)) (pw_and1 (pt_cmpR op_le (pv 11) (pv 2) (nomark _))))))
        (fun _ _ _ _ _ => pv 12)) pa_nil)))
      (pss_cons (ps_for PassesOwn.never rfl (pi_list (pv 6)) (pg_name (i := 8) scNeedL.nd rfl (Or.inl rfl))
        (pss_cons (ps_set (i := 9) scNeedL.nd rfl (Or.inl rfl) (pe_callB (call_max2 rfl) (by rfl) T.max (by decide +kernel) (pa_cons (pv 3) (pa_cons (pe_op op_sub (pv 1) (pe_ix ix_tup (pv 8) pe_int (fun _ _ => rfl))) pa_nil))))
        (pss_one (ps_set (i := 7) scNeedL.nd rfl (Or.inl rfl) (pe_op op_add (pv 7) (C8.pe_c cM hr (by decide) rfl (pa_cons (pv 8) (pa_cons (pe_op op_sub (pv 9) (pv 3)) (pa_cons (pe_op op_add (pe_op op_sub (pe_op op_sub (pe_op op_sub (pv 2) (pe_ix ix_tup (pv 8) pe_int (fun _ _ => rfl))) (pe_ix ix_tup (pv 8) pe_int (fun _ _ => rfl))) (pv 9)) pe_int) pa_nil)))))))))
      (pss_one (ps_ret (pv 7))))), ?_⟩
    refine ⟨_, rfl, p, _, rfl, SqT.of hp, rfl, _, _, rfl, _, _, rfl, _, _, rfl, _, _, rfl, rfl, ?_⟩
    refine ⟨_, rfl, l1, rfl, ⟨_, SqL.of h1⟩, fun D hD => lc_sel (a := l1) (Ri := KnR H) (p := fun k => decide (fi ≤ k.c) && decide (k.h ≤ la)) (f := fun k => .int k.m) hD (SqL.of h1) p1 (pw_len p1 hl) ?_ ?_⟩
    · rintro i x k H1 hx hd ⟨t, rfl, ht⟩ s1 N N' kN kN'
      refine ⟨t, _, rfl, SqT.of (s1 _ _ ht), rfl, _, _, rfl, _, _, rfl, _, _, rfl, rfl, rfl, _, rfl, _, rfl, _, _, rfl, rfl, _, rfl, ?_⟩
      by_cases e1 : fi ≤ k.c
      · rw [decide_eq_true e1] at kN kN' ⊢
        refine iteT ⟨_, rfl, _, rfl, _, _, rfl, rfl, _, rfl, ?_⟩
        by_cases e2 : k.h ≤ la
        · rw [decide_eq_true e2] at kN ⊢
          exact iteT ⟨_, rfl, kN rfl _ (Same.refl _)⟩
        · rw [decide_eq_false e2] at kN' ⊢
          exact iteF (kN' rfl _ (Same.refl _))
      · rw [decide_eq_false e1] at kN' ⊢
        exact iteF (iteF (kN' rfl _ (Same.refl _)))
    · rintro H1 s1 hy
      have hy' : H1 D = some (.lst ((selK fi la ks).map V.int)) := by
        rw [hy]
        unfold selK
        rw [List.map_map]
        rfl
      have hlen := Paired.length p2
      refine ⟨D, (selK fi la ks), rfl, SqL.of hy', ?_⟩
      refine ⟨_, rfl, l2, rfl, ⟨_, SqL.of (s1 _ _ h2)⟩, for_list (K := K) (a := l2) (xs := x2) (fun i σ H' => ∃ z v8 v9, σ = [some (.ref p), some (.int fi), some (.int la), some (.int now), some (.int op), some (.ref l1), some (.ref l2), some (.int z), v8, v9, none, none, none] ∧ z = (selK fi la ks).sum + ((as.take i).map (askN now fi la)).sum ∧ Same H H')
        ⟨_, none, none, rfl, by simp, s1⟩ (fun i σ H' _ ⟨_, _, _, _, _, s2⟩ => SqL.of (s2 _ _ h2)) ?_ ?_⟩
      · rintro i x σ H' hx ⟨z, v8, v9, rfl, ez, s2⟩
        obtain ⟨a, hd, ar⟩ := Paired.get p2 hx
        have ar' := mon_AkR.same s2 ar
        obtain ⟨t, q, rfl, ht, hq⟩ := id ar'
        refine ⟨_, rfl, _, rfl, _, rfl, t, _, _, _, rfl, rfl, SqT.of ht, at2, _, _, rfl, rfl, _, _, rfl, ?_⟩
        refine ⟨_, rfl, _, rfl, _, rfl, _, rfl, _, _, rfl, rfl, _, rfl, _, rfl, t, _, _, _, rfl, rfl, SqT.of ht, at3, _, _, rfl, rfl, _, rfl, t, _, _, _, rfl, rfl, SqT.of ht, at2, _, _, rfl, rfl, _, rfl, _, _, rfl, rfl, _, _, rfl, rfl, _, _, _, a, rfl, ar', hO a (List.mem_of_getElem? hd), _, _, rfl, rfl, ?_⟩
        refine ⟨_, _, _, rfl, ?_, s2⟩
        rw [take_snoc hd, List.map_append, List.map_singleton, sum_snoc, ez]
        unfold askN
        rw [show la - a.w - a.a - (if fi - a.a > now then fi - a.a else now) + 1 = la - a.a - a.w - mx now (fi - a.a) + 1 from by unfold mx; omega]
        unfold mx
        omega
      · rintro σ H' ⟨z, v8, v9, rfl, ez, s2⟩
        rw [hlen, List.take_length] at ez
        subst ez
        exact ⟨_, rfl, kk H' s2⟩

def spTicks : Sp := fun vs H Q _ => ∃ (p : Addr) (fi la now op : Int) (a b : V), vs = [.ref p, .int fi, .int la] ∧ H p = some (.tup [.int now, .int op, a, b]) ∧ Q (.int (mx 0 (la - mx fi op))) H
theorem scTicks : FnScope ["_law_plain_here", "_law_first", "_law_end"] ["_law_plain_here", "_law_first", "_law_end"] (defScope sTicks) := ⟨rfl, rfl, rfl, by decide +kernel, rfl, by decide +kernel, by decide +kernel⟩
theorem ok_Ticks {f : Addr} {fd : FuncData} (F : Fun K "_law_ticks" "_law_ticks" sTicks f fd) (T : Txt K mg CJ CF CS) : FnOk P w K mg base CX0 1 f fd ["_law_plain_here", "_law_first", "_law_end"] spTicks := by
  refine F.ok scTicks (fun vs H Q E h => ?_) (fun cdv A outer s H vs Q E hr h => ?_)
  · obtain ⟨p, fi, la, now, op, a, b, rfl, _⟩ := h
    rfl
  · obtain ⟨p, fi, la, now, op, a, b, rfl, hp, kk⟩ := h
    refine ⟨_, pss_one (ps_ret (pe_callB (call_max2 rfl) (by rfl) T.max (by decide +kernel) (pa_cons pe_int (pa_cons (pe_op op_sub (pv 2) (pe_callB (call_max2 rfl) (by rfl) T.max (by decide +kernel) (pa_cons (pv 1) (pa_cons (pe_ix ix_tup (pv 0) pe_int (fun _ _ => rfl)) pa_nil)))) pa_nil)))), ?_⟩
    refine ⟨_, rfl, _, rfl, _, rfl, p, _, _, _, rfl, rfl, SqT.of hp, at1, _, _, rfl, _, _, rfl, rfl, _, _, rfl, ?_⟩
    exact kk

def spIs : Sp := fun vs H Q _ => ∃ i : Int, vs = [.int i, .int i] ∧ Q (.bl true) H
theorem scIs : FnScope ["_law_found", "_law_due"] ["_law_found", "_law_due"] (defScope sIs) := ⟨rfl, rfl, rfl, by decide +kernel, rfl, by decide +kernel, by decide +kernel⟩
theorem ok_Is {f : Addr} {fd : FuncData} (F : Fun K "_law_is" "_law_is" sIs f fd) (T : Txt K mg CJ CF CS) : FnOk P w K mg base CX0 1 f fd ["_law_found", "_law_due"] spIs := by
  refine F.ok scIs (fun vs H Q E h => ?_) (fun cdv A outer s H vs Q E hr h => ?_)
  · obtain ⟨i, rfl, _⟩ := h
    rfl
  · obtain ⟨i, rfl, kk⟩ := h
    refine ⟨_, pss_one (ps_ret (pe_and (pe_callB call_isi (by rfl) T.isi (by decide +kernel) (pa_cons (pv 0) (pa_cons (pe_bltn (v := .ty "int") (u := .type "int") (by rfl) T.int (by decide +kernel) rfl) pa_nil)))
      (pe_and (pe_not (pe_callB call_isi (by rfl) T.isi (by decide +kernel) (pa_cons (pv 0) (pa_cons (pe_bltn (v := .ty "bool") (u := .type "bool") (by rfl) T.bool (by decide +kernel) rfl) pa_nil)))) (pe_one (pe_cmpR op_eq (pv 0) (pv 1) (nomark _)))))), ?_⟩
    refine ⟨_, rfl, _, _, _, _, true, rfl, .ty "int", .base (.int i), kit_ty (by decide +kernel), true, rfl, iteT ?_⟩
    refine ⟨_, rfl, _, _, _, _, false, rfl, .ty "bool", .base (.int i), kit_ty (by decide +kernel), false, rfl, true, rfl, iteT ?_⟩
    refine ⟨_, rfl, _, rfl, rfl, ?_⟩
    have e : decide (V.int i = V.int i) = true := decide_eq_true rfl
    show Q (.bl (decide (V.int i = V.int i))) H
    rw [e]
    exact kk
end
end Hl
set_option Elab.async false
set_option maxRecDepth 100000
set_option maxHeartbeats 4000000
set_option linter.all false
/-! the law's looks at rows, asks, scenes -/
namespace Hl
open PySem L2
def knD (k : Kn) : PyData := .tuple [.int k.c, .int k.h, .int k.m]
theorem dp_kn {K : PySem.W.Frag} {H : Hp} {x : V} {k : Kn} (h : KnR H x k) : Dp K H x (knD k) := by
  obtain ⟨t, rfl, ht⟩ := h
  exact dp_tri ht
theorem dp_kns {K : PySem.W.Frag} {H : Hp} : ∀ {xs : List V} {ks : List Kn}, Paired (KnR H) xs ks → DpAll K H xs (ks.map knD)
  | _, _, .nil => .nil
  | _, _, .cons r t => .cons (dp_kn r) (dp_kns t)
theorem shp_kns (ks : List Kn) : SeqAt.shaped (.list (ks.map knD)) = true := shp_list fun d hd => by
  obtain ⟨k, _, rfl⟩ := List.mem_map.mp hd
  exact ⟨rfl, (by show 1 ≤ 63; decide)⟩
theorem eqv_shp {d : PyData} (h : SeqAt.shaped d = true) : PyData.eqv d d = true := SeqAt.eqv_refl d (SeqAt.canLay_of_shaped h)
section
variable {P : Program} {w : World} {K : PySem.W.Frag} {mg : Str → Option Value} {base : Heap} {CJ CF CS : Addr}
def spRows : Sp := fun vs H Q _ => ∃ (l m : Addr) (xs ys : List V) (ks : List Kn), vs = [.ref l, .ref m] ∧ H l = some (.lst xs) ∧ Paired (KnR H) xs ks ∧ H m = some (.lst ys) ∧ Paired (KnR H) ys ks ∧ ∀ H', Same H H' → Q (.bl true) H'
abbrev NRw : List Str := ["_law_found", "_law_due", "_law_row", "_law_one"]
theorem scRows : FnScope NRw ["_law_found", "_law_due"] (defScope sRowsAre) := ⟨rfl, rfl, rfl, by decide +kernel, rfl, by decide +kernel, by decide +kernel⟩
theorem ok_Rows {f : Addr} {fd : FuncData} (F : Fun K "_law_rows_are" "_law_rows_are" sRowsAre f fd) (T : Txt K mg CJ CF CS) (cI : C8.Cal P w K mg base 1 "_law_is" spIs []) : FnOk P w K mg base CX0 2 f fd ["_law_found", "_law_due"] spRows := by
  refine F.ok scRows (fun vs H Q E h => ?_) (fun cdv A outer s H vs Q E hr h => ?_)
  · obtain ⟨l, m, xs, ys, ks, rfl, _⟩ := h
    rfl
  · obtain ⟨l, m, xs, ys, ks, rfl, hl, px, hm, py, kk⟩ := h
    refine ⟨_, pss_cons (ps_if (PW.pt (pw_or (pt_not (pt_val (pe_callB call_isi (by rfl) T.isi (by decide +kernel) (pa_cons (pv 0) (pa_cons (pe_bltn (v := .ty "list") (u := .type "list") (by rfl) T.list (by decide +kernel) rfl) pa_nil))))) (pw_or1 (pt_cmpR (op_neD hr.units) (pv 0) (pv 1) (nomark _)))))
        (pss_one (ps_ret pe_bl)) pss_nil)
      (pss_cons (ps_for PassesOwn.never rfl (pi_list (pv 0)) (pg_name (i := 2) scRows.nd rfl (Or.inl rfl))
        (pss_one (ps_if (PW.pt (pw_or (pt_not (pt_val (pe_callB call_isi (by rfl) T.isi (by decide +kernel) (pa_cons (pv 2) (pa_cons (pe_bltn (v := .ty "tuple") (u := .type "tuple") (by rfl) T.tuple (by decide +kernel) rfl) pa_nil)))))
          (pw_or1 (pt_cmpR (op_neD hr.units) (pe_lc (own := [("_law_one", 3)]) (g := gName 3) rfl scRows.nd (pi_tup (pv 2)) (blkOk_by (N := NRw) (sc := defScope sRowsAre) (by decide +kernel)) (fun _ _ _ _ _ => pg_name (i := 3) scRows.nd rfl (Or.inl rfl))
            (fun _ _ _ _ _ => pts_one (pt_not (pt_val (C8.pe_c cI hr (by decide) rfl (pa_cons (pv 3) (pa_cons (pv 3) pa_nil)))))) (fun _ _ _ _ _ => pv 3)) (pe_lst pa_nil) (nomark _))))) (pss_one (ps_ret pe_bl)) pss_nil)))
      (pss_one (ps_ret pe_bl))), ?_⟩
    refine ⟨_, rfl, _, _, _, _, true, rfl, .ty "list", .base (.lst hl), kit_ty (by decide +kernel), true, rfl, iteF ?_⟩
    refine ⟨_, rfl, _, rfl, _, _, .lst (SqL.of hl) (dp_kns px), .lst (SqL.of hm) (dp_kns py), shp_kns ks, shp_kns ks, _, rfl, ?_⟩
    rw [eqv_shp (shp_kns ks)]
    refine iteF ?_
    refine ⟨_, rfl, l, rfl, ⟨_, SqL.of hl⟩, for_list (K := K) (a := l) (xs := xs) (fun i σ H' => ∃ v2, σ = [some (.ref l), some (.ref m), v2, none] ∧ Same H H') ⟨none, rfl, Same.refl _⟩ (fun i σ H' _ ⟨_, _, s1⟩ => SqL.of (s1 _ _ hl)) ?_ ?_⟩
    · rintro i x σ H' hx ⟨v2, rfl, s1⟩
      obtain ⟨k, hd, t, rfl, ht⟩ := Paired.get px hx
      have ht' := s1 _ _ ht
      refine ⟨_, rfl, _, _, _, _, true, rfl, .ty "tuple", .base (.tup ht'), kit_ty (by decide +kernel), true, rfl, iteF ?_⟩
      refine ⟨_, rfl, t, rfl, ⟨_, SqT.of ht'⟩, fun D hD => lc_tup (K := K) (a := t) (xs := [.int k.c, .int k.h, .int k.m]) (fun i H2 => Same H' H2 ∧ H2 D = some (.lst [])) ⟨Same.upd0 hD, upd_same⟩ (fun i H2 _ q => SqT.of (q.1 _ _ ht')) ?_ ?_⟩
      · rintro i y H2 hy ⟨s2, e2⟩
        obtain ⟨z, rfl⟩ : ∃ z, y = V.int z := by
          have q := List.mem_of_getElem? hy
          simp only [List.mem_cons, List.not_mem_nil, or_false] at q
          rcases q with q | q | q <;> exact ⟨_, q⟩
        refine ⟨rfl, _, rfl, _, rfl, z, rfl, true, rfl, iteF ?_⟩
        exact ⟨s2, e2⟩
      · rintro H2 ⟨s2, e2⟩
        refine ⟨(by show 0 ≤ sizeLine; decide), fun l2 nl2 => ?_⟩
        have s3 : Same H2 (upd H2 l2 (.lst [])) := Same.upd0 nl2
        refine ⟨_, _, .lst (SqL.of (s3 _ _ e2)) .nil, .lst (SqL.of upd_same) .nil, rfl, rfl, _, rfl, iteF ?_⟩
        exact ⟨_, rfl, s1.trans (s2.trans s3)⟩
    · rintro σ H' ⟨v2, rfl, s1⟩
      exact kk H' s1

/-- the jar's own ==, as != asks it -/
structure JEq (P : Program) (w : World) (K : PySem.W.Frag) (mg : Str → Option Value) (base : Heap) (CJ : Addr) : Prop where
  ex : ∃ (f : Addr) (fd : FuncData), FnOk P w K mg base CX0 2 f fd ["self", "other"] (spJEq CJ) ∧ PySem.W.findIn K (.ref CJ) "__ne__" = some (some (.builtin "object.__ne__")) ∧ PySem.W.mroIn K CJ (.type "object") = some true ∧
    PySem.W.findIn K (.ref CJ) "__eq__" = some (some (.ref f)) ∧ PySem.W.isFn K (.ref f) = true ∧ Binds K fd ["self", "other"] []
theorem op_neJ {X : Cx} {j : Nat} (e : JEq X.prog X.w X.K X.mg X.base CJ) (hr : Room j X.A) (hj : 3 ≤ j) : OpR X (compareOp .NotEq) (rNeO CJ (spJEq CJ) E0) := by
  obtain ⟨f, fd, F, h1, h2, h3, h4, b⟩ := e.ex
  exact op_neO F (hr.mono hj) h1 h2 h3 h4 b pass0

def spAsksAre (CJ CF : Addr) : Sp := fun vs H Q _ => ∃ (l m : Addr) (xs ys : List V) (as : List Ak), vs = [.ref l, .ref m] ∧ H l = some (.lst xs) ∧ Paired (OaR CJ CF H) xs as ∧ H m = some (.lst ys) ∧ Paired (AkR H) ys as ∧ (∀ a ∈ as, a.Ok) ∧ ∀ H', Same H H' → Q (.bl true) H'
abbrev NAs : List Str := ["_law_found", "_law_due", "_law_row", "_law_ask_here", "_law_size", "_law_rate", "_law_mouth"]
theorem scAsksAre : FnScope NAs ["_law_found", "_law_due"] (defScope sAsksAre) := ⟨rfl, rfl, rfl, by decide +kernel, rfl, by decide +kernel, by decide +kernel⟩
theorem ok_AsksAre {f : Addr} {fd : FuncData} (F : Fun K "_law_asks_are" "_law_asks_are" sAsksAre f fd) (T : Txt K mg CJ CF CS) (cI : C8.Cal P w K mg base 1 "_law_is" spIs []) (mkJ : C8.Mak P w K mg base 1 "Jar" CJ (spJI CJ) [])
    (cT : C8.Met P w K mg base 1 CJ "told" (spJTold CJ) []) (eJ : JEq P w K mg base CJ) : FnOk P w K mg base CX0 5 f fd ["_law_found", "_law_due"] (spAsksAre CJ CF) := by
  refine F.ok scAsksAre (fun vs H Q E h => ?_) (fun cdv A outer s H vs Q E hr h => ?_)
  · obtain ⟨l, m, xs, ys, as, rfl, _⟩ := h
    rfl
  · obtain ⟨l, m, xs, ys, as, rfl, hl, px, hm, py, ok, kk⟩ := h
    refine ⟨_, pss_cons (ps_if (PW.pt (pw_or (pt_not (pt_val (pe_callB call_isi (by rfl) T.isi (by decide +kernel) (pa_cons (pv 0) (pa_cons (pe_bltn (v := .ty "list") (u := .type "list") (by rfl) T.list (by decide +kernel) rfl) pa_nil)))))
        (pw_or1 (pt_cmpR op_ne (pe_callB call_len_seq (by rfl) T.len PySem.boot_len (pa_cons (pv 0) pa_nil)) (pe_callB call_len_seq (by rfl) T.len PySem.boot_len (pa_cons (pv 1) pa_nil)) (nomark _))))) (pss_one (ps_ret pe_bl)) pss_nil)
      (pss_cons (ps_for PassesOwn.never rfl (pi_zip (by rfl) T.zip (pa_cons (pv 0) (pa_cons (pv 1) pa_nil))) (pg_tup rfl (pgs_cons (pg_name (i := 2) scAsksAre.nd rfl (Or.inl rfl)) (pgs_cons (pg_name (i := 3) scAsksAre.nd rfl (Or.inl rfl)) pgs_nil)))
        (pss_cons (ps_if (PW.pt (pw_or (pt_not (pt_val (pe_callB call_isi (by rfl) T.isi (by decide +kernel) (pa_cons (pv 2) (pa_cons (pe_bltn (v := .ty "tuple") (u := .type "tuple") (by rfl) T.tuple (by decide +kernel) rfl) pa_nil)))))
            (pw_or (pt_cmpR op_ne (pe_callB call_len_seq (by rfl) T.len PySem.boot_len (pa_cons (pv 2) pa_nil)) pe_int (nomark _))
            (pw_or1 (pt_not (pt_val (pe_callB (C8.call_isC T.iF) (by rfl) T.isi (by decide +kernel) (pa_cons (pe_ix ix_tup (pv 2) pe_int (fun _ _ => rfl)) (pa_cons (pe_glob (v := .ref CF) rfl T.mF rfl) pa_nil))))))))) (pss_one (ps_ret pe_bl)) pss_nil)
        (pss_cons (ps_asg (pe_ix ix_tup (pv 3) pe_int (fun _ _ => rfl)) (pg_tup (by rfl) (pgs_cons (pg_name (i := 4) scAsksAre.nd rfl (Or.inl rfl)) (pgs_cons (pg_name (i := 5) scAsksAre.nd rfl (Or.inl rfl)) (pgs_cons (pg_name (i := 6) scAsksAre.nd rfl (Or.inl rfl)) pgs_nil)))))
        (pss_cons (ps_if (PW.pt (pw_or (pt_not (pt_val (C8.pe_c cI hr (by decide) rfl (pa_cons (pe_fld (pe_ix ix_tup (pv 2) pe_int (fun _ _ => rfl)) rfl) (pa_cons (pe_ix ix_tup (pv 3) pe_int (fun _ _ => rfl)) pa_nil)))))
            (pw_or (pt_cmpR (op_neJ eJ hr (by decide)) (pe_fld (pe_ix ix_tup (pv 2) pe_int (fun _ _ => rfl)) rfl) (C8.pe_mk mkJ hr (by decide) rfl (pa_cons (pv 4) (pa_cons (pv 5) (pa_cons (pv 6) pa_nil)))) (nomark _))
            (pw_or1 (pt_cmpR (op_neD hr.units) (C8.pe_mt0 cT hr (by decide) (pe_fld (pe_ix ix_tup (pv 2) pe_int (fun _ _ => rfl)) rfl)) (pe_ix ix_tup (pv 3) pe_int (fun _ _ => rfl)) (nomark _)))))) (pss_one (ps_ret pe_bl)) pss_nil)
        (pss_one (ps_if (PW.pt (pw_or (pt_not (pt_val (C8.pe_c cI hr (by decide) rfl (pa_cons (pe_ix ix_tup (pv 2) pe_int (fun _ _ => rfl)) (pa_cons (pe_ix ix_tup (pv 3) pe_int (fun _ _ => rfl)) pa_nil)))))
            (pw_or1 (pt_not (pt_val (C8.pe_c cI hr (by decide) rfl (pa_cons (pe_ix ix_tup (pv 2) pe_int (fun _ _ => rfl)) (pa_cons (pe_ix ix_tup (pv 3) pe_int (fun _ _ => rfl)) pa_nil)))))))) (pss_one (ps_ret pe_bl)) pss_nil))))))
      (pss_one (ps_ret pe_bl))), ?_⟩
    have lx := Paired.length px
    have ly := Paired.length py
    refine ⟨_, rfl, _, _, _, _, true, rfl, .ty "list", .base (.lst hl), kit_ty (by decide +kernel), true, rfl, iteF ?_⟩
    refine ⟨_, rfl, l, _, rfl, .inl (SqL.of hl), _, rfl, m, _, rfl, .inl (SqL.of hm), rfl, _, rfl, ?_⟩
    refine iteNS (by rw [lx, ly]) ?_
    refine ⟨_, rfl, _, rfl, l, m, xs, ys, rfl, SqL.of hl, SqL.of hm, RZ.for_zipL (K := K) (a := l) (b := m) (xs := xs) (ys := ys) (by rw [lx, ly]) (fun i σ H' => ∃ v2 v3 v4 v5 v6, σ = [some (.ref l), some (.ref m), v2, v3, v4, v5, v6] ∧ Same H H') ⟨none, none, none, none, none, rfl, Same.refl _⟩
      (fun i σ H' ⟨_, _, _, _, _, _, s1⟩ => ⟨SqL.of (s1 _ _ hl), SqL.of (s1 _ _ hm)⟩) ?_ ?_⟩
    · rintro i x y Z σ H0 hx hy ⟨v2, v3, v4, v5, v6, rfl, s0⟩ nZ
      obtain ⟨a, hd, ra⟩ := Paired.get px hx
      obtain ⟨a', hd', rb⟩ := Paired.get py hy
      rw [hd] at hd'
      cases hd'
      have sZ : Same H (upd H0 Z (.tup [x, y])) := s0.trans (Same.upd0 nZ)
      obtain ⟨t, fl, rfl, ht, hfl⟩ := mon_OaR.same sZ ra
      obtain ⟨df, q, hf, dj, hq⟩ := id hfl
      obtain ⟨p, u, rfl, hp, hu⟩ := mon_AkR.same sZ rb
      have oka := ok a (List.mem_of_getElem? hd)
      refine ⟨Z, _, rfl, SqT.of upd_same, rfl, _, _, rfl, _, _, rfl, rfl, ?_⟩
      generalize (upd H0 Z (.tup [V.ref t, V.ref p])) = H1 at sZ ht hfl hf hq hp hu
      refine ⟨_, rfl, _, _, _, _, true, rfl, .ty "tuple", .base (.tup ht), kit_ty (by decide +kernel), true, rfl, iteF ?_⟩
      refine ⟨_, rfl, t, _, rfl, .inr (SqT.of ht), rfl, _, rfl, iteF ?_⟩
      refine ⟨_, rfl, t, _, _, _, rfl, rfl, SqT.of ht, at0, fl, df, _, rfl, hf, true, rfl, iteF ?_⟩
      refine ⟨_, rfl, p, _, _, _, rfl, rfl, SqT.of hp, at0, u, _, rfl, SqT.of hu, rfl, _, _, rfl, _, _, rfl, _, _, rfl, rfl, ?_⟩
      -- marks
      refine ⟨_, rfl, t, _, _, _, rfl, rfl, SqT.of ht, at0, fl, CF, df, _, _, rfl, hf, T.cF, T.nFm, fl_m q _, _, rfl, p, _, _, _, rfl, rfl, SqT.of hp, at1, a.k, rfl, true, rfl, iteF ?_⟩
      -- jar != Jar(..)
      refine ⟨_, rfl, t, _, _, _, rfl, rfl, SqT.of ht, at0, fl, CF, df, _, _, rfl, hf, T.cF, T.nFj, fl_j q _, _, rfl, _, rfl, _, rfl, fun z dz nz ndz nez => ⟨z, dz, a.j, rfl, upd_same, oka.j, rfl, ?_⟩⟩
      rw [upd_upd]
      have s2 : Same H1 (upd (upd H1 dz (.own z)) z (.ins CJ dz (jrF a.j))) := Same.inst nz ndz
      refine ⟨q, z, dj, dz, _, _, rfl, rfl, s2 _ _ hq, upd_same, q, z, a.j, rfl, ⟨dj, s2 _ _ hq⟩, ⟨dz, upd_same⟩, fun H3 s3 => ⟨true, rfl, false, rfl, iteF ?_⟩⟩
      have s13 := s2.trans s3
      -- told() != ..
      refine ⟨_, rfl, t, _, _, _, rfl, rfl, SqT.of (s13 _ _ ht), at0, fl, CF, df, _, _, rfl, s13 _ _ hf, T.cF, T.nFj, fl_j q _, q, dj, _, rfl, s13 _ _ hq, jr_told _, q, a.j, rfl, ⟨dj, s13 _ _ hq⟩, fun r nr => ?_⟩
      have s4 : Same H3 (upd H3 r (.tup [.int a.j.s, .int a.j.r, .int a.j.m])) := Same.upd0 nr
      have s14 := s13.trans s4
      refine ⟨_, rfl, p, _, _, _, rfl, rfl, SqT.of (s14 _ _ hp), at0, _, _, dp_tri upd_same, dp_tri (s14 _ _ hu), rfl, rfl, _, rfl, ?_⟩
      rw [eqv_tri]
      refine iteF ?_
      -- after, wait
      refine ⟨_, rfl, t, _, _, _, rfl, rfl, SqT.of (s14 _ _ ht), at1, _, rfl, p, _, _, _, rfl, rfl, SqT.of (s14 _ _ hp), at2, a.a, rfl, true, rfl, iteF ?_⟩
      refine ⟨_, rfl, t, _, _, _, rfl, rfl, SqT.of (s14 _ _ ht), at2, _, rfl, p, _, _, _, rfl, rfl, SqT.of (s14 _ _ hp), at3, a.w, rfl, true, rfl, iteF ?_⟩
      exact ⟨_, _, _, _, _, rfl, sZ.trans s14⟩
    · rintro σ H' ⟨v2, v3, v4, v5, v6, rfl, s1⟩
      exact kk H' s1
end
end Hl
set_option Elab.async false
set_option maxRecDepth 100000
set_option maxHeartbeats 4000000
set_option linter.all false
/-! stays, as_given, built -/
namespace Hl
open PySem L2
section
variable {P : Program} {w : World} {K : PySem.W.Frag} {mg : Str → Option Value} {base : Heap} {CJ CF CS : Addr}
def spStays (CJ CF CS : Addr) : Sp := fun vs H Q _ => ∃ (sp pl stt : Addr) (wd n o fi la : Int) (ks : List Kn) (as : List Ak), vs = [.ref sp, .ref pl, .int wd, .ref stt] ∧ SceneAt CJ CF CS H sp wd n o ks as ∧ PlainAt H pl n o ks as ∧ H stt = some (.tup [.int fi, .int la]) ∧
  (∀ a ∈ as, a.Ok) ∧ ks.length ≤ 1000 ∧ as.length ≤ 1000 ∧ (-(2 ^ 64) < wd ∧ wd < 2 ^ 64) ∧ ∀ H', Same H H' → Q (.bl true) H'
abbrev NSt : List Str := ["_law_scene", "_law_plain_here", "_law_width", "_law_stretch", "_law_now", "_law_opens", "_law_knowns", "_law_asks", "_law_first", "_law_end"]
theorem scStays : FnScope NSt ["_law_scene", "_law_plain_here", "_law_width", "_law_stretch"] (defScope sStays) := ⟨rfl, rfl, rfl, by decide +kernel, rfl, by decide +kernel, by decide +kernel⟩
theorem ok_Stays {f : Addr} {fd : FuncData} (F : Fun K "_law_stays" "_law_stays" sStays f fd) (T : Txt K mg CJ CF CS) (cI : C8.Cal P w K mg base 1 "_law_is" spIs []) (cR : C8.Cal P w K mg base 2 "_law_rows_are" spRows []) (cA : C8.Cal P w K mg base 5 "_law_asks_are" (spAsksAre CJ CF) [])
    (cN : C8.Cal P w K mg base 2 "_law_need" spNeedL []) (cT : C8.Cal P w K mg base 1 "_law_ticks" spTicks []) (mK : C8.Met P w K mg base 1 CS "known_rows" (spKnR CJ CF CS) []) (mA : C8.Met P w K mg base 3 CS "ask_rows" (spAskR CJ CF CS) [])
    (mN : C8.Met P w K mg base 4 CS "need" (spNeed CJ CF CS) []) (mH : C8.Met P w K mg base 1 CS "holds" (spHolds CJ CF CS) []) : FnOk P w K mg base CX0 6 f fd ["_law_scene", "_law_plain_here", "_law_width", "_law_stretch"] (spStays CJ CF CS) := by
  refine F.ok scStays (fun vs H Q E h => ?_) (fun cdv A outer s H vs Q E hr h => ?_)
  · obtain ⟨sp, pl, stt, wd, n, o, fi, la, ks, as, rfl, _⟩ := h
    rfl
  · obtain ⟨sp, pl, stt, wd, n, o, fi, la, ks, as, rfl, hS, hP, hs, ok, lk, lA, hw, kk⟩ := h
    refine ⟨_, pss_cons (ps_asg (pv 1) (pg_tup (by rfl) (pgs_cons (pg_name (i := 4) scStays.nd rfl (Or.inl rfl)) (pgs_cons (pg_name (i := 5) scStays.nd rfl (Or.inl rfl)) (pgs_cons (pg_name (i := 6) scStays.nd rfl (Or.inl rfl)) (pgs_cons (pg_name (i := 7) scStays.nd rfl (Or.inl rfl)) pgs_nil))))))
      (pss_cons (ps_asg (pv 3) (pg_tup (by rfl) (pgs_cons (pg_name (i := 8) scStays.nd rfl (Or.inl rfl)) (pgs_cons (pg_name (i := 9) scStays.nd rfl (Or.inl rfl)) pgs_nil))))
      (pss_cons (ps_if (pt_not (PW.pt (pw_and (pt_val (C8.pe_c cI hr (by decide) rfl (pa_cons (pe_fld (pv 0) rfl) (pa_cons (pv 2) pa_nil)))) (pw_and (pt_val (C8.pe_c cI hr (by decide) rfl (pa_cons (pe_fld (pv 0) rfl) (pa_cons (pv 4) pa_nil)))) (pw_and1 (pt_val (C8.pe_c cI hr (by decide) rfl (pa_cons (pe_fld (pv 0) rfl) (pa_cons (pv 5) pa_nil)))))))))
        (pss_one (ps_ret pe_bl)) pss_nil)
      (pss_cons (ps_if (PW.pt (pw_or (pt_not (pt_val (C8.pe_c cR hr (by decide) rfl (pa_cons (C8.pe_mt0 mK hr (by decide) (pv 0)) (pa_cons (pv 6) pa_nil))))) (pw_or1 (pt_not (pt_val (C8.pe_c cA hr (by decide) rfl (pa_cons (C8.pe_mt0 mA hr (by decide) (pv 0)) (pa_cons (pv 7) pa_nil)))))))) (pss_one (ps_ret pe_bl)) pss_nil)
      (pss_cons (ps_if (pt_not (pt_val (C8.pe_c cI hr (by decide) rfl (pa_cons (C8.pe_mt mN hr (by decide) (pv 0) (pa_cons (pv 8) (pa_cons (pv 9) pa_nil))) (pa_cons (C8.pe_c cN hr (by decide) rfl (pa_cons (pv 1) (pa_cons (pv 8) (pa_cons (pv 9) pa_nil)))) pa_nil))))) (pss_one (ps_ret pe_bl)) pss_nil)
      (pss_one (ps_ret (C8.pe_c cI hr (by decide) rfl (pa_cons (C8.pe_mt mH hr (by decide) (pv 0) (pa_cons (pv 8) (pa_cons (pv 9) pa_nil))) (pa_cons (pe_op op_mul (pv 2) (C8.pe_c cT hr (by decide) rfl (pa_cons (pv 1) (pa_cons (pv 8) (pa_cons (pv 9) pa_nil))))) pa_nil))))))))), ?_⟩
    obtain ⟨dx, l1, l2, x1, x2, hp, h1, p1, h2, p2⟩ := id hS
    obtain ⟨m1, m2, y1, y2, hpl, hm1, q1, hm2, q2⟩ := id hP
    refine ⟨_, rfl, pl, _, rfl, SqT.of hpl, rfl, _, _, rfl, _, _, rfl, _, _, rfl, _, _, rfl, rfl, ?_⟩
    refine ⟨_, rfl, stt, _, rfl, SqT.of hs, rfl, _, _, rfl, _, _, rfl, rfl, ?_⟩
    refine ⟨_, rfl, sp, CS, dx, _, _, rfl, hp, T.cS, T.nSw, sc_w .., _, rfl, wd, rfl, true, rfl, iteT ?_⟩
    refine ⟨_, rfl, sp, CS, dx, _, _, rfl, hp, T.cS, T.nSn, sc_n .., _, rfl, n, rfl, true, rfl, iteT ?_⟩
    refine ⟨_, rfl, sp, CS, dx, _, _, rfl, hp, T.cS, T.nSo, sc_o .., _, rfl, o, rfl, true, rfl, iteF ?_⟩
    -- known_rows
    refine ⟨_, rfl, sp, dx, _, rfl, hp, sc_no _ _ _ _ _ (by decide +kernel), sp, wd, n, o, ks, as, rfl, hS, fun r xs nr px => ?_⟩
    have s1 : Same H (upd H r (.lst xs)) := Same.upd0 nr
    refine ⟨_, rfl, r, m1, xs, y1, ks, rfl, upd_same, mon_KnR.pairs s1 px, s1 _ _ hm1, mon_KnR.pairs s1 q1, fun H2 s2 => ⟨true, rfl, iteF ?_⟩⟩
    have s02 := s1.trans s2
    -- ask_rows
    refine ⟨_, rfl, sp, dx, _, rfl, s02 _ _ hp, sc_no _ _ _ _ _ (by decide +kernel), sp, wd, n, o, ks, as, rfl, hS.keep s02, fun a ha => ⟨(ok a ha).k0, (ok a ha).k1⟩, lA, fun r2 ys H3 s3 nr2 hr2 pys => ?_⟩
    have s03 := s02.trans s3
    refine ⟨_, rfl, r2, m2, ys, y2, as, rfl, hr2, Paired.mapP pys fun x a ⟨t, f, df, q, e, _, _, ht, hf, hj⟩ => ⟨t, f, e, ht, df, q, hf, hj.keep s3⟩, s03 _ _ hm2, mon_AkR.pairs s03 q2, ok, fun H4 s4 => ⟨true, rfl, iteF ?_⟩⟩
    have s04 := s03.trans s4
    -- need
    refine ⟨_, rfl, sp, dx, _, rfl, s04 _ _ hp, sc_no _ _ _ _ _ (by decide +kernel), _, rfl, _, rfl, sp, fi, la, wd, n, o, ks, as, rfl, hS.keep s04, fun a ha => (ok a ha).j, lk, fun H5 s5 => ?_⟩
    have s05 := s04.trans s5
    refine ⟨_, rfl, _, rfl, _, rfl, pl, fi, la, n, o, ks, as, rfl, hP.keep s05, ok, lk, fun H6 s6 => ⟨_, rfl, true, rfl, iteF ?_⟩⟩
    have s06 := s05.trans s6
    -- holds
    refine ⟨_, rfl, sp, dx, _, rfl, s06 _ _ hp, sc_no _ _ _ _ _ (by decide +kernel), _, rfl, _, rfl, sp, fi, la, wd, n, o, ks, as, rfl, hS.keep s06, hw, ?_⟩
    refine ⟨_, rfl, _, rfl, _, rfl, _, rfl, pl, fi, la, n, o, _, _, rfl, s06 _ _ hpl, _, _, rfl, rfl, .inl hw, holdN wd o fi la, rfl, ?_⟩
    exact kk H6 s06

def spAsGiven (CJ CF : Addr) : Sp := fun vs H Q _ => ∃ (l : Addr) (xs : List V) (as : List Ak), vs = [.ref l] ∧ H l = some (.lst xs) ∧ Paired (OaR CJ CF H) xs as ∧ as.length ≤ 1000 ∧ ∀ r ys H', Same H H' → H r = none → H' r = some (.lst ys) → Paired (AkR H') ys as → Q (.ref r) H'
abbrev NAG : List Str := ["_law_some_here", "_law_row"]
theorem scAsGiven : FnScope NAG ["_law_some_here"] (defScope sAsGiven) := ⟨rfl, rfl, rfl, by decide +kernel, rfl, by decide +kernel, by decide +kernel⟩
theorem ok_AsGiven {f : Addr} {fd : FuncData} (F : Fun K "_law_as_given" "_law_as_given" sAsGiven f fd) (T : Txt K mg CJ CF CS) (cT : C8.Met P w K mg base 1 CJ "told" (spJTold CJ) []) : FnOk P w K mg base CX0 2 f fd ["_law_some_here"] (spAsGiven CJ CF) := by
  refine F.ok scAsGiven (fun vs H Q E h => ?_) (fun cdv A outer s H vs Q E hr h => ?_)
  · obtain ⟨l, xs, as, rfl, _⟩ := h
    rfl
  · obtain ⟨l, xs, as, rfl, hl, px, la, kk⟩ := h
    refine ⟨_, pss_one (ps_ret (pe_lc (own := [("_law_row", 1)]) (g := gName 1) (tt := tYes)
      (te := tTup (tCons (tMeth CJ "told" (spJTold CJ) [] E0 (tFld K (tOp (rIxT K) (tVar 1) (tC (.int 0))) "jar") tNil) (tCons (tFld K (tOp (rIxT K) (tVar 1) (tC (.int 0))) "marks") (tCons (tOp (rIxT K) (tVar 1) (tC (.int 1))) (tCons (tOp (rIxT K) (tVar 1) (tC (.int 2))) tNil)))))
      rfl scAsGiven.nd (pi_list (pv 0)) (blkOk_by (N := NAG) (sc := defScope sAsGiven) (by decide +kernel)) (fun _ _ _ _ _ => pg_name (i := 1) scAsGiven.nd rfl (Or.inl rfl)) (fun _ _ _ _ _ => pts_nil)
      (fun _ _ _ _ _ => pe_tup (pa_cons (C8.pe_mt0 cT hr (by decide) (pe_fld (pe_ix ix_tup (pv 1) pe_int (fun _ _ => rfl)) rfl)) (pa_cons (pe_fld (pe_ix ix_tup (pv 1) pe_int (fun _ _ => rfl)) rfl) (pa_cons (pe_ix ix_tup (pv 1) pe_int (fun _ _ => rfl)) (pa_cons (pe_ix ix_tup (pv 1) pe_int (fun _ _ => rfl)) pa_nil))))))), ?_⟩
    refine ⟨_, rfl, l, rfl, ⟨_, SqL.of hl⟩, fun D hD => lc_map (a := l) (Ri := OaR CJ CF H) (Ro := AkR) (f := fun a => a) hD (SqL.of hl) px (pw_len px la) mon_AkR ?_ ?_⟩
    · rintro i x a H1 hx hd ⟨t, fl, rfl, ht, df, q, hf, dj, hj⟩ s1 N kN
      have ht1 := s1 _ _ ht
      have hf1 := s1 _ _ hf
      refine ⟨rfl, _, rfl, t, _, _, _, rfl, rfl, SqT.of ht1, at0, fl, CF, df, _, _, rfl, hf1, T.cF, T.nFj, fl_j q _, q, dj, _, rfl, s1 _ _ hj, jr_told _, q, a.j, rfl, ⟨dj, s1 _ _ hj⟩, fun r nr => ?_⟩
      have s2 : Same H1 (upd H1 r (.tup [.int a.j.s, .int a.j.r, .int a.j.m])) := Same.upd0 nr
      refine ⟨_, rfl, t, _, _, _, rfl, rfl, SqT.of (s2 _ _ ht1), at0, fl, CF, df, _, _, rfl, s2 _ _ hf1, T.cF, T.nFm, fl_m q _, _, rfl, t, _, _, _, rfl, rfl, SqT.of (s2 _ _ ht1), at1, _, rfl, t, _, _, _, rfl, rfl, SqT.of (s2 _ _ ht1), at2, (by show 4 ≤ sizeLine; decide), fun t' nt => ?_⟩
      exact kN _ _ (Same.upd s2 (s2.free nt)) ⟨t', r, rfl, upd_same, by rw [upd_ne (ne_of_none upd_same nt)]; exact upd_same⟩
    · rintro H1 ys s1 hy py
      rw [List.map_id'] at py
      exact kk D ys H1 s1 hD hy py

def spBuilt (CJ CF CS : Addr) : Sp := fun vs H Q _ => ∃ (p lk la : Addr) (a b : V) (wd n o : Int) (xk xa : List V) (ks : List Kn) (as : List Ak), vs = [.ref p, .int wd, .ref lk, .ref la] ∧ H p = some (.tup [.int n, .int o, a, b]) ∧ H lk = some (.lst xk) ∧ Paired (KnR H) xk ks ∧ H la = some (.lst xa) ∧ Paired (OaR CJ CF H) xa as ∧
  (∀ b ∈ as, AkB b) ∧ ks.length ≤ 1000 ∧ as.length ≤ 1000 ∧ ∀ p' H', Same H H' → H p' = none → SceneN CJ CF CS H H' p' wd n o ks as → Q (.ref p') H'
abbrev NBu : List Str := ["_law_plain_here", "_law_width", "_law_knowns", "_law_some_here"]
theorem scBuilt : FnScope NBu NBu (defScope sBuilt) := ⟨rfl, rfl, rfl, by decide +kernel, rfl, by decide +kernel, by decide +kernel⟩
theorem ok_Built {f : Addr} {fd : FuncData} (F : Fun K "_law_built" "_law_built" sBuilt f fd) (T : Txt K mg CJ CF CS) (mkS : C8.Mak P w K mg base 3 "Scene" CS (spSI CJ CF CS) []) (mkS0 : C8.Mak P w K mg base 3 "Scene" CS (spSI CJ CF CS) [.int 0]) : FnOk P w K mg base CX0 5 f fd NBu (spBuilt CJ CF CS) := by
  refine F.ok scBuilt (fun vs H Q E h => ?_) (fun cdv A outer s H vs Q E hr h => ?_)
  · obtain ⟨p, lk, la, a, b, wd, n, o, xk, xa, ks, as, rfl, _⟩ := h
    rfl
  · obtain ⟨p, lk, la, a, b, wd, n, o, xk, xa, ks, as, rfl, hp, hk, pk, ha, pa, hB, lk1, la1, kk⟩ := h
    refine ⟨_, pss_cons (ps_if (pt_cmpR op_eq (pe_ix ix_tup (pv 0) pe_int (fun _ _ => rfl)) pe_int (nomark _)) (pss_one (ps_ret (C8.pe_mk mkS0 hr (by decide) rfl (pa_cons (pv 1) (pa_cons (pe_ix ix_tup (pv 0) pe_int (fun _ _ => rfl)) (pa_cons (pv 2) (pa_cons (pv 3) pa_nil))))))) pss_nil)
      (pss_one (ps_ret (C8.pe_mk mkS hr (by decide) rfl (pa_cons (pv 1) (pa_cons (pe_ix ix_tup (pv 0) pe_int (fun _ _ => rfl)) (pa_cons (pv 2) (pa_cons (pv 3) (pa_cons (pe_ix ix_tup (pv 0) pe_int (fun _ _ => rfl)) pa_nil)))))))), ?_⟩
    refine ⟨_, rfl, p, _, _, _, rfl, rfl, SqT.of hp, at1, rfl, _, rfl, ?_⟩
    refine ite2 (fun e => ?_) (fun _ => ?_)
    · have e' : o = 0 := V.int.inj (of_decide_eq_true (by simpa using e))
      subst e'
      refine ⟨_, rfl, _, rfl, p, _, _, _, rfl, rfl, SqT.of hp, at0, _, rfl, _, rfl, make_scene (Same.refl _) NJ.refl hk pk ha pa hB (pw_len pk lk1) (pw_len pa la1) kk⟩
    · refine ⟨_, rfl, _, rfl, p, _, _, _, rfl, rfl, SqT.of hp, at0, _, rfl, _, rfl, _, rfl, p, _, _, _, rfl, rfl, SqT.of hp, at1, make_scene (Same.refl _) NJ.refl hk pk ha pa hB (pw_len pk lk1) (pw_len pa la1) kk⟩
end
end Hl
set_option Elab.async false
set_option maxRecDepth 100000
set_option maxHeartbeats 4000000
set_option linter.all false
/-! change -/
namespace Hl
open PySem L2
def FlOk (CJ CF : Addr) (H : Hp) (f : Addr) : Prop := ∃ j k, FlowAt CJ CF H f j k ∧ j.Ok ∧ 0 ≤ k ∧ k ≤ j.s
theorem FlOk.keep {CJ CF : Addr} {H H' : Hp} {f : Addr} (s : Same H H') (h : FlOk CJ CF H f) : FlOk CJ CF H' f := let ⟨j, k, a, b⟩ := h; ⟨j, k, a.keep s, b⟩
theorem flF_jrF {q : Addr} {k : Int} {j : Jr} : flF q k ≠ jrF j := fun z => by
  have h := congrArg List.length z
  exact absurd h (by show ¬ (2 = 3); decide)
/-- a flow's marks changed: all flows are well -/
theorem FlOk.put {CJ CF : Addr} {H : Hp} {f f' dx q : Addr} {k k' : Int} {j : Jr} (hf : H f = some (.ins CF dx (flF q k))) (hq : JarAt CJ H q j) (ok : j.Ok) (k0 : 0 ≤ k') (k1 : k' ≤ j.s) (h : FlOk CJ CF H f') : FlOk CJ CF (upd H f (.ins CF dx (flF q k'))) f' := by
  have nj : ∀ {u : Addr} {i : Jr}, JarAt CJ H u i → JarAt CJ (upd H f (.ins CF dx (flF q k'))) u i := fun {u i} ⟨d, e⟩ => by
    have ne : u ≠ f := ne_of e hf fun z => flF_jrF (HO.ins.inj z).2.2.symm
    exact ⟨d, by rw [upd_ne ne]; exact e⟩
  by_cases e : f' = f
  · subst e
    exact ⟨j, k', ⟨dx, q, upd_same, nj hq⟩, ok, k0, k1⟩
  · obtain ⟨i, l, ⟨d, u, h1, h2⟩, h3⟩ := h
    exact ⟨i, l, ⟨d, u, by rw [upd_ne e]; exact h1, nj h2⟩, h3⟩
/-- a list of asks as handed in, by their flows -/
def RfR (H : Hp) (x : V) (f : Addr) : Prop := ∃ t a w, x = .ref t ∧ H t = some (.tup [.ref f, .int a, .int w])
theorem RfR.keep {H H' : Hp} {x : V} {f : Addr} (s : ∀ t xs, H t = some (.tup xs) → H' t = some (.tup xs)) (h : RfR H x f) : RfR H' x f := let ⟨t, a, w, e, h⟩ := h; ⟨t, a, w, e, s _ _ h⟩
/-- what may be changed: the list handed in at gl, the asks' list at sl, the flows Fs, the further flow xf -/
structure Mu (CJ CF : Addr) (H : Hp) (gl sl xf : Addr) (Fs : List Addr) (n : Nat) : Prop where
  hg : ∃ xs, H gl = some (.lst xs) ∧ xs.length ≤ n
  hs : ∃ xs fs, H sl = some (.lst xs) ∧ Paired (RfR H) xs fs ∧ (∀ f ∈ fs, f ∈ Fs) ∧ xs.length ≤ 20
  fl : ∀ f ∈ xf :: Fs, FlOk CJ CF H f
  ne : gl ≠ sl
abbrev Mus (gl sl xf : Addr) (Fs : List Addr) : List Addr := gl :: sl :: xf :: Fs
theorem Mu.mono {CJ CF : Addr} {H : Hp} {gl sl xf : Addr} {Fs : List Addr} {n m : Nat} (h : Mu CJ CF H gl sl xf Fs n) (l : n ≤ m) : Mu CJ CF H gl sl xf Fs m := { h with hg := let ⟨xs, e, q⟩ := h.hg; ⟨xs, e, Nat.le_trans q l⟩ }
theorem Mu.keep {CJ CF : Addr} {H H' : Hp} {gl sl xf : Addr} {Fs : List Addr} {n : Nat} (s : Same H H') (h : Mu CJ CF H gl sl xf Fs n) : Mu CJ CF H' gl sl xf Fs n where
  hg := let ⟨xs, e, q⟩ := h.hg; ⟨xs, s _ _ e, q⟩
  hs := let ⟨xs, fs, e, p, q⟩ := h.hs; ⟨xs, fs, s _ _ e, Paired.mapP p fun _ _ r => r.keep fun t xs => s t _, q⟩
  fl := fun f hf => (h.fl f hf).keep s
  ne := h.ne
theorem FlOk.lst {CJ CF : Addr} {H : Hp} {f D : Addr} {acc acc' : List V} (hD : H D = some (.lst acc)) (h : FlOk CJ CF H f) : FlOk CJ CF (upd H D (.lst acc')) f := let ⟨j, k, a, b⟩ := h; ⟨j, k, a.lst hD, b⟩
theorem RfR.lst {H : Hp} {D f : Addr} {x : V} {acc acc' : List V} (hD : H D = some (.lst acc)) (h : RfR H x f) : RfR (upd H D (.lst acc')) x f := h.keep fun t xs e => by rw [upd_ne (ne_of e hD fun z => nomatch z)]; exact e
theorem Mu.putG {CJ CF : Addr} {H : Hp} {gl sl xf : Addr} {Fs : List Addr} {n m : Nat} {ys : List V} (h : Mu CJ CF H gl sl xf Fs n) (l : ys.length ≤ m) : Mu CJ CF (upd H gl (.lst ys)) gl sl xf Fs m where
  hg := ⟨ys, upd_same, l⟩
  hs := by
    obtain ⟨zs, ez, _⟩ := h.hg
    obtain ⟨xs, fs, e, p, q⟩ := h.hs
    exact ⟨xs, fs, by rw [upd_ne h.ne.symm]; exact e, Paired.mapP p fun _ _ r => r.lst ez, q⟩
  fl := fun f hf => by
    obtain ⟨zs, ez, _⟩ := h.hg
    exact (h.fl f hf).lst ez
  ne := h.ne
theorem Mu.clearS {CJ CF : Addr} {H : Hp} {gl sl xf : Addr} {Fs : List Addr} {n : Nat} (h : Mu CJ CF H gl sl xf Fs n) : Mu CJ CF (upd H sl (.lst [])) gl sl xf Fs n where
  hg := let ⟨xs, e, q⟩ := h.hg; ⟨xs, by rw [upd_ne h.ne]; exact e, q⟩
  hs := ⟨[], [], upd_same, .nil, (fun _ z => nomatch z), Nat.zero_le _⟩
  fl := fun f hf => by
    obtain ⟨zs, _, ez, _⟩ := h.hs
    exact (h.fl f hf).lst ez
  ne := h.ne
/-- flows changed alone -/
theorem Mu.flows {CJ CF : Addr} {H H' : Hp} {gl sl xf : Addr} {Fs : List Addr} {n : Nat} (h : Mu CJ CF H gl sl xf Fs n) (k : Keep (xf :: Fs) H H') (fl : ∀ f ∈ xf :: Fs, FlOk CJ CF H' f) : Mu CJ CF H' gl sl xf Fs n := by
  have out : ∀ {b : Addr} {o : HO}, H b = some o → (∀ C d fs, o ≠ .ins C d fs) → H' b = some o := fun {b o} e ne => k b o e fun z => by
    obtain ⟨j, l, ⟨d, q, e2, _⟩, _⟩ := h.fl b z
    rw [e] at e2
    exact ne _ _ _ (Option.some.inj e2)
  refine ⟨?_, ?_, fl, h.ne⟩
  · obtain ⟨xs, e, q⟩ := h.hg
    exact ⟨xs, out e (fun _ _ _ z => nomatch z), q⟩
  · obtain ⟨xs, fs, e, p, q⟩ := h.hs
    exact ⟨xs, fs, out e (fun _ _ _ z => nomatch z), Paired.mapP p (fun _ _ r => r.keep fun t xs e => out e (fun _ _ _ z => nomatch z)), q⟩
theorem fl_free {CJ CF : Addr} {H : Hp} {f p : Addr} (h : FlOk CJ CF H f) (n : H p = none) : f ≠ p := by
  obtain ⟨j, l, ⟨d, q, e2, _⟩, _⟩ := h
  exact ne_of_none e2 n
section
variable {P : Program} {w : World} {K : PySem.W.Frag} {mg : Str → Option Value} {base : Heap} {CJ CF CS : Addr}
def spChange (CJ CF CS : Addr) : Sp := fun vs H Q _ => ∃ (way : Int) (sp gl sl xf : Addr) (G : Hp) (Fs : List Addr) (wd n o : Int) (ks : List Kn) (as : List Ak) (m : Nat), vs = [.int way, .ref sp, .ref gl, .ref sl, .ref xf] ∧ Same G H ∧ (∀ b ∈ Mus gl sl xf Fs, G b = none) ∧ SceneAt CJ CF CS G sp wd n o ks as ∧
  (∀ a ∈ as, a.Ok) ∧ ks.length ≤ 1000 ∧ as.length ≤ 1000 ∧ Mu CJ CF H gl sl xf Fs m ∧ m ≤ 900 ∧ ∀ H', Keep (Mus gl sl xf Fs) H H' → Mu CJ CF H' gl sl xf Fs (m + 1) → Q .non H'
abbrev NCh : List Str := ["_law_way", "_law_scene", "_law_knowns", "_law_some_here", "_law_extra", "_law_row", "_law_flow_here", "_law_told"]
theorem scChange : FnScope NCh ["_law_way", "_law_scene", "_law_knowns", "_law_some_here", "_law_extra"] (defScope sChange) := ⟨rfl, rfl, rfl, by decide +kernel, rfl, by decide +kernel, by decide +kernel⟩
theorem ok_Change {f : Addr} {fd : FuncData} (F : Fun K "_law_change" "_law_change" sChange f fd) (T : Txt K mg CJ CF CS) (mM : C8.Met P w K mg base 1 CF "may" (spMay CJ CF) []) (mC : C8.Met P w K mg base 2 CF "come" (spCome CJ CF) []) (mC0 : C8.Met P w K mg base 2 CF "come" (spCome CJ CF) [.int 0])
    (mK : C8.Met P w K mg base 1 CS "known_rows" (spKnR CJ CF CS) []) (mA : C8.Met P w K mg base 3 CS "ask_rows" (spAskR CJ CF CS) []) : FnOk P w K mg base CX0 5 f fd ["_law_way", "_law_scene", "_law_knowns", "_law_some_here", "_law_extra"] (spChange CJ CF CS) := by
  refine F.ok scChange (fun vs H Q E h => ?_) (fun cdv A outer s H vs Q E hr h => ?_)
  · obtain ⟨way, sp, gl, sl, xf, G, Fs, wd, n, o, ks, as, m, rfl, _⟩ := h
    rfl
  · obtain ⟨way, sp, gl, sl, xf, G, Fs, wd, n, o, ks, as, m, rfl, sG, hM, hS, ok, lk, lA, MU, hm, kk⟩ := h
    refine ⟨_, C8.pss_cut (ps_if (pt_cmpR op_eq (pv 0) pe_int (nomark _)) (pss_one (ps_expr (pe_bm PySem.F.plainAttrs_list PySem.F.slot_list_append PySem.F.type_list_append mt_append (pv 2) (pa_cons (pe_tup (pa_cons (pe_fld (pv 1) rfl) (pa_cons (pe_op op_add (pe_fld (pv 1) rfl) pe_int) (pa_cons pe_int pa_nil)))) pa_nil)))) pss_nil)
      (C8.pss_cut (ps_if (pt_cmpR op_eq (pv 0) pe_int (nomark _)) (pss_one (ps_expr (pe_bm0 PySem.F.plainAttrs_list PySem.F.slot_list_clear PySem.F.type_list_clear mt_clear (pv 2)))) pss_nil)
      (C8.pss_cut (ps_if (pt_cmpR op_eq (pv 0) pe_int (nomark _)) (pss_one (ps_for PassesOwn.never rfl
          (pi_list (pe_op op_cat (pe_lc (own := [("_law_row", 5)]) (g := gName 5) (tt := tYes) (te := tOp (rIxT K) (tVar 5) (tC (.int 0))) rfl scChange.nd (pi_list (pv 3)) (blkOk_by (N := NCh) (sc := defScope sChange) (by decide +kernel)) (fun _ _ _ _ _ => pg_name (i := 5) scChange.nd rfl (Or.inl rfl)) (fun _ _ _ _ _ => pts_nil) (fun _ _ _ _ _ => pe_ix ix_tup (pv 5) pe_int (fun _ _ => rfl))) (pe_lst (pa_cons (pv 4) pa_nil))))
          (pg_name (i := 6) scChange.nd rfl (Or.inl rfl)) (pss_one (ps_expr (C8.pe_mt mC hr (by decide) (pv 6) (pa_cons (C8.pe_mt0 mM hr (by decide) (pv 6)) pa_nil)))))) pss_nil)
      (C8.pss_cut (ps_if (pt_cmpR op_eq (pv 0) pe_int (nomark _)) (pss_one (ps_expr (pe_bm0 PySem.F.plainAttrs_list PySem.F.slot_list_clear PySem.F.type_list_clear mt_clear (pv 3)))) pss_nil)
      (C8.pss_cut (ps_if (pt_cmpR op_eq (pv 0) pe_int (nomark _)) (pss_cons (ps_set (i := 7) scChange.nd rfl (Or.inl rfl) (C8.pe_mt0 mA hr (by decide) (pv 1)))
        (pss_cons (ps_for PassesOwn.never rfl (pi_list (pv 7)) (pg_name (i := 5) scChange.nd rfl (Or.inl rfl)) (pss_one (ps_expr (C8.pe_mt mC hr (by decide) (pe_ix ix_tup (pv 5) pe_int (fun _ _ => rfl)) (pa_cons (C8.pe_mt0 mM hr (by decide) (pe_ix ix_tup (pv 5) pe_int (fun _ _ => rfl))) pa_nil)))))
        (pss_one (ps_expr (pe_bm PySem.F.plainAttrs_list PySem.F.slot_list_append PySem.F.type_list_append mt_append (pv 7) (pa_cons pe_non pa_nil)))))) pss_nil)
      (C8.pss_cut (ps_if (pt_cmpR op_eq (pv 0) pe_int (nomark _)) (pss_one (ps_expr (pe_bm PySem.F.plainAttrs_list PySem.F.slot_list_insert PySem.F.type_list_insert mt_insert (C8.pe_mt0 mK hr (by decide) (pv 1)) (pa_cons pe_int (pa_cons (pe_tup (pa_cons (pe_fld (pv 1) rfl) (pa_cons (pe_op op_add (pe_fld (pv 1) rfl) pe_int) (pa_cons pe_int pa_nil)))) pa_nil))))) pss_nil)
      (pss_one (ps_if (pt_cmpR op_eq (pv 0) pe_int (nomark _)) (pss_one (ps_expr (C8.pe_mt0 mC0 hr (by decide) (pv 4)))) pss_nil))))))), ?_⟩
    have GH : ∀ {H' : Hp}, Keep (Mus gl sl xf Fs) H H' → Same G H' := fun {H'} k b o e => k b o (sG b o e) fun z => by
      rw [hM b z] at e
      cases e
    have mg0 : gl ∈ Mus gl sl xf Fs := List.mem_cons_self ..
    have ms0 : sl ∈ Mus gl sl xf Fs := List.mem_cons_of_mem _ (List.mem_cons_self ..)
    have mf0 : ∀ x ∈ xf :: Fs, x ∈ Mus gl sl xf Fs := fun x hx => List.mem_cons_of_mem _ (List.mem_cons_of_mem _ hx)
    obtain ⟨dx, l1, l2, x1, x2, hp, _⟩ := id hS
    -- 0: append
    refine ⟨fun σ H' => ∃ v5 v6 v7, σ = [some (.int way), some (.ref sp), some (.ref gl), some (.ref sl), some (.ref xf), v5, v6, v7] ∧ Keep (Mus gl sl xf Fs) H H' ∧ Mu CJ CF H' gl sl xf Fs (m + 1), ?_, ?_⟩
    · refine ⟨_, rfl, rfl, _, rfl, ?_⟩
      refine ite2 (fun _ => ?_) (fun _ => ⟨none, none, none, rfl, Keep.refl, MU.mono (Nat.le_succ _)⟩)
      obtain ⟨xs, eg, lg⟩ := MU.hg
      have hp0 := sG _ _ hp
      refine ⟨_, rfl, .inl ⟨rfl, _, SqL.of eg⟩, _, rfl, sp, CS, dx, _, _, rfl, hp0, T.cS, T.nSn, sc_n .., _, rfl, sp, CS, dx, _, _, rfl, hp0, T.cS, T.nSn, sc_n .., _, _, rfl, rfl, (by show 3 ≤ sizeLine; decide), fun t nt => ?_⟩
      have s1 : Same H (upd H t (.tup [.int n, .int (n + 1), .int 1])) := Same.upd0 nt
      refine ⟨gl, _, _, rfl, rfl, s1 _ _ eg, small1000 (by omega), ?_⟩
      exact ⟨none, none, none, rfl, (Keep.of s1).mem mg0, (MU.keep s1).putG (by rw [List.length_append, List.length_singleton]; omega)⟩
    -- 1: clear
    rintro σ H1 ⟨v5, v6, v7, rfl, k1, M1⟩
    refine ⟨fun σ H' => ∃ v5 v6 v7, σ = [some (.int way), some (.ref sp), some (.ref gl), some (.ref sl), some (.ref xf), v5, v6, v7] ∧ Keep (Mus gl sl xf Fs) H H' ∧ Mu CJ CF H' gl sl xf Fs (m + 1), ?_, ?_⟩
    · refine ⟨_, rfl, rfl, _, rfl, ?_⟩
      refine ite2 (fun _ => ?_) (fun _ => ⟨_, _, _, rfl, k1, M1⟩)
      obtain ⟨xs, eg, lg⟩ := M1.hg
      refine ⟨_, rfl, .inl ⟨rfl, _, SqL.of eg⟩, gl, _, rfl, rfl, eg, ?_⟩
      exact ⟨_, _, _, rfl, k1.mem mg0, M1.putG (Nat.zero_le _)⟩
    -- 2: the flows that were handed in
    rintro σ H2 ⟨u5, u6, u7, rfl, k2, M2⟩
    refine ⟨fun σ H' => ∃ v5 v6 v7, σ = [some (.int way), some (.ref sp), some (.ref gl), some (.ref sl), some (.ref xf), v5, v6, v7] ∧ Keep (Mus gl sl xf Fs) H H' ∧ Mu CJ CF H' gl sl xf Fs (m + 1), ?_, ?_⟩
    · refine ⟨_, rfl, rfl, _, rfl, ?_⟩
      refine ite2 (fun _ => ?_) (fun _ => ⟨_, _, _, rfl, k2, M2⟩)
      obtain ⟨xs, fs, es, ps, hfs, lx⟩ := M2.hs
      refine ⟨_, rfl, sl, rfl, ⟨_, SqL.of es⟩, fun D hD => lc_map (a := sl) (Ri := RfR H2) (Ro := fun _ y f => y = .ref f) (f := fun f => f) hD (SqL.of es) ps (by omega) ⟨fun _ e => e, fun _ e => e⟩ ?_ ?_⟩
      · rintro i x f' H' hx hd ⟨t, a, b, rfl, ht⟩ s' N kN
        exact ⟨rfl, _, rfl, t, _, _, _, rfl, rfl, SqT.of (s' _ _ ht), at0, kN _ _ (Same.refl _) rfl⟩
      · rintro H3 ys s3 hy py
        rw [List.map_id'] at py
        have ly := Paired.length py
        have lf := Paired.length ps
        refine ⟨_, rfl, (by show 1 ≤ sizeLine; decide), fun e ne => ?_⟩
        have s4 : Same H3 (upd H3 e (.lst [.ref xf])) := Same.upd0 ne
        refine ⟨D, e, _, _, rfl, rfl, s4 _ _ hy, upd_same, Nat.le_of_lt (small1000 (by rw [List.length_singleton]; omega)), fun c nc => ?_⟩
        have s5 := s3.trans (Same.upd s4 (s4.free nc) (o := .lst (ys ++ [.ref xf])))
        generalize hH5 : (upd (upd H3 e (.lst [.ref xf])) c (.lst (ys ++ [.ref xf]))) = H5 at s5
        have hc5 : H5 c = some (.lst (ys ++ [.ref xf])) := by rw [← hH5]; exact upd_same
        have M5 := M2.keep s5
        have pall : ∀ x ∈ ys ++ [V.ref xf], ∃ f ∈ xf :: Fs, x = V.ref f := fun x hx => by
          rcases List.mem_append.mp hx with q | q
          · obtain ⟨i, hi⟩ := List.mem_iff_getElem?.mp q
            obtain ⟨f, hf, e⟩ := Paired.get py hi
            exact ⟨f, List.mem_cons_of_mem _ (hfs f (List.mem_of_getElem? hf)), e⟩
          · exact ⟨xf, List.mem_cons_self .., List.mem_singleton.mp q⟩
        have cM : c ∉ xf :: Fs := fun z => by
          obtain ⟨j, k, ⟨d, q, e2, _⟩, _⟩ := M5.fl c z
          rw [hc5] at e2
          cases e2
        refine ⟨c, rfl, ⟨_, SqL.of hc5⟩, for_list (K := K) (a := c) (xs := ys ++ [.ref xf]) (fun i σ H' => ∃ v5 v6 v7, σ = [some (.int way), some (.ref sp), some (.ref gl), some (.ref sl), some (.ref xf), v5, v6, v7] ∧ Keep (xf :: Fs) H5 H' ∧ ∀ f ∈ xf :: Fs, FlOk CJ CF H' f)
          ⟨_, _, _, rfl, Keep.refl, M5.fl⟩ (fun i σ H' _ ⟨_, _, _, _, k, _⟩ => SqL.of (k _ _ hc5 cM)) ?_ ?_⟩
        · rintro i x σ H' hx ⟨w5, w6, w7, rfl, k', fl'⟩
          obtain ⟨f', hf', rfl⟩ := pall x (List.mem_of_getElem? hx)
          obtain ⟨j, k, hfl, okj, k0, kj⟩ := fl' f' hf'
          obtain ⟨d, q, hf, hq⟩ := id hfl
          have c0 : 0 ≤ mn j.m k := le_mn (by have := okj.r1; have := okj.rm; omega) k0
          refine ⟨_, rfl, f', d, _, rfl, hf, fl_come q k, _, rfl, f', d, _, rfl, hf, fl_may q k, f', j, k, rfl, hfl, f', d, q, _, j, k, rfl, hf, hq, okj, k0, kj, c0, Int.le_refl _, fun kn k0' k1' => ?_⟩
          exact ⟨_, _, _, rfl, k'.mem hf', fun f hfm => FlOk.put hf hq okj k0' k1' (fl' f hfm)⟩
        · rintro σ H' ⟨w5, w6, w7, rfl, k', fl'⟩
          exact ⟨_, _, _, rfl, (k2.trans (Keep.of s5)).trans (k'.mono mf0), M5.flows k' fl'⟩
    -- 3: clear
    rintro σ H3 ⟨t5, t6, t7, rfl, k3, M3⟩
    refine ⟨fun σ H' => ∃ v5 v6 v7, σ = [some (.int way), some (.ref sp), some (.ref gl), some (.ref sl), some (.ref xf), v5, v6, v7] ∧ Keep (Mus gl sl xf Fs) H H' ∧ Mu CJ CF H' gl sl xf Fs (m + 1), ?_, ?_⟩
    · refine ⟨_, rfl, rfl, _, rfl, ?_⟩
      refine ite2 (fun _ => ?_) (fun _ => ⟨_, _, _, rfl, k3, M3⟩)
      obtain ⟨xs, fs, es, _⟩ := M3.hs
      refine ⟨_, rfl, .inl ⟨rfl, _, SqL.of es⟩, sl, _, rfl, rfl, es, ?_⟩
      exact ⟨_, _, _, rfl, k3.mem ms0, M3.clearS⟩
    -- 4: what ask_rows told
    rintro σ H4 ⟨r5, r6, r7, rfl, k4, M4⟩
    refine ⟨fun σ H' => ∃ v5 v6 v7, σ = [some (.int way), some (.ref sp), some (.ref gl), some (.ref sl), some (.ref xf), v5, v6, v7] ∧ Keep (Mus gl sl xf Fs) H H' ∧ Mu CJ CF H' gl sl xf Fs (m + 1), ?_, ?_⟩
    · refine ⟨_, rfl, rfl, _, rfl, ?_⟩
      refine ite2 (fun _ => ?_) (fun _ => ⟨_, _, _, rfl, k4, M4⟩)
      have G4 := GH k4
      refine ⟨_, rfl, sp, dx, _, rfl, G4 _ _ hp, sc_no _ _ _ _ _ (by decide +kernel), sp, wd, n, o, ks, as, rfl, hS.keep G4, fun a ha => ⟨(ok a ha).k0, (ok a ha).k1⟩, lA, fun r ys H5 s5 nr hr5 py => ?_⟩
      have lys := Paired.length py
      -- the flows told
      have hex : ∀ {ys : List V} {as : List Ak}, Paired (OaN CJ CF H4 H5) ys as → (∀ a ∈ as, a.Ok) → ∃ fs : List Addr, Paired (RfR H5) ys fs ∧ ∀ f ∈ fs, H4 f = none ∧ FlOk CJ CF H5 f := fun {ys as} p => by
        induction p with
        | nil => exact fun _ => ⟨[], .nil, fun _ z => by cases z⟩
        | cons h t ih =>
          rename_i y a ys' as'
          intro hok
          obtain ⟨fs, p1, p2⟩ := ih fun b hb => hok b (List.mem_cons_of_mem _ hb)
          obtain ⟨t', f', df, q, e, nt, nf, ht, hf, hj⟩ := h
          have oka := hok a (List.mem_cons_self ..)
          refine ⟨f' :: fs, .cons ⟨t', _, _, e, ht⟩ p1, fun g hg => ?_⟩
          rcases List.mem_cons.mp hg with z | z
          · rw [z]
            exact ⟨nf, a.j, a.k, ⟨df, q, hf, hj.keep s5⟩, oka.j, oka.k0, oka.k1⟩
          · exact p2 g z
      obtain ⟨fs, pf, hfs⟩ := hex py ok
      have rM : r ∉ fs := fun z => by
        obtain ⟨j, k, ⟨d, q, e2, _⟩, _⟩ := (hfs r z).2
        rw [hr5] at e2
        cases e2
      refine ⟨_, rfl, r, rfl, ⟨_, SqL.of hr5⟩, for_list (K := K) (a := r) (xs := ys) (fun i σ H' => ∃ v5 v6, σ = [some (.int way), some (.ref sp), some (.ref gl), some (.ref sl), some (.ref xf), v5, v6, some (.ref r)] ∧ Keep fs H5 H' ∧ ∀ f ∈ fs, FlOk CJ CF H' f)
        ⟨_, _, rfl, Keep.refl, fun f hf => (hfs f hf).2⟩ (fun i σ H' _ ⟨_, _, _, k, _⟩ => SqL.of (k _ _ hr5 rM)) ?_ ?_⟩
      · rintro i x σ H' hx ⟨w5, w6, rfl, k', fl'⟩
        obtain ⟨f', hf', t', a', b', rfl, ht5⟩ := Paired.get pf hx
        have hfm := List.mem_of_getElem? hf'
        have ht' : H' t' = some (.tup [.ref f', .int a', .int b']) := k' _ _ ht5 fun z => by
          obtain ⟨j, k, ⟨d, q, e2, _⟩, _⟩ := (hfs t' z).2
          rw [ht5] at e2
          cases e2
        obtain ⟨j, k, hfl, okj, k0, kj⟩ := fl' f' hfm
        obtain ⟨d, q, hf, hq⟩ := id hfl
        have c0 : 0 ≤ mn j.m k := le_mn (by have := okj.r1; have := okj.rm; omega) k0
        refine ⟨_, rfl, t', _, _, _, rfl, rfl, SqT.of ht', at0, f', d, _, rfl, hf, fl_come q k, _, rfl, t', _, _, _, rfl, rfl, SqT.of ht', at0, f', d, _, rfl, hf, fl_may q k, f', j, k, rfl, hfl, f', d, q, _, j, k, rfl, hf, hq, okj, k0, kj, c0, Int.le_refl _, fun kn k0' k1' => ?_⟩
        exact ⟨_, _, rfl, k'.mem hfm, fun f hfm => FlOk.put hf hq okj k0' k1' (fl' f hfm)⟩
      · rintro σ H' ⟨w5, w6, rfl, k', fl'⟩
        have hr' := k' _ _ hr5 rM
        refine ⟨_, rfl, .inl ⟨rfl, _, SqL.of hr'⟩, r, _, _, rfl, rfl, hr', small1000 (by omega), ?_⟩
        have s6 : Same H4 (upd H' r (.lst (ys ++ [.non]))) := Same.upd (fun b u e => k' b u (s5 b u e) fun z => by
          rw [(hfs b z).1] at e
          cases e) nr
        exact ⟨_, _, _, rfl, k4.trans (Keep.of s6), M4.keep s6⟩
    -- 5: what known_rows told
    rintro σ H5 ⟨q5, q6, q7, rfl, k5, M5⟩
    refine ⟨fun σ H' => ∃ v5 v6 v7, σ = [some (.int way), some (.ref sp), some (.ref gl), some (.ref sl), some (.ref xf), v5, v6, v7] ∧ Keep (Mus gl sl xf Fs) H H' ∧ Mu CJ CF H' gl sl xf Fs (m + 1), ?_, ?_⟩
    · refine ⟨_, rfl, rfl, _, rfl, ?_⟩
      refine ite2 (fun _ => ?_) (fun _ => ⟨_, _, _, rfl, k5, M5⟩)
      have G5 := GH k5
      refine ⟨_, rfl, sp, dx, _, rfl, G5 _ _ hp, sc_no _ _ _ _ _ (by decide +kernel), sp, wd, n, o, ks, as, rfl, hS.keep G5, fun l xs nl px => ?_⟩
      have lxs := Paired.length px
      have s1 : Same H5 (upd H5 l (.lst xs)) := Same.upd0 nl
      have hp1 := s1 _ _ (G5 _ _ hp)
      refine ⟨.inl ⟨rfl, _, SqL.of upd_same⟩, _, rfl, sp, CS, dx, _, _, rfl, hp1, T.cS, T.nSn, sc_n .., _, rfl, sp, CS, dx, _, _, rfl, hp1, T.cS, T.nSn, sc_n .., _, _, rfl, rfl, (by show 3 ≤ sizeLine; decide), fun t nt => ?_⟩
      have hl2 : (upd (upd H5 l (.lst xs)) t (.tup [.int n, .int (n + 1), .int 1])) l = some (.lst xs) := Same.upd0 nt _ _ upd_same
      refine ⟨l, _, _, _, rfl, rfl, hl2, small1000 (by omega), by decide, by decide, ?_⟩
      have s3 := Same.upd (Same.upd s1 (s1.free nt) (o := .tup [.int n, .int (n + 1), .int 1])) nl (o := .lst (xs.take (0 : Int).toNat ++ [.ref t] ++ xs.drop (0 : Int).toNat))
      exact ⟨_, _, _, rfl, k5.trans (Keep.of s3), M5.keep s3⟩
    -- 6: the further flow
    rintro σ H6 ⟨p5, p6, p7, rfl, k6, M6⟩
    refine ⟨_, rfl, rfl, _, rfl, ?_⟩
    refine ite2 (fun _ => ?_) (fun _ => kk H6 k6 M6)
    obtain ⟨j, k, hfl, okj, k0, kj⟩ := M6.fl xf (List.mem_cons_self ..)
    obtain ⟨d, q, hf, hq⟩ := id hfl
    have c0 : 0 ≤ mn j.m k := le_mn (by have := okj.r1; have := okj.rm; omega) k0
    refine ⟨_, rfl, xf, d, _, rfl, hf, fl_come q k, xf, d, q, 0, j, k, rfl, hf, hq, okj, k0, kj, by decide, c0, fun kn k0' k1' => ?_⟩
    have kM : Keep (xf :: Fs) H6 (upd H6 xf (.ins CF d (flF q kn))) := Keep.refl.mem (List.mem_cons_self ..)
    exact kk _ (k6.trans (kM.mono mf0)) (M6.flows kM fun f hfm => FlOk.put hf hq okj k0' k1' (M6.fl f hfm))
end
end Hl
set_option Elab.async false
set_option maxRecDepth 100000
set_option maxHeartbeats 4000000
set_option linter.all false
/-! right: what it keeps -/
namespace Hl
open PySem L2
/-- [e for g in l if t], t never true -/
theorem lc_none {K : PySem.W.Frag} {a : Addr} {xs : List V} {g : TG} {tt : TT} {te : TE} {vs : List Nat} {σ : L2.St} {H1 : Hp} {D : Addr} {Qd : Hp → Prop}
    (hD : H1 D = none) (hl : SqL K H1 a xs) (hn : xs.length ≤ 1000)
    (hs : ∀ (x : V) (H : Hp), x ∈ xs → Same H1 H → ∀ (N : V → Hp → Prop) (N' : Hp → Prop), (∀ H', Same H H' → N' H') →
      g x (wipe σ vs) H fun σ2 H2 => wipe σ2 vs = wipe σ vs ∧ tt σ2 H2 fun b H3 => if b = true then te σ2 H3 N else N' H3)
    (hd : ∀ H, Same H1 H → H D = some (.lst []) → Qd H) :
    ∃ W : Nat → Nat → Hp → Prop, (∃ m, W 0 m (upd H1 D (.lst []))) ∧ ∀ i m H, W i m H →
      ((Itl K a).stop i H ∧ Qd H) ∨ ((Itl K a).go i H ∧ ∃ Nx : Hp → Prop, (∀ H', Nx H' → ∃ m', m' < m ∧ W (i + 1) m' H') ∧ ∀ x H', (Itl K a).yld i H x H' → g x (wipe σ vs) H' fun σ2 H2 => wipe σ2 vs = wipe σ vs ∧ tt σ2 H2 fun b H3 =>
        if b = true then te σ2 H3 fun y H4 => ∃ acc, H4 D = some (.lst acc) ∧ acc.length < sizeLine ∧ Nx (upd H4 D (.lst (acc ++ [y]))) else Nx H3) := by
  refine lc_list (K := K) (a := a) (xs := xs) (fun i H => Same H1 H ∧ H D = some (.lst [])) ⟨Same.upd0 hD, upd_same⟩ (fun i H _ q => q.1.seq hl) ?_ (fun H q => hd H q.1 q.2)
  rintro i x H hx ⟨s, hy⟩
  exact hs x H (List.mem_of_getElem? hx) s _ _ fun H' s' => ⟨s.trans s', s' _ _ hy⟩
theorem oa_flows {CJ CF : Addr} {H : Hp} : ∀ {xs : List V} {as : List Ak}, Paired (OaR CJ CF H) xs as → (∀ a ∈ as, a.Ok) → ∃ fs : List Addr, Paired (RfR H) xs fs ∧ ∀ f ∈ fs, FlOk CJ CF H f
  | _, _, .nil, _ => ⟨[], .nil, fun _ z => nomatch z⟩
  | _, _, .cons (b := a) h t, hok => by
    obtain ⟨fs, p1, p2⟩ := oa_flows t fun b hb => hok b (List.mem_cons_of_mem _ hb)
    obtain ⟨t', f', e, ht, hf⟩ := h
    have oka := hok a (List.mem_cons_self ..)
    refine ⟨f' :: fs, .cons ⟨t', _, _, e, ht⟩ p1, fun g hg => ?_⟩
    rcases List.mem_cons.mp hg with z | z
    · rw [z]
      exact ⟨a.j, a.k, hf, oka.j, oka.k0, oka.k1⟩
    · exact p2 g z
def akD (a : Ak) : PyData := .tuple [.tuple [.int a.j.s, .int a.j.r, .int a.j.m], .int a.k, .int a.a, .int a.w]
theorem dp_aks {K : PySem.W.Frag} {H : Hp} : ∀ {xs : List V} {as : List Ak}, Paired (AkR H) xs as → DpAll K H xs (as.map akD)
  | _, _, .nil => .nil
  | _, _, .cons ⟨p, q, e, h1, h2⟩ t => by
    subst e
    exact .cons (.tup (SqT.of h1) (.cons (dp_tri h2) (.cons (.int _) (.cons (.int _) (.cons (.int _) .nil))))) (dp_aks t)
theorem shp_aks (as : List Ak) : SeqAt.shaped (.list (as.map akD)) = true := shp_list fun d hd => by
  obtain ⟨k, _, rfl⟩ := List.mem_map.mp hd
  exact ⟨rfl, (by show 2 ≤ 63; decide)⟩
structure PlainX (H : Hp) (p l1 l2 : Addr) (x1 x2 : List V) (now op : Int) (ks : List Kn) (as : List Ak) : Prop where
  hp : H p = some (.tup [.int now, .int op, .ref l1, .ref l2])
  h1 : H l1 = some (.lst x1)
  p1 : Paired (KnR H) x1 ks
  h2 : H l2 = some (.lst x2)
  p2 : Paired (AkR H) x2 as
theorem PlainX.keep {H H' : Hp} {p l1 l2 : Addr} {x1 x2 : List V} {now op : Int} {ks : List Kn} {as : List Ak} (s : Same H H') (h : PlainX H p l1 l2 x1 x2 now op ks as) : PlainX H' p l1 l2 x1 x2 now op ks as :=
  ⟨s _ _ h.hp, s _ _ h.h1, mon_KnR.pairs s h.p1, s _ _ h.h2, mon_AkR.pairs s h.p2⟩
theorem PlainX.go {H H' : Hp} {st g c p l1 l2 : Addr} {n : Int} {x1 x2 : List V} {now op : Int} {ks : List Kn} {as : List Ak} (S : StI H st g c n) (k : Keep [st, g] H H') (n1 : l1 ≠ g) (n2 : l2 ≠ g) (h : PlainX H p l1 l2 x1 x2 now op ks as) : PlainX H' p l1 l2 x1 x2 now op ks as := by
  obtain ⟨kvs, gs, e1, e2⟩ := S.dat
  have out : ∀ {l : Addr} {xs : List V}, H l = some (.lst xs) → l ≠ g → H' l = some (.lst xs) := fun {l xs} e ne => k _ _ e fun z => by
    rcases List.mem_cons.mp z with q | q
    · rw [q, e1] at e
      cases e
    · exact ne (List.mem_singleton.mp q)
  exact ⟨S.tup k h.hp, out h.h1 n1, Paired.mapP h.p1 fun _ _ r => r.go S k, out h.h2 n2, Paired.mapP h.p2 fun _ _ r => r.go S k⟩
theorem StI.ng {H0 : Hp} {st g c : Addr} {n : Int} (S : StI H0 st g c n) {t : Addr} (h : H0 t = none) : t ≠ g := fun z => by
  obtain ⟨kvs, gs, e1, e2⟩ := S.dat
  rw [z, e2] at h
  cases h
theorem StI.nc {H0 : Hp} {st g c : Addr} {n : Int} (S : StI H0 st g c n) {t : Addr} (h : H0 t = none) : t ≠ c := fun z => by
  obtain ⟨_, _, _, _, _, q⟩ := S
  rw [z, q.hc] at h
  cases h
/-- what holds once the asks are ready -/
structure RC (CJ CF : Addr) (H : Hp) (st g c p l1 l2 sl : Addr) (mx : V) (x1 x2 xs : List V) (most now op wd ot : Int) (ks : List Kn) (as : List Ak) (more : Ak) (n : Int) : Prop where
  S : StI H st g c n
  m0 : 1 ≤ most
  m1 : most ≤ 1000000000
  w0 : 1 ≤ wd
  w1 : wd ≤ 1000000000
  o0 : 1 ≤ ot
  o1 : ot ≤ 1000000000
  px : PlainX H p l1 l2 x1 x2 now op ks as
  hs : H sl = some (.lst xs)
  ps : Paired (OaR CJ CF H) xs as
  hm : AkR H mx more
  ok : ∀ a ∈ as, a.Ok
  om : more.Ok
  lk : ks.length ≤ 8
  la : as.length ≤ 10
  n1 : l1 ≠ g
  n2 : l2 ≠ g
  n3 : sl ≠ g
  n4 : sl ≠ c
  n5 : sl ≠ l1
  n6 : sl ≠ l2
theorem Paired.last {α β : Type} {R : α → β → Prop} : ∀ {ai : List β} {aL : β} {xs : List α}, Paired R xs (ai ++ [aL]) → ∃ xi xL, xs = xi ++ [xL] ∧ Paired R xi ai ∧ R xL aL
  | [], _, _, .cons r .nil => ⟨[], _, rfl, .nil, r⟩
  | _ :: _, _, _, .cons r t => by
    obtain ⟨xi, xL, e, p, q⟩ := Paired.last t
    exact ⟨_ :: xi, xL, by rw [e]; rfl, .cons r p, q⟩
theorem ixN_last {α : Type} (xi : List α) (xL : α) : ixN (xi ++ [xL]).length (-1) = some xi.length := by
  have hl : (xi ++ [xL]).length = xi.length + 1 := by simp
  unfold ixN
  rw [hl, if_neg (by decide), if_pos (by omega)]
  congr 1
  omega
theorem set_last {α : Type} (xi : List α) (xL v : α) : (xi ++ [xL]).set xi.length v = xi ++ [v] := by
  rw [List.set_append_right _ _ (Nat.le_refl _), Nat.sub_self]
  rfl
theorem cut_last (xi : List V) (xL : V) : cutV (xi ++ [xL]) none (some (-1)) = xi := by
  have hl : (xi ++ [xL]).length = xi.length + 1 := by simp
  show ((xi ++ [xL]).drop 0).take (HT.sIx (xi ++ [xL]).length (xi ++ [xL]).length (some (-1)) - 0) = xi
  have e : HT.sIx (xi ++ [xL]).length (xi ++ [xL]).length (some (-1)) = xi.length := by
    show (if (-1 : Int) < 0 then (-1 + ((xi ++ [xL]).length : Int)).toNat else min (-1 : Int).toNat (xi ++ [xL]).length) = xi.length
    rw [if_pos (by decide), hl]
    omega
  rw [e, List.drop_zero, Nat.sub_zero, List.take_left]
theorem cut_02 (q k a w : V) : cutV [q, k, a, w] none (some 2) = [q, k] := rfl
theorem cut_24 (q k a w : V) : cutV [q, k, a, w] (some 2) none = [a, w] := rfl
theorem execs_app (l2 : List Stmt) (env : Env) : ∀ l1 : List Stmt, execs (l1 ++ l2) env = (execs l1 env >>= fun f => match f with | .next => execs l2 env | f => pure f)
  | [] => by
    rw [List.nil_append, show execs [] env = pure .next from by rw [execs], pure_bind]
  | s :: r => by
    rw [List.cons_append, execs_cons, execs_cons, bind_assoc]
    congr 1
    funext f
    cases f with
    | next => exact execs_app l2 env r
    | ret v => rw [pure_bind]
    | brk => rw [pure_bind]
    | cont => rw [pure_bind]
/-- a block, then another, with a word between them -/
theorem pss_app {X : Cx} {l1 l2 : List Stmt} {t u : TS} (h1 : PSs X l1 t) (h2 : PSs X l2 u) : PSs X (l1 ++ l2) (C8.tCut t u) := by
  refine ⟨fun pins s σ H D I h => ?_⟩
  obtain ⟨Mid, hm, hu⟩ := h
  rw [execs_app]
  refine wpAny_bind (thn (h1.run pins s σ H { D with nx := Mid } I hm) fun f s1 q => ?_)
  cases f with
  | next =>
    obtain ⟨σ', H', I', q⟩ := q
    exact h2.run pins s1 σ' H' D I' (hu σ' H' q)
  | ret v => exact wpAny_pure q
  | brk => exact wpAny_pure q
  | cont => exact wpAny_pure q
/-- a def's body cut behind its first k statements -/
theorem pss_cut_at {X : Cx} {l : List Stmt} {t u : TS} (k : Nat) (h1 : PSs X (l.take k) t) (h2 : PSs X (l.drop k) u) : PSs X l (C8.tCut t u) := by
  have h := pss_app h1 h2
  rw [List.take_append_drop] at h
  exact h
section
variable {P : Program} {w : World} {K : PySem.W.Frag} {mg : Str → Option Value} {base : Heap} {CJ CF CS : Addr}
def spRight : Sp := fun vs H Q _ => ∃ (st g c : Addr) (n : Int), vs = [.ref st] ∧ StI H st g c n ∧ n ≤ 90000 ∧ ∀ H', StI H' st g c (n + 200) → Q (.bl true) H'
abbrev NRt : List Str := ["_law_state", "_law_most_here", "_law_plain_here", "_law_now", "_law_opens", "_law_knowns", "_law_asks", "_law_shared", "_law_width", "_law_other", "_law_later", "_law_more", "_law_some_here", "_law_given", "_law_extra", "_law_first", "_law_stretch", "_law_before", "_law_scene", "_law_wide", "_law_grown", "_law_two", "_law_turn", "_law_ask_here", "_law_one"]
theorem scRight : FnScope NRt ["_law_state"] (defScope sRight) := ⟨rfl, rfl, rfl, by decide +kernel, rfl, by decide +kernel, by decide +kernel⟩
/-- the body's context -/
abbrev XR (P : Program) (w : World) (K : PySem.W.Frag) (mg : Str → Option Value) (base : Heap) (f : Addr) (cdv : Value) (A : Around) (outer : List Env) (s : Shared) (H : Hp) (E : XK) : Cx := (cxOf CX0 P w K mg base NRt "_law_right" (defScope sRight) f cdv A outer s H E).nox
/-- what holds once the asks are ready -/
def MidA (CJ CF : Addr) (st g c : Addr) (n : Int) (σ : L2.St) (H : Hp) : Prop := ∃ (p l1 l2 sl : Addr) (sh : Bool) (mx : V) (x1 x2 xs : List V) (most now op wd ot lt : Int) (ks : List Kn) (as : List Ak) (more : Ak),
  σ = [some (.ref st), some (.int most), some (.ref p), some (.int now), some (.int op), some (.ref l1), some (.ref l2), some (.bl sh), some (.int wd), some (.int ot), some (.int lt), some mx, some (.ref sl), none, none, none, none, none, none, none, none, none, none, none, none] ∧
  RC CJ CF H st g c p l1 l2 sl mx x1 x2 xs most now op wd ot ks as more n
end
end Hl
set_option Elab.async false
set_option maxRecDepth 100000
set_option maxHeartbeats 4000000
set_option linter.all false
/-! right: up to the asks as handed in -/
namespace Hl
open PySem L2
section
variable {P : Program} {w : World} {K : PySem.W.Frag} {mg : Str → Option Value} {base : Heap} {CJ CF CS : Addr}
theorem right_a {f : Addr} {cdv : Value} {A : Around} {outer : List Env} {s : Shared} {H : Hp} {E : XK} {D : Ends} {st g c : Addr} {n : Int} (hr : Room 6 (A.deeper (PyProof.Rows.envOfC "_law_right" (defScope sRight) s.heap.objs.size f cdv))) (T : Txt K mg CJ CF CS)
    (cPick : C8.Cal P w K mg base 2 "_law_pick" spPick []) (cPlain : C8.Cal P w K mg base 4 "_law_plain" spPlain []) (cTake : C8.Cal P w K mg base 1 "_law_take" spTake [])
    (cSome : C8.Cal P w K mg base 2 "_law_some" spSome []) (cAsk : C8.Cal P w K mg base 3 "_law_ask" spAsk []) (cFlow : C8.Cal P w K mg base 3 "_law_flow" (spFlow CJ CF) [])
    (S : StI H st g c n) (hn : n ≤ 90000) (hD : ∀ σ H', MidA CJ CF st g c (n + 140) σ H' → D.nx σ H') :
    ∃ t, PSs (XR P w K mg base f cdv A outer s H E) ((defBody sRight).take 9) t ∧ t D (start NRt [.ref st]) H := by
    refine ⟨_, pss_cons (ps_set (i := 1) scRight.nd rfl (Or.inl rfl) (C8.pe_c cPick hr (by decide) rfl (pa_cons (pv 0) (pa_cons (pe_lst (pa_cons pe_int (pa_cons (pe_op op_pow pe_int pe_int) (pa_cons (pe_op op_pow pe_int pe_int) pa_nil)))) pa_nil))))
      (pss_cons (ps_set (i := 2) scRight.nd rfl (Or.inl rfl) (C8.pe_c cPlain hr (by decide) rfl (pa_cons (pv 0) (pa_cons (pv 1) (pa_cons pe_int (pa_cons pe_int pa_nil))))))
      (pss_cons (ps_asg (pv 2) (pg_tup (by rfl) (pgs_cons (pg_name (i := 3) scRight.nd rfl (Or.inl rfl)) (pgs_cons (pg_name (i := 4) scRight.nd rfl (Or.inl rfl)) (pgs_cons (pg_name (i := 5) scRight.nd rfl (Or.inl rfl)) (pgs_cons (pg_name (i := 6) scRight.nd rfl (Or.inl rfl)) pgs_nil))))))
      (pss_cons (ps_set (i := 7) scRight.nd rfl (Or.inl rfl) (pe_cmpR op_eq (C8.pe_c cTake hr (by decide) rfl (pa_cons (pv 0) (pa_cons pe_int pa_nil))) pe_int (nomark _)))
      (pss_cons (ps_set (i := 8) scRight.nd rfl (Or.inl rfl) (pe_op op_add pe_int (C8.pe_c cSome hr (by decide) rfl (pa_cons (pv 0) (pa_cons (pe_op op_sub (pv 1) pe_int) pa_nil)))))
      (pss_cons (ps_set (i := 9) scRight.nd rfl (Or.inl rfl) (pe_op op_add pe_int (C8.pe_c cSome hr (by decide) rfl (pa_cons (pv 0) (pa_cons (pe_op op_sub (pv 1) pe_int) pa_nil)))))
      (pss_cons (ps_set (i := 10) scRight.nd rfl (Or.inl rfl) (pe_op op_add (pv 3) (C8.pe_c cSome hr (by decide) rfl (pa_cons (pv 0) (pa_cons (pv 1) pa_nil)))))
      (pss_cons (ps_set (i := 11) scRight.nd rfl (Or.inl rfl) (C8.pe_c cAsk hr (by decide) rfl (pa_cons (pv 0) (pa_cons (pv 1) pa_nil))))
      (pss_one (ps_setLc (i := 12) (own := [("_law_ask_here", 23)]) (g := gName 23) (tt := tYes) (te := tTup (tCons (tCall (spFlow CJ CF) [] E0 (tCons (tVar 23) tNil)) (tCons (tOp (rIxT K) (tVar 23) (tC (.int 2))) (tCons (tOp (rIxT K) (tVar 23) (tC (.int 3))) tNil)))) rfl scRight.nd rfl rfl (sw_true rfl rfl rfl (by decide +kernel)) (pi_list (pv 6))
          (blkOk_by (N := NRt) (sc := defScope sRight) (by decide +kernel)) (fun _ _ _ _ _ => pg_name (i := 23) scRight.nd rfl (Or.inl rfl)) (fun _ _ _ _ _ => pts_nil) (fun _ _ _ _ _ => pe_tup (pa_cons (C8.pe_c cFlow hr (by decide) rfl (pa_cons (pv 23) pa_nil)) (pa_cons (pe_ix ix_tup (pv 23) pe_int (fun _ _ => rfl)) (pa_cons (pe_ix ix_tup (pv 23) pe_int (fun _ _ => rfl)) pa_nil))))))))))))), ?_⟩
    have bm : (4000000000 : Int) < bigM := by decide
    refine ⟨_, rfl, _, _, rfl, rfl, ⟨by decide, by decide, by decide⟩, _, _, rfl, rfl, ⟨by decide, by decide, by decide⟩, (by show 3 ≤ sizeLine; decide), fun L nL => ?_⟩
    have sL : Same H (upd H L (.lst [.int 6, .int (10 ^ (4 : Int).toNat), .int (10 ^ (9 : Int).toNat)])) := Same.upd0 nL
    refine ⟨st, g, c, L, n, _, rfl, S.keep sL, by omega, upd_same, S.ng nL, by show 0 < 3; decide, by show 3 ≤ 1000; decide, fun x H1 hx k1 S1 => ?_⟩
    obtain ⟨most, rfl, m0, m1⟩ : ∃ most : Int, x = .int most ∧ 1 ≤ most ∧ most ≤ 1000000000 := by
      simp only [List.mem_cons, List.not_mem_nil, or_false] at hx
      rcases hx with q | q | q
      · exact ⟨6, q, by decide, by decide⟩
      · exact ⟨_, q, by decide, by decide⟩
      · exact ⟨_, q, by decide, by decide⟩
    refine ⟨_, rfl, _, rfl, st, g, c, _, most, rfl, S1, by omega, m0, m1, fun p l1 l2 x1 x2 ks as now op H2 n0 n1 f1 f2 hp h1 p1 h2 p2 ok lk la k2 S2 => ?_⟩
    have X2 : PlainX H2 p l1 l2 x1 x2 now op ks as := ⟨hp, h1, p1, h2, p2⟩
    have g1 : l1 ≠ g := S1.ng f1
    have g2 : l2 ≠ g := S1.ng f2
    refine ⟨_, rfl, p, _, rfl, SqT.of hp, rfl, _, _, rfl, _, _, rfl, _, _, rfl, _, _, rfl, rfl, ?_⟩
    refine ⟨_, rfl, st, g, c, _, 2, rfl, S2, by omega, by decide, by decide, fun sh H3 _ _ k3 S3 => ⟨rfl, ?_⟩⟩
    have X3 := X2.go S2 k3 g1 g2
    refine ⟨_, rfl, _, rfl, _, _, rfl, rfl, st, g, c, _, _, rfl, S3, by omega, by omega, by omega, fun wd H4 w0 w1 k4 S4 => ⟨_, _, rfl, rfl, ?_⟩⟩
    have X4 := X3.go S3 k4 g1 g2
    refine ⟨_, rfl, _, rfl, _, _, rfl, rfl, st, g, c, _, _, rfl, S4, by omega, by omega, by omega, fun ot H5 o0 o1 k5 S5 => ⟨_, _, rfl, rfl, ?_⟩⟩
    have X5 := X4.go S4 k5 g1 g2
    refine ⟨_, rfl, _, rfl, _, rfl, st, g, c, _, _, rfl, S5, by omega, by omega, by omega, fun lt H6 lt0 lt1 k6 S6 => ⟨_, _, rfl, rfl, ?_⟩⟩
    have X6 := X5.go S5 k6 g1 g2
    refine ⟨_, rfl, _, rfl, st, g, c, _, _, rfl, S6, by omega, m0, m1, fun mx more H7 om hm k7 S7 => ?_⟩
    have X7 := X6.go S6 k7 g1 g2
    -- the asks as handed in
    refine ⟨_, rfl, l2, rfl, ⟨_, SqL.of X7.h2⟩, fun L2 hL2 => lc_map (a := l2) (Ri := AkR H7) (Ro := OaR CJ CF) (f := fun a => a) hL2 (SqL.of X7.h2) X7.p2 (pw_len X7.p2 (by omega)) mon_OaR ?_ ?_⟩
    · rintro i x a H' hx hd ar s' N kN
      have ar' := mon_AkR.same s' ar
      obtain ⟨t, u, rfl, ht, hu⟩ := id ar'
      refine ⟨rfl, _, rfl, _, a, rfl, ar', ok a (List.mem_of_getElem? hd), fun f' H'' s'' nf hf => ?_⟩
      refine ⟨_, rfl, t, _, _, _, rfl, rfl, SqT.of (s'' _ _ ht), at2, _, rfl, t, _, _, _, rfl, rfl, SqT.of (s'' _ _ ht), at3, (by show 3 ≤ sizeLine; decide), fun t' nt => ?_⟩
      exact kN _ _ (Same.upd s'' (s''.free nt)) ⟨t', f', rfl, upd_same, hf.keep (Same.upd0 nt)⟩
    rintro H8 ys s8 hy py
    rw [List.map_id'] at py
    have X8 := X7.keep s8
    have C8' : RC CJ CF H8 st g c p l1 l2 L2 mx x1 x2 ys most now op (1 + wd) (1 + ot) ks as more (n + 140) :=
      { S := (S7.keep s8).mono (by omega), m0 := m0, m1 := m1, w0 := by omega, w1 := by omega, o0 := by omega, o1 := by omega, px := X8, hs := hy, ps := py, hm := mon_AkR.same s8 hm, ok := ok, om := om, lk := lk, la := la, n1 := g1, n2 := g2,
        n3 := S7.ng hL2, n4 := S7.nc hL2, n5 := (ne_of_none X7.h1 hL2).symm, n6 := (ne_of_none X7.h2 hL2).symm }
    exact hD _ _ ⟨p, l1, l2, L2, _, mx, x1, x2, ys, most, now, op, 1 + wd, 1 + ot, now + lt, ks, as, more, rfl, C8'⟩
end
end Hl
set_option Elab.async false
set_option maxRecDepth 100000
set_option maxHeartbeats 4000000
set_option linter.all false
/-! right: two asks of one flow -/
namespace Hl
open PySem L2
theorem at_last {xi : List V} {xL : V} : atI (xi ++ [xL]) (-1) = some xL := atI_last xi xL
theorem at_zero {xs : List V} {v : V} (h : xs[0]? = some v) : atI xs 0 = some v := atI_nat (j := 0) h
theorem snoc_of {α : Type} : ∀ {l : List α}, l ≠ [] → ∃ i x, l = i ++ [x]
  | [], h => absurd rfl h
  | [x], _ => ⟨[], x, rfl⟩
  | x :: y :: r, _ => by
    obtain ⟨i, z, e⟩ := snoc_of (l := y :: r) (fun z => nomatch z)
    exact ⟨x :: i, z, by rw [e]; rfl⟩
theorem StI.putL {H : Hp} {st g c D : Addr} {n : Int} {xs ys : List V} (S : StI H st g c n) (hD : H D = some (.lst xs)) (n1 : D ≠ g) (n2 : D ≠ c) : StI (upd H D (.lst ys)) st g c n := by
  obtain ⟨gr, ce, r, t, s, q⟩ := S
  have e1 : st ≠ D := ne_of q.d hD fun z => nomatch z
  exact ⟨gr, ce, r, t, s, { q with d := by rw [upd_ne e1]; exact q.d, hg := by rw [upd_ne n1.symm]; exact q.hg, hc := by rw [upd_ne n2.symm]; exact q.hc }⟩
theorem PlainX.putL {H : Hp} {p l1 l2 D : Addr} {x1 x2 xs ys : List V} {now op : Int} {ks : List Kn} {as : List Ak} (h : PlainX H p l1 l2 x1 x2 now op ks as) (hD : H D = some (.lst xs)) (n1 : D ≠ l1) (n2 : D ≠ l2) : PlainX (upd H D (.lst ys)) p l1 l2 x1 x2 now op ks as :=
  ⟨by rw [upd_ne (ne_of h.hp hD fun z => nomatch z)]; exact h.hp, by rw [upd_ne n1.symm]; exact h.h1, mon_KnR.pairsL hD h.p1, by rw [upd_ne n2.symm]; exact h.h2, mon_AkR.pairsL hD h.p2⟩
section
variable {P : Program} {w : World} {K : PySem.W.Frag} {mg : Str → Option Value} {base : Heap} {CJ CF CS : Addr}
theorem right_b {f : Addr} {cdv : Value} {A : Around} {outer : List Env} {s : Shared} {H : Hp} {E : XK} {D : Ends} {st g c : Addr} {n : Int} (hr : Room 6 (A.deeper (PyProof.Rows.envOfC "_law_right" (defScope sRight) s.heap.objs.size f cdv))) (T : Txt K mg CJ CF CS)
    (hD : ∀ σ H', MidA CJ CF st g c n σ H' → D.nx σ H') :
    ∃ t, PSs (XR P w K mg base f cdv A outer s H E) (((defBody sRight).drop 9).take 1) t ∧ ∀ σ H', MidA CJ CF st g c n σ H' → t D σ H' := by
    refine ⟨_, pss_one (ps_if (PW.pt (pw_and (pt_val (pv 7)) (pw_and1 (pt_cmpR op_gt (pe_callB call_len_seq (by rfl) T.len PySem.boot_len (pa_cons (pv 6) pa_nil)) pe_int (nomark _)))))
        (pss_cons (ps_asg (pe_tup (pa_cons (pe_ix ix_tup (pe_ix ix_list (pv 12) pe_int (fun _ _ => rfl)) pe_int (fun _ _ => rfl)) (pa_cons (pe_ix ix_tup (pe_ix ix_list (pv 12) (pe_un un_neg pe_int) (fun _ _ => rfl)) pe_int (fun _ _ => rfl)) (pa_cons (pe_ix ix_tup (pe_ix ix_list (pv 12) (pe_un un_neg pe_int) (fun _ _ => rfl)) pe_int (fun _ _ => rfl)) pa_nil))))
            (pg_sub (pv 12) (pe_un un_neg pe_int) set_list))
        (pss_cons (ps_set (i := 6) scRight.nd rfl (Or.inl rfl) (pe_op op_cat (pe_slice sl_list (pv 6) po_none (po_some (pe_un un_neg pe_int))) (pe_lst (pa_cons (pe_op op_catT (pe_slice sl_tup (pe_ix ix_list (pv 6) pe_int (fun _ _ => rfl)) po_none (po_some pe_int)) (pe_slice sl_tup (pe_ix ix_list (pv 6) (pe_un un_neg pe_int) (fun _ _ => rfl)) (po_some pe_int) po_none)) pa_nil))))
        (pss_one (ps_set (i := 2) scRight.nd rfl (Or.inl rfl) (pe_tup (pa_cons (pv 3) (pa_cons (pv 4) (pa_cons (pv 5) (pa_cons (pv 6) pa_nil)))))))))
        pss_nil), ?_⟩
    rintro σ H8 ⟨p, l1, l2, sl, sh, mx, x1, x2, ys, most, now, op, wd, ot, lt, ks, as, more, rfl, C⟩
    have back : ∀ H', RC CJ CF H' st g c p l1 l2 sl mx x1 x2 ys most now op wd ot ks as more n → D.nx [some (.ref st), some (.int most), some (.ref p), some (.int now), some (.int op), some (.ref l1), some (.ref l2), some (.bl sh), some (.int wd), some (.int ot), some (.int lt), some mx, some (.ref sl), none, none, none, none, none, none, none, none, none, none, none, none] H' :=
      fun H' C' => hD _ _ ⟨p, l1, l2, sl, sh, mx, x1, x2, ys, most, now, op, wd, ot, lt, ks, as, more, rfl, C'⟩
    refine ⟨_, rfl, _, rfl, ?_⟩
    cases sh with
    | false => exact iteF (iteF (back H8 C))
    | true =>
      refine iteT ?_
      refine ⟨_, rfl, l2, _, rfl, .inl (SqL.of C.px.h2), _, _, rfl, rfl, _, rfl, ?_⟩
      by_cases hl : (1 : Int) < (x2.length : Int)
      · rw [decide_eq_true hl]
        refine iteT ?_
        have lx := Paired.length C.px.p2
        have ly := Paired.length C.ps
        obtain ⟨ai, aL, rfl⟩ := snoc_of (l := as) (fun z => by rw [z, List.length_nil] at lx; omega)
        obtain ⟨a0, ha0⟩ : ∃ a0, (ai ++ [aL])[0]? = some a0 := ⟨_, List.getElem?_eq_getElem (by simp)⟩
        obtain ⟨yi, yL, rfl, pyi, tL, fL, rfl, htL, _⟩ := Paired.last C.ps
        obtain ⟨xi, xL, rfl, pxi, pL, qL, rfl, hpL, hqL⟩ := Paired.last C.px.p2
        obtain ⟨y0, hy0, t0, f0, rfl, ht0, hf0⟩ := Paired.get' C.ps ha0
        obtain ⟨x0, hx0, p0, q0, rfl, hp0, hq0⟩ := Paired.get' C.px.p2 ha0
        have oka : ∀ b, b ∈ ai ++ [aL] → b.Ok := C.ok
        have ok0 := oka a0 (List.mem_of_getElem? ha0)
        have okL := oka aL (by simp)
        refine ⟨_, rfl, sl, _, _, _, rfl, rfl, SqL.of C.hs, at_zero hy0, t0, _, _, _, rfl, rfl, SqT.of ht0, at0, _, rfl, _, rfl, sl, _, _, _, rfl, rfl, SqL.of C.hs, at_last, tL, _, _, _, rfl, rfl, SqT.of htL, at1,
          _, rfl, _, rfl, sl, _, _, _, rfl, rfl, SqL.of C.hs, at_last, tL, _, _, _, rfl, rfl, SqT.of htL, at2, (by show 3 ≤ sizeLine; decide), fun t nt => ?_⟩
        have s1 : Same H8 (upd H8 t (.tup [.ref f0, .int aL.a, .int aL.w])) := Same.upd0 nt
        refine ⟨_, rfl, _, rfl, sl, _, _, yi.length, rfl, rfl, s1 _ _ C.hs, ixN_last yi _, ?_⟩
        rw [set_last]
        have hs1 := s1 _ _ C.hs
        have ht1 : (upd (upd H8 t (.tup [.ref f0, .int aL.a, .int aL.w])) sl (.lst (yi ++ [.ref t]))) t = some (.tup [.ref f0, .int aL.a, .int aL.w]) := by
          rw [upd_ne (ne_of (upd_same (o := .tup [.ref f0, .int aL.a, .int aL.w])) hs1 fun z => nomatch z)]
          exact upd_same
        have S9 := (C.S.keep s1).putL (ys := yi ++ [.ref t]) hs1 C.n3 C.n4
        have X9 := (C.px.keep s1).putL (ys := yi ++ [.ref t]) hs1 C.n5 C.n6
        have P9 : Paired (OaR CJ CF (upd (upd H8 t (.tup [.ref f0, .int aL.a, .int aL.w])) sl (.lst (yi ++ [.ref t])))) (yi ++ [.ref t]) (ai ++ [⟨a0.j, a0.k, aL.a, aL.w⟩]) :=
          Paired.snoc (mon_OaR.pairsL hs1 (mon_OaR.pairs s1 pyi)) ⟨t, f0, rfl, ht1, (hf0.keep s1).lst hs1⟩
        have M9 := mon_AkR.lst (acc' := yi ++ [.ref t]) hs1 (mon_AkR.same s1 C.hm)
        have T9 : ∀ {q : Addr} {zs : List V}, H8 q = some (.tup zs) → (upd (upd H8 t (.tup [.ref f0, .int aL.a, .int aL.w])) sl (.lst (yi ++ [.ref t]))) q = some (.tup zs) := fun {q zs} e => by
          rw [upd_ne (ne_of (s1 _ _ e) hs1 fun z => nomatch z)]
          exact s1 _ _ e
        have px9 : Paired (AkR (upd (upd H8 t (.tup [.ref f0, .int aL.a, .int aL.w])) sl (.lst (yi ++ [.ref t])))) xi ai := mon_AkR.pairsL hs1 (mon_AkR.pairs s1 pxi)
        have hs9 : (upd (upd H8 t (.tup [.ref f0, .int aL.a, .int aL.w])) sl (.lst (yi ++ [.ref t]))) sl = some (.lst (yi ++ [.ref t])) := upd_same
        have hpL9 := T9 hpL
        have hp09 := T9 hp0
        have hq09 := T9 hq0
        generalize (upd (upd H8 t (.tup [.ref f0, .int aL.a, .int aL.w])) sl (.lst (yi ++ [.ref t]))) = H9 at S9 X9 P9 M9 px9 hs9 hpL9 hp09 hq09
        -- asks anew
        refine ⟨_, rfl, _, rfl, _, rfl, l2, _, rfl, SqL.of X9.h2, fun c1 nc1 => ?_⟩
        rw [cut_last]
        have sa : Same H9 (upd H9 c1 (.lst xi)) := Same.upd0 nc1
        have ea : (upd H9 c1 (.lst xi)) c1 = some (.lst xi) := upd_same
        generalize (upd H9 c1 (.lst xi)) = Ha at sa ea
        refine ⟨_, rfl, l2, _, _, _, rfl, rfl, SqL.of (sa _ _ X9.h2), at_zero hx0, _, rfl, p0, _, rfl, SqT.of (sa _ _ hp09), (by show ¬ (HT.sIx 4 0 none = 0 ∧ HT.sIx 4 4 (some 2) = 4); decide), fun c2 nc2 => ?_⟩
        rw [cut_02]
        have sb : Same Ha (upd Ha c2 (.tup [.ref q0, .int a0.k])) := Same.upd0 nc2
        have eb : (upd Ha c2 (.tup [.ref q0, .int a0.k])) c2 = some (.tup [.ref q0, .int a0.k]) := upd_same
        generalize (upd Ha c2 (.tup [.ref q0, .int a0.k])) = Hb at sb eb
        have sb' := sa.trans sb
        refine ⟨_, rfl, _, rfl, l2, _, _, _, rfl, rfl, SqL.of (sb' _ _ X9.h2), at_last, _, rfl, pL, _, rfl, SqT.of (sb' _ _ hpL9), (by show ¬ (HT.sIx 4 0 (some 2) = 0 ∧ HT.sIx 4 4 none = 4); decide), fun c3 nc3 => ?_⟩
        rw [cut_24]
        have sc : Same Hb (upd Hb c3 (.tup [.int aL.a, .int aL.w])) := Same.upd0 nc3
        have ec : (upd Hb c3 (.tup [.int aL.a, .int aL.w])) c3 = some (.tup [.int aL.a, .int aL.w]) := upd_same
        generalize (upd Hb c3 (.tup [.int aL.a, .int aL.w])) = Hc at sc ec
        refine ⟨c2, c3, _, _, rfl, rfl, SqT.of (sc _ _ eb), SqT.of ec, (fun z => nomatch z), (by show 4 ≤ sizeLine; decide), (fun z => nomatch z), fun _ p4 np4 => ⟨(by show 1 ≤ sizeLine; decide), fun c5 nc5 => ?_⟩⟩
        have sd : Same Hc (upd Hc p4 (.tup ([.ref q0, .int a0.k] ++ [.int aL.a, .int aL.w]))) := Same.upd0 np4
        have ed : (upd Hc p4 (.tup ([.ref q0, .int a0.k] ++ [.int aL.a, .int aL.w]))) p4 = some (.tup [.ref q0, .int a0.k, .int aL.a, .int aL.w]) := upd_same
        generalize (upd Hc p4 (.tup ([.ref q0, .int a0.k] ++ [.int aL.a, .int aL.w]))) = Hd at sd ed nc5
        have se : Same Hd (upd Hd c5 (.lst [.ref p4])) := Same.upd0 nc5
        have ee : (upd Hd c5 (.lst [.ref p4])) c5 = some (.lst [.ref p4]) := upd_same
        generalize (upd Hd c5 (.lst [.ref p4])) = He at se ee
        have lxx : xi.length ≤ 10 := by have := C.la; rw [List.length_append, List.length_singleton] at this lx; rw [List.length_append, List.length_singleton] at lx; omega
        refine ⟨c1, c5, _, _, rfl, rfl, se _ _ (sd _ _ (sc _ _ (sb _ _ ea))), ee, Nat.le_of_lt (small1000 (by rw [List.length_singleton]; omega)), fun c6 nc6 => ?_⟩
        have sf : Same He (upd He c6 (.lst (xi ++ [.ref p4]))) := Same.upd0 nc6
        have ef : (upd He c6 (.lst (xi ++ [.ref p4]))) c6 = some (.lst (xi ++ [.ref p4])) := upd_same
        generalize hHf : (upd He c6 (.lst (xi ++ [.ref p4]))) = Hf at sf ef
        have s0e : Same H9 He := sb'.trans (sc.trans (sd.trans se))
        refine ⟨_, rfl, _, rfl, _, rfl, _, rfl, (by show 4 ≤ sizeLine; decide), fun p' np' => ?_⟩
        have sg : Same Hf (upd Hf p' (.tup [.int now, .int op, .ref l1, .ref c6])) := Same.upd0 np'
        have eg : (upd Hf p' (.tup [.int now, .int op, .ref l1, .ref c6])) p' = some (.tup [.int now, .int op, .ref l1, .ref c6]) := upd_same
        have s9g := s0e.trans (sf.trans sg)
        have sdg : Same Hd (upd Hf p' (.tup [.int now, .int op, .ref l1, .ref c6])) := se.trans (sf.trans sg)
        refine hD _ _ ⟨p', l1, c6, sl, true, mx, x1, xi ++ [.ref p4], yi ++ [.ref t], most, now, op, wd, ot, lt, ks, ai ++ [⟨a0.j, a0.k, aL.a, aL.w⟩], more, rfl, ?_⟩
        exact { S := S9.keep s9g, m0 := C.m0, m1 := C.m1, w0 := C.w0, w1 := C.w1, o0 := C.o0, o1 := C.o1,
                px := ⟨eg, s9g _ _ X9.h1, mon_KnR.pairs s9g X9.p1, sg _ _ ef, Paired.snoc (mon_AkR.pairs s9g px9) ⟨p4, q0, rfl, sdg _ _ ed, s9g _ _ hq09⟩⟩,
                hs := s9g _ _ hs9, ps := mon_OaR.pairs s9g P9, hm := mon_AkR.same s9g M9,
                ok := fun b hb => by
                  rcases List.mem_append.mp hb with z | z
                  · exact oka b (List.mem_append_left _ z)
                  · rw [List.mem_singleton.mp z]
                    exact ⟨ok0.j, ok0.k0, ok0.k1⟩
                om := C.om, lk := C.lk, la := by have := C.la; rw [List.length_append, List.length_singleton] at this ⊢; exact this,
                n1 := C.n1, n2 := (S9.keep s0e).ng nc6, n3 := C.n3, n4 := C.n4, n5 := C.n5, n6 := ne_of_none (s0e _ _ hs9) nc6 }
      · rw [decide_eq_false hl]
        exact iteF (back H8 C)
end
end Hl
set_option Elab.async false
set_option maxRecDepth 100000
set_option maxHeartbeats 4000000
set_option linter.all false
/-! right: what is handed in, ahead of the scene -/
namespace Hl
open PySem L2
/-- what holds ahead of the scene's making -/
structure RD (CJ CF : Addr) (H : Hp) (st g c p l1 l2 sl gl xf bl stt : Addr) (mx : V) (x1 x2 xs bs : List V) (most now op wd ot fi la : Int) (ks : List Kn) (as : List Ak) (more : Ak) (n : Int) : Prop where
  C : RC CJ CF H st g c p l1 l2 sl mx x1 x2 xs most now op wd ot ks as more n
  hg : H gl = some (.lst x1)
  hx : FlowAt CJ CF H xf more.j more.k
  ht : H stt = some (.tup [.int fi, .int la])
  hb : H bl = some (.lst bs)
  pb : Paired (AkR H) bs as
  d1 : gl ≠ g
  d2 : gl ≠ c
  d3 : gl ≠ sl
  d4 : gl ≠ l1
  d5 : gl ≠ l2
  b1 : bl ≠ g
  b2 : bl ≠ gl
  b3 : bl ≠ sl
def MidD (CJ CF : Addr) (st g c : Addr) (n : Int) (σ : L2.St) (H : Hp) : Prop := ∃ (p l1 l2 sl gl xf bl stt : Addr) (sh : Bool) (mx : V) (x1 x2 xs bs : List V) (most now op wd ot lt fi la : Int) (ks : List Kn) (as : List Ak) (more : Ak),
  σ = [some (.ref st), some (.int most), some (.ref p), some (.int now), some (.int op), some (.ref l1), some (.ref l2), some (.bl sh), some (.int wd), some (.int ot), some (.int lt), some mx, some (.ref sl), some (.ref gl), some (.ref xf), some (.int fi), some (.ref stt), some (.ref bl), none, none, none, none, none, none, none] ∧
  RD CJ CF H st g c p l1 l2 sl gl xf bl stt mx x1 x2 xs bs most now op wd ot fi la ks as more n
theorem RC.keep {CJ CF : Addr} {H H' : Hp} {st g c p l1 l2 sl : Addr} {mx : V} {x1 x2 xs : List V} {most now op wd ot : Int} {ks : List Kn} {as : List Ak} {more : Ak} {n : Int} (s : Same H H')
    (C : RC CJ CF H st g c p l1 l2 sl mx x1 x2 xs most now op wd ot ks as more n) : RC CJ CF H' st g c p l1 l2 sl mx x1 x2 xs most now op wd ot ks as more n :=
  { C with S := C.S.keep s, px := C.px.keep s, hs := s _ _ C.hs, ps := mon_OaR.pairs s C.ps, hm := mon_AkR.same s C.hm }
theorem FlowAt.go {CJ CF : Addr} {H H' : Hp} {st g c f : Addr} {n : Int} {j : Jr} {k : Int} (S : StI H st g c n) (kp : Keep [st, g] H H') (h : FlowAt CJ CF H f j k) : FlowAt CJ CF H' f j k := by
  obtain ⟨dx, q, h1, dj, h2⟩ := h
  exact ⟨dx, q, S.out kp h1 (fun _ z => nomatch z) (fun _ z => nomatch z), dj, S.out kp h2 (fun _ z => nomatch z) (fun _ z => nomatch z)⟩
theorem OaR.go {CJ CF : Addr} {H H' : Hp} {st g c : Addr} {n : Int} {x : V} {a : Ak} (S : StI H st g c n) (kp : Keep [st, g] H H') (h : OaR CJ CF H x a) : OaR CJ CF H' x a := by
  obtain ⟨t, f, e, ht, hf⟩ := h
  exact ⟨t, f, e, S.tup kp ht, hf.go S kp⟩
theorem StI.lst {H H' : Hp} {st g c : Addr} {n : Int} (S : StI H st g c n) (k : Keep [st, g] H H') {l : Addr} {xs : List V} (h : H l = some (.lst xs)) (ne : l ≠ g) : H' l = some (.lst xs) := by
  obtain ⟨kvs, gs, e1, e2⟩ := S.dat
  refine k _ _ h fun z => ?_
  rcases List.mem_cons.mp z with q | q
  · rw [q, e1] at h
    cases h
  · exact ne (List.mem_singleton.mp q)
theorem RC.go {CJ CF : Addr} {H H' : Hp} {st g c p l1 l2 sl : Addr} {mx : V} {x1 x2 xs : List V} {most now op wd ot : Int} {ks : List Kn} {as : List Ak} {more : Ak} {n m : Int}
    (C : RC CJ CF H st g c p l1 l2 sl mx x1 x2 xs most now op wd ot ks as more n) (k : Keep [st, g] H H') (S' : StI H' st g c m) : RC CJ CF H' st g c p l1 l2 sl mx x1 x2 xs most now op wd ot ks as more m :=
  { C with S := S', px := C.px.go C.S k C.n1 C.n2, hs := C.S.lst k C.hs C.n3, ps := Paired.mapP C.ps fun _ _ r => r.go C.S k, hm := C.hm.go C.S k }
section
variable {P : Program} {w : World} {K : PySem.W.Frag} {mg : Str → Option Value} {base : Heap} {CJ CF CS : Addr}
theorem right_c {f : Addr} {cdv : Value} {A : Around} {outer : List Env} {s : Shared} {H : Hp} {E : XK} {D : Ends} {st g c : Addr} {n : Int} (hr : Room 6 (A.deeper (PyProof.Rows.envOfC "_law_right" (defScope sRight) s.heap.objs.size f cdv))) (T : Txt K mg CJ CF CS)
    (cSome : C8.Cal P w K mg base 2 "_law_some" spSome []) (cFlow : C8.Cal P w K mg base 3 "_law_flow" (spFlow CJ CF) []) (cGiven : C8.Cal P w K mg base 2 "_law_as_given" (spAsGiven CJ CF) []) (hn : n ≤ 98000)
    (hD : ∀ σ H', MidD CJ CF st g c (n + 4) σ H' → D.nx σ H') :
    ∃ t, PSs (XR P w K mg base f cdv A outer s H E) ((((defBody sRight).drop 9).drop 1).take 5) t ∧ ∀ σ H', MidA CJ CF st g c n σ H' → t D σ H' := by
    refine ⟨_, pss_cons (ps_set (i := 13) scRight.nd rfl (Or.inl rfl) (pe_callTy call_list_of (by rfl) T.list (by decide +kernel) (pa_cons (pv 5) pa_nil)))
      (pss_cons (ps_set (i := 14) scRight.nd rfl (Or.inl rfl) (C8.pe_c cFlow hr (by decide) rfl (pa_cons (pv 11) pa_nil)))
      (pss_cons (ps_set (i := 15) scRight.nd rfl (Or.inl rfl) (pe_op op_add (pv 3) (C8.pe_c cSome hr (by decide) rfl (pa_cons (pv 0) (pa_cons (pe_op op_mul pe_int (pv 1)) pa_nil)))))
      (pss_cons (ps_set (i := 16) scRight.nd rfl (Or.inr rfl) (pe_tup (pa_cons (pv 15) (pa_cons (pe_op op_add (pe_op op_add (pv 15) pe_int) (C8.pe_c cSome hr (by decide) rfl (pa_cons (pv 0) (pa_cons (pe_op op_mul pe_int (pv 1)) pa_nil)))) pa_nil))))
      (pss_one (ps_set (i := 17) scRight.nd rfl (Or.inl rfl) (C8.pe_c cGiven hr (by decide) rfl (pa_cons (pv 12) pa_nil))))))), ?_⟩
    rintro σ H0 ⟨p, l1, l2, sl, sh, mx, x1, x2, xs, most, now, op, wd, ot, lt, ks, as, more, rfl, C⟩
    have bm : (4000000000 : Int) < bigM := by decide
    have m0 := C.m0
    have m1 := C.m1
    refine ⟨_, rfl, l1, x1, rfl, .inl (SqL.of C.px.h1), fun gl ngl => ?_⟩
    have s1 : Same H0 (upd H0 gl (.lst x1)) := Same.upd0 ngl
    have hg1 : (upd H0 gl (.lst x1)) gl = some (.lst x1) := upd_same
    generalize (upd H0 gl (.lst x1)) = H1 at s1 hg1
    have C1 := C.keep s1
    have d1 : gl ≠ g := C.S.ng ngl
    have d2 : gl ≠ c := C.S.nc ngl
    have d3 : gl ≠ sl := (ne_of_none C.hs ngl).symm
    have d4 : gl ≠ l1 := (ne_of_none C.px.h1 ngl).symm
    have d5 : gl ≠ l2 := (ne_of_none C.px.h2 ngl).symm
    refine ⟨_, rfl, mx, more, rfl, C1.hm, C.om, fun xf H2 s2 nxf hx2 => ?_⟩
    have C2 := C1.keep s2
    have hg2 := s2 _ _ hg1
    refine ⟨_, rfl, _, rfl, _, rfl, _, _, rfl, rfl, .inl ⟨by decide, by decide⟩, st, g, c, n, _, rfl, C2.S, by omega, by omega, by omega, fun r1 H3 r10 r11 k3 S3 => ⟨_, _, rfl, rfl, ?_⟩⟩
    have C3 := C2.go k3 S3
    have hg3 := C2.S.lst k3 hg2 d1
    have hx3 := hx2.go C2.S k3
    refine ⟨_, rfl, _, rfl, _, _, rfl, rfl, _, rfl, _, rfl, _, _, rfl, rfl, .inl ⟨by decide, by decide⟩, st, g, c, _, _, rfl, C3.S, by omega, by omega, by omega, fun r2 H4 r20 r21 k4 S4 => ⟨_, _, rfl, rfl, (by show 2 ≤ sizeLine; decide), fun stt nst => ?_⟩⟩
    have C4 := C3.go k4 S4
    have hg4 := C3.S.lst k4 hg3 d1
    have hx4 := hx3.go C3.S k4
    have s5 : Same H4 (upd H4 stt (.tup [.int (now + r1), .int (now + r1 + 1 + r2)])) := Same.upd0 nst
    have ht5 : (upd H4 stt (.tup [.int (now + r1), .int (now + r1 + 1 + r2)])) stt = some (.tup [.int (now + r1), .int (now + r1 + 1 + r2)]) := upd_same
    generalize (upd H4 stt (.tup [.int (now + r1), .int (now + r1 + 1 + r2)])) = H5 at s5 ht5
    have C5 := C4.keep s5
    refine ⟨_, rfl, sl, xs, as, rfl, C5.hs, C5.ps, by have := C.la; omega, fun bl bs H6 s6 nbl hb pb => ?_⟩
    have C6 := C5.keep s6
    refine hD _ _ ⟨p, l1, l2, sl, gl, xf, bl, stt, sh, mx, x1, x2, xs, bs, most, now, op, wd, ot, lt, now + r1, now + r1 + 1 + r2, ks, as, more, rfl, ?_⟩
    exact { C := { C6 with S := C6.S.mono (by omega) }, hg := s6 _ _ (s5 _ _ hg4), hx := (hx4.keep s5).keep s6, ht := s6 _ _ ht5, hb := hb, pb := pb, d1 := d1, d2 := d2, d3 := d3, d4 := d4, d5 := d5,
            b1 := C5.S.ng nbl, b2 := (ne_of_none (s5 _ _ hg4) nbl).symm, b3 := (ne_of_none C5.hs nbl).symm }
end
end Hl
set_option Elab.async false
set_option maxRecDepth 100000
set_option maxHeartbeats 4000000
set_option linter.all false
/-! right: the scenes -/
namespace Hl
open PySem L2
open Classical in
/-- the heap without what may be changed -/
noncomputable def cutH (M : List Addr) (H : Hp) : Hp := fun a => if a ∈ M then none else H a
theorem cutH_none {M : List Addr} {H : Hp} {a : Addr} (h : a ∈ M) : cutH M H a = none := by unfold cutH; rw [if_pos h]
theorem cutH_at {M : List Addr} {H : Hp} {a : Addr} (h : a ∉ M) : cutH M H a = H a := by unfold cutH; rw [if_neg h]
theorem cutH_same {M : List Addr} {H : Hp} : Same (cutH M H) H := fun a o e => by
  by_cases h : a ∈ M
  · rw [cutH_none h] at e
    cases e
  · rwa [cutH_at h] at e
/-- one of the four: (scene, its parts, its width) -/
def ItR (CJ CF CS : Addr) (G : Hp) (x : V) : Prop := ∃ (t sp pl : Addr) (wd n o : Int) (ks : List Kn) (as : List Ak), x = .ref t ∧ G t = some (.tup [.ref sp, .ref pl, .int wd]) ∧ SceneAt CJ CF CS G sp wd n o ks as ∧ PlainAt G pl n o ks as ∧
  (∀ a ∈ as, a.Ok) ∧ ks.length ≤ 1000 ∧ as.length ≤ 1000 ∧ (-(2 ^ 64) < wd ∧ wd < 2 ^ 64)
structure RE (CJ CF CS : Addr) (G H : Hp) (st g c sl gl xf stt tl : Addr) (Fs : List Addr) (items : List V) (fi la : Int) (m : Nat) (n : Int) : Prop where
  sG : Same G H
  gs : G st = none
  gg : G g = none
  gM : ∀ b ∈ Mus gl sl xf Fs, G b = none
  htl : G tl = some (.lst items)
  hl : items.length = 4
  it : ∀ x ∈ items, ItR CJ CF CS G x
  ht : G stt = some (.tup [.int fi, .int la])
  mu : Mu CJ CF H gl sl xf Fs m
  S : StI H st g c n
  e1 : gl ≠ g
  e2 : gl ≠ c
  e3 : sl ≠ g
  e4 : sl ≠ c
def sigE (st : Addr) (most : Int) (p : Addr) (now op : Int) (l1 l2 : Addr) (sh : Bool) (wd ot lt : Int) (mx : V) (sl gl xf : Addr) (fi : Int) (stt bl sc wi gr tl : Addr) (v22 : Option V) : L2.St :=
  [some (.ref st), some (.int most), some (.ref p), some (.int now), some (.int op), some (.ref l1), some (.ref l2), some (.bl sh), some (.int wd), some (.int ot), some (.int lt), some mx, some (.ref sl), some (.ref gl), some (.ref xf), some (.int fi), some (.ref stt), some (.ref bl), some (.ref sc), some (.ref wi), some (.ref gr), some (.ref tl), v22, none, none]
def MidE (CJ CF CS : Addr) (st g c : Addr) (n : Int) (σ : L2.St) (H : Hp) : Prop := ∃ (p l1 l2 sl gl xf bl stt sc wi gr tl : Addr) (sh : Bool) (mx : V) (most now op wd ot lt fi la : Int) (G : Hp) (Fs : List Addr) (items : List V),
  σ = sigE st most p now op l1 l2 sh wd ot lt mx sl gl xf fi stt bl sc wi gr tl none ∧ RE CJ CF CS G H st g c sl gl xf stt tl Fs items fi la 8 n
section
variable {P : Program} {w : World} {K : PySem.W.Frag} {mg : Str → Option Value} {base : Heap} {CJ CF CS : Addr}
theorem right_d {f : Addr} {cdv : Value} {A : Around} {outer : List Env} {s : Shared} {H : Hp} {E : XK} {D : Ends} {st g c : Addr} {n : Int} (hr : Room 6 (A.deeper (PyProof.Rows.envOfC "_law_right" (defScope sRight) s.heap.objs.size f cdv))) (T : Txt K mg CJ CF CS)
    (cGiven : C8.Cal P w K mg base 2 "_law_as_given" (spAsGiven CJ CF) []) (cBuilt : C8.Cal P w K mg base 5 "_law_built" (spBuilt CJ CF CS) [])
    (mWA : C8.Met P w K mg base 5 CS "with_ask" (spWAsk CJ CF CS) []) (mWW : C8.Met P w K mg base 5 CS "with_width" (spWWidth CJ CF CS) []) (mWO : C8.Met P w K mg base 5 CS "with_opens" (spWOpens CJ CF CS) [])
    (hD : ∀ σ H', MidE CJ CF CS st g c n σ H' → D.nx σ H') :
    ∃ t, PSs (XR P w K mg base f cdv A outer s H E) (((((defBody sRight).drop 9).drop 1).drop 5).take 6) t ∧ ∀ σ H', MidD CJ CF st g c n σ H' → t D σ H' := by
    refine ⟨_, pss_cons (ps_set (i := 18) scRight.nd rfl (Or.inl rfl) (C8.pe_c cBuilt hr (by decide) rfl (pa_cons (pv 2) (pa_cons (pv 8) (pa_cons (pv 13) (pa_cons (pv 12) pa_nil))))))
      (pss_cons (ps_set (i := 19) scRight.nd rfl (Or.inl rfl) (C8.pe_mt mWA hr (by decide) (pv 18) (pa_cons (pv 14) (pa_cons (pe_ix ix_tup (pv 11) pe_int (fun _ _ => rfl)) (pa_cons (pe_ix ix_tup (pv 11) pe_int (fun _ _ => rfl)) pa_nil)))))
      (pss_cons (ps_set (i := 20) scRight.nd rfl (Or.inl rfl) (pe_tup (pa_cons (pv 3) (pa_cons (pv 4) (pa_cons (pv 5) (pa_cons (pe_op op_cat (pv 6) (pe_lst (pa_cons (pv 11) pa_nil))) pa_nil))))))
      (pss_cons (ps_set (i := 21) scRight.nd rfl (Or.inl rfl) (pe_lst (pa_cons (pe_tup (pa_cons (pv 18) (pa_cons (pv 2) (pa_cons (pv 8) pa_nil)))) (pa_cons (pe_tup (pa_cons (pv 19) (pa_cons (pv 20) (pa_cons (pv 8) pa_nil))))
          (pa_cons (pe_tup (pa_cons (C8.pe_mt mWW hr (by decide) (pv 18) (pa_cons (pv 9) pa_nil)) (pa_cons (pv 2) (pa_cons (pv 9) pa_nil)))) pa_nil)))))
      (pss_cons (ps_expr (pe_bm PySem.F.plainAttrs_list PySem.F.slot_list_append PySem.F.type_list_append mt_append (pv 21) (pa_cons (pe_tup (pa_cons (C8.pe_mt mWO hr (by decide) (pv 19) (pa_cons (pv 10) pa_nil))
          (pa_cons (pe_tup (pa_cons (pv 3) (pa_cons (pv 10) (pa_cons (pv 5) (pa_cons (pe_op op_cat (pv 6) (pe_lst (pa_cons (pv 11) pa_nil))) pa_nil))))) (pa_cons (pv 8) pa_nil)))) pa_nil)))
      (pss_one (ps_if (PW.pt (pw_or (pt_cmpR (op_neD hr.units) (pv 13) (pv 5) (nomark _)) (pw_or1 (pt_cmpR (op_neD hr.units) (C8.pe_c cGiven hr (by decide) rfl (pa_cons (pv 12) pa_nil)) (pv 17) (nomark _))))) (pss_one (ps_ret pe_bl)) pss_nil)))))), ?_⟩
    rintro σ H0 ⟨p, l1, l2, sl, gl, xf, bl, stt, sh, mx, x1, x2, xs, bs, most, now, op, wd, ot, lt, fi, la, ks, as, more, rfl, R⟩
    have C := R.C
    obtain ⟨pm, qm, rfl, hpm, hqm⟩ := C.hm
    have ba : ∀ b ∈ as, AkB b := fun b hb => ⟨(C.ok b hb).k0, (C.ok b hb).k1⟩
    have bm : AkB more := ⟨C.om.k0, C.om.k1⟩
    have bam : ∀ b ∈ as ++ [more], AkB b := fun b hb => by
      rcases List.mem_append.mp hb with q | q
      · exact ba b q
      · rw [List.mem_singleton.mp q]
        exact bm
    have oam : ∀ b ∈ as ++ [more], b.Ok := fun b hb => by
      rcases List.mem_append.mp hb with q | q
      · exact C.ok b q
      · rw [List.mem_singleton.mp q]
        exact C.om
    have lk := C.lk
    have lA := C.la
    have w0 := C.w0
    have w1 := C.w1
    have o0 := C.o0
    have o1 := C.o1
    have lx2 := Paired.length C.px.p2
    -- the scene
    refine ⟨_, rfl, _, rfl, _, rfl, _, rfl, p, gl, sl, _, _, wd, now, op, x1, xs, ks, as, rfl, C.px.hp, R.hg, C.px.p1, C.hs, C.ps, ba, by omega, by omega, fun sc H1 s1 nsc N1 => ?_⟩
    have A1 : SceneAt CJ CF CS H1 sc wd now op ks as := N1.at_ (fun _ e => e) (fun _ _ _ e => e) fun q j e => e.keep s1
    obtain ⟨dsc, sl1, sl2, _, _, hsc, _⟩ := id A1
    -- with an ask more
    refine ⟨_, rfl, sc, dsc, _, rfl, hsc, sc_no _ _ _ _ _ (by decide +kernel), _, rfl, _, rfl, pm, _, _, _, rfl, rfl, SqT.of (s1 _ _ hpm), at2, _, rfl, pm, _, _, _, rfl, rfl, SqT.of (s1 _ _ hpm), at3,
      sc, xf, wd, now, op, ks, as, more, rfl, A1, R.hx.keep s1, ba, bm, by omega, by omega, fun wi H2 s2 nwi N2 => ?_⟩
    have A2 : SceneAt CJ CF CS H2 wi wd now op ks (as ++ [more]) := N2.at_ (fun _ e => e) (fun _ _ _ e => e) fun q j e => e.keep s2
    obtain ⟨dwi, wl1, wl2, _, _, hwi, _⟩ := id A2
    have s02 := s1.trans s2
    -- grown
    refine ⟨_, rfl, _, rfl, _, rfl, _, rfl, _, rfl, (by show 1 ≤ sizeLine; decide), fun e1 ne1 => ?_⟩
    have s3 : Same H2 (upd H2 e1 (.lst [.ref pm])) := Same.upd0 ne1
    have he1 : (upd H2 e1 (.lst [.ref pm])) e1 = some (.lst [.ref pm]) := upd_same
    generalize (upd H2 e1 (.lst [.ref pm])) = H3 at s3 he1
    have s03 := s02.trans s3
    refine ⟨l2, e1, _, _, rfl, rfl, s03 _ _ C.px.h2, he1, Nat.le_of_lt (small1000 (by rw [List.length_singleton]; omega)), fun c1 nc1 => ⟨(by show 4 ≤ sizeLine; decide), fun gr ngr => ?_⟩⟩
    have s4 : Same H3 (upd H3 c1 (.lst (x2 ++ [.ref pm]))) := Same.upd0 nc1
    have hc1 : (upd H3 c1 (.lst (x2 ++ [.ref pm]))) c1 = some (.lst (x2 ++ [.ref pm])) := upd_same
    generalize (upd H3 c1 (.lst (x2 ++ [.ref pm]))) = H4 at s4 hc1 ngr
    have s04 := s03.trans s4
    have s5 : Same H4 (upd H4 gr (.tup [.int now, .int op, .ref l1, .ref c1])) := Same.upd0 ngr
    have hgr : (upd H4 gr (.tup [.int now, .int op, .ref l1, .ref c1])) gr = some (.tup [.int now, .int op, .ref l1, .ref c1]) := upd_same
    generalize (upd H4 gr (.tup [.int now, .int op, .ref l1, .ref c1])) = H5 at s5 hgr
    have s05 := s04.trans s5
    -- two
    refine ⟨_, rfl, _, rfl, _, rfl, (by show 3 ≤ sizeLine; decide), fun t1 nt1 => ?_⟩
    have s6 : Same H5 (upd H5 t1 (.tup [.ref sc, .ref p, .int wd])) := Same.upd0 nt1
    have ht1 : (upd H5 t1 (.tup [.ref sc, .ref p, .int wd])) t1 = some (.tup [.ref sc, .ref p, .int wd]) := upd_same
    generalize (upd H5 t1 (.tup [.ref sc, .ref p, .int wd])) = H6 at s6 ht1
    have s06 := s05.trans s6
    refine ⟨_, rfl, _, rfl, _, rfl, (by show 3 ≤ sizeLine; decide), fun t2 nt2 => ?_⟩
    have s7 : Same H6 (upd H6 t2 (.tup [.ref wi, .ref gr, .int wd])) := Same.upd0 nt2
    have ht2 : (upd H6 t2 (.tup [.ref wi, .ref gr, .int wd])) t2 = some (.tup [.ref wi, .ref gr, .int wd]) := upd_same
    generalize (upd H6 t2 (.tup [.ref wi, .ref gr, .int wd])) = H7 at s7 ht2
    have s07 := s06.trans s7
    have s17 : Same H1 H7 := s2.trans (s3.trans (s4.trans (s5.trans (s6.trans s7))))
    have s27 : Same H2 H7 := s3.trans (s4.trans (s5.trans (s6.trans s7)))
    refine ⟨_, rfl, sc, dsc, _, rfl, s17 _ _ hsc, sc_no _ _ _ _ _ (by decide +kernel), _, rfl, sc, wd, ot, now, op, ks, as, rfl, A1.keep s17, ba, by omega, by omega, fun ww H8 s8 nww N8 => ?_⟩
    have s08 := s07.trans s8
    refine ⟨_, rfl, _, rfl, (by show 3 ≤ sizeLine; decide), fun t3 nt3 => ⟨(by show 3 ≤ sizeLine; decide), fun tl ntl => ?_⟩⟩
    have s9 : Same H8 (upd H8 t3 (.tup [.ref ww, .ref p, .int ot])) := Same.upd0 nt3
    have ht3 : (upd H8 t3 (.tup [.ref ww, .ref p, .int ot])) t3 = some (.tup [.ref ww, .ref p, .int ot]) := upd_same
    generalize (upd H8 t3 (.tup [.ref ww, .ref p, .int ot])) = H9 at s9 ht3 ntl
    have s09 := s08.trans s9
    have s10 : Same H9 (upd H9 tl (.lst [.ref t1, .ref t2, .ref t3])) := Same.upd0 ntl
    have htl : (upd H9 tl (.lst [.ref t1, .ref t2, .ref t3])) tl = some (.lst [.ref t1, .ref t2, .ref t3]) := upd_same
    generalize (upd H9 tl (.lst [.ref t1, .ref t2, .ref t3])) = H10 at s10 htl
    have s010 := s09.trans s10
    have s210 : Same H2 H10 := s27.trans (s8.trans (s9.trans s10))
    -- the fourth
    refine ⟨_, rfl, .inl ⟨rfl, _, SqL.of htl⟩, _, rfl, wi, dwi, _, rfl, s210 _ _ hwi, sc_no _ _ _ _ _ (by decide +kernel), _, rfl, wi, wd, now, op, lt, ks, as ++ [more], rfl, A2.keep s210, bam, by omega, by rw [List.length_append, List.length_singleton]; omega, fun wo H11 s11 nwo N11 => ?_⟩
    have s011 := s010.trans s11
    refine ⟨_, rfl, _, rfl, _, rfl, _, rfl, _, rfl, (by show 1 ≤ sizeLine; decide), fun e2 ne2 => ?_⟩
    have s12 : Same H11 (upd H11 e2 (.lst [.ref pm])) := Same.upd0 ne2
    have he2 : (upd H11 e2 (.lst [.ref pm])) e2 = some (.lst [.ref pm]) := upd_same
    generalize (upd H11 e2 (.lst [.ref pm])) = H12 at s12 he2
    have s012 := s011.trans s12
    refine ⟨l2, e2, _, _, rfl, rfl, s012 _ _ C.px.h2, he2, Nat.le_of_lt (small1000 (by rw [List.length_singleton]; omega)), fun c2 nc2 => ⟨(by show 4 ≤ sizeLine; decide), fun g2 ng2 => ?_⟩⟩
    have s13 : Same H12 (upd H12 c2 (.lst (x2 ++ [.ref pm]))) := Same.upd0 nc2
    have hc2 : (upd H12 c2 (.lst (x2 ++ [.ref pm]))) c2 = some (.lst (x2 ++ [.ref pm])) := upd_same
    generalize (upd H12 c2 (.lst (x2 ++ [.ref pm]))) = H13 at s13 hc2 ng2
    have s013 := s012.trans s13
    have s14 : Same H13 (upd H13 g2 (.tup [.int now, .int lt, .ref l1, .ref c2])) := Same.upd0 ng2
    have hg2 : (upd H13 g2 (.tup [.int now, .int lt, .ref l1, .ref c2])) g2 = some (.tup [.int now, .int lt, .ref l1, .ref c2]) := upd_same
    generalize (upd H13 g2 (.tup [.int now, .int lt, .ref l1, .ref c2])) = H14 at s14 hg2
    have s014 := s013.trans s14
    refine ⟨_, rfl, (by show 3 ≤ sizeLine; decide), fun t4 nt4 => ?_⟩
    have s15 : Same H14 (upd H14 t4 (.tup [.ref wo, .ref g2, .int wd])) := Same.upd0 nt4
    have ht4 : (upd H14 t4 (.tup [.ref wo, .ref g2, .int wd])) t4 = some (.tup [.ref wo, .ref g2, .int wd]) := upd_same
    generalize (upd H14 t4 (.tup [.ref wo, .ref g2, .int wd])) = H15 at s15 ht4
    have s015 := s014.trans s15
    have s1015 : Same H10 H15 := s11.trans (s12.trans (s13.trans (s14.trans s15)))
    have s915 : Same H9 H15 := s10.trans s1015
    refine ⟨tl, _, _, rfl, rfl, s1015 _ _ htl, (by show 3 < sizeLine; decide), ?_⟩
    have k16 : ∀ {a : Addr} {o : HO}, H15 a = some o → a ≠ tl → (upd H15 tl (.lst ([.ref t1, .ref t2, .ref t3] ++ [.ref t4]))) a = some o := fun {a o} e ne => by
      rw [upd_ne ne]
      exact e
    have n0tl : H0 tl = none := s08.free (s9.free ntl)
    have s016 : Same H0 (upd H15 tl (.lst ([.ref t1, .ref t2, .ref t3] ++ [.ref t4]))) := Same.upd s015 n0tl
    have htl16 : (upd H15 tl (.lst ([.ref t1, .ref t2, .ref t3] ++ [.ref t4]))) tl = some (.lst [.ref t1, .ref t2, .ref t3, .ref t4]) := upd_same
    generalize (upd H15 tl (.lst ([.ref t1, .ref t2, .ref t3] ++ [.ref t4]))) = H16 at k16 s016 htl16
    -- what was handed in stays
    refine ⟨_, rfl, _, rfl, _, _, .lst (SqL.of (s016 _ _ R.hg)) (dp_kns (mon_KnR.pairs s016 C.px.p1)), .lst (SqL.of (s016 _ _ C.px.h1)) (dp_kns (mon_KnR.pairs s016 C.px.p1)), shp_kns ks, shp_kns ks, _, rfl, ?_⟩
    rw [eqv_shp (shp_kns ks)]
    refine iteF ?_
    refine ⟨_, rfl, sl, xs, as, rfl, s016 _ _ C.hs, mon_OaR.pairs s016 C.ps, by omega, fun r ys H17 s17' nr hr py => ?_⟩
    have s017 := s016.trans s17'
    refine ⟨_, rfl, _, _, .lst (SqL.of hr) (dp_aks py), .lst (SqL.of (s017 _ _ R.hb)) (dp_aks (mon_AkR.pairs s017 R.pb)), shp_aks as, shp_aks as, _, rfl, ?_⟩
    rw [eqv_shp (shp_aks as)]
    refine iteF ?_
    -- the heap without what may be changed
    obtain ⟨Fs, pfs, hFs⟩ := oa_flows C.ps C.ok
    have flx : ∀ f ∈ xf :: Fs, FlOk CJ CF H0 f := fun f hf => by
      rcases List.mem_cons.mp hf with q | q
      · rw [q]
        exact ⟨more.j, more.k, R.hx, C.om.j, C.om.k0, C.om.k1⟩
      · exact hFs f q
    obtain ⟨kvs, gs, est, eg⟩ := C.S.dat
    have MM : ∀ b ∈ st :: g :: Mus gl sl xf Fs, (∃ kvs, H0 b = some (.dK kvs)) ∨ ((b = g ∨ b = gl ∨ b = sl) ∧ ∃ zs, H0 b = some (.lst zs)) ∨ ∃ C d q k, H0 b = some (.ins C d (flF q k)) := fun b hb => by
      rcases List.mem_cons.mp hb with q | hb
      · exact .inl ⟨kvs, by rw [q]; exact est⟩
      rcases List.mem_cons.mp hb with q | hb
      · exact .inr (.inl ⟨.inl q, gs, by rw [q]; exact eg⟩)
      rcases List.mem_cons.mp hb with q | hb
      · exact .inr (.inl ⟨.inr (.inl q), _, by rw [q]; exact R.hg⟩)
      rcases List.mem_cons.mp hb with q | hb
      · exact .inr (.inl ⟨.inr (.inr q), _, by rw [q]; exact C.hs⟩)
      obtain ⟨j, k, ⟨d, q, e, _⟩, _⟩ := flx b hb
      exact .inr (.inr ⟨_, _, _, _, e⟩)
    have nM0 : ∀ {a : Addr}, H0 a = none → a ∉ st :: g :: Mus gl sl xf Fs := fun {a} n0 z => by
      rcases MM a z with ⟨_, e⟩ | ⟨_, _, e⟩ | ⟨_, _, _, _, e⟩ <;> (rw [n0] at e; cases e)
    have nMt : ∀ {a : Addr} {zs : List V}, H0 a = some (.tup zs) → a ∉ st :: g :: Mus gl sl xf Fs := fun {a zs} n0 z => by
      rcases MM a z with ⟨_, e⟩ | ⟨_, _, e⟩ | ⟨_, _, _, _, e⟩ <;> (rw [n0] at e; cases e)
    have nMj : ∀ {a d : Addr} {j : Jr}, H0 a = some (.ins CJ d (jrF j)) → a ∉ st :: g :: Mus gl sl xf Fs := fun {a d j} n0 z => by
      rcases MM a z with ⟨_, e⟩ | ⟨_, _, e⟩ | ⟨_, _, _, _, e⟩
      · rw [n0] at e
        cases e
      · rw [n0] at e
        cases e
      · rw [n0] at e
        exact flF_jrF (HO.ins.inj (Option.some.inj e)).2.2.symm
    have nMl : ∀ {a : Addr} {zs : List V}, H0 a = some (.lst zs) → a ≠ g → a ≠ gl → a ≠ sl → a ∉ st :: g :: Mus gl sl xf Fs := fun {a zs} n0 h1 h2 h3 z => by
      rcases MM a z with ⟨_, e⟩ | ⟨q, _⟩ | ⟨_, _, _, _, e⟩
      · rw [n0] at e
        cases e
      · rcases q with q | q | q
        · exact h1 q
        · exact h2 q
        · exact h3 q
      · rw [n0] at e
        cases e
    have allG : ∀ {a : Addr} {o : HO}, H15 a = some o → a ≠ tl → a ∉ st :: g :: Mus gl sl xf Fs → cutH (st :: g :: Mus gl sl xf Fs) H17 a = some o := fun {a o} e ne nm => by
      rw [cutH_at nm]
      exact s17' _ _ (k16 e ne)
    have n9 : ∀ {a : Addr} {o : HO}, H9 a = some o → a ≠ tl := fun {a o} e => ne_of_none e ntl
    have n10 : ∀ {a : Addr}, H10 a = none → a ≠ tl := fun {a} e z => by
      rw [z, htl] at e
      cases e
    have inG : ∀ {a : Addr} {o : HO}, H0 a = none → H9 a = some o → cutH (st :: g :: Mus gl sl xf Fs) H17 a = some o := fun {a o} n0 e => allG (s915 _ _ e) (n9 e) (nM0 n0)
    have inG' : ∀ {a : Addr} {o : HO}, H10 a = none → H15 a = some o → cutH (st :: g :: Mus gl sl xf Fs) H17 a = some o := fun {a o} n0 e => allG e (n10 n0) (nM0 (s010.free n0))
    have oldT : ∀ {a : Addr} {zs : List V}, H0 a = some (.tup zs) → cutH (st :: g :: Mus gl sl xf Fs) H17 a = some (.tup zs) := fun {a zs} e => allG (s015 _ _ e) (n9 (s09 _ _ e)) (nMt e)
    have oldL : ∀ {a : Addr} {zs : List V}, H0 a = some (.lst zs) → a ≠ g → a ≠ gl → a ≠ sl → cutH (st :: g :: Mus gl sl xf Fs) H17 a = some (.lst zs) := fun {a zs} e h1 h2 h3 => allG (s015 _ _ e) (n9 (s09 _ _ e)) (nMl e h1 h2 h3)
    have jarG : ∀ {Hk : Hp}, Same H0 Hk → Same Hk H15 → ∀ q j, JarAt CJ Hk q j → JarAt CJ (cutH (st :: g :: Mus gl sl xf Fs) H17) q j := fun {Hk} sk sk' q j ⟨d, e⟩ => by
      have ne : q ≠ tl := ne_of (sk' _ _ e) (s1015 _ _ htl) fun z => nomatch z
      refine ⟨d, allG (sk' _ _ e) ne ?_⟩
      cases h0 : H0 q with
      | none => exact nM0 h0
      | some o =>
        have e2 := sk _ _ h0
        rw [e] at e2
        rw [← Option.some.inj e2] at h0
        exact nMj h0
    have s19 : Same H1 H9 := s17.trans (s8.trans s9)
    have s29 : Same H2 H9 := s27.trans (s8.trans s9)
    have s89 : Same H8 H9 := s9
    have G1 : SceneAt CJ CF CS (cutH (st :: g :: Mus gl sl xf Fs) H17) sc wd now op ks as := N1.at_ (fun o e => inG nsc (s19 _ _ e)) (fun a o n0 e => inG n0 (s19 _ _ e)) (jarG (Same.refl _) s015)
    have G2 : SceneAt CJ CF CS (cutH (st :: g :: Mus gl sl xf Fs) H17) wi wd now op ks (as ++ [more]) := N2.at_ (fun o e => inG (s1.free nwi) (s29 _ _ e)) (fun a o n0 e => inG (s1.free n0) (s29 _ _ e)) (jarG s1 (s19.trans s915))
    have G3 : SceneAt CJ CF CS (cutH (st :: g :: Mus gl sl xf Fs) H17) ww ot now op ks as := N8.at_ (fun o e => inG (s07.free nww) (s9 _ _ e)) (fun a o n0 e => inG (s07.free n0) (s9 _ _ e)) (jarG s07 ((s8.trans s9).trans s915))
    have s1115 : Same H11 H15 := s12.trans (s13.trans (s14.trans s15))
    have G4 : SceneAt CJ CF CS (cutH (st :: g :: Mus gl sl xf Fs) H17) wo wd now lt ks (as ++ [more]) := N11.at_ (fun o e => inG' nwo (s1115 _ _ e)) (fun a o n0 e => inG' n0 (s1115 _ _ e)) (jarG s010 s1015)
    have gk : Paired (KnR (cutH (st :: g :: Mus gl sl xf Fs) H17)) x1 ks := Paired.mapP C.px.p1 fun x k ⟨t, e, h⟩ => ⟨t, e, oldT h⟩
    have ga : Paired (AkR (cutH (st :: g :: Mus gl sl xf Fs) H17)) x2 as := Paired.mapP C.px.p2 fun x a ⟨p, q, e, h, h'⟩ => ⟨p, q, e, oldT h, oldT h'⟩
    have gm : AkR (cutH (st :: g :: Mus gl sl xf Fs) H17) (.ref pm) more := ⟨pm, qm, rfl, oldT hpm, oldT hqm⟩
    have gl1 := oldL C.px.h1 C.n1 (fun z => R.d4 z.symm) (fun z => C.n5 z.symm)
    have gl2 := oldL C.px.h2 C.n2 (fun z => R.d5 z.symm) (fun z => C.n6 z.symm)
    have s49 : Same H4 H9 := s5.trans (s6.trans (s7.trans (s8.trans s9)))
    have s59 : Same H5 H9 := s6.trans (s7.trans (s8.trans s9))
    have s69 : Same H6 H9 := s7.trans (s8.trans s9)
    have s79 : Same H7 H9 := s8.trans s9
    have gc1 := inG (s03.free nc1) (s49 _ _ hc1)
    have ggr := inG (s04.free ngr) (s59 _ _ hgr)
    have gt1 := inG (s05.free nt1) (s69 _ _ ht1)
    have gt2 := inG (s06.free nt2) (s79 _ _ ht2)
    have gt3 := inG (s08.free nt3) ht3
    have gc2 := inG' (s11.free (s12.free nc2)) (s14.trans s15 _ _ hc2)
    have gg2 := inG' (s11.free (s12.free (s13.free ng2))) (s15 _ _ hg2)
    have gt4 := inG' (s11.free (s12.free (s13.free (s14.free nt4)))) ht4
    have P1 : PlainAt (cutH (st :: g :: Mus gl sl xf Fs) H17) p now op ks as := ⟨l1, l2, x1, x2, oldT C.px.hp, gl1, gk, gl2, ga⟩
    have P2 : PlainAt (cutH (st :: g :: Mus gl sl xf Fs) H17) gr now op ks (as ++ [more]) := ⟨l1, c1, x1, _, ggr, gl1, gk, gc1, Paired.snoc ga gm⟩
    have P4 : PlainAt (cutH (st :: g :: Mus gl sl xf Fs) H17) g2 now lt ks (as ++ [more]) := ⟨l1, c2, x1, _, gg2, gl1, gk, gc2, Paired.snoc ga gm⟩
    have wb : -(2 ^ 64) < wd ∧ wd < 2 ^ 64 := by omega
    have ob : -(2 ^ 64) < ot ∧ ot < 2 ^ 64 := by omega
    have la1 : (as ++ [more]).length ≤ 1000 := by rw [List.length_append, List.length_singleton]; omega
    refine hD _ _ ⟨p, l1, l2, sl, gl, xf, bl, stt, sc, wi, gr, tl, sh, .ref pm, most, now, op, wd, ot, lt, fi, la, cutH (st :: g :: Mus gl sl xf Fs) H17, Fs, [.ref t1, .ref t2, .ref t3, .ref t4], rfl, ?_⟩
    refine { sG := cutH_same, gs := cutH_none (List.mem_cons_self ..), gg := cutH_none (List.mem_cons_of_mem _ (List.mem_cons_self ..)), gM := fun b hb => cutH_none (List.mem_cons_of_mem _ (List.mem_cons_of_mem _ hb)),
             htl := by rw [cutH_at (nM0 n0tl)]; exact s17' _ _ htl16, hl := rfl, it := ?_, ht := oldT R.ht, mu := ?_, S := C.S.keep s017, e1 := R.d1, e2 := R.d2, e3 := C.n3, e4 := C.n4 }
    · intro x hx
      simp only [List.mem_cons, List.not_mem_nil, or_false] at hx
      rcases hx with q | q | q | q
      · exact ⟨t1, sc, p, wd, now, op, ks, as, q, gt1, G1, P1, C.ok, by omega, by omega, wb⟩
      · exact ⟨t2, wi, gr, wd, now, op, ks, as ++ [more], q, gt2, G2, P2, oam, by omega, la1, wb⟩
      · exact ⟨t3, ww, p, ot, now, op, ks, as, q, gt3, G3, P1, C.ok, by omega, by omega, ob⟩
      · exact ⟨t4, wo, g2, wd, now, lt, ks, as ++ [more], q, gt4, G4, P4, oam, by omega, la1, wb⟩
    · have M0 : Mu CJ CF H0 gl sl xf Fs 8 := ⟨⟨x1, R.hg, by have := Paired.length C.px.p1; omega⟩, ⟨xs, Fs, C.hs, pfs, fun _ h => h, by have := Paired.length C.ps; omega⟩, flx, R.d3⟩
      exact M0.keep s017
end
end Hl
set_option Elab.async false
set_option maxRecDepth 100000
set_option maxHeartbeats 4000000
set_option linter.all false
/-! right: the turns -/
namespace Hl
open PySem L2
theorem Mu.go {CJ CF : Addr} {H H' : Hp} {st g c gl sl xf : Addr} {Fs : List Addr} {m : Nat} {n : Int} (S : StI H st g c n) (k : Keep [st, g] H H') (e1 : gl ≠ g) (e3 : sl ≠ g) (h : Mu CJ CF H gl sl xf Fs m) : Mu CJ CF H' gl sl xf Fs m where
  hg := let ⟨xs, e, q⟩ := h.hg; ⟨xs, S.lst k e e1, q⟩
  hs := let ⟨xs, fs, e, p, q⟩ := h.hs; ⟨xs, fs, S.lst k e e3, Paired.mapP p (fun _ _ r => r.keep fun t xs e => S.tup k e), q⟩
  fl := fun f hf => let ⟨j, l, a, b⟩ := h.fl f hf; ⟨j, l, a.go S k, b⟩
  ne := h.ne
theorem Mu.state {CJ CF : Addr} {H H' : Hp} {st g c gl sl xf : Addr} {Fs : List Addr} {m : Nat} {n : Int} (S : StI H st g c n) (k : Keep (Mus gl sl xf Fs) H H') (e1 : gl ≠ g) (e2 : gl ≠ c) (e3 : sl ≠ g) (e4 : sl ≠ c) (h : Mu CJ CF H gl sl xf Fs m) : StI H' st g c n := by
  obtain ⟨gr, ce, r, t, s, q⟩ := S
  have fl : ∀ {b : Addr} {o : HO}, H b = some o → (∀ C d fs, o ≠ .ins C d fs) → b ∉ xf :: Fs := fun {b o} e ne z => by
    obtain ⟨j, l, ⟨d, u, e5, _⟩, _⟩ := h.fl b z
    rw [e] at e5
    exact ne _ _ _ (Option.some.inj e5)
  obtain ⟨gs, eg, _⟩ := h.hg
  obtain ⟨ss, _, es, _⟩ := h.hs
  have out : ∀ {b : Addr} {o : HO}, H b = some o → (∀ C d fs, o ≠ .ins C d fs) → b ≠ gl → b ≠ sl → H' b = some o := fun {b o} e ne n1 n2 => k b o e fun z => by
    rcases List.mem_cons.mp z with y | z
    · exact n1 y
    rcases List.mem_cons.mp z with y | z
    · exact n2 y
    · exact fl e ne z
  exact ⟨gr, ce, r, t, s, { q with d := out q.d (fun _ _ _ z => nomatch z) (ne_of q.d eg fun z => nomatch z) (ne_of q.d es fun z => nomatch z), hg := out q.hg (fun _ _ _ z => nomatch z) e1.symm e3.symm, hc := out q.hc (fun _ _ _ z => nomatch z) e2.symm e4.symm }⟩
theorem RE.same {CJ CF CS : Addr} {G H H' : Hp} {st g c sl gl xf stt tl : Addr} {Fs : List Addr} {items : List V} {fi la : Int} {m : Nat} {n : Int} (s : Same H H') (R : RE CJ CF CS G H st g c sl gl xf stt tl Fs items fi la m n) : RE CJ CF CS G H' st g c sl gl xf stt tl Fs items fi la m n :=
  { R with sG := R.sG.trans s, mu := R.mu.keep s, S := R.S.keep s }
theorem RE.go {CJ CF CS : Addr} {G H H' : Hp} {st g c sl gl xf stt tl : Addr} {Fs : List Addr} {items : List V} {fi la : Int} {m : Nat} {n n' : Int} (k : Keep [st, g] H H') (S' : StI H' st g c n') (R : RE CJ CF CS G H st g c sl gl xf stt tl Fs items fi la m n) : RE CJ CF CS G H' st g c sl gl xf stt tl Fs items fi la m n' :=
  { R with sG := fun b o e => k b o (R.sG b o e) fun z => by
             rcases List.mem_cons.mp z with q | q
             · rw [q, R.gs] at e
               cases e
             · rw [List.mem_singleton.mp q, R.gg] at e
               cases e
           mu := R.mu.go R.S k R.e1 R.e3, S := S' }
theorem RE.ch {CJ CF CS : Addr} {G H H' : Hp} {st g c sl gl xf stt tl : Addr} {Fs : List Addr} {items : List V} {fi la : Int} {m m' : Nat} {n : Int} (k : Keep (Mus gl sl xf Fs) H H') (M' : Mu CJ CF H' gl sl xf Fs m') (R : RE CJ CF CS G H st g c sl gl xf stt tl Fs items fi la m n) : RE CJ CF CS G H' st g c sl gl xf stt tl Fs items fi la m' n :=
  { R with sG := fun b o e => k b o (R.sG b o e) fun z => by
             rw [R.gM b z] at e
             cases e
           mu := M', S := R.mu.state R.S k R.e1 R.e2 R.e3 R.e4 }
section
variable {P : Program} {w : World} {K : PySem.W.Frag} {mg : Str → Option Value} {base : Heap} {CJ CF CS : Addr}
theorem right_e {f : Addr} {cdv : Value} {A : Around} {outer : List Env} {s : Shared} {H : Hp} {E : XK} {D : Ends} {st g c : Addr} {n : Int} (hr : Room 6 (A.deeper (PyProof.Rows.envOfC "_law_right" (defScope sRight) s.heap.objs.size f cdv))) (T : Txt K mg CJ CF CS)
    (cTake : C8.Cal P w K mg base 1 "_law_take" spTake []) (cStays : C8.Cal P w K mg base 6 "_law_stays" (spStays CJ CF CS) []) (cChange : C8.Cal P w K mg base 5 "_law_change" (spChange CJ CF CS) []) (hn : n ≤ 98000)
    (hD : ∀ H', StI H' st g c (n + 8) → D.rt (.bl true) H') :
    ∃ t, PSs (XR P w K mg base f cdv A outer s H E) (((((defBody sRight).drop 9).drop 1).drop 5).drop 6) t ∧ ∀ σ H', MidE CJ CF CS st g c n σ H' → t D σ H' := by
    refine ⟨_, pss_cons (ps_for PassesOwn.never rfl (pi_range1 rfl T.range (pa_cons pe_int pa_nil)) (pg_name (i := 22) scRight.nd rfl (Or.inl rfl))
        (pss_cons (ps_if (pt_cmpR (op_neD hr.units) (pe_lc (own := [("_law_one", 24)]) (g := gName 24) (tt := tNot (tB (tCall (spStays CJ CF CS) [] E0 (tCons (tOp (rIxT K) (tVar 24) (tC (.int 0))) (tCons (tOp (rIxT K) (tVar 24) (tC (.int 1))) (tCons (tOp (rIxT K) (tVar 24) (tC (.int 2))) (tCons (tVar 16) tNil))))))) rfl scRight.nd (pi_list (pv 21)) (blkOk_by (N := NRt) (sc := defScope sRight) (by decide +kernel)) (fun _ _ _ _ _ => pg_name (i := 24) scRight.nd rfl (Or.inl rfl))
            (fun _ _ _ _ _ => pts_one (pt_not (pt_val (C8.pe_c cStays hr (by decide) rfl (pa_cons (pe_ix ix_tup (pv 24) pe_int (fun _ _ => rfl)) (pa_cons (pe_ix ix_tup (pv 24) pe_int (fun _ _ => rfl)) (pa_cons (pe_ix ix_tup (pv 24) pe_int (fun _ _ => rfl)) (pa_cons (pv 16) pa_nil)))))))) (fun _ _ _ _ _ => pv 24)) (pe_lst pa_nil) (nomark _)) (pss_one (ps_ret pe_bl)) pss_nil)
        (pss_one (ps_expr (C8.pe_c cChange hr (by decide) rfl (pa_cons (C8.pe_c cTake hr (by decide) rfl (pa_cons (pv 0) (pa_cons pe_int pa_nil))) (pa_cons (pe_ix ix_tup (pe_ix ix_list (pv 21) (C8.pe_c cTake hr (by decide) rfl (pa_cons (pv 0) (pa_cons pe_int pa_nil))) (fun _ _ => rfl)) pe_int (fun _ _ => rfl)) (pa_cons (pv 13) (pa_cons (pv 12) (pa_cons (pv 14) pa_nil))))))))))
      (pss_one (ps_ret (pe_cmpR (op_eqD hr.units) (pe_lc (own := [("_law_one", 24)]) (g := gName 24) (tt := tNot (tB (tCall (spStays CJ CF CS) [] E0 (tCons (tOp (rIxT K) (tVar 24) (tC (.int 0))) (tCons (tOp (rIxT K) (tVar 24) (tC (.int 1))) (tCons (tOp (rIxT K) (tVar 24) (tC (.int 2))) (tCons (tVar 16) tNil))))))) rfl scRight.nd (pi_list (pe_revL (pv 21))) (blkOk_by (N := NRt) (sc := defScope sRight) (by decide +kernel)) (fun _ _ _ _ _ => pg_name (i := 24) scRight.nd rfl (Or.inl rfl))
            (fun _ _ _ _ _ => pts_one (pt_not (pt_val (C8.pe_c cStays hr (by decide) rfl (pa_cons (pe_ix ix_tup (pv 24) pe_int (fun _ _ => rfl)) (pa_cons (pe_ix ix_tup (pv 24) pe_int (fun _ _ => rfl)) (pa_cons (pe_ix ix_tup (pv 24) pe_int (fun _ _ => rfl)) (pa_cons (pv 16) pa_nil)))))))) (fun _ _ _ _ _ => pv 24)) (pe_lst pa_nil) (nomark _)))), ?_⟩
    rintro σ H0 ⟨p, l1, l2, sl, gl, xf, bl, stt, sc, wi, gr, tl, sh, mx, most, now, op, wd, ot, lt, fi, la, G, Fs, items, rfl, R⟩
    have stay : ∀ {x : V} {H1 : Hp}, x ∈ items → Same G H1 → ItR CJ CF CS H1 x := fun {x H1} hx sG => by
      obtain ⟨t, sp, pl, wd', n', o', ks, as, e, ht, hS, hP, r⟩ := R.it x hx
      exact ⟨t, sp, pl, wd', n', o', ks, as, e, sG _ _ ht, hS.keep sG, hP.keep sG, r⟩
    refine ⟨4, rfl, by decide, by decide, for_range (n := 4) (fun i σ H' => ∃ v22, σ = sigE st most p now op l1 l2 sh wd ot lt mx sl gl xf fi stt bl sc wi gr tl v22 ∧ RE CJ CF CS G H' st g c sl gl xf stt tl Fs items fi la (8 + i) (n + 2 * (i : Int))) ⟨none, rfl, by simpa using R⟩ ?_ ?_⟩
    · rintro i σ H1 hi ⟨v22, rfl, R1⟩
      refine ⟨_, rfl, tl, rfl, ⟨_, SqL.of (R1.sG _ _ R1.htl)⟩, fun D1 hD1 => lc_none (a := tl) (xs := items) hD1 (SqL.of (R1.sG _ _ R1.htl)) (by rw [R1.hl]; decide) ?_ ?_⟩
      · intro x H2 hx s2 N N' kN'
        obtain ⟨t, sp, pl, wd', n', o', ks, as, rfl, ht, hS, hP, ok, lk, lA, wb⟩ := stay hx (R1.sG.trans s2)
        exact ⟨rfl, _, rfl, t, _, _, _, rfl, rfl, SqT.of ht, at0, _, rfl, t, _, _, _, rfl, rfl, SqT.of ht, at1, _, rfl, t, _, _, _, rfl, rfl, SqT.of ht, at2, _, rfl, sp, pl, stt, wd', n', o', fi, la, ks, as, rfl, hS, hP, s2 _ _ (R1.sG _ _ R1.ht), ok, lk, lA, wb, fun H' s' => ⟨true, rfl, iteF (kN' H' s')⟩⟩
      · rintro H2 s2 e2
        refine ⟨(by show 0 ≤ sizeLine; decide), fun e ne => ?_⟩
        have s3 : Same H2 (upd H2 e (.lst [])) := Same.upd0 ne
        refine ⟨_, _, .lst (SqL.of (s3 _ _ e2)) .nil, .lst (SqL.of upd_same) .nil, rfl, rfl, _, rfl, iteF ?_⟩
        have R3 := R1.same (s2.trans s3)
        generalize (upd H2 e (.lst [])) = H3 at s3 R3
        refine ⟨_, rfl, st, g, c, _, 7, rfl, R3.S, by omega, by decide, by decide, fun w1 H4 _ _ k4 S4 => ?_⟩
        have R4 := R3.go k4 S4
        refine ⟨_, rfl, _, rfl, st, g, c, _, 4, rfl, R4.S, by omega, by decide, by decide, fun w2 H5 w20 w21 k5 S5 => ?_⟩
        have R5 := R4.go k5 S5
        obtain ⟨j, rfl, hj⟩ : ∃ j : Nat, w2 = (j : Int) ∧ j < items.length := ⟨w2.toNat, by omega, by rw [R.hl]; omega⟩
        obtain ⟨t, sp, pl, wd', n', o', ks, as, e', ht, hS, hP, ok, lk, lA, wb⟩ := R.it items[j] (List.getElem_mem hj)
        refine ⟨tl, _, _, items[j], rfl, rfl, SqL.of (R5.sG _ _ R5.htl), atI_nat (List.getElem?_eq_getElem hj), t, _, _, _, e', rfl, SqT.of (R5.sG _ _ ht), at0, _, rfl, _, rfl, _, rfl,
          w1, sp, gl, sl, xf, G, Fs, wd', n', o', ks, as, 8 + i, rfl, R5.sG, R5.gM, hS, ok, lk, lA, R5.mu, by omega, fun H6 k6 M6 => ?_⟩
        have R6 := R5.ch k6 M6
        exact ⟨_, rfl, { R6 with S := R6.S.mono (by omega) }⟩
    · rintro σ H1 ⟨v22, rfl, R1⟩
      refine ⟨_, rfl, tl, items, rfl, SqL.of (R1.sG _ _ R1.htl), fun rv nrv => ?_⟩
      have s1 : Same H1 (upd H1 rv (.lst items.reverse)) := Same.upd0 nrv
      have hrv : (upd H1 rv (.lst items.reverse)) rv = some (.lst items.reverse) := upd_same
      generalize (upd H1 rv (.lst items.reverse)) = H2 at s1 hrv
      have G2 := R1.sG.trans s1
      refine ⟨rv, rfl, ⟨_, SqL.of hrv⟩, fun D1 hD1 => lc_none (a := rv) (xs := items.reverse) hD1 (SqL.of hrv) (by rw [List.length_reverse, R1.hl]; decide) ?_ ?_⟩
      · intro x H3 hx s3 N N' kN'
        obtain ⟨t, sp, pl, wd', n', o', ks, as, rfl, ht, hS, hP, ok, lk, lA, wb⟩ := stay (List.mem_reverse.mp hx) (G2.trans s3)
        exact ⟨rfl, _, rfl, t, _, _, _, rfl, rfl, SqT.of ht, at0, _, rfl, t, _, _, _, rfl, rfl, SqT.of ht, at1, _, rfl, t, _, _, _, rfl, rfl, SqT.of ht, at2, _, rfl, sp, pl, stt, wd', n', o', fi, la, ks, as, rfl, hS, hP, s3 _ _ (G2 _ _ R1.ht), ok, lk, lA, wb, fun H' s' => ⟨true, rfl, iteF (kN' H' s')⟩⟩
      · rintro H3 s3 e3
        refine ⟨(by show 0 ≤ sizeLine; decide), fun e ne => ?_⟩
        have s4 : Same H3 (upd H3 e (.lst [])) := Same.upd0 ne
        refine ⟨_, _, .lst (SqL.of (s4 _ _ e3)) .nil, .lst (SqL.of upd_same) .nil, rfl, rfl, ?_⟩
        exact hD _ ((R1.S.keep (s1.trans (s3.trans s4))).mono (by omega))
end
end Hl
set_option Elab.async false
set_option maxRecDepth 100000
set_option maxHeartbeats 4000000
set_option linter.all false
/-! right joined; the law -/
namespace Hl
open PySem L2
section
variable {P : Program} {w : World} {K : PySem.W.Frag} {mg : Str → Option Value} {base : Heap} {CJ CF CS : Addr}
theorem ok_Right {f : Addr} {fd : FuncData} (F : Fun K "_law_right" "_law_right" sRight f fd) (T : Txt K mg CJ CF CS) (cPick : C8.Cal P w K mg base 2 "_law_pick" spPick []) (cPlain : C8.Cal P w K mg base 4 "_law_plain" spPlain []) (cTake : C8.Cal P w K mg base 1 "_law_take" spTake [])
    (cSome : C8.Cal P w K mg base 2 "_law_some" spSome []) (cAsk : C8.Cal P w K mg base 3 "_law_ask" spAsk []) (cFlow : C8.Cal P w K mg base 3 "_law_flow" (spFlow CJ CF) []) (cGiven : C8.Cal P w K mg base 2 "_law_as_given" (spAsGiven CJ CF) []) (cBuilt : C8.Cal P w K mg base 5 "_law_built" (spBuilt CJ CF CS) [])
    (cStays : C8.Cal P w K mg base 6 "_law_stays" (spStays CJ CF CS) []) (cChange : C8.Cal P w K mg base 5 "_law_change" (spChange CJ CF CS) []) (mWA : C8.Met P w K mg base 5 CS "with_ask" (spWAsk CJ CF CS) []) (mWW : C8.Met P w K mg base 5 CS "with_width" (spWWidth CJ CF CS) []) (mWO : C8.Met P w K mg base 5 CS "with_opens" (spWOpens CJ CF CS) []) :
    FnOk P w K mg base CX0 7 f fd ["_law_state"] spRight := by
  refine F.ok scRight (fun vs H Q E h => ?_) (fun cdv A outer s H vs Q E hr h => ?_)
  · obtain ⟨st, g, c, n, rfl, _⟩ := h
    rfl
  · obtain ⟨st, g, c, n, rfl, S, hn, kk⟩ := h
    obtain ⟨ta, pa, qa⟩ := right_a (outer := outer) (E := E) (D := { nx := MidA CJ CF st g c (n + 140), rt := Q }) hr T cPick cPlain cTake cSome cAsk cFlow S hn (fun _ _ m => m)
    obtain ⟨tb, pb, qb⟩ := right_b (P := P) (w := w) (mg := mg) (base := base) (f := f) (outer := outer) (H := H) (E := E) (D := { nx := MidA CJ CF st g c (n + 140), rt := Q }) hr T (fun _ _ m => m)
    obtain ⟨tc, pc, qc⟩ := right_c (f := f) (outer := outer) (H := H) (E := E) (D := { nx := MidD CJ CF st g c (n + 140 + 4), rt := Q }) hr T cSome cFlow cGiven (by omega) (fun _ _ m => m)
    obtain ⟨td, pd, qd⟩ := right_d (f := f) (outer := outer) (H := H) (E := E) (D := { nx := MidE CJ CF CS st g c (n + 140 + 4), rt := Q }) hr T cGiven cBuilt mWA mWW mWO (fun _ _ m => m)
    obtain ⟨te, pe, qe⟩ := right_e (f := f) (outer := outer) (H := H) (E := E) (D := { nx := fun _ H' => Q .non H', rt := Q }) (n := n + 140 + 4) hr T cTake cStays cChange (by omega) (fun H' S' => kk H' (S'.mono (by omega)))
    exact ⟨_, pss_cut_at 9 pa (pss_cut_at 1 pb (pss_cut_at 5 pc (pss_cut_at 6 pd pe))), _, qa, fun σ1 H1 m1 => ⟨_, qb σ1 H1 m1, fun σ2 H2 m2 => ⟨_, qc σ2 H2 m2, fun σ3 H3 m3 => ⟨_, qd σ3 H3 m3, fun σ4 H4 m4 => qe σ4 H4 m4⟩⟩⟩⟩

def spLaw (K : PySem.W.Frag) : Sp := fun vs H Q _ => ∃ (a : Addr) (ns : List Int), vs = [.ref a] ∧ SqL K H a (ns.map V.int) ∧ ns.length ≤ 63 ∧ ∀ H', Q (.bl true) H'
theorem scLaw : FnScope ["_law_script", "_law_state", "_law_turn"] ["_law_script"] (defScope sLaw) := ⟨rfl, rfl, rfl, by decide +kernel, rfl, by decide +kernel, by decide +kernel⟩
theorem ok_Law {f : Addr} {fd : FuncData} (F : Fun K "law" "law" sLaw f fd) (T : Txt K mg CJ CF CS) (cB : C8.Cal P w K mg base 1 "_law_begun" (spBegun K) []) (cR : C8.Cal P w K mg base 7 "_law_right" spRight []) : FnOk P w K mg base CX0 8 f fd ["_law_script"] (spLaw K) := by
  refine F.ok scLaw (fun vs H Q E h => ?_) (fun cdv A outer s H vs Q E hr h => ?_)
  · obtain ⟨a, ns, rfl, _⟩ := h
    rfl
  · obtain ⟨a, ns, rfl, hS, hlen, kk⟩ := h
    refine ⟨_, pss_cons (ps_set (i := 1) scLaw.nd rfl (Or.inl rfl) (C8.pe_c cB hr (by decide) rfl (pa_cons (pv 0) pa_nil)))
      (pss_cons (ps_for PassesOwn.never rfl (pi_range1 rfl T.range (pa_cons (pe_callB (call_max2 rfl) (by rfl) T.max (by decide +kernel) (pa_cons pe_int (pa_cons (pe_callB (call_min2 rfl) (by rfl) T.min (by decide +kernel) (pa_cons pe_int (pa_cons (pe_callB call_len_seq (by rfl) T.len PySem.boot_len (pa_cons (pv 0) pa_nil)) pa_nil))) pa_nil))) pa_nil)) (pg_name (i := 2) scLaw.nd rfl (Or.inl rfl))
        (pss_one (ps_if (pt_not (pt_val (C8.pe_c cR hr (by decide) rfl (pa_cons (pv 1) pa_nil)))) (pss_one (ps_ret pe_bl)) pss_nil)))
      (pss_one (ps_ret pe_bl))), ?_⟩
    refine ⟨_, rfl, a, ns, rfl, hS, hlen, fun st g c H1 s1 S1 => ?_⟩
    refine ⟨_, rfl, a, _, rfl, .inl (s1.seq hS), _, _, rfl, _, _, rfl, ?_⟩
    have hb : ∀ L : Int, 0 ≤ L → 1 ≤ (if (if L < 8 then L else 8) > 1 then (if L < 8 then L else 8) else 1) ∧ (if (if L < 8 then L else 8) > 1 then (if L < 8 then L else 8) else 1) ≤ 8 := fun L h0 => by
      by_cases h1 : L < 8
      · rw [if_pos h1]
        split <;> omega
      · rw [if_neg h1]
        split <;> omega
    have hb' := hb (((ns.map V.int).length : Nat) : Int) (by omega)
    refine ⟨_, rfl, by omega, by omega, ?_⟩
    refine for_range (lo := 0) (n := Int.toNat _) (fun i σ H' => ∃ v2, σ = [some (.ref a), some (.ref st), v2] ∧ StI H' st g c (200 * (i : Int))) ⟨none, rfl, by simpa using S1⟩ ?_ ?_
    · rintro i σ H' hi ⟨v2, rfl, S'⟩
      have hi8 : i < 8 := by omega
      refine ⟨_, rfl, st, g, c, _, rfl, S', by omega, fun H2 S2 => ⟨true, rfl, iteF ?_⟩⟩
      exact ⟨_, rfl, S2.mono (by omega)⟩
    · rintro σ H' ⟨v2, rfl, S'⟩
      exact kk H'
end
/-! ### bundles: what k_is finds of a def -/
open PySem.W in
/-- a def of the top -/
def FT (K : PySem.W.Frag) (x : Str) (st : Stmt) : Prop := ∃ (f : Addr) (fd : FuncData), Fun K x x st f fd ∧ nsIn K mainGlobals x = some (some (.ref f))
open PySem.W in
/-- a method -/
def FM (K : PySem.W.Frag) (C : Addr) (m qual : Str) (st : Stmt) : Prop := ∃ (f : Addr) (fd : FuncData), Fun K m qual st f fd ∧ findIn K (.ref C) m = some (some (.ref f)) ∧ isFn K (.ref f) = true
open PySem.W in
/-- a method with defaults -/
def FD (K : PySem.W.Frag) (C : Addr) (m qual : Str) (st : Stmt) (dvs : List V) : Prop := ∃ (f : Addr) (fd : FuncData), FunD K m qual (defArgs st) (defBody st) (defScope st) dvs [] f fd ∧ findIn K (.ref C) m = some (some (.ref f)) ∧ isFn K (.ref f) = true
section
open PySem.W
variable {K : PySem.W.Frag} {C f dT : Addr} {x m qual : Str} {st : Stmt} {oc kV doc pm cdv ct ocd : Value} {od an odd : Option Addr} {osl sld arr : Array (Option Value)} {its : Array Value} {nd : Nat}
theorem ft_mk (a : nsIn K mainGlobals x = some (some (.ref f))) (l : K.lookup f = some ⟨oc, od, .func (fnOf x x (defArgs st) (defBody st) (defScope st) .none kV doc pm an cdv ct), osl⟩) (c : codeIn K cdv x = true) (k : keepIn K (.ref f) = true) : FT K x st :=
  ⟨f, _, fun_mk l c k, a⟩
theorem fm_mk (a : findIn K (.ref C) m = some (some (.ref f))) (i : isFn K (.ref f) = true) (l : K.lookup f = some ⟨oc, od, .func (fnOf m qual (defArgs st) (defBody st) (defScope st) .none kV doc pm an cdv ct), osl⟩) (c : codeIn K cdv qual = true) (k : keepIn K (.ref f) = true) : FM K C m qual st :=
  ⟨f, _, fun_mk l c k, a, i⟩
theorem fd_mk {dvs : List V} (a : findIn K (.ref C) m = some (some (.ref f))) (i : isFn K (.ref f) = true) (l : K.lookup f = some ⟨oc, od, .func (fnOf m qual (defArgs st) (defBody st) (defScope st) (.ref dT) kV doc pm an cdv ct), osl⟩) (c : codeIn K cdv qual = true) (k : keepIn K (.ref f) = true)
    (d : K.lookup dT = some ⟨ocd, odd, .seq its nd, sld⟩) (ne : dvs ≠ []) (v : Vals dvs its.toList) : FD K C m qual st dvs :=
  ⟨f, _, ⟨⟨oc, od, .ref dT, kV, doc, pm, an, cdv, ct, osl, rfl, l, c, .inr ⟨ne, dT, _, its.toList, nd, rfl, d, by simp, v⟩, .inl rfl⟩, k⟩, a, i⟩
end
section
variable {P : Program} {w : World} {K : PySem.W.Frag} {mg : Str → Option Value} {base h : Heap} {C : Addr} {x m qual : Str} {st : Stmt} {ps : List Str} {k : Nat} {sp : Sp}
theorem cal_mk (X : K.In h) (G : h.Ns mainGlobals mg) (t : FT K x st) (ok : ∀ f fd, Fun K x x st f fd → FnOk P w K mg base CX0 k f fd ps sp)
    (b : ∀ (kV doc pm : Value) (an : Option Addr) (cdv ct : Value) (us : List Value), us.length = ps.length → bindArgs (PySem.W.fnOf x x (defArgs st) (defBody st) (defScope st) .none kV doc pm an cdv ct) ⟨us, []⟩ = pure (ps.zip us)) : C8.Cal P w K mg base k x sp [] := by
  obtain ⟨f, fd, F, a⟩ := t
  exact ⟨f, fd, ps, [], ok f fd F, PySem.W.mg_of X G a, F.kp, F.binds b, .nil⟩
theorem met_mk (c : Cls K C) (t : FM K C m qual st) (ok : ∀ f fd, Fun K m qual st f fd → FnOk P w K mg base CX0 k f fd ps sp)
    (b : ∀ (kV doc pm : Value) (an : Option Addr) (cdv ct : Value) (us : List Value), us.length = ps.length → bindArgs (PySem.W.fnOf m qual (defArgs st) (defBody st) (defScope st) .none kV doc pm an cdv ct) ⟨us, []⟩ = pure (ps.zip us)) : C8.Met P w K mg base k C m sp [] := by
  obtain ⟨f, fd, F, a, i⟩ := t
  exact ⟨f, fd, ps, [], c, ⟨a, i, F.kp⟩, ok f fd F, F.binds b, .nil⟩
theorem mak_mk {cn : Str} (mk : PySem.W.makesIn K C = true) (kp : PySem.W.keepIn K (.ref C) = true) (hm : mg cn = some (.ref C)) (t : FM K C "__init__" qual st) (ok : ∀ f fd, Fun K "__init__" qual st f fd → FnOk P w K mg base CX0 k f fd ps sp)
    (b : ∀ (kV doc pm : Value) (an : Option Addr) (cdv ct : Value) (us : List Value), us.length = ps.length → bindArgs (PySem.W.fnOf "__init__" qual (defArgs st) (defBody st) (defScope st) .none kV doc pm an cdv ct) ⟨us, []⟩ = pure (ps.zip us)) : C8.Mak P w K mg base k cn C sp [] := by
  obtain ⟨f, fd, F, a, i⟩ := t
  exact ⟨f, fd, ps, [], ⟨mk, a, i, kp⟩, ok f fd F, hm, F.binds b, .nil⟩
/-- n values written, the defaults behind the first j fill up -/
abbrev DBind (m qual : Str) (st : Stmt) (ps : List Str) (n j : Nat) (dn : Nat) : Prop := ∀ (T : Addr) (kV doc pm : Value) (an : Option Addr) (cdv ct : Value) (us its : List Value), us.length = n → its.length = dn →
  ∃ k, bindArgs (PySem.W.fnOf m qual (defArgs st) (defBody st) (defScope st) (.ref T) kV doc pm an cdv ct) ⟨us, []⟩ = seqItems? (.ref T) >>= k ∧ k (some its.toArray) = pure (ps.zip (us ++ its.drop j))
theorem makd_mk {cn : Str} {dvs : List V} (n j : Nat) (hne : dvs ≠ []) (hn : n + (dvs.length - j) = ps.length) (mk : PySem.W.makesIn K C = true) (kp : PySem.W.keepIn K (.ref C) = true) (hm : mg cn = some (.ref C)) (t : FD K C "__init__" qual st dvs)
    (ok : ∀ f fd, FunD K "__init__" qual (defArgs st) (defBody st) (defScope st) dvs [] f fd → FnOk P w K mg base CX0 k f fd ps sp) (b : DBind "__init__" qual st ps n j dvs.length) : C8.Mak P w K mg base k cn C sp (dvs.drop j) := by
  obtain ⟨f, fd, F, a, i⟩ := t
  obtain ⟨ds, v, bd⟩ := F.binds1 (ps := ps) n j hne hn b
  exact ⟨f, fd, ps, ds, ⟨mk, a, i, kp⟩, ok f fd F, hm, bd, v⟩
theorem metd_mk {dvs : List V} (n j : Nat) (hne : dvs ≠ []) (hn : n + (dvs.length - j) = ps.length) (c : Cls K C) (t : FD K C m qual st dvs)
    (ok : ∀ f fd, FunD K m qual (defArgs st) (defBody st) (defScope st) dvs [] f fd → FnOk P w K mg base CX0 k f fd ps sp) (b : DBind m qual st ps n j dvs.length) : C8.Met P w K mg base k C m sp (dvs.drop j) := by
  obtain ⟨f, fd, F, a, i⟩ := t
  obtain ⟨ds, v, bd⟩ := F.binds1 (ps := ps) n j hne hn b
  exact ⟨f, fd, ps, ds, c, ⟨a, i, F.kp⟩, ok f fd F, bd, v⟩
end
end Hl
set_option Elab.async false
set_option maxRecDepth 100000
set_option maxHeartbeats 4000000
set_option linter.all false
/-! all that the top has left, all defs joined -/
namespace Hl
open PySem L2
open PySem.W in
/-- what k_is finds -/
structure AllK (K : PySem.W.Frag) (CJ CF CS : Addr) (tk : Tok) : Prop where
  nCJ : nsIn K mainGlobals "Jar" = some (some (.ref CJ))
  nCF : nsIn K mainGlobals "Flow" = some (some (.ref CF))
  nCS : nsIn K mainGlobals "Scene" = some (some (.ref CS))
  nMOST : nsIn K mainGlobals "MOST" = some (some (.int 1000000000 tk))
  pgCJ : plainGet K CJ Str.empty = true
  hdCJ : hasDictIn K CJ = true
  poCJ : plainOver K CJ = true
  saCJ : findIn K (.ref CJ) "__setattr__" = some (some (.builtin "object.__setattr__"))
  mkCJ : makesIn K CJ = true
  kpCJ : keepIn K (.ref CJ) = true
  pgCF : plainGet K CF Str.empty = true
  hdCF : hasDictIn K CF = true
  poCF : plainOver K CF = true
  saCF : findIn K (.ref CF) "__setattr__" = some (some (.builtin "object.__setattr__"))
  mkCF : makesIn K CF = true
  kpCF : keepIn K (.ref CF) = true
  pgCS : plainGet K CS Str.empty = true
  hdCS : hasDictIn K CS = true
  poCS : plainOver K CS = true
  saCS : findIn K (.ref CS) "__setattr__" = some (some (.builtin "object.__setattr__"))
  mkCS : makesIn K CS = true
  kpCS : keepIn K (.ref CS) = true
  na0 : findIn K (.ref CJ) "size" = some none
  na1 : findIn K (.ref CJ) "rate" = some none
  na2 : findIn K (.ref CJ) "mouth" = some none
  na3 : findIn K (.ref CF) "jar" = some none
  na4 : findIn K (.ref CF) "marks" = some none
  na5 : findIn K (.ref CS) "width" = some none
  na6 : findIn K (.ref CS) "now" = some none
  na7 : findIn K (.ref CS) "opens" = some none
  na8 : findIn K (.ref CS) "sure" = some none
  na9 : findIn K (.ref CS) "open_asks" = some none
  haCJ : findIn K (.ref CJ) "__class__" = some (some (.builtin "object.__class__"))
  hmCJ : mroIn K CJ (.type "object") = some true
  haCF : findIn K (.ref CF) "__class__" = some (some (.builtin "object.__class__"))
  hmCF : mroIn K CF (.type "object") = some true
  hn : specialIn K (.builtin "object.__class__") "__get__" = some (some (.builtin "getset_descriptor.__get__"))
  htk : takesIn K (.builtin "object.__class__") = some true
  neJ : findIn K (.ref CJ) "__ne__" = some (some (.builtin "object.__ne__"))
  z_min : nsIn K mainGlobals "min" = some none
  z_max : nsIn K mainGlobals "max" = some none
  z_sum : nsIn K mainGlobals "sum" = some none
  z_len : nsIn K mainGlobals "len" = some none
  z_list : nsIn K mainGlobals "list" = some none
  z_int : nsIn K mainGlobals "int" = some none
  z_bool : nsIn K mainGlobals "bool" = some none
  z_tuple : nsIn K mainGlobals "tuple" = some none
  z_isinstance : nsIn K mainGlobals "isinstance" = some none
  z_zip : nsIn K mainGlobals "zip" = some none
  z_range : nsIn K mainGlobals "range" = some none
  t_begun : FT K "_law_begun" sBegun
  t_take : FT K "_law_take" sTake
  t_pick : FT K "_law_pick" sPick
  t_some : FT K "_law_some" sSome
  t_ask : FT K "_law_ask" sAsk
  t_known : FT K "_law_known" sKnown
  t_plain : FT K "_law_plain" sPlain
  t_flow : FT K "_law_flow" sFlow
  t_most : FT K "_law_most" sMost
  t_need : FT K "_law_need" sNeed
  t_ticks : FT K "_law_ticks" sTicks
  t_is : FT K "_law_is" sIs
  t_rows_are : FT K "_law_rows_are" sRowsAre
  t_asks_are : FT K "_law_asks_are" sAsksAre
  t_stays : FT K "_law_stays" sStays
  t_as_given : FT K "_law_as_given" sAsGiven
  t_change : FT K "_law_change" sChange
  t_built : FT K "_law_built" sBuilt
  t_right : FT K "_law_right" sRight
  t_law : FT K "law" sLaw
  t_window : FT K "window" sWindow
  m_jI : FM K CJ "__init__" "Jar.__init__" sJI
  m_jE : FM K CJ "__eq__" "Jar.__eq__" sJEq
  m_jT : FM K CJ "told" "Jar.told" sJTold
  m_fM : FM K CF "may" "Flow.may" sFMay
  m_fA : FM K CF "ahead" "Flow.ahead" sFAhead
  m_fO : FM K CF "most" "Flow.most" sFMost
  m_sK : FM K CS "known_rows" "Scene.known_rows" sSKnown
  m_sA : FM K CS "ask_rows" "Scene.ask_rows" sSAsk
  m_sNK : FM K CS "need_known" "Scene.need_known" sSNeedK
  m_sNA : FM K CS "need_asked" "Scene.need_asked" sSNeedA
  m_sN : FM K CS "need" "Scene.need" sSNeed
  m_sH : FM K CS "holds" "Scene.holds" sSHolds
  m_sWA : FM K CS "with_ask" "Scene.with_ask" sSWAsk
  m_sWW : FM K CS "with_width" "Scene.with_width" sSWWidth
  m_sWO : FM K CS "with_opens" "Scene.with_opens" sSWOpens
  d_fI : FD K CF "__init__" "Flow.__init__" sFI [.non]
  d_fC : FD K CF "come" "Flow.come" sFCome [.int 0]
  d_sI : FD K CS "__init__" "Scene.__init__" sSI [.int 0]
section
variable {P : Program} {w : World} {K : PySem.W.Frag} {mg : Str → Option Value} {base h : Heap} {CJ CF CS : Addr} {tk : Tok}
theorem kit_self {C : Addr} : PySem.W.kitOne K (.ref C) (.ref C) = some true := by
  unfold PySem.W.kitOne
  rw [if_pos (beq_self_eq_true _)]
theorem txt_of (X : K.In h) (G : h.Ns mainGlobals mg) (A : AllK K CJ CF CS tk) : Txt K mg CJ CF CS :=
  have cJ : Cls K CJ := ⟨A.pgCJ, A.hdCJ, A.poCJ, A.saCJ⟩
  have cF : Cls K CF := ⟨A.pgCF, A.hdCF, A.poCF, A.saCF⟩
  have cS : Cls K CS := ⟨A.pgCS, A.hdCS, A.poCS, A.saCS⟩
  { cJ := cJ, cF := cF, cS := cS, nJs := A.na0, nJr := A.na1, nJm := A.na2, nFj := A.na3, nFm := A.na4, nSw := A.na5, nSn := A.na6, nSo := A.na7, nSs := A.na8, nSa := A.na9,
    iJ := ⟨cJ, A.haCJ, A.hn, A.htk, A.hmCJ, kit_self⟩, iF := ⟨cF, A.haCF, A.hn, A.htk, A.hmCF, kit_self⟩,
    mJ := PySem.W.mg_of X G A.nCJ, mF := PySem.W.mg_of X G A.nCF, mS := PySem.W.mg_of X G A.nCS, mMOST := ⟨tk, PySem.W.mg_of X G A.nMOST⟩,
    min := PySem.W.mg_none_of X G A.z_min, max := PySem.W.mg_none_of X G A.z_max, sum := PySem.W.mg_none_of X G A.z_sum, len := PySem.W.mg_none_of X G A.z_len, list := PySem.W.mg_none_of X G A.z_list, int := PySem.W.mg_none_of X G A.z_int,
    bool := PySem.W.mg_none_of X G A.z_bool, tuple := PySem.W.mg_none_of X G A.z_tuple, isi := PySem.W.mg_none_of X G A.z_isinstance, zip := PySem.W.mg_none_of X G A.z_zip, range := PySem.W.mg_none_of X G A.z_range }
theorem law_ok (X : K.In h) (G : h.Ns mainGlobals mg) (A : AllK K CJ CF CS tk) {f : Addr} {fd : FuncData} (F : Fun K "law" "law" sLaw f fd) : FnOk P w K mg base CX0 8 f fd ["_law_script"] (spLaw K) := by
  have T := txt_of X G A
  have mkJ : C8.Mak P w K mg base 1 "Jar" CJ (spJI CJ) [] := mak_mk A.mkCJ A.kpCJ T.mJ A.m_jI (fun f fd F => ok_JI F T) (fun _ _ _ _ _ _ us hl => match us, hl with | [_, _, _, _], _ => rfl)
  have mT : C8.Met P w K mg base 1 CJ "told" (spJTold CJ) [] := met_mk T.cJ A.m_jT (fun f fd F => ok_JTold F T) (fun _ _ _ _ _ _ us hl => match us, hl with | [_], _ => rfl)
  have eJ : JEq P w K mg base CJ := by
    obtain ⟨f, fd, F, a, i⟩ := A.m_jE
    exact ⟨f, fd, ok_JEq (ft := f) (fdt := fd) F T mT, A.neJ, A.hmCJ, a, i, F.binds (fun _ _ _ _ _ _ us hl => match us, hl with | [_, _], _ => rfl)⟩
  have mkF : C8.Mak P w K mg base 1 "Flow" CF (spFI CJ CF) [] := makd_mk 3 1 (by simp) rfl A.mkCF A.kpCF T.mF A.d_fI (fun f fd F => ok_FI F T) (fun _ _ _ _ _ _ _ us its hu hi => match us, its, hu, hi with | [_, _, _], [_], _, _ => ⟨_, rfl, rfl⟩)
  have mkF0 : C8.Mak P w K mg base 1 "Flow" CF (spFI CJ CF) [.non] := makd_mk 2 0 (by simp) rfl A.mkCF A.kpCF T.mF A.d_fI (fun f fd F => ok_FI F T) (fun _ _ _ _ _ _ _ us its hu hi => match us, its, hu, hi with | [_, _], [_], _, _ => ⟨_, rfl, rfl⟩)
  have mM : C8.Met P w K mg base 1 CF "may" (spMay CJ CF) [] := met_mk T.cF A.m_fM (fun f fd F => ok_May F T) (fun _ _ _ _ _ _ us hl => match us, hl with | [_], _ => rfl)
  have mC : C8.Met P w K mg base 2 CF "come" (spCome CJ CF) [] := metd_mk 2 1 (by simp) rfl T.cF A.d_fC (fun f fd F => ok_Come F T mM) (fun _ _ _ _ _ _ _ us its hu hi => match us, its, hu, hi with | [_, _], [_], _, _ => ⟨_, rfl, rfl⟩)
  have mC0 : C8.Met P w K mg base 2 CF "come" (spCome CJ CF) [.int 0] := metd_mk 1 0 (by simp) rfl T.cF A.d_fC (fun f fd F => ok_Come F T mM) (fun _ _ _ _ _ _ _ us its hu hi => match us, its, hu, hi with | [_], [_], _, _ => ⟨_, rfl, rfl⟩)
  have mAh : C8.Met P w K mg base 1 CF "ahead" (spAhead CJ CF) [] := met_mk T.cF A.m_fA (fun f fd F => ok_Ahead F T) (fun _ _ _ _ _ _ us hl => match us, hl with | [_, _], _ => rfl)
  have mMo : C8.Met P w K mg base 2 CF "most" (spMost CJ CF) [] := met_mk T.cF A.m_fO (fun f fd F => ok_FMost F T mAh) (fun _ _ _ _ _ _ us hl => match us, hl with | [_, _, _], _ => rfl)
  have cW : C8.Cal P w K mg base 1 "window" (spWin) [] := cal_mk X G A.t_window (fun f fd F => ok_Win F T) (fun _ _ _ _ _ _ us hl => match us, hl with | [_, _, _], _ => rfl)
  have mkS : C8.Mak P w K mg base 3 "Scene" CS (spSI CJ CF CS) [] := makd_mk 6 1 (by simp) rfl A.mkCS A.kpCS T.mS A.d_sI (fun f fd F => ok_SI F T mkF) (fun _ _ _ _ _ _ _ us its hu hi => match us, its, hu, hi with | [_, _, _, _, _, _], [_], _, _ => ⟨_, rfl, rfl⟩)
  have mkS0 : C8.Mak P w K mg base 3 "Scene" CS (spSI CJ CF CS) [.int 0] := makd_mk 5 0 (by simp) rfl A.mkCS A.kpCS T.mS A.d_sI (fun f fd F => ok_SI F T mkF) (fun _ _ _ _ _ _ _ us its hu hi => match us, its, hu, hi with | [_, _, _, _, _], [_], _, _ => ⟨_, rfl, rfl⟩)
  have mK : C8.Met P w K mg base 1 CS "known_rows" (spKnR CJ CF CS) [] := met_mk T.cS A.m_sK (fun f fd F => ok_KnR F T) (fun _ _ _ _ _ _ us hl => match us, hl with | [_], _ => rfl)
  have mA : C8.Met P w K mg base 3 CS "ask_rows" (spAskR CJ CF CS) [] := met_mk T.cS A.m_sA (fun f fd F => ok_AskR F T mkF) (fun _ _ _ _ _ _ us hl => match us, hl with | [_], _ => rfl)
  have mNK : C8.Met P w K mg base 1 CS "need_known" (spNeedK CJ CF CS) [] := met_mk T.cS A.m_sNK (fun f fd F => ok_NeedK F T) (fun _ _ _ _ _ _ us hl => match us, hl with | [_, _, _], _ => rfl)
  have mNA : C8.Met P w K mg base 3 CS "need_asked" (spNeedA CJ CF CS) [] := met_mk T.cS A.m_sNA (fun f fd F => ok_NeedA F T cW mMo) (fun _ _ _ _ _ _ us hl => match us, hl with | [_, _, _], _ => rfl)
  have mN : C8.Met P w K mg base 4 CS "need" (spNeed CJ CF CS) [] := met_mk T.cS A.m_sN (fun f fd F => ok_SNeed F T mNK mNA) (fun _ _ _ _ _ _ us hl => match us, hl with | [_, _, _], _ => rfl)
  have mH : C8.Met P w K mg base 1 CS "holds" (spHolds CJ CF CS) [] := met_mk T.cS A.m_sH (fun f fd F => ok_Holds F T) (fun _ _ _ _ _ _ us hl => match us, hl with | [_, _, _], _ => rfl)
  have mWA : C8.Met P w K mg base 5 CS "with_ask" (spWAsk CJ CF CS) [] := met_mk T.cS A.m_sWA (fun f fd F => ok_WAsk F T mkS) (fun _ _ _ _ _ _ us hl => match us, hl with | [_, _, _, _], _ => rfl)
  have mWW : C8.Met P w K mg base 5 CS "with_width" (spWWidth CJ CF CS) [] := met_mk T.cS A.m_sWW (fun f fd F => ok_WWidth F T mkS) (fun _ _ _ _ _ _ us hl => match us, hl with | [_, _], _ => rfl)
  have mWO : C8.Met P w K mg base 5 CS "with_opens" (spWOpens CJ CF CS) [] := met_mk T.cS A.m_sWO (fun f fd F => ok_WOpens F T mkS) (fun _ _ _ _ _ _ us hl => match us, hl with | [_, _], _ => rfl)
  have cB : C8.Cal P w K mg base 1 "_law_begun" (spBegun K) [] := cal_mk X G A.t_begun (fun f fd F => ok_Begun F T) (fun _ _ _ _ _ _ us hl => match us, hl with | [_], _ => rfl)
  have cTake : C8.Cal P w K mg base 1 "_law_take" (spTake) [] := cal_mk X G A.t_take (fun f fd F => ok_Take F T) (fun _ _ _ _ _ _ us hl => match us, hl with | [_, _], _ => rfl)
  have cPick : C8.Cal P w K mg base 2 "_law_pick" (spPick) [] := cal_mk X G A.t_pick (fun f fd F => ok_Pick F T cTake) (fun _ _ _ _ _ _ us hl => match us, hl with | [_, _], _ => rfl)
  have cSome : C8.Cal P w K mg base 2 "_law_some" (spSome) [] := cal_mk X G A.t_some (fun f fd F => ok_Some F T cTake) (fun _ _ _ _ _ _ us hl => match us, hl with | [_, _], _ => rfl)
  have cAsk : C8.Cal P w K mg base 3 "_law_ask" (spAsk) [] := cal_mk X G A.t_ask (fun f fd F => ok_Ask F T cTake cSome) (fun _ _ _ _ _ _ us hl => match us, hl with | [_, _], _ => rfl)
  have cKn : C8.Cal P w K mg base 3 "_law_known" (spKn) [] := cal_mk X G A.t_known (fun f fd F => ok_Kn F T cSome) (fun _ _ _ _ _ _ us hl => match us, hl with | [_, _, _], _ => rfl)
  have cPlain : C8.Cal P w K mg base 4 "_law_plain" (spPlain) [] := cal_mk X G A.t_plain (fun f fd F => ok_Plain F T cTake cSome cAsk cKn) (fun _ _ _ _ _ _ us hl => match us, hl with | [_, _, _, _], _ => rfl)
  have cFlow : C8.Cal P w K mg base 3 "_law_flow" (spFlow CJ CF) [] := cal_mk X G A.t_flow (fun f fd F => ok_Flow F T mkJ mkF mkF0) (fun _ _ _ _ _ _ us hl => match us, hl with | [_], _ => rfl)
  have cMost : C8.Cal P w K mg base 1 "_law_most" (spMostL) [] := cal_mk X G A.t_most (fun f fd F => ok_MostL F T) (fun _ _ _ _ _ _ us hl => match us, hl with | [_, _, _], _ => rfl)
  have cNeed : C8.Cal P w K mg base 2 "_law_need" (spNeedL) [] := cal_mk X G A.t_need (fun f fd F => ok_NeedL F T cMost) (fun _ _ _ _ _ _ us hl => match us, hl with | [_, _, _], _ => rfl)
  have cTicks : C8.Cal P w K mg base 1 "_law_ticks" (spTicks) [] := cal_mk X G A.t_ticks (fun f fd F => ok_Ticks F T) (fun _ _ _ _ _ _ us hl => match us, hl with | [_, _, _], _ => rfl)
  have cIs : C8.Cal P w K mg base 1 "_law_is" (spIs) [] := cal_mk X G A.t_is (fun f fd F => ok_Is F T) (fun _ _ _ _ _ _ us hl => match us, hl with | [_, _], _ => rfl)
  have cRows : C8.Cal P w K mg base 2 "_law_rows_are" (spRows) [] := cal_mk X G A.t_rows_are (fun f fd F => ok_Rows F T cIs) (fun _ _ _ _ _ _ us hl => match us, hl with | [_, _], _ => rfl)
  have cAsksAre : C8.Cal P w K mg base 5 "_law_asks_are" (spAsksAre CJ CF) [] := cal_mk X G A.t_asks_are (fun f fd F => ok_AsksAre F T cIs mkJ mT eJ) (fun _ _ _ _ _ _ us hl => match us, hl with | [_, _], _ => rfl)
  have cStays : C8.Cal P w K mg base 6 "_law_stays" (spStays CJ CF CS) [] := cal_mk X G A.t_stays (fun f fd F => ok_Stays F T cIs cRows cAsksAre cNeed cTicks mK mA mN mH) (fun _ _ _ _ _ _ us hl => match us, hl with | [_, _, _, _], _ => rfl)
  have cGiven : C8.Cal P w K mg base 2 "_law_as_given" (spAsGiven CJ CF) [] := cal_mk X G A.t_as_given (fun f fd F => ok_AsGiven F T mT) (fun _ _ _ _ _ _ us hl => match us, hl with | [_], _ => rfl)
  have cChange : C8.Cal P w K mg base 5 "_law_change" (spChange CJ CF CS) [] := cal_mk X G A.t_change (fun f fd F => ok_Change F T mM mC mC0 mK mA) (fun _ _ _ _ _ _ us hl => match us, hl with | [_, _, _, _, _], _ => rfl)
  have cBuilt : C8.Cal P w K mg base 5 "_law_built" (spBuilt CJ CF CS) [] := cal_mk X G A.t_built (fun f fd F => ok_Built F T mkS mkS0) (fun _ _ _ _ _ _ us hl => match us, hl with | [_, _, _, _], _ => rfl)
  have cRight : C8.Cal P w K mg base 7 "_law_right" (spRight) [] := cal_mk X G A.t_right (fun f fd F => ok_Right F T cPick cPlain cTake cSome cAsk cFlow cGiven cBuilt cStays cChange mWA mWW mWO) (fun _ _ _ _ _ _ us hl => match us, hl with | [_], _ => rfl)
  exact ok_Law F T cB cRight
theorem all_mk {l : PySem.W.OpenLaw} (X : K.In h) (G : h.Ns mainGlobals mg) (A : AllK K CJ CF CS tk) {fa : Addr} (hfa : mg "law" = some (.ref fa)) :
    ∃ fd : FuncData, (∀ (s : Shared) (v : Value), BindsTo s fd ⟨[v], []⟩ [("_law_script", v)]) ∧ ∀ base : Heap, K.In base → base.Ns mainGlobals mg → FnOk l.prog w K mg base CX0 8 fa fd ["_law_script"] (spLaw K) := by
  obtain ⟨f, fd, F, a⟩ := A.t_law
  have e := hfa.symm.trans (PySem.W.mg_of X G a)
  cases e
  have ex := F.ex
  refine ⟨fd, fun s v => ?_, fun base _ _ => law_ok X G A F⟩
  obtain ⟨oc, od, kV, doc, pm, an, cdv, ct, osl, rfl, _⟩ := ex
  exact .of_eq rfl
end
theorem walk {l : PySem.W.OpenLaw} {q : Program} {loose : List Str} {XP : (Str → Option Value) → Heap → Prop} {YP : World → Heap → Prop} {d : DefRec} {K : Params → PySem.W.Frag} (hn : l.most = some 63) (hdf : d.params.defaults = [])
    (hY : ∀ (w : World) (h : Heap), YP w h → (K w.params).In h)
    (F : ∀ (w : World) (mg : Str → Option Value) (fa : Addr) (h : Heap), (K w.params).In h → h.Ns mainGlobals mg → mg d.name = some (.ref fa) →
      ∃ fd : FuncData, (∀ (s : Shared) (u : Value), BindsTo s fd ⟨[u], []⟩ [("_law_script", u)]) ∧ ∀ base : Heap, (K w.params).In base → base.Ns mainGlobals mg → FnOk l.prog w (K w.params) mg base CX0 8 fa fd ["_law_script"] (spLaw (K w.params))) :
    PySem.W.WalkO q loose XP YP l.row.toRowW d [] (fun f vs => PySem.call f vs) :=
  L2.walk_of (n := 63) (k := 8) (x := "_law_script") (CX := fun _ => CX0) (sp := fun w => spLaw (K w.params)) hn (by decide) hdf ⟨rfl, by decide, by decide⟩ hY F (fun _ _ a ns hl _ hS => ⟨a, ns, rfl, hS, hl, fun _ => rfl⟩) fun _ _ _ _ _ z => z
end Hl
set_option Elab.async false
set_option maxRecDepth 100000
set_option linter.all false
open PySem PySem.W PyProof.Rows in
set_option maxRecDepth 100000 in
set_option maxHeartbeats 0 in
theorem PySem.Challenge.cw_hourlanes_k33_whole_scenes_keep_holds : PySem.Challenge.rw_hourlanes_k33_whole_scenes_keep.Holds := by
  w_on; o_law; k_head; (case hw => w_witness2)
  k_fill
  refine Hl.walk (l := PySem.Challenge.rw_hourlanes_k33_whole_scenes_keep) rfl rfl (fun w h Y => PySem.W.kIn_of Y) ?F
  case F =>
    intro w mg fa h KX G hmg
    refine' Hl.all_mk KX G (Hl.AllK.mk ?nCJ ?nCF ?nCS ?nMOST ?pgCJ ?hdCJ ?poCJ ?saCJ ?mkCJ ?kpCJ ?pgCF ?hdCF ?poCF ?saCF ?mkCF ?kpCF ?pgCS ?hdCS ?poCS ?saCS ?mkCS ?kpCS ?na0 ?na1 ?na2 ?na3 ?na4 ?na5 ?na6 ?na7 ?na8 ?na9 ?haCJ ?hmCJ ?haCF ?hmCF ?hn ?htk ?neJ ?z_min ?z_max ?z_sum ?z_len ?z_list ?z_int ?z_bool ?z_tuple ?z_isinstance ?z_zip ?z_range ?t_begun ?t_take ?t_pick ?t_some ?t_ask ?t_known ?t_plain ?t_flow ?t_most ?t_need ?t_ticks ?t_is ?t_rows_are ?t_asks_are ?t_stays ?t_as_given ?t_change ?t_built ?t_right ?t_law ?t_window ?m_jI ?m_jE ?m_jT ?m_fM ?m_fA ?m_fO ?m_sK ?m_sA ?m_sNK ?m_sNA ?m_sN ?m_sH ?m_sWA ?m_sWW ?m_sWO ?d_fI ?d_fC ?d_sI) hmg
    (case nCJ => k_is)
    (case nCF => k_is)
    (case nCS => k_is)
    (case nMOST => k_is)
    (case pgCJ => k_is)
    (case hdCJ => k_is)
    (case poCJ => k_is)
    (case saCJ => k_is)
    (case mkCJ => k_is)
    (case kpCJ => k_is)
    (case pgCF => k_is)
    (case hdCF => k_is)
    (case poCF => k_is)
    (case saCF => k_is)
    (case mkCF => k_is)
    (case kpCF => k_is)
    (case pgCS => k_is)
    (case hdCS => k_is)
    (case poCS => k_is)
    (case saCS => k_is)
    (case mkCS => k_is)
    (case kpCS => k_is)
    (case na0 => k_is)
    (case na1 => k_is)
    (case na2 => k_is)
    (case na3 => k_is)
    (case na4 => k_is)
    (case na5 => k_is)
    (case na6 => k_is)
    (case na7 => k_is)
    (case na8 => k_is)
    (case na9 => k_is)
    (case haCJ => k_is)
    (case hmCJ => k_is)
    (case haCF => k_is)
    (case hmCF => k_is)
    (case hn => k_is)
    (case htk => k_is)
    (case neJ => k_is)
    (case z_min => k_is)
    (case z_max => k_is)
    (case z_sum => k_is)
    (case z_len => k_is)
    (case z_list => k_is)
    (case z_int => k_is)
    (case z_bool => k_is)
    (case z_tuple => k_is)
    (case z_isinstance => k_is)
    (case z_zip => k_is)
    (case z_range => k_is)
    (case t_begun => (refine' Hl.ft_mk ?a ?l ?c ?k; (case a => k_is); (case l => k_is); (case c => k_is); (case k => k_is)))
    (case t_take => (refine' Hl.ft_mk ?a ?l ?c ?k; (case a => k_is); (case l => k_is); (case c => k_is); (case k => k_is)))
    (case t_pick => (refine' Hl.ft_mk ?a ?l ?c ?k; (case a => k_is); (case l => k_is); (case c => k_is); (case k => k_is)))
    (case t_some => (refine' Hl.ft_mk ?a ?l ?c ?k; (case a => k_is); (case l => k_is); (case c => k_is); (case k => k_is)))
    (case t_ask => (refine' Hl.ft_mk ?a ?l ?c ?k; (case a => k_is); (case l => k_is); (case c => k_is); (case k => k_is)))
    (case t_known => (refine' Hl.ft_mk ?a ?l ?c ?k; (case a => k_is); (case l => k_is); (case c => k_is); (case k => k_is)))
    (case t_plain => (refine' Hl.ft_mk ?a ?l ?c ?k; (case a => k_is); (case l => k_is); (case c => k_is); (case k => k_is)))
    (case t_flow => (refine' Hl.ft_mk ?a ?l ?c ?k; (case a => k_is); (case l => k_is); (case c => k_is); (case k => k_is)))
    (case t_most => (refine' Hl.ft_mk ?a ?l ?c ?k; (case a => k_is); (case l => k_is); (case c => k_is); (case k => k_is)))
    (case t_need => (refine' Hl.ft_mk ?a ?l ?c ?k; (case a => k_is); (case l => k_is); (case c => k_is); (case k => k_is)))
    (case t_ticks => (refine' Hl.ft_mk ?a ?l ?c ?k; (case a => k_is); (case l => k_is); (case c => k_is); (case k => k_is)))
    (case t_is => (refine' Hl.ft_mk ?a ?l ?c ?k; (case a => k_is); (case l => k_is); (case c => k_is); (case k => k_is)))
    (case t_rows_are => (refine' Hl.ft_mk ?a ?l ?c ?k; (case a => k_is); (case l => k_is); (case c => k_is); (case k => k_is)))
    (case t_asks_are => (refine' Hl.ft_mk ?a ?l ?c ?k; (case a => k_is); (case l => k_is); (case c => k_is); (case k => k_is)))
    (case t_stays => (refine' Hl.ft_mk ?a ?l ?c ?k; (case a => k_is); (case l => k_is); (case c => k_is); (case k => k_is)))
    (case t_as_given => (refine' Hl.ft_mk ?a ?l ?c ?k; (case a => k_is); (case l => k_is); (case c => k_is); (case k => k_is)))
    (case t_change => (refine' Hl.ft_mk ?a ?l ?c ?k; (case a => k_is); (case l => k_is); (case c => k_is); (case k => k_is)))
    (case t_built => (refine' Hl.ft_mk ?a ?l ?c ?k; (case a => k_is); (case l => k_is); (case c => k_is); (case k => k_is)))
    (case t_right => (refine' Hl.ft_mk ?a ?l ?c ?k; (case a => k_is); (case l => k_is); (case c => k_is); (case k => k_is)))
    (case t_law => (refine' Hl.ft_mk ?a ?l ?c ?k; (case a => k_is); (case l => k_is); (case c => k_is); (case k => k_is)))
    (case t_window => (refine' Hl.ft_mk ?a ?l ?c ?k; (case a => k_is); (case l => k_is); (case c => k_is); (case k => k_is)))
    (case m_jI => (refine' Hl.fm_mk ?a ?i ?l ?c ?k; (case a => k_is); (case i => k_is); (case l => k_is); (case c => k_is); (case k => k_is)))
    (case m_jE => (refine' Hl.fm_mk ?a ?i ?l ?c ?k; (case a => k_is); (case i => k_is); (case l => k_is); (case c => k_is); (case k => k_is)))
    (case m_jT => (refine' Hl.fm_mk ?a ?i ?l ?c ?k; (case a => k_is); (case i => k_is); (case l => k_is); (case c => k_is); (case k => k_is)))
    (case m_fM => (refine' Hl.fm_mk ?a ?i ?l ?c ?k; (case a => k_is); (case i => k_is); (case l => k_is); (case c => k_is); (case k => k_is)))
    (case m_fA => (refine' Hl.fm_mk ?a ?i ?l ?c ?k; (case a => k_is); (case i => k_is); (case l => k_is); (case c => k_is); (case k => k_is)))
    (case m_fO => (refine' Hl.fm_mk ?a ?i ?l ?c ?k; (case a => k_is); (case i => k_is); (case l => k_is); (case c => k_is); (case k => k_is)))
    (case m_sK => (refine' Hl.fm_mk ?a ?i ?l ?c ?k; (case a => k_is); (case i => k_is); (case l => k_is); (case c => k_is); (case k => k_is)))
    (case m_sA => (refine' Hl.fm_mk ?a ?i ?l ?c ?k; (case a => k_is); (case i => k_is); (case l => k_is); (case c => k_is); (case k => k_is)))
    (case m_sNK => (refine' Hl.fm_mk ?a ?i ?l ?c ?k; (case a => k_is); (case i => k_is); (case l => k_is); (case c => k_is); (case k => k_is)))
    (case m_sNA => (refine' Hl.fm_mk ?a ?i ?l ?c ?k; (case a => k_is); (case i => k_is); (case l => k_is); (case c => k_is); (case k => k_is)))
    (case m_sN => (refine' Hl.fm_mk ?a ?i ?l ?c ?k; (case a => k_is); (case i => k_is); (case l => k_is); (case c => k_is); (case k => k_is)))
    (case m_sH => (refine' Hl.fm_mk ?a ?i ?l ?c ?k; (case a => k_is); (case i => k_is); (case l => k_is); (case c => k_is); (case k => k_is)))
    (case m_sWA => (refine' Hl.fm_mk ?a ?i ?l ?c ?k; (case a => k_is); (case i => k_is); (case l => k_is); (case c => k_is); (case k => k_is)))
    (case m_sWW => (refine' Hl.fm_mk ?a ?i ?l ?c ?k; (case a => k_is); (case i => k_is); (case l => k_is); (case c => k_is); (case k => k_is)))
    (case m_sWO => (refine' Hl.fm_mk ?a ?i ?l ?c ?k; (case a => k_is); (case i => k_is); (case l => k_is); (case c => k_is); (case k => k_is)))
    (case d_fI => (refine' Hl.fd_mk ?a ?i ?l ?c ?k ?d (by simp) ?v; (case a => k_is); (case i => k_is); (case l => k_is); (case c => k_is); (case k => k_is); (case d => k_is); (case v => exact .cons rfl .nil)))
    (case d_fC => (refine' Hl.fd_mk ?a ?i ?l ?c ?k ?d (by simp) ?v; (case a => k_is); (case i => k_is); (case l => k_is); (case c => k_is); (case k => k_is); (case d => k_is); (case v => exact .cons ⟨_, rfl⟩ .nil)))
    (case d_sI => (refine' Hl.fd_mk ?a ?i ?l ?c ?k ?d (by simp) ?v; (case a => k_is); (case i => k_is); (case l => k_is); (case c => k_is); (case k => k_is); (case d => k_is); (case v => exact .cons ⟨_, rfl⟩ .nil)))
#print axioms PySem.Challenge.cw_hourlanes_k33_whole_scenes_keep_holds
