import PyProof.Rows.All
import Wide.All
import OpenK.AllK
import Wide.FinOn
import KE.LtData
import KE.KDictCopyH
import HandS.ForMost
import HandS.Property
import HandS.Deep
import HandS.Wide
import HandS.More
import KE.KStateDown
import Lean
import HandS.Head0
import HandS.Head1
import HandS.Head2
import HandS.HeadEnd
import HandS.HeadHook1
import HandS.HeadHook2
import PySem.Challenge.RW_surecues_k62_whole_claims_that_hold_are
import HandS.Walk
/-! KRules -/
set_option Elab.async false
set_option linter.all false
set_option maxRecDepth 100000
set_option maxHeartbeats 4000000
/-! Rules that the layer lacks, and calls told by one fact each. -/
namespace Sc
open PySem PySem.Spec PyProof.Rows L2

/-! ### a def, a method, a getter, a class that is called: one fact each -/
structure Cal (P : Program) (w : World) (K : PySem.W.Frag) (mg : Str → Option Value) (base : Heap) (k : Nat) (x : Str) (ps : List Str) (sp : Sp) : Prop where
  ex : ∃ f fd, FnOk P w K mg base CX0 k f fd ps sp ∧ mg x = some (.ref f) ∧ PySem.W.keepIn K (.ref f) = true ∧ Binds K fd ps []
structure MCal (P : Program) (w : World) (K : PySem.W.Frag) (mg : Str → Option Value) (base : Heap) (k : Nat) (C : Addr) (m : Str) (ps : List Str) (sp : Sp) : Prop where
  cl : Cls K C
  ex : ∃ f fd, FnOk P w K mg base CX0 k f fd ps sp ∧ Meth K C m f ∧ Binds K fd ps []
structure PCal (P : Program) (w : World) (K : PySem.W.Frag) (mg : Str → Option Value) (base : Heap) (k : Nat) (C : Addr) (x : Str) (sp : Sp) : Prop where
  cl : Cls K C
  ex : ∃ p f fd, FnOk P w K mg base CX0 k f fd ["self"] sp ∧ PropOf K C x p f ∧ Binds K fd ["self"] []
structure NCal (P : Program) (w : World) (K : PySem.W.Frag) (mg : Str → Option Value) (base : Heap) (k : Nat) (C : Addr) (x : Str) (ps : List Str) (sp : Sp) : Prop where
  cl : Cls K C
  ex : ∃ f fd, FnOk P w K mg base CX0 k f fd ps sp ∧ Mk K C f ∧ mg x = some (.ref C) ∧ Binds K fd ps []
section
variable {X : Cx} {k : Nat} {x m : Str} {ps : List Str} {sp : Sp} {p pos apos : Pos} {e o : Expr} {es : List Expr} {ta : TE} {t : TA} {C : Addr}
theorem pe_cal (G : Cal X.prog X.w X.K X.mg X.base k x ps sp) (hr : Room k X.A) (hg : Gl X x) (ha : PA X (e :: es) t) (hdb : (x == ("__debug__" : Str)) = false := by decide)
    (he : starEach (e :: es) X.env = (false, eval e X.env) :: starEach es X.env := by rfl) (hpl : (backTo pos (starEach es X.env)).any (·.1) = false := by rfl) :
    PE X (.Call (.Name x p) (e :: es) [] pos) (tCall sp [] E0 t) := by
  obtain ⟨f, fd, F, hm, hk, hb⟩ := G.ex
  exact pe_call F hr hg hm hk hb .nil pass0 ha hdb he hpl
theorem pe_mcal {pl : Sem Bool} (G : MCal X.prog X.w X.K X.mg X.base k C m ps sp) (hr : Room k X.A) (he : PE X o ta) (ha : PA X (e :: es) t)
    (hst : starEach (e :: es) X.env = (false, eval e X.env) :: starEach es X.env := by rfl) (hpl : (backTo pos (starEach es X.env)).any (·.1) = false := by rfl)
    (ht : eval (.Call (.Attribute o m apos) (e :: es) [] pos) X.env = (do
      let ov ← eval o X.env
      standAt apos.atName
      let (f, first) ← holding [ov] (getMethod ov m pl)
      callWith pos f first (backTo pos (starEach (e :: es) X.env)) (backToKw pos (keywordEach [] X.env))) := by rfl) :
    PE X (.Call (.Attribute o m apos) (e :: es) [] pos) (tMeth C m sp [] E0 ta t) := by
  obtain ⟨f, fd, F, hm, hb⟩ := G.ex
  exact pe_meth (pl := pl) he G.cl hm F hr hb .nil pass0 ha hst hpl ht
theorem pe_mcal0 {pl : Sem Bool} (G : MCal X.prog X.w X.K X.mg X.base k C m ps sp) (hr : Room k X.A) (he : PE X o ta)
    (ht : eval (.Call (.Attribute o m apos) [] [] pos) X.env = (do
      let ov ← eval o X.env
      standAt apos.atName
      let (f, first) ← holding [ov] (getMethod ov m pl)
      callWith pos f first (backTo pos (starEach [] X.env)) (backToKw pos (keywordEach [] X.env))) := by rfl) :
    PE X (.Call (.Attribute o m apos) [] [] pos) (tMeth C m sp [] E0 ta tNil) := by
  obtain ⟨f, fd, F, hm, hb⟩ := G.ex
  exact pe_meth0 (pl := pl) he G.cl hm F hr hb .nil pass0 ht
theorem pe_pcal {f : Str} (G : PCal X.prog X.w X.K X.mg X.base k C f sp) (hr : Room (k + 1) X.A) (he : PE X e ta) (hab : attributeBase e f X.env (eval e X.env) = eval e X.env := by rfl) :
    PE X (.Attribute e f pos) (tProp C sp [] E0 ta) := by
  obtain ⟨p, g, fd, F, hp, hb⟩ := G.ex
  exact pe_prop he G.cl hp F hr hb .nil pass0 hab
theorem pe_ncal0 (G : NCal X.prog X.w X.K X.mg X.base k C x ps sp) (hr : Room (k + 1) X.A) (hg : Gl X x) (hdb : (x == ("__debug__" : Str)) = false := by decide) :
    PE X (.Call (.Name x p) [] [] pos) (tMake C sp [] E0 tNil) := by
  obtain ⟨f, fd, F, hm, hmg, hb⟩ := G.ex
  exact pe_make0 hm F hr hg hmg hb .nil pass0 (hdb := hdb)
theorem pe_ncal (G : NCal X.prog X.w X.K X.mg X.base k C x ps sp) (hr : Room (k + 1) X.A) (hg : Gl X x) (ha : PA X (e :: es) t) (hdb : (x == ("__debug__" : Str)) = false := by decide)
    (he : starEach (e :: es) X.env = (false, eval e X.env) :: starEach es X.env := by rfl) (hpl : (backTo pos (starEach es X.env)).any (·.1) = false := by rfl) :
    PE X (.Call (.Name x p) (e :: es) [] pos) (tMake C sp [] E0 t) := by
  obtain ⟨f, fd, F, hm, hmg, hb⟩ := G.ex
  exact pe_make hm F hr hg hmg hb .nil pass0 ha (hdb := hdb) (he := he) (hpl := hpl)
/-- a module's int -/
theorem pe_globI {i : Int} (hg : Gl X x) (hm : ∃ t, X.mg x = some (.int i t)) (hd : (x == ("__debug__" : Str)) = false := by decide) : PE X (.Name x pos) (tC (.int i)) := by
  obtain ⟨t, h⟩ := hm
  exact pe_glob hg h ⟨_, rfl⟩ hd
end
theorem Room.u65 {k : Nat} {A : Around} (r : Room k A) : A.units + 65 < cLine := by have := r.un; omega

/-! ### a < b of data that are alike: the answer left open -/
section
variable {X : Cx}
def rLtA (K : PySem.W.Frag) : R2 := fun x y H Q => ∃ d e, Dp K H x d ∧ Dp K H y e ∧ PySem.W.alike d e = true ∧ d ≠ .none ∧ min d.depth e.depth ≤ 60 ∧ ∀ b : Bool, Q (.bl b) H
theorem op_ltA (hu : X.A.units + 64 < cLine) : OpR X (compareOp .Lt) (rLtA X.K) := by
  intro pins s σ H x y v u Q I rx ry h
  obtain ⟨d, e, hd, he, sa, sn, sd, q⟩ := h
  obtain ⟨as, r1⟩ := Dp.reads I d x v hd rx
  obtain ⟨bs, r2⟩ := Dp.reads I e y u he ry
  have z := PySem.W.rcLt_alike d e X.A s v u as bs r1 r2 sa sn (by omega)
  have z2 : wpAny (model X.prog X.w) X.A (compareOp .Lt v u) (EP X pins σ Q) X.xe s := z X.prog X.w X.xe (EP X pins σ Q) ⟨.bl _, H, I, rfl, q _⟩
  exact z2
end

/-! ### in of an own class with __contains__ -/
section
variable {X : Cx} {k : Nat} {C f : Addr} {fd : FuncData} {ps : List Str} {sp : Sp}
def rHas (C : Addr) (sp : Sp) (neg : Bool) : R2 := fun x y H Q => ∃ a dx fs, y = .ref a ∧ H a = some (.ins C dx fs) ∧ sp [y, x] H (fun v H' => ∃ b, v = .bl b ∧ Q (.bl (if neg then !b else b)) H') E0
theorem has_own {pins : List (Addr × Obj)} {σ : L2.St} {H : Hp} {s : Shared} {x : V} {u : Value} {a dx : Addr} {fs : List (Str × V)} {Qb : Bool → Hp → Prop} (I : Inv X pins σ H s) (ea : H a = some (.ins C dx fs))
    (hm : Meth X.K C "__contains__" f) (F : FnOk X.prog X.w X.K X.mg X.base CX0 k f fd ps sp) (hr : Room k X.A) (hb : Binds X.K fd ps []) (rx : RelV x u)
    (h : sp [.ref a, x] H (fun v H' => ∃ b, v = .bl b ∧ Qb b H') E0) :
    wpAny (model X.prog X.w) X.A (contains (.ref a) u) (fun b s' => ∃ H', Inv X pins σ H' s' ∧ Qb b H') X.xe s := by
  obtain ⟨mA, O, _, _, _, _⟩ := ins_get I.hok ea
  obtain ⟨od, J, _⟩ := O.look
  have sp1 : ∀ {Q' : Option Value → Shared → Prop}, Q' (some (.ref f)) s → wpAny (model X.prog X.w) X.A (specialOf (.ref a) "__contains__") Q' X.xe s := fun q => by
    unfold specialOf
    exact wpAny_bind (J.type.here ((PySem.W.looks_findIn I.kIn hm.at_).here q))
  have hbind : ∀ {Q' : Value × List Value → Shared → Prop}, Q' (.ref f, [.ref a]) s → wpAny (model X.prog X.w) X.A (bindSpecial (.ref f) (.ref a)) Q' X.xe s := fun q =>
    (PySem.W.bind_fn I.kIn (.ref a) (by
      have z := hm.fn
      first | exact z | exact PySem.W.typeIn_fn z | (unfold PySem.W.isFn at z; simpa using z))).here q
  unfold contains
  refine wpAny_holding ?_
  have e0 : stdlibNamesSay? (.ref a) u = none := rfl
  rw [e0]
  refine wpAny_bind (sp1 ?_)
  have e1 : ((some (Value.ref f) : Option Value) == some Value.none) = false := by rfl
  simp only [e1, Bool.false_eq_true, if_false]
  refine wpAny_bind ?_
  unfold callSpecialUnlessNone?
  refine wpAny_bind (sp1 ?_)
  refine wpAny_holding (wpAny_bind (hbind ?_))
  have e2 : (Value.ref f == Value.none) = false := by rfl
  simp only [e2, Bool.false_eq_true, if_false]
  refine wpAny_bind ?_
  have hc := run_fn (Q := fun v H' => ∃ b, v = .bl b ∧ Qb b H') (us := [.ref a, u]) (vs := [.ref a, x]) F hr hb .nil (pass0 (X := X)) I (.cons rfl (.cons rx .nil)) h
  refine wpAny_mono hc (fun v s1 hv => ?_) fun _ _ z => z
  obtain ⟨v', H', I', rv, b, eb, q⟩ := hv
  subst eb
  cases rv
  exact wpAny_pure (wpAny_truthy_bool ⟨H', I', q⟩)
theorem op_has (G : MCal X.prog X.w X.K X.mg X.base k C "__contains__" ps sp) (hr : Room k X.A) : OpR X (compareOp .In) (rHas C sp false) := by
  intro pins s σ H x y v u Q I rx ry h
  obtain ⟨f, fd, F, hm, hb⟩ := G.ex
  obtain ⟨a, dx, fs, rfl, ea, q⟩ := h
  cases ry
  show wpAny _ _ (contains (.ref a) v >>= fun r => pure (Value.bool r)) _ _ s
  refine wpAny_bind (wpAny_mono (has_own (Qb := fun b H' => Q (.bl b) H') I ea hm F hr hb rx q) (fun b s1 ⟨H', I', q'⟩ => ?_) fun _ _ z => z)
  exact wpAny_pure ⟨.bl b, H', I', rfl, q'⟩
theorem op_hasNot (G : MCal X.prog X.w X.K X.mg X.base k C "__contains__" ps sp) (hr : Room k X.A) : OpR X (compareOp .NotIn) (rHas C sp true) := by
  intro pins s σ H x y v u Q I rx ry h
  obtain ⟨f, fd, F, hm, hb⟩ := G.ex
  obtain ⟨a, dx, fs, rfl, ea, q⟩ := h
  cases ry
  show wpAny _ _ (contains (.ref a) v >>= fun r => pure (Value.bool (!r))) _ _ s
  refine wpAny_bind (wpAny_mono (has_own (Qb := fun b H' => Q (.bl (!b)) H') I ea hm F hr hb rx q) (fun b s1 ⟨H', I', q'⟩ => ?_) fun _ _ z => z)
  exact wpAny_pure ⟨.bl (!b), H', I', rfl, q'⟩
end
end Sc

/-! KWords -/
set_option Elab.async false
set_option linter.all false
set_option maxRecDepth 100000
set_option maxHeartbeats 4000000
namespace Sc
open PySem PySem.Spec PyProof.Rows L2
/-! ### WORDS[True], WORDS[False], WORDS[None] -/
/-- a dict of the top with these three keys -/
def WordsAt (K : PySem.W.Frag) (a : Addr) : Prop := ∃ (n : Nat) (t1 t2 t3 : Tok), K.lookup a = some ⟨.type "dict", none, .dict #[⟨1, .bool true, .str "always" t1⟩, ⟨0, .bool false, .str "never" t2⟩, ⟨reduceHash 0xFCA86420, .none, .str "open" t3⟩] n, #[]⟩
def oV : Option Bool → V
  | some b => .bl b
  | none => .non
def wordOf : Option Bool → Str
  | some true => "always"
  | some false => "never"
  | none => "open"
def rWords (K : PySem.W.Frag) (a : Addr) : R2 := fun x y H Q => ∃ o, x = .ref a ∧ y = oV o ∧ Q (.str (wordOf o)) H
def leafOf : Option Bool → Leaf
  | some true => .num 1
  | some false => .num 0
  | none => .none
theorem ix_words {X : Cx} {a : Addr} (h : WordsAt X.K a) : IxR X (rWords X.K a) := by
  intro value slice pins s σ H x y v u Q I rx ry hq hs
  obtain ⟨n, t1, t2, t3, hl⟩ := h
  obtain ⟨o, rfl, rfl, q⟩ := hq
  obtain rfl : v = Value.ref a := rx
  have ho := I.kIn _ _ hl
  have hm : s.heap.MapOf (leafKind X.prog X.w) a (fun k => match k with
      | .num i => if i = 1 then some (.str "always" t1) else if i = 0 then some (.str "never" t2) else none
      | .none => some (.str "open" t3)
      | .text _ => none) := by
    refine ⟨_, _, _, ho, ⟨rfl, rfl, rfl⟩, rfl, ?_, ?_⟩
    · intro e he
      simp at he
      rcases he with rfl | rfl | rfl
      · exact ⟨.num 1, rfl, by show (1 : Int) = hashInt 1; decide⟩
      · exact ⟨.num 0, rfl, by show (0 : Int) = hashInt 0; decide⟩
      · exact ⟨.none, rfl, rfl⟩
    · intro k
      cases k with
      | none => rfl
      | num i =>
        show findBy Leaf.isOf _ (.num i) = _
        simp only [findBy]
        by_cases h1 : i = 1
        · subst h1; rfl
        · by_cases h0 : i = 0
          · subst h0; rfl
          · have e1 : Leaf.isOf (.num i) (.bool true) = false := by
              show decide ((if true = true then (1 : Int) else 0) = i) = false
              exact decide_eq_false (fun q => h1 q.symm)
            have e0 : Leaf.isOf (.num i) (.bool false) = false := by
              show decide ((if false = true then (1 : Int) else 0) = i) = false
              exact decide_eq_false (fun q => h0 q.symm)
            have en : Leaf.isOf (.num i) .none = false := rfl
            simp [e1, e0, en, h1, h0]
      | text z =>
        show findBy Leaf.isOf _ (.text z) = _
        rfl
  cases o with
  | none =>
    obtain rfl : u = Value.none := ry
    exact tail_any hm.typeIs slot_dict_getitem.lookup (wpAny_getItem_of (k := Leaf.none) (v := .str "open" t3) rfl hm rfl ⟨.str "open", H, I.tok _, ⟨_, rfl⟩, q⟩) hs
  | some b =>
    obtain rfl : u = Value.bool b := ry
    cases b with
    | true => exact tail_any hm.typeIs slot_dict_getitem.lookup (wpAny_getItem_of (k := Leaf.num 1) (v := .str "always" t1) rfl hm rfl ⟨.str "always", H, I.tok _, ⟨_, rfl⟩, q⟩) hs
    | false => exact tail_any hm.typeIs slot_dict_getitem.lookup (wpAny_getItem_of (k := Leaf.num 0) (v := .str "never" t2) rfl hm rfl ⟨.str "never", H, I.tok _, ⟨_, rfl⟩, q⟩) hs
end Sc

/-! KTxt -/
set_option Elab.async false
set_option linter.all false
set_option maxRecDepth 100000
set_option maxHeartbeats 4000000
/-! What the top has written, as facts; short names of the built-ins' readings. -/
namespace Sc
open PySem PySem.Spec PyProof.Rows L2
def top (i : Nat) : Stmt := PySem.Challenge.pw_surecues_k62_whole_claims_that_hold_are.main.body.getD i (.Pass ⟨0, 0, 0, 0⟩)
abbrev s_common_divisor : Stmt := top 13
abbrev s_number : Stmt := top 14
abbrev s_plus : Stmt := top 15
abbrev s_minus : Stmt := top 16
abbrev s_times : Stmt := top 17
abbrev s_over : Stmt := top 18
abbrev s_compare : Stmt := top 19
abbrev s_is_less : Stmt := top 20
abbrev s_least_of : Stmt := top 21
abbrev s_greatest_of : Stmt := top 22
abbrev s_ascending : Stmt := top 23
abbrev s_value_in : Stmt := top 25
abbrev s_slope_in : Stmt := top 26
abbrev s_track_of_clips : Stmt := top 27
abbrev s_piece_at : Stmt := top 29
abbrev s_value_at : Stmt := top 30
abbrev s_turning_place_clips : Stmt := top 31
abbrev s_turning_points : Stmt := top 33
abbrev s_values_between_clips : Stmt := top 34
abbrev s_least_value : Stmt := top 36
abbrev s_greatest_value : Stmt := top 37
abbrev s_later_form : Stmt := top 38
abbrev s_normal_track : Stmt := top 39
abbrev s_normal : Stmt := top 40
abbrev s_clamped : Stmt := top 43
abbrev s_shown_at : Stmt := top 44
abbrev s_track_of_scenes : Stmt := top 45
abbrev s_turning_place_scenes : Stmt := top 47
abbrev s_turning_positions : Stmt := top 49
abbrev s_points_between : Stmt := top 50
abbrev s_values_between_scenes : Stmt := top 51
abbrev s_has_property : Stmt := top 53
abbrev s_Scene_init : Stmt := inClass (top 54) 0
abbrev s_Scene_book : Stmt := inClass (top 54) 1
abbrev s_Scene_shows : Stmt := inClass (top 54) 2
abbrev s_Scene_show : Stmt := inClass (top 54) 3
abbrev s_Scene_shown : Stmt := inClass (top 54) 4
abbrev s_Scene_value : Stmt := inClass (top 54) 5
abbrev s_Scene_bounds : Stmt := inClass (top 54) 6
abbrev s_Scene_says : Stmt := inClass (top 54) 8
abbrev s_lies_within : Stmt := top 58
abbrev s_show_of : Stmt := top 59
abbrev s_ends_of_papers : Stmt := top 60
abbrev s_middle_number : Stmt := top 62
abbrev s_numbers_of : Stmt := top 63
abbrev s_open_numbers : Stmt := top 64
abbrev s_said_of : Stmt := top 65
abbrev s_answer : Stmt := top 66
abbrev s_chain_length : Stmt := top 67
abbrev s_holds_surely : Stmt := top 68
abbrev s_is_true_in : Stmt := top 69
abbrev s_judge : Stmt := top 70
abbrev s_is_too_great : Stmt := top 73
abbrev s_ends_of_books : Stmt := top 74
abbrev s_is_better : Stmt := top 76
abbrev s_one_step_more : Stmt := top 77
abbrev s_best_chains : Stmt := top 78
abbrev s_earliest_of : Stmt := top 79
abbrev s_Book_init : Stmt := inClass (top 80) 0
abbrev s_Book_facts : Stmt := inClass (top 80) 2
abbrev s_Book_check_moments : Stmt := inClass (top 80) 3
abbrev s_Book_check_numbers : Stmt := inClass (top 80) 4
abbrev s_Book_check_room : Stmt := inClass (top 80) 5
abbrev s_Book_remember : Stmt := inClass (top 80) 6
abbrev s_Book_add : Stmt := inClass (top 80) 7
abbrev s_Book_tell : Stmt := inClass (top 80) 8
abbrev s_Book_best : Stmt := inClass (top 80) 10
abbrev s_Book_span : Stmt := inClass (top 80) 11
abbrev s_Book_chain : Stmt := inClass (top 80) 12
abbrev s_Book_earliest : Stmt := inClass (top 80) 13
abbrev s_Book_latest : Stmt := inClass (top 80) 14
abbrev s_Book_fit_with : Stmt := inClass (top 80) 15
abbrev s_Book_says : Stmt := inClass (top 80) 16
abbrev s_Book_is_fit : Stmt := inClass (top 80) 17
abbrev s_Book_contains : Stmt := inClass (top 80) 20
abbrev s__law_cell : Stmt := top 82
abbrev s__law_draw : Stmt := top 83
abbrev s__law_six : Stmt := top 84
abbrev s__law_story : Stmt := top 85
abbrev s__law_facts : Stmt := top 86
abbrev s__law_book : Stmt := top 87
abbrev s__law_far : Stmt := top 88
abbrev s__law_num : Stmt := top 89
abbrev s__law_add : Stmt := top 90
abbrev s__law_mul : Stmt := top 91
abbrev s__law_less : Stmt := top 92
abbrev s__law_clip : Stmt := top 93
abbrev s__law_scene : Stmt := top 97
abbrev s__law_holds : Stmt := top 98
abbrev s__law_so : Stmt := top 99
abbrev s_law : Stmt := top 100
def rLenQ (K : PySem.W.Frag) : List V → Hp → VK → Prop := fun xs H Q => ∃ p ys, xs = [.ref p] ∧ (SqL K H p ys ∨ SqT K H p ys) ∧ Q (.int ys.length) H
def rAbs : List V → Hp → VK → Prop := fun xs H Q => ∃ i, xs = [.int i] ∧ Q (.int (if i < 0 then -i else i)) H
def rMin2 : List V → Hp → VK → Prop := fun xs H Q => ∃ i j, xs = [.int i, .int j] ∧ Q (.int (if j < i then j else i)) H
def rListOf (K : PySem.W.Frag) : List V → Hp → VK → Prop := fun xs H Q => ∃ p ys, xs = [.ref p] ∧ (SqL K H p ys ∨ SqT K H p ys) ∧ ∀ l, H l = none → Q (.ref l) (upd H l (.lst ys))
def rTupleOf (K : PySem.W.Frag) : List V → Hp → VK → Prop := fun xs H Q => ∃ p ys, xs = [.ref p] ∧ ((SqL K H p ys ∧ ∀ l, H l = none → Q (.ref l) (upd H l (.tup ys))) ∨ (SqT K H p ys ∧ Q (.ref p) H))
def rDictP (K : PySem.W.Frag) : List V → Hp → VK → Prop := fun xs H Q => ∃ (a : Addr) (ps : List Addr) (kvs : List (Key × V)), xs = [.ref a] ∧ SqL K H a (ps.map V.ref) ∧ Paired (fun p kv => SqT K H p [kV kv.1, kv.2]) ps kvs ∧ ∀ p, H p = none → Q (.ref p) (upd H p (.dK (mergeK [] kvs)))
def rInsert : V → List V → Hp → VK → Prop := fun x vs H Q => ∃ (l : Addr) (xs : List V) (i : Int) (y : V), x = .ref l ∧ vs = [.int i, y] ∧ H l = some (.lst xs) ∧ xs.length < sizeLine ∧ 0 ≤ i ∧ i < 2 ^ 63 ∧ Q .non (upd H l (.lst (xs.take i.toNat ++ [y] ++ xs.drop i.toNat)))
def rIsNone : R2 := fun x y H Q => y = .non ∧ Q (.bl (decide (x = .non))) H
def rNotNone : R2 := fun x y H Q => y = .non ∧ Q (.bl (!decide (x = .non))) H
structure Txt (K : PySem.W.Frag) (mg : Str → Option Value) : Prop where
  f_len : mg "len" = none
  f_range : mg "range" = none
  f_abs : mg "abs" = none
  f_min : mg "min" = none
  f_list : mg "list" = none
  f_tuple : mg "tuple" = none
  f_dict : mg "dict" = none
  i_FACTS : ∃ t, mg "FACTS" = some (.int 40 t)
  i_MOMENTS : ∃ t, mg "MOMENTS" = some (.int 8 t)
  i_SHOWS : ∃ t, mg "SHOWS" = some (.int 6 t)
  i_GREAT : ∃ t, mg "GREAT" = some (.int 1000 t)
  g_ZERO : mg "ZERO" = some (.ref (He.ga K "ZERO"))
  g_TWO : mg "TWO" = some (.ref (He.ga K "TWO"))
  g_NOUGHT_scenes : mg "NOUGHT_scenes" = some (.ref (He.ga K "NOUGHT_scenes"))
  g_NOUGHT_papers : mg "NOUGHT_papers" = some (.ref (He.ga K "NOUGHT_papers"))
  g_NOUGHT_books : mg "NOUGHT_books" = some (.ref (He.ga K "NOUGHT_books"))
  g_WORDS : mg "WORDS" = some (.ref (He.ga K "WORDS"))
  t_ZERO : ∀ H, SqT K H (He.ga K "ZERO") [.int 0, .int 1]
  t_TWO : ∀ H, SqT K H (He.ga K "TWO") [.int 2, .int 1]
  t_NOUGHT_scenes : ∀ H, SqT K H (He.ga K "NOUGHT_scenes") [.int 0, .int 1]
  t_NOUGHT_papers : ∀ H, SqT K H (He.ga K "NOUGHT_papers") [.int 0, .int 1]
  t_NOUGHT_books : ∀ H, SqT K H (He.ga K "NOUGHT_books") [.int 0, .int 1]
  words : WordsAt K (He.ga K "WORDS")
  c_Book : Cls K (He.ga K "Book")
  c_Scene : Cls K (He.ga K "Scene")
  no_Book_names : NoAttr K (He.ga K "Book") "_names"
  no_Book_facts : NoAttr K (He.ga K "Book") "_facts"
  no_Book_past : NoAttr K (He.ga K "Book") "_past"
  no_Scene_book : NoAttr K (He.ga K "Scene") "_book"
  no_Scene_shows : NoAttr K (He.ga K "Scene") "_shows"
end Sc

/-! KHead -/
set_option Elab.async false
set_option linter.all false
set_option maxRecDepth 100000
set_option maxHeartbeats 0
/-! The head: each def's place, the facts of the top, by one kernel run. -/
namespace Sc
open PySem PySem.Spec PyProof.Rows L2
/-! ### the text by places -/
/-- where a def stands: a global, a method, a property's getter -/
inductive Wh where
  | g (x : Str) | m (c x : Str) | p (c x : Str)
def propA (K : PySem.W.Frag) (c x : Str) : Addr := He.ma K (He.ga K c) x
def getA (K : PySem.W.Frag) (c x : Str) : Addr := match PySem.W.recIn K (propA K c x) "property" with
  | some (.ref a :: _) => a
  | _ => 0
def wad (K : PySem.W.Frag) : Wh → Addr
  | .g x => He.ga K x
  | .m c x => He.ma K (He.ga K c) x
  | .p c x => getA K c x
structure Df where
  at_ : Wh
  name : Str
  qual : Str
  st : Stmt
abbrev FnQ : Type := Option (Str × Str × Arguments × FuncBody × Scope × Addr × List (Str × Addr) × Value × Addr)
def fnQ (K : PySem.W.Frag) (p : Wh) : FnQ := match K.lookup (wad K p) with
  | some ⟨_, _, .func fd, _⟩ => some (fd.name, fd.qualname, fd.params, fd.body, fd.scope, fd.globals, fd.closure, fd.defaults, fd.builtins)
  | _ => none
def Df.val (d : Df) : FnQ := some (d.name, d.qual, defArgs d.st, .stmts (defBody d.st), defScope d.st, mainGlobals, [], .none, builtinsNs)
def Df.ok (K : PySem.W.Frag) (d : Df) : Bool := PySem.W.keepIn K (.ref (wad K d.at_)) && (match K.lookup (wad K d.at_) with
  | some ⟨_, _, .func fd, _⟩ => PySem.W.codeIn K fd.code d.qual
  | _ => false)
theorem Df.is {K : PySem.W.Frag} {d : Df} (e : fnQ K d.at_ = d.val) (c : d.ok K = true) : ∃ fd, Fun K d.name d.qual d.st (wad K d.at_) fd := by
  obtain ⟨kp, c2⟩ := He.ba c
  unfold fnQ at e
  cases q : K.lookup (wad K d.at_) with
  | none =>
    rw [q] at c2
    cases c2
  | some o =>
    obtain ⟨oc, od, dt, osl⟩ := o
    rw [q] at c2 e
    cases dt with
    | func fd =>
      obtain ⟨n1, n2, n3, n4, n5, n6, n7, n8, n9, n10, n11, n12, n13, n14, n15⟩ := fd
      have e2 : (some (n1, n2, n3, n4, n5, n6, n7, n8, n15) : FnQ) = some (d.name, d.qual, defArgs d.st, .stmts (defBody d.st), defScope d.st, mainGlobals, [], .none, builtinsNs) := e
      simp only [Option.some.injEq, Prod.mk.injEq] at e2
      obtain ⟨h1, h2, h3, h4, h5, h6, h7, h8, h9⟩ := e2
      subst h1 h2 h3 h4 h5 h6 h7 h8 h9
      exact ⟨_, fun_mk q c2 kp⟩
    | _ => cases c2
/-! ### the hook -/
abbrev AlQ : Type := Bool × List FnQ
def obsQ (fa : List He.Fa) (ex : PySem.W.Frag → Bool) (fn : List Df) (K : PySem.W.Frag) : AlQ := ((fa.all fun f => f.ok K) && (ex K && fn.all fun d => d.ok K), fn.map fun d => fnQ K d.at_)
def valQ (fn : List Df) : AlQ := (true, fn.map Df.val)
def SaysQ (fa : List He.Fa) (ex : PySem.W.Frag → Bool) (fn : List Df) (K : PySem.W.Frag) : Prop := obsQ fa ex fn K = valQ fn
/-! #### the same, forced once (the kernel does not keep what it reckons) -/
def frL {β : Type} (l : List Addr) (k : List Addr → β) : β := match l with
  | [] => k []
  | a :: r => HandSHeadRun.frNat a fun a => frL r fun r => k (a :: r)
theorem frL_eq {β : Type} : ∀ (l : List Addr) (k : List Addr → β), frL l k = k l
  | [], _ => rfl
  | a :: r, k => by
    show HandSHeadRun.frNat a (fun a => frL r fun r => k (a :: r)) = _
    rw [HandSHeadRun.frNat_eq, frL_eq r]
def frF {β : Type} (g : Addr → Option Obj) (as : List Addr) (k : PySem.W.Frag → β) : β := match as with
  | [] => k []
  | a :: r => match g a with
    | some ⟨c, d, dt, sl⟩ => frF g r fun K => k ((a, ⟨c, d, dt, sl⟩) :: K)
    | none => frF g r k
theorem frF_eq {β : Type} {g : Addr → Option Obj} : ∀ (as : List Addr) (k : PySem.W.Frag → β), frF g as k = k (He.frG g as)
  | [], _ => rfl
  | a :: r, k => by
    have e : He.frG g (a :: r) = (match (g a).map fun o => (a, o) with | some p => p :: He.frG g r | none => He.frG g r) := by
      unfold He.frG
      rw [List.filterMap_cons]
      cases (g a).map fun o => (a, o) <;> rfl
    show (match g a with
    | some ⟨c, d, dt, sl⟩ => frF g r fun K => k ((a, ⟨c, d, dt, sl⟩) :: K)
    | none => frF g r k) = _
    rw [e]
    cases g a with
    | none => exact frF_eq r k
    | some o =>
      obtain ⟨c, d, dt, sl⟩ := o
      exact frF_eq r _
/-- what one object names -/
def refG (g : Addr → Option Obj) (a : Addr) : List Addr := match g a with
  | some o => He.refsO o
  | none => []
/-- the addresses that are looked at: the module's names nm, what they reach in n steps -/
def lyr (nm : List Str) (g : Addr → Option Obj) : Nat → List Addr
  | 0 => nm.map (He.ga (He.frG g [mainGlobals]))
  | n + 1 => (lyr nm g n).flatMap (refG g)
def asN (nm : List Str) (g : Addr → Option Obj) : Nat → List Addr
  | 0 => lyr nm g 0
  | n + 1 => asN nm g n ++ lyr nm g (n + 1)
def obsQG (nm : List Str) (n : Nat) (fa : List He.Fa) (ex : PySem.W.Frag → Bool) (fn : List Df) (g : Addr → Option Obj) : AlQ := obsQ fa ex fn (He.frG g (mainGlobals :: asN nm g n))
/-- what they reach, forced step by step: all so far, the last layer -/
def asF {β : Type} (g : Addr → Option Obj) : Nat → List Addr → List Addr → (List Addr → β) → β
  | 0, as, _, k => k as
  | n + 1, as, l, k => frL (l.flatMap (refG g)) fun l' => asF g n (as ++ l') l' k
theorem growN_eq {β : Type} {g : Addr → Option Obj} {nm : List Str} : ∀ (n m : Nat) (k : List Addr → β), asF g n (asN nm g m) (lyr nm g m) k = k (asN nm g (m + n))
  | 0, m, k => rfl
  | n + 1, m, k => by
    show frL ((lyr nm g m).flatMap (refG g)) (fun l' => asF g n (asN nm g m ++ l') l' k) = _
    rw [frL_eq]
    show asF g n (asN nm g (m + 1)) (lyr nm g (m + 1)) k = _
    rw [growN_eq n (m + 1) k]
    have e : m + 1 + n = m + (n + 1) := by omega
    rw [e]
def obsF (nm : List Str) (n : Nat) (fa : List He.Fa) (ex : PySem.W.Frag → Bool) (fn : List Df) (g : Addr → Option Obj) : AlQ :=
  frL (nm.map (He.ga (He.frG g [mainGlobals]))) fun as => asF g n as as fun as => frF g (mainGlobals :: as) fun K => obsQ fa ex fn K
theorem obsF_eq {nm : List Str} {n : Nat} {fa : List He.Fa} {ex : PySem.W.Frag → Bool} {fn : List Df} {g : Addr → Option Obj} : obsF nm n fa ex fn g = obsQG nm n fa ex fn g := by
  unfold obsF
  rw [frL_eq]
  show asF g n (asN nm g 0) (lyr nm g 0) _ = _
  rw [growN_eq n 0, frF_eq, Nat.zero_add]
  rfl
def hookQ (nm : List Str) (n : Nat) (fa : List He.Fa) (ex : PySem.W.Frag → Bool) (fn : List Df) : PySem.W.Hook where
  α := AlQ
  obs := fun s => obsQG nm n fa ex fn s.heap.get?
  val := fun _ => valQ fn
  says := fun _ h => ∃ K : PySem.W.Frag, K.In h ∧ SaysQ fa ex fn K
  of := fun _ _ e => ⟨_, He.frG_in, e⟩
  keeps := fun _ _ _ ⟨K, hK, c⟩ k => ⟨K, PySem.W.Frag.In.keeps hK k, c⟩
theorem obsQG_eq {nm : List Str} {n : Nat} {fa : List He.Fa} {ex : PySem.W.Frag → Bool} {fn : List Df} {g : Addr → Option Obj} {s : Shared} (h : ∀ a, g a = s.heap.get? a) : obsQG nm n fa ex fn g = (hookQ nm n fa ex fn).obs s := by
  have e : g = s.heap.get? := funext h
  rw [e] <;> rfl
section
variable {fa : List He.Fa} {ex : PySem.W.Frag → Bool} {fn : List Df} {K : PySem.W.Frag}
theorem SaysQ.b (c : SaysQ fa ex fn K) : ((fa.all fun f => f.ok K) && (ex K && fn.all fun d => d.ok K)) = true := congrArg (fun z : AlQ => z.1) c
theorem SaysQ.fact (c : SaysQ fa ex fn K) (i : Nat) {f : He.Fa} (h : fa[i]? = some f := by rfl) : f.ok K = true :=
  List.all_eq_true.mp (He.ba c.b).1 f (List.mem_of_getElem? h)
theorem SaysQ.more (c : SaysQ fa ex fn K) : ex K = true := (He.ba (He.ba c.b).2).1
theorem SaysQ.def_ (c : SaysQ fa ex fn K) (i : Nat) {d : Df} (h : fn[i]? = some d := by rfl) : ∃ fd, Fun K d.name d.qual d.st (wad K d.at_) fd := by
  have c2 := (He.ba (He.ba c.b).2).2
  have e : fn.map (fun d => fnQ K d.at_) = fn.map Df.val := congrArg (fun z : AlQ => z.2) c
  have e2 : (fn.map fun d => fnQ K d.at_)[i]? = (fn.map Df.val)[i]? := by rw [e]
  rw [List.getElem?_map, List.getElem?_map, h] at e2
  exact Df.is (Option.some.inj e2) (List.all_eq_true.mp c2 d (List.mem_of_getElem? h))
end
/-! ### the defs, the facts -/
def fn0 : List Df := [⟨.g "common_divisor", "common_divisor", "common_divisor", s_common_divisor⟩, ⟨.g "number", "number", "number", s_number⟩, ⟨.g "plus", "plus", "plus", s_plus⟩, ⟨.g "minus", "minus", "minus", s_minus⟩, ⟨.g "times", "times", "times", s_times⟩, ⟨.g "over", "over", "over", s_over⟩, ⟨.g "compare", "compare", "compare", s_compare⟩, ⟨.g "is_less", "is_less", "is_less", s_is_less⟩, ⟨.g "least_of", "least_of", "least_of", s_least_of⟩, ⟨.g "greatest_of", "greatest_of", "greatest_of", s_greatest_of⟩, ⟨.g "ascending", "ascending", "ascending", s_ascending⟩, ⟨.g "value_in", "value_in", "value_in", s_value_in⟩, ⟨.g "slope_in", "slope_in", "slope_in", s_slope_in⟩, ⟨.g "track_of_clips", "track_of", "track_of", s_track_of_clips⟩, ⟨.g "piece_at", "piece_at", "piece_at", s_piece_at⟩, ⟨.g "value_at", "value_at", "value_at", s_value_at⟩, ⟨.g "turning_place_clips", "turning_place", "turning_place", s_turning_place_clips⟩, ⟨.g "turning_points", "turning_points", "turning_points", s_turning_points⟩, ⟨.g "values_between_clips", "values_between", "values_between", s_values_between_clips⟩, ⟨.g "least_value", "least_value", "least_value", s_least_value⟩]
def fn1 : List Df := [⟨.g "greatest_value", "greatest_value", "greatest_value", s_greatest_value⟩, ⟨.g "later_form", "later_form", "later_form", s_later_form⟩, ⟨.g "normal_track", "normal_track", "normal_track", s_normal_track⟩, ⟨.g "normal", "normal", "normal", s_normal⟩, ⟨.g "clamped", "clamped", "clamped", s_clamped⟩, ⟨.g "shown_at", "shown_at", "shown_at", s_shown_at⟩, ⟨.g "track_of_scenes", "track_of", "track_of", s_track_of_scenes⟩, ⟨.g "turning_place_scenes", "turning_place", "turning_place", s_turning_place_scenes⟩, ⟨.g "turning_positions", "turning_positions", "turning_positions", s_turning_positions⟩, ⟨.g "points_between", "points_between", "points_between", s_points_between⟩, ⟨.g "values_between_scenes", "values_between", "values_between", s_values_between_scenes⟩, ⟨.g "has_property", "has_property", "has_property", s_has_property⟩, ⟨.m "Scene" "__init__", "__init__", "Scene.__init__", s_Scene_init⟩, ⟨.p "Scene" "book", "book", "Scene.book", s_Scene_book⟩, ⟨.p "Scene" "shows", "shows", "Scene.shows", s_Scene_shows⟩, ⟨.m "Scene" "show", "show", "Scene.show", s_Scene_show⟩, ⟨.m "Scene" "shown", "shown", "Scene.shown", s_Scene_shown⟩, ⟨.m "Scene" "value", "value", "Scene.value", s_Scene_value⟩, ⟨.m "Scene" "bounds", "bounds", "Scene.bounds", s_Scene_bounds⟩, ⟨.m "Scene" "says", "says", "Scene.says", s_Scene_says⟩]
def fn2 : List Df := [⟨.g "lies_within", "lies_within", "lies_within", s_lies_within⟩, ⟨.g "show_of", "show_of", "show_of", s_show_of⟩, ⟨.g "ends_of_papers", "ends_of", "ends_of", s_ends_of_papers⟩, ⟨.g "middle_number", "middle_number", "middle_number", s_middle_number⟩, ⟨.g "numbers_of", "numbers_of", "numbers_of", s_numbers_of⟩, ⟨.g "open_numbers", "open_numbers", "open_numbers", s_open_numbers⟩, ⟨.g "said_of", "said_of", "said_of", s_said_of⟩, ⟨.g "answer", "answer", "answer", s_answer⟩, ⟨.g "chain_length", "chain_length", "chain_length", s_chain_length⟩, ⟨.g "holds_surely", "holds_surely", "holds_surely", s_holds_surely⟩, ⟨.g "is_true_in", "is_true_in", "is_true_in", s_is_true_in⟩, ⟨.g "judge", "judge", "judge", s_judge⟩, ⟨.g "is_too_great", "is_too_great", "is_too_great", s_is_too_great⟩, ⟨.g "ends_of_books", "ends_of", "ends_of", s_ends_of_books⟩, ⟨.g "is_better", "is_better", "is_better", s_is_better⟩, ⟨.g "one_step_more", "one_step_more", "one_step_more", s_one_step_more⟩, ⟨.g "best_chains", "best_chains", "best_chains", s_best_chains⟩, ⟨.g "earliest_of", "earliest_of", "earliest_of", s_earliest_of⟩, ⟨.m "Book" "__init__", "__init__", "Book.__init__", s_Book_init⟩, ⟨.p "Book" "facts", "facts", "Book.facts", s_Book_facts⟩]
def fn3 : List Df := [⟨.m "Book" "check_moments", "check_moments", "Book.check_moments", s_Book_check_moments⟩, ⟨.m "Book" "check_numbers", "check_numbers", "Book.check_numbers", s_Book_check_numbers⟩, ⟨.m "Book" "check_room", "check_room", "Book.check_room", s_Book_check_room⟩, ⟨.m "Book" "remember", "remember", "Book.remember", s_Book_remember⟩, ⟨.m "Book" "add", "add", "Book.add", s_Book_add⟩, ⟨.m "Book" "tell", "tell", "Book.tell", s_Book_tell⟩, ⟨.m "Book" "best", "best", "Book.best", s_Book_best⟩, ⟨.m "Book" "span", "span", "Book.span", s_Book_span⟩, ⟨.m "Book" "chain", "chain", "Book.chain", s_Book_chain⟩, ⟨.m "Book" "earliest", "earliest", "Book.earliest", s_Book_earliest⟩, ⟨.m "Book" "latest", "latest", "Book.latest", s_Book_latest⟩, ⟨.m "Book" "fit_with", "fit_with", "Book.fit_with", s_Book_fit_with⟩, ⟨.m "Book" "says", "says", "Book.says", s_Book_says⟩, ⟨.m "Book" "is_fit", "is_fit", "Book.is_fit", s_Book_is_fit⟩, ⟨.m "Book" "__contains__", "__contains__", "Book.__contains__", s_Book_contains⟩, ⟨.g "_law_cell", "_law_cell", "_law_cell", s__law_cell⟩, ⟨.g "_law_draw", "_law_draw", "_law_draw", s__law_draw⟩, ⟨.g "_law_six", "_law_six", "_law_six", s__law_six⟩, ⟨.g "_law_story", "_law_story", "_law_story", s__law_story⟩, ⟨.g "_law_facts", "_law_facts", "_law_facts", s__law_facts⟩]
def fn4 : List Df := [⟨.g "_law_book", "_law_book", "_law_book", s__law_book⟩, ⟨.g "_law_far", "_law_far", "_law_far", s__law_far⟩, ⟨.g "_law_num", "_law_num", "_law_num", s__law_num⟩, ⟨.g "_law_add", "_law_add", "_law_add", s__law_add⟩, ⟨.g "_law_mul", "_law_mul", "_law_mul", s__law_mul⟩, ⟨.g "_law_less", "_law_less", "_law_less", s__law_less⟩, ⟨.g "_law_clip", "_law_clip", "_law_clip", s__law_clip⟩, ⟨.g "_law_scene", "_law_scene", "_law_scene", s__law_scene⟩, ⟨.g "_law_holds", "_law_holds", "_law_holds", s__law_holds⟩, ⟨.g "_law_so", "_law_so", "_law_so", s__law_so⟩, ⟨.g "law", "law", "law", s_law⟩]
def fn : List Df := fn0 ++ fn1 ++ fn2 ++ fn3 ++ fn4
def fa0 : List He.Fa := [.glo "common_divisor", .glo "number", .glo "plus", .glo "minus", .glo "times", .glo "over", .glo "compare", .glo "is_less", .glo "least_of", .glo "greatest_of", .glo "ascending", .glo "value_in", .glo "slope_in", .glo "track_of_clips", .glo "piece_at", .glo "value_at", .glo "turning_place_clips", .glo "turning_points", .glo "values_between_clips", .glo "least_value"]
def fa1 : List He.Fa := [.glo "greatest_value", .glo "later_form", .glo "normal_track", .glo "normal", .glo "clamped", .glo "shown_at", .glo "track_of_scenes", .glo "turning_place_scenes", .glo "turning_positions", .glo "points_between", .glo "values_between_scenes", .glo "has_property", .glo "lies_within", .glo "show_of", .glo "ends_of_papers", .glo "middle_number", .glo "numbers_of", .glo "open_numbers", .glo "said_of", .glo "answer"]
def fa2 : List He.Fa := [.glo "chain_length", .glo "holds_surely", .glo "is_true_in", .glo "judge", .glo "is_too_great", .glo "ends_of_books", .glo "is_better", .glo "one_step_more", .glo "best_chains", .glo "earliest_of", .glo "_law_cell", .glo "_law_draw", .glo "_law_six", .glo "_law_story", .glo "_law_facts", .glo "_law_book", .glo "_law_far", .glo "_law_num", .glo "_law_add", .glo "_law_mul"]
def fa3 : List He.Fa := [.glo "_law_less", .glo "_law_clip", .glo "_law_scene", .glo "_law_holds", .glo "_law_so", .glo "law", .free "len", .free "range", .free "abs", .free "min", .free "list", .free "tuple", .free "dict", .int "MOMENTS" 8, .int "FACTS" 40, .int "SHOWS" 6, .int "GREAT" 1000, .glo "Book", .cls "Book", .mkr "Book"]
def fa4 : List He.Fa := [.glo "Scene", .cls "Scene", .mkr "Scene", .noat "Book" "_names", .noat "Book" "_facts", .noat "Book" "_past", .noat "Scene" "_book", .noat "Scene" "_shows", .meth "Scene" "__init__", .meth "Scene" "show", .meth "Scene" "shown", .meth "Scene" "value", .meth "Scene" "bounds", .meth "Scene" "says", .meth "Book" "__init__", .meth "Book" "check_moments", .meth "Book" "check_numbers", .meth "Book" "check_room", .meth "Book" "remember", .meth "Book" "add"]
def fa5 : List He.Fa := [.meth "Book" "tell", .meth "Book" "best", .meth "Book" "span", .meth "Book" "chain", .meth "Book" "earliest", .meth "Book" "latest", .meth "Book" "fit_with", .meth "Book" "says", .meth "Book" "is_fit", .meth "Book" "__contains__"]
def fa : List He.Fa := fa0 ++ fa1 ++ fa2 ++ fa3 ++ fa4 ++ fa5
def loose0 : List PySem.Str := ["_wall", "__name__", "CueError", "NumberError", "BookError", "SceneError", "MOMENTS", "FACTS", "SHOWS", "GREAT", "ZERO", "TWO", "common_divisor", "number", "plus", "minus", "times", "over", "compare", "is_less", "least_of", "greatest_of", "ascending", "value_in", "slope_in", "track_of", "track_of_clips", "piece_at", "value_at", "turning_place"]
def loose1 : List PySem.Str := ["turning_place_clips", "turning_points", "values_between", "values_between_clips", "least_value", "greatest_value", "later_form", "normal_track", "normal", "NOUGHT_scenes", "clamped", "shown_at", "track_of_scenes", "turning_place_scenes", "turning_positions", "points_between", "values_between_scenes", "has_property", "Scene", "NOUGHT_papers", "WORDS", "lies_within", "show_of", "ends_of", "ends_of_papers", "middle_number", "numbers_of", "open_numbers", "said_of", "answer"]
def loose2 : List PySem.Str := ["chain_length", "holds_surely", "is_true_in", "judge", "NOUGHT_books", "is_too_great", "ends_of_books", "is_better", "one_step_more", "best_chains", "earliest_of", "Book", "_law_cell", "_law_draw", "_law_six", "_law_story", "_law_facts", "_law_book", "_law_far", "_law_num", "_law_add", "_law_mul", "_law_less", "_law_clip", "_law_shown", "_law_points", "_law_bounds", "_law_scene", "_law_holds", "_law_so"]
def loose : List PySem.Str := loose0 ++ loose1 ++ loose2
def nms0 : List PySem.Str := ["law", "ZERO", "TWO", "NOUGHT_scenes", "NOUGHT_papers", "NOUGHT_books", "WORDS", "Book", "Scene", "common_divisor", "number", "plus", "minus", "times", "over", "compare", "is_less", "least_of", "greatest_of", "ascending", "value_in", "slope_in", "track_of_clips", "piece_at", "value_at", "turning_place_clips", "turning_points", "values_between_clips", "least_value", "greatest_value"]
def nms1 : List PySem.Str := ["later_form", "normal_track", "normal", "clamped", "shown_at", "track_of_scenes", "turning_place_scenes", "turning_positions", "points_between", "values_between_scenes", "has_property", "lies_within", "show_of", "ends_of_papers", "middle_number", "numbers_of", "open_numbers", "said_of", "answer", "chain_length", "holds_surely", "is_true_in", "judge", "is_too_great", "ends_of_books", "is_better", "one_step_more", "best_chains", "earliest_of", "_law_cell"]
def nms2 : List PySem.Str := ["_law_draw", "_law_six", "_law_story", "_law_facts", "_law_book", "_law_far", "_law_num", "_law_add", "_law_mul", "_law_less", "_law_clip", "_law_scene", "_law_holds", "_law_so"]
def nms : List PySem.Str := nms0 ++ nms1 ++ nms2
def isProp (K : PySem.W.Frag) (c x : Str) : Bool := He.eqO (PySem.W.findIn K (.ref (He.ga K c)) x) (some (some (.ref (propA K c x)))) && (He.eqO (PySem.W.specialIn K (.ref (propA K c x)) "__get__") (some (some (.builtin "property.__get__"))) && (decide (PySem.W.takesIn K (.ref (propA K c x)) = some true) && (match PySem.W.recIn K (propA K c x) "property" with
  | some (.ref _ :: _) => true
  | _ => false)))
/-- the dict WORDS -/
def wordsB (K : PySem.W.Frag) : Bool := match K.lookup (He.ga K "WORDS") with
  | some ⟨.type c, none, .dict es _, sl⟩ => decide (c = "dict") && (sl.isEmpty && (!(He.ga K "WORDS" == sysModules) && (match es.toList with
    | [⟨h1, .bool true, .str z1 _⟩, ⟨h2, .bool false, .str z2 _⟩, ⟨h3, .none, .str z3 _⟩] => decide (h1 = 1) && (decide (h2 = 0) && (decide (h3 = reduceHash 0xFCA86420) && (decide (z1 = "always") && (decide (z2 = "never") && decide (z3 = "open")))))
    | _ => false)))
  | _ => false
def ex (K : PySem.W.Frag) : Bool := (He.tupB K "ZERO" [.int 0, .int 1] && (He.tupB K "TWO" [.int 2, .int 1] && (He.tupB K "NOUGHT_scenes" [.int 0, .int 1] && (He.tupB K "NOUGHT_papers" [.int 0, .int 1] && He.tupB K "NOUGHT_books" [.int 0, .int 1])))) &&
  (wordsB K && (He.Fa.glo "ZERO").ok K && ((He.Fa.glo "TWO").ok K && ((He.Fa.glo "NOUGHT_scenes").ok K && ((He.Fa.glo "NOUGHT_papers").ok K && ((He.Fa.glo "NOUGHT_books").ok K && (He.Fa.glo "WORDS").ok K)))) &&
  (isProp K "Scene" "book" && (isProp K "Scene" "shows" && (isProp K "Book" "facts"))))
abbrev R : PySem.W.OpenRow := PySem.W.OpenLaw.row PySem.Challenge.rw_surecues_k62_whole_claims_that_hold_are
abbrev hk : PySem.W.Hook := hookQ nms 4 fa ex fn
def ob (s : PySem.W.SharedT) : AlQ := obsF nms 4 fa ex fn (HandSHeadRun.getT s)
theorem ob_eq (s : PySem.W.SharedT) : ob s = hk.obs s.abs := obsF_eq.trans <| obsQG_eq (HandSHeadRun.getT_eq s)
theorem run_f (w : World) : HandSHeadRun.RunEq R (PySem.W.view R.prog [100]) hk ob 6000 loose (w.withFollow "special-get-raises" false) := by
  intro os
  kernel_rfl
theorem run_t (w : World) : HandSHeadRun.RunEq R (PySem.W.view R.prog [100]) hk ob 6000 loose (w.withFollow "special-get-raises" true) := by
  intro os
  kernel_rfl
theorem run (w : World) : HandSHeadRun.RunEq R (PySem.W.view R.prog [100]) hk ob 6000 loose w := PySem.W.byRow2 "special-get-raises" (P := fun w => HandSHeadRun.RunEq R (PySem.W.view R.prog [100]) hk ob 6000 loose w) run_f run_t w
end Sc

/-! KWalk0 -/
set_option Elab.async false
set_option linter.all false
set_option maxRecDepth 100000
set_option maxHeartbeats 4000000
namespace Sc
open PySem PySem.Spec PyProof.Rows L2
section
variable {P : Program} {w : World} {K : PySem.W.Frag} {mg : Str → Option Value} {base : Heap}
def n_common_divisor : List Str := ["first", "second"]
def t_common_divisor (K : PySem.W.Frag) : TS :=
  (tSeq (tWhile (tTest (tOp rNe (tVar 1) (tC (.int 0)))) (tPar 0 1 (tCons (tVar 1) (tCons (tOp (rI (fun _ j => 0 < j) fun i j => .int (i % j)) (tVar 0) (tVar 1)) tNil))))
  (tRet (tVar 0)))
theorem sc_common_divisor : FnScope n_common_divisor ["first", "second"] (defScope s_common_divisor) := ⟨rfl, rfl, rfl, by decide +kernel, rfl, by decide +kernel, by decide +kernel⟩
theorem ok_common_divisor {sp : Sp} (T : Txt K mg)  {f : Addr} {fd : FuncData} (F : Fun K "common_divisor" "common_divisor" s_common_divisor f fd)
    (len : ∀ vs H Q E, sp vs H Q E → vs.length = 2) (pure : ∀ vs H Q E, sp vs H Q E → t_common_divisor K  { nx := fun _ H' => Q .non H', rt := Q } (start n_common_divisor vs) H) :
    FnOk P w K mg base CX0 1 f fd ["first", "second"] sp := by
  refine F.ok sc_common_divisor len (fun cdv A outer s H vs Q E hr h => ⟨t_common_divisor K , ?_, pure vs H Q E h⟩)
  exact (pss_cons (ps_while PassesOwn.never (pt_cmpR op_ne (pv 1) pe_int (nomark _)) (pss_one (ps_par (by rfl) sc_common_divisor.nd rfl rfl (by decide) rfl rfl (pa_cons (pv 1) (pa_cons (pe_op op_mod (pv 0) (pv 1)) pa_nil)) (by rfl))))
    (pss_one (ps_ret (pv 0))))
theorem bi_common_divisor {f : Addr} {fd : FuncData} (F : Fun K "common_divisor" "common_divisor" s_common_divisor f fd) : Binds K fd ["first", "second"] [] := F.binds (ps := ["first", "second"]) fun _ _ _ _ _ _ us hl => match us, hl with | [_, _], _ => rfl
def n_number : List Str := ["top", "bottom", "divisor"]
def t_number (K : PySem.W.Frag) (sp_common_divisor : Sp) : TS :=
  (tSeq (tIfS (tTest (tOp rEq (tVar 1) (tC (.int 0)))) tNever tNext)
  (tSeq (tIfS (tTest (tOp (rI0 fun i j => .bl (decide (i < j))) (tVar 1) (tC (.int 0)))) (tSeq (tAsg (tUn (rU fun i => .int (-i)) (tVar 0)) (gName 0))
  (tAsg (tUn (rU fun i => .int (-i)) (tVar 1)) (gName 1))) tNext)
  (tSeq (tAsg (tCall sp_common_divisor [] E0 (tCons (tCB rAbs (tCons (tVar 0) tNil)) (tCons (tVar 1) tNil))) (gName 2))
  (tRet (tTup (tCons (tOp (rI CDivW fun i j => .int (i / j)) (tVar 0) (tVar 2)) (tCons (tOp (rI CDivW fun i j => .int (i / j)) (tVar 1) (tVar 2)) tNil)))))))
theorem sc_number : FnScope n_number ["top", "bottom"] (defScope s_number) := ⟨rfl, rfl, rfl, by decide +kernel, rfl, by decide +kernel, by decide +kernel⟩
theorem ok_number {sp_common_divisor sp : Sp} (T : Txt K mg) (G_common_divisor : Cal P w K mg base 1 "common_divisor" ["first", "second"] sp_common_divisor) {f : Addr} {fd : FuncData} (F : Fun K "number" "number" s_number f fd)
    (len : ∀ vs H Q E, sp vs H Q E → vs.length = 2) (pure : ∀ vs H Q E, sp vs H Q E → t_number K sp_common_divisor { nx := fun _ H' => Q .non H', rt := Q } (start n_number vs) H) :
    FnOk P w K mg base CX0 2 f fd ["top", "bottom"] sp := by
  refine F.ok sc_number len (fun cdv A outer s H vs Q E hr h => ⟨t_number K sp_common_divisor, ?_, pure vs H Q E h⟩)
  exact (pss_cons (ps_if (pt_cmpR op_eq (pv 1) pe_int (nomark _)) (pss_one ps_never) pss_nil)
    (pss_cons (ps_if (pt_cmpR op_lt (pv 1) pe_int (nomark _)) (pss_cons (ps_set (i := 0) sc_number.nd rfl (Or.inl rfl) (pe_un un_neg (pv 0)))
    (pss_one (ps_set (i := 1) sc_number.nd rfl (Or.inl rfl) (pe_un un_neg (pv 1))))) pss_nil)
    (pss_cons (ps_set (i := 2) sc_number.nd rfl (Or.inl rfl) (pe_cal G_common_divisor (hr.mono (by decide)) rfl (pa_cons (pe_callB call_abs (by rfl) T.f_abs PyProof.Rows.boot_abs (pa_cons (pv 0) pa_nil)) (pa_cons (pv 1) pa_nil))))
    (pss_one (ps_ret (pe_tup (pa_cons (pe_op op_fdivW (pv 0) (pv 2)) (pa_cons (pe_op op_fdivW (pv 1) (pv 2)) pa_nil))))))))
theorem bi_number {f : Addr} {fd : FuncData} (F : Fun K "number" "number" s_number f fd) : Binds K fd ["top", "bottom"] [] := F.binds (ps := ["top", "bottom"]) fun _ _ _ _ _ _ us hl => match us, hl with | [_, _], _ => rfl
def n_plus : List Str := ["first", "second"]
def t_plus (K : PySem.W.Frag) (sp_number : Sp) : TS :=
  (tRet (tCall sp_number [] E0 (tCons (tOp (rI0 fun i j => .int (i + j)) (tOp (rI CMulW fun i j => .int (i * j)) (tOp (rIxT K) (tVar 0) (tC (.int 0))) (tOp (rIxT K) (tVar 1) (tC (.int 1)))) (tOp (rI CMulW fun i j => .int (i * j)) (tOp (rIxT K) (tVar 1) (tC (.int 0))) (tOp (rIxT K) (tVar 0) (tC (.int 1))))) (tCons (tOp (rI CMulW fun i j => .int (i * j)) (tOp (rIxT K) (tVar 0) (tC (.int 1))) (tOp (rIxT K) (tVar 1) (tC (.int 1)))) tNil))))
theorem sc_plus : FnScope n_plus ["first", "second"] (defScope s_plus) := ⟨rfl, rfl, rfl, by decide +kernel, rfl, by decide +kernel, by decide +kernel⟩
theorem ok_plus {sp_number sp : Sp} (T : Txt K mg) (G_number : Cal P w K mg base 2 "number" ["top", "bottom"] sp_number) {f : Addr} {fd : FuncData} (F : Fun K "plus" "plus" s_plus f fd)
    (len : ∀ vs H Q E, sp vs H Q E → vs.length = 2) (pure : ∀ vs H Q E, sp vs H Q E → t_plus K sp_number { nx := fun _ H' => Q .non H', rt := Q } (start n_plus vs) H) :
    FnOk P w K mg base CX0 3 f fd ["first", "second"] sp := by
  refine F.ok sc_plus len (fun cdv A outer s H vs Q E hr h => ⟨t_plus K sp_number, ?_, pure vs H Q E h⟩)
  exact (pss_one (ps_ret (pe_cal G_number (hr.mono (by decide)) rfl (pa_cons (pe_op op_add (pe_op op_mulW (pe_ix ix_tup (pv 0) pe_int (fun _ _ => rfl)) (pe_ix ix_tup (pv 1) pe_int (fun _ _ => rfl))) (pe_op op_mulW (pe_ix ix_tup (pv 1) pe_int (fun _ _ => rfl)) (pe_ix ix_tup (pv 0) pe_int (fun _ _ => rfl)))) (pa_cons (pe_op op_mulW (pe_ix ix_tup (pv 0) pe_int (fun _ _ => rfl)) (pe_ix ix_tup (pv 1) pe_int (fun _ _ => rfl))) pa_nil)))))
theorem bi_plus {f : Addr} {fd : FuncData} (F : Fun K "plus" "plus" s_plus f fd) : Binds K fd ["first", "second"] [] := F.binds (ps := ["first", "second"]) fun _ _ _ _ _ _ us hl => match us, hl with | [_, _], _ => rfl
def n_minus : List Str := ["first", "second"]
def t_minus (K : PySem.W.Frag) (sp_number : Sp) : TS :=
  (tRet (tCall sp_number [] E0 (tCons (tOp (rI0 fun i j => .int (i - j)) (tOp (rI CMulW fun i j => .int (i * j)) (tOp (rIxT K) (tVar 0) (tC (.int 0))) (tOp (rIxT K) (tVar 1) (tC (.int 1)))) (tOp (rI CMulW fun i j => .int (i * j)) (tOp (rIxT K) (tVar 1) (tC (.int 0))) (tOp (rIxT K) (tVar 0) (tC (.int 1))))) (tCons (tOp (rI CMulW fun i j => .int (i * j)) (tOp (rIxT K) (tVar 0) (tC (.int 1))) (tOp (rIxT K) (tVar 1) (tC (.int 1)))) tNil))))
theorem sc_minus : FnScope n_minus ["first", "second"] (defScope s_minus) := ⟨rfl, rfl, rfl, by decide +kernel, rfl, by decide +kernel, by decide +kernel⟩
theorem ok_minus {sp_number sp : Sp} (T : Txt K mg) (G_number : Cal P w K mg base 2 "number" ["top", "bottom"] sp_number) {f : Addr} {fd : FuncData} (F : Fun K "minus" "minus" s_minus f fd)
    (len : ∀ vs H Q E, sp vs H Q E → vs.length = 2) (pure : ∀ vs H Q E, sp vs H Q E → t_minus K sp_number { nx := fun _ H' => Q .non H', rt := Q } (start n_minus vs) H) :
    FnOk P w K mg base CX0 3 f fd ["first", "second"] sp := by
  refine F.ok sc_minus len (fun cdv A outer s H vs Q E hr h => ⟨t_minus K sp_number, ?_, pure vs H Q E h⟩)
  exact (pss_one (ps_ret (pe_cal G_number (hr.mono (by decide)) rfl (pa_cons (pe_op op_sub (pe_op op_mulW (pe_ix ix_tup (pv 0) pe_int (fun _ _ => rfl)) (pe_ix ix_tup (pv 1) pe_int (fun _ _ => rfl))) (pe_op op_mulW (pe_ix ix_tup (pv 1) pe_int (fun _ _ => rfl)) (pe_ix ix_tup (pv 0) pe_int (fun _ _ => rfl)))) (pa_cons (pe_op op_mulW (pe_ix ix_tup (pv 0) pe_int (fun _ _ => rfl)) (pe_ix ix_tup (pv 1) pe_int (fun _ _ => rfl))) pa_nil)))))
theorem bi_minus {f : Addr} {fd : FuncData} (F : Fun K "minus" "minus" s_minus f fd) : Binds K fd ["first", "second"] [] := F.binds (ps := ["first", "second"]) fun _ _ _ _ _ _ us hl => match us, hl with | [_, _], _ => rfl
def n_times : List Str := ["first", "second"]
def t_times (K : PySem.W.Frag) (sp_number : Sp) : TS :=
  (tRet (tCall sp_number [] E0 (tCons (tOp (rI CMulW fun i j => .int (i * j)) (tOp (rIxT K) (tVar 0) (tC (.int 0))) (tOp (rIxT K) (tVar 1) (tC (.int 0)))) (tCons (tOp (rI CMulW fun i j => .int (i * j)) (tOp (rIxT K) (tVar 0) (tC (.int 1))) (tOp (rIxT K) (tVar 1) (tC (.int 1)))) tNil))))
theorem sc_times : FnScope n_times ["first", "second"] (defScope s_times) := ⟨rfl, rfl, rfl, by decide +kernel, rfl, by decide +kernel, by decide +kernel⟩
theorem ok_times {sp_number sp : Sp} (T : Txt K mg) (G_number : Cal P w K mg base 2 "number" ["top", "bottom"] sp_number) {f : Addr} {fd : FuncData} (F : Fun K "times" "times" s_times f fd)
    (len : ∀ vs H Q E, sp vs H Q E → vs.length = 2) (pure : ∀ vs H Q E, sp vs H Q E → t_times K sp_number { nx := fun _ H' => Q .non H', rt := Q } (start n_times vs) H) :
    FnOk P w K mg base CX0 3 f fd ["first", "second"] sp := by
  refine F.ok sc_times len (fun cdv A outer s H vs Q E hr h => ⟨t_times K sp_number, ?_, pure vs H Q E h⟩)
  exact (pss_one (ps_ret (pe_cal G_number (hr.mono (by decide)) rfl (pa_cons (pe_op op_mulW (pe_ix ix_tup (pv 0) pe_int (fun _ _ => rfl)) (pe_ix ix_tup (pv 1) pe_int (fun _ _ => rfl))) (pa_cons (pe_op op_mulW (pe_ix ix_tup (pv 0) pe_int (fun _ _ => rfl)) (pe_ix ix_tup (pv 1) pe_int (fun _ _ => rfl))) pa_nil)))))
theorem bi_times {f : Addr} {fd : FuncData} (F : Fun K "times" "times" s_times f fd) : Binds K fd ["first", "second"] [] := F.binds (ps := ["first", "second"]) fun _ _ _ _ _ _ us hl => match us, hl with | [_, _], _ => rfl
def n_over : List Str := ["first", "second"]
def t_over (K : PySem.W.Frag) (sp_number : Sp) : TS :=
  (tRet (tCall sp_number [] E0 (tCons (tOp (rI CMulW fun i j => .int (i * j)) (tOp (rIxT K) (tVar 0) (tC (.int 0))) (tOp (rIxT K) (tVar 1) (tC (.int 1)))) (tCons (tOp (rI CMulW fun i j => .int (i * j)) (tOp (rIxT K) (tVar 0) (tC (.int 1))) (tOp (rIxT K) (tVar 1) (tC (.int 0)))) tNil))))
theorem sc_over : FnScope n_over ["first", "second"] (defScope s_over) := ⟨rfl, rfl, rfl, by decide +kernel, rfl, by decide +kernel, by decide +kernel⟩
theorem ok_over {sp_number sp : Sp} (T : Txt K mg) (G_number : Cal P w K mg base 2 "number" ["top", "bottom"] sp_number) {f : Addr} {fd : FuncData} (F : Fun K "over" "over" s_over f fd)
    (len : ∀ vs H Q E, sp vs H Q E → vs.length = 2) (pure : ∀ vs H Q E, sp vs H Q E → t_over K sp_number { nx := fun _ H' => Q .non H', rt := Q } (start n_over vs) H) :
    FnOk P w K mg base CX0 3 f fd ["first", "second"] sp := by
  refine F.ok sc_over len (fun cdv A outer s H vs Q E hr h => ⟨t_over K sp_number, ?_, pure vs H Q E h⟩)
  exact (pss_one (ps_ret (pe_cal G_number (hr.mono (by decide)) rfl (pa_cons (pe_op op_mulW (pe_ix ix_tup (pv 0) pe_int (fun _ _ => rfl)) (pe_ix ix_tup (pv 1) pe_int (fun _ _ => rfl))) (pa_cons (pe_op op_mulW (pe_ix ix_tup (pv 0) pe_int (fun _ _ => rfl)) (pe_ix ix_tup (pv 1) pe_int (fun _ _ => rfl))) pa_nil)))))
theorem bi_over {f : Addr} {fd : FuncData} (F : Fun K "over" "over" s_over f fd) : Binds K fd ["first", "second"] [] := F.binds (ps := ["first", "second"]) fun _ _ _ _ _ _ us hl => match us, hl with | [_, _], _ => rfl
def n_compare : List Str := ["first", "second", "left", "right"]
def t_compare (K : PySem.W.Frag) : TS :=
  (tSeq (tAsg (tOp (rI CMulW fun i j => .int (i * j)) (tOp (rIxT K) (tVar 0) (tC (.int 0))) (tOp (rIxT K) (tVar 1) (tC (.int 1)))) (gName 2))
  (tSeq (tAsg (tOp (rI CMulW fun i j => .int (i * j)) (tOp (rIxT K) (tVar 1) (tC (.int 0))) (tOp (rIxT K) (tVar 0) (tC (.int 1)))) (gName 3))
  (tSeq (tIfS (tTest (tOp (rI0 fun i j => .bl (decide (i < j))) (tVar 2) (tVar 3))) (tRet (tUn (rU fun i => .int (-i)) (tC (.int 1)))) tNext)
  (tSeq (tIfS (tTest (tOp (rI0 fun i j => .bl (decide (j < i))) (tVar 2) (tVar 3))) (tRet (tC (.int 1))) tNext)
  (tRet (tC (.int 0)))))))
theorem sc_compare : FnScope n_compare ["first", "second"] (defScope s_compare) := ⟨rfl, rfl, rfl, by decide +kernel, rfl, by decide +kernel, by decide +kernel⟩
theorem ok_compare {sp : Sp} (T : Txt K mg)  {f : Addr} {fd : FuncData} (F : Fun K "compare" "compare" s_compare f fd)
    (len : ∀ vs H Q E, sp vs H Q E → vs.length = 2) (pure : ∀ vs H Q E, sp vs H Q E → t_compare K  { nx := fun _ H' => Q .non H', rt := Q } (start n_compare vs) H) :
    FnOk P w K mg base CX0 1 f fd ["first", "second"] sp := by
  refine F.ok sc_compare len (fun cdv A outer s H vs Q E hr h => ⟨t_compare K , ?_, pure vs H Q E h⟩)
  exact (pss_cons (ps_set (i := 2) sc_compare.nd rfl (Or.inl rfl) (pe_op op_mulW (pe_ix ix_tup (pv 0) pe_int (fun _ _ => rfl)) (pe_ix ix_tup (pv 1) pe_int (fun _ _ => rfl))))
    (pss_cons (ps_set (i := 3) sc_compare.nd rfl (Or.inl rfl) (pe_op op_mulW (pe_ix ix_tup (pv 1) pe_int (fun _ _ => rfl)) (pe_ix ix_tup (pv 0) pe_int (fun _ _ => rfl))))
    (pss_cons (ps_if (pt_cmpR op_lt (pv 2) (pv 3) (nomark _)) (pss_one (ps_ret (pe_un un_neg pe_int))) pss_nil)
    (pss_cons (ps_if (pt_cmpR op_gt (pv 2) (pv 3) (nomark _)) (pss_one (ps_ret pe_int)) pss_nil)
    (pss_one (ps_ret pe_int))))))
theorem bi_compare {f : Addr} {fd : FuncData} (F : Fun K "compare" "compare" s_compare f fd) : Binds K fd ["first", "second"] [] := F.binds (ps := ["first", "second"]) fun _ _ _ _ _ _ us hl => match us, hl with | [_, _], _ => rfl
def n_is_less : List Str := ["first", "second"]
def t_is_less (K : PySem.W.Frag) (sp_compare : Sp) : TS :=
  (tRet (tOp (rI0 fun i j => .bl (decide (i < j))) (tCall sp_compare [] E0 (tCons (tVar 0) (tCons (tVar 1) tNil))) (tC (.int 0))))
theorem sc_is_less : FnScope n_is_less ["first", "second"] (defScope s_is_less) := ⟨rfl, rfl, rfl, by decide +kernel, rfl, by decide +kernel, by decide +kernel⟩
theorem ok_is_less {sp_compare sp : Sp} (T : Txt K mg) (G_compare : Cal P w K mg base 1 "compare" ["first", "second"] sp_compare) {f : Addr} {fd : FuncData} (F : Fun K "is_less" "is_less" s_is_less f fd)
    (len : ∀ vs H Q E, sp vs H Q E → vs.length = 2) (pure : ∀ vs H Q E, sp vs H Q E → t_is_less K sp_compare { nx := fun _ H' => Q .non H', rt := Q } (start n_is_less vs) H) :
    FnOk P w K mg base CX0 2 f fd ["first", "second"] sp := by
  refine F.ok sc_is_less len (fun cdv A outer s H vs Q E hr h => ⟨t_is_less K sp_compare, ?_, pure vs H Q E h⟩)
  exact (pss_one (ps_ret (pe_cmpR op_lt (pe_cal G_compare (hr.mono (by decide)) rfl (pa_cons (pv 0) (pa_cons (pv 1) pa_nil))) pe_int (nomark _))))
theorem bi_is_less {f : Addr} {fd : FuncData} (F : Fun K "is_less" "is_less" s_is_less f fd) : Binds K fd ["first", "second"] [] := F.binds (ps := ["first", "second"]) fun _ _ _ _ _ _ us hl => match us, hl with | [_, _], _ => rfl
def n_least_of : List Str := ["values", "best", "value"]
def t_least_of (K : PySem.W.Frag) (sp_is_less : Sp) : TS :=
  (tSeq (tAsg (tOp (rIxL K) (tVar 0) (tC (.int 0))) (gName 1))
  (tSeq (tFor (iList K (tSl (rSlL K) (tVar 0) (tPart (tC (.int 1))) tNoPart)) (gName 2) (tIfS (tB (tCall sp_is_less [] E0 (tCons (tVar 2) (tCons (tVar 1) tNil)))) (tAsg (tVar 2) (gName 1)) tNext))
  (tRet (tVar 1))))
theorem sc_least_of : FnScope n_least_of ["values"] (defScope s_least_of) := ⟨rfl, rfl, rfl, by decide +kernel, rfl, by decide +kernel, by decide +kernel⟩
theorem ok_least_of {sp_is_less sp : Sp} (T : Txt K mg) (G_is_less : Cal P w K mg base 2 "is_less" ["first", "second"] sp_is_less) {f : Addr} {fd : FuncData} (F : Fun K "least_of" "least_of" s_least_of f fd)
    (len : ∀ vs H Q E, sp vs H Q E → vs.length = 1) (pure : ∀ vs H Q E, sp vs H Q E → t_least_of K sp_is_less { nx := fun _ H' => Q .non H', rt := Q } (start n_least_of vs) H) :
    FnOk P w K mg base CX0 3 f fd ["values"] sp := by
  refine F.ok sc_least_of len (fun cdv A outer s H vs Q E hr h => ⟨t_least_of K sp_is_less, ?_, pure vs H Q E h⟩)
  exact (pss_cons (ps_set (i := 1) sc_least_of.nd rfl (Or.inl rfl) (pe_ix ix_list (pv 0) pe_int (fun _ _ => rfl)))
    (pss_cons (ps_for PassesOwn.never rfl (pi_list (pe_slice sl_list (pv 0) (po_some pe_int) po_none)) (pg_name (i := 2) sc_least_of.nd rfl (Or.inl rfl)) (pss_one (ps_if (pt_val (pe_cal G_is_less (hr.mono (by decide)) rfl (pa_cons (pv 2) (pa_cons (pv 1) pa_nil)))) (pss_one (ps_set (i := 1) sc_least_of.nd rfl (Or.inl rfl) (pv 2))) pss_nil)))
    (pss_one (ps_ret (pv 1)))))
theorem bi_least_of {f : Addr} {fd : FuncData} (F : Fun K "least_of" "least_of" s_least_of f fd) : Binds K fd ["values"] [] := F.binds (ps := ["values"]) fun _ _ _ _ _ _ us hl => match us, hl with | [_], _ => rfl
def n_greatest_of : List Str := ["values", "best", "value"]
def t_greatest_of (K : PySem.W.Frag) (sp_is_less : Sp) : TS :=
  (tSeq (tAsg (tOp (rIxL K) (tVar 0) (tC (.int 0))) (gName 1))
  (tSeq (tFor (iList K (tSl (rSlL K) (tVar 0) (tPart (tC (.int 1))) tNoPart)) (gName 2) (tIfS (tB (tCall sp_is_less [] E0 (tCons (tVar 1) (tCons (tVar 2) tNil)))) (tAsg (tVar 2) (gName 1)) tNext))
  (tRet (tVar 1))))
theorem sc_greatest_of : FnScope n_greatest_of ["values"] (defScope s_greatest_of) := ⟨rfl, rfl, rfl, by decide +kernel, rfl, by decide +kernel, by decide +kernel⟩
theorem ok_greatest_of {sp_is_less sp : Sp} (T : Txt K mg) (G_is_less : Cal P w K mg base 2 "is_less" ["first", "second"] sp_is_less) {f : Addr} {fd : FuncData} (F : Fun K "greatest_of" "greatest_of" s_greatest_of f fd)
    (len : ∀ vs H Q E, sp vs H Q E → vs.length = 1) (pure : ∀ vs H Q E, sp vs H Q E → t_greatest_of K sp_is_less { nx := fun _ H' => Q .non H', rt := Q } (start n_greatest_of vs) H) :
    FnOk P w K mg base CX0 3 f fd ["values"] sp := by
  refine F.ok sc_greatest_of len (fun cdv A outer s H vs Q E hr h => ⟨t_greatest_of K sp_is_less, ?_, pure vs H Q E h⟩)
  exact (pss_cons (ps_set (i := 1) sc_greatest_of.nd rfl (Or.inl rfl) (pe_ix ix_list (pv 0) pe_int (fun _ _ => rfl)))
    (pss_cons (ps_for PassesOwn.never rfl (pi_list (pe_slice sl_list (pv 0) (po_some pe_int) po_none)) (pg_name (i := 2) sc_greatest_of.nd rfl (Or.inl rfl)) (pss_one (ps_if (pt_val (pe_cal G_is_less (hr.mono (by decide)) rfl (pa_cons (pv 1) (pa_cons (pv 2) pa_nil)))) (pss_one (ps_set (i := 1) sc_greatest_of.nd rfl (Or.inl rfl) (pv 2))) pss_nil)))
    (pss_one (ps_ret (pv 1)))))
theorem bi_greatest_of {f : Addr} {fd : FuncData} (F : Fun K "greatest_of" "greatest_of" s_greatest_of f fd) : Binds K fd ["values"] [] := F.binds (ps := ["values"]) fun _ _ _ _ _ _ us hl => match us, hl with | [_], _ => rfl
def n_ascending : List Str := ["values", "made", "value", "place", "other"]
def t_ascending (K : PySem.W.Frag) (sp_is_less : Sp) : TS :=
  (tSeq (tAsg (tLst tNil) (gName 1))
  (tSeq (tFor (iList K (tVar 0)) (gName 2) (tIfS (tTest (tOp (rNotInD K) (tVar 2) (tVar 1))) (tSeq (tAsg (tCB (rLenQ K) (tCons (tLc (iList K (tVar 1)) (gName 4) (tB (tCall sp_is_less [] E0 (tCons (tVar 4) (tCons (tVar 2) tNil)))) (tVar 4) [4]) tNil)) (gName 3))
  (tDrop (tBM K "list" rInsert (tVar 1) (tCons (tVar 3) (tCons (tVar 2) tNil))))) tNext))
  (tRet (tVar 1))))
theorem sc_ascending : FnScope n_ascending ["values"] (defScope s_ascending) := ⟨rfl, rfl, rfl, by decide +kernel, rfl, by decide +kernel, by decide +kernel⟩
theorem ok_ascending {sp_is_less sp : Sp} (T : Txt K mg) (G_is_less : Cal P w K mg base 2 "is_less" ["first", "second"] sp_is_less) {f : Addr} {fd : FuncData} (F : Fun K "ascending" "ascending" s_ascending f fd)
    (len : ∀ vs H Q E, sp vs H Q E → vs.length = 1) (pure : ∀ vs H Q E, sp vs H Q E → t_ascending K sp_is_less { nx := fun _ H' => Q .non H', rt := Q } (start n_ascending vs) H) :
    FnOk P w K mg base CX0 3 f fd ["values"] sp := by
  refine F.ok sc_ascending len (fun cdv A outer s H vs Q E hr h => ⟨t_ascending K sp_is_less, ?_, pure vs H Q E h⟩)
  exact (pss_cons (ps_set (i := 1) sc_ascending.nd rfl (Or.inl rfl) (pe_lst pa_nil))
    (pss_cons (ps_for PassesOwn.never rfl (pi_list (pv 0)) (pg_name (i := 2) sc_ascending.nd rfl (Or.inr rfl)) (pss_one (ps_if (pt_cmpR (op_notInD (Room.u65 hr)) (pv 2) (pv 1) (by rfl)) (pss_cons (ps_set (i := 3) sc_ascending.nd rfl (Or.inl rfl) (pe_callB call_len_seq (by rfl) T.f_len PySem.boot_len (pa_cons (pe_lc (own := [("other", 4)]) (g := (gName 4)) rfl sc_ascending.nd (pi_list (pv 1)) (blkOk_by (own := [("other", 4)]) (N := n_ascending) (sc := defScope s_ascending) (by decide +kernel)) (fun _ _ _ _ _ => (pg_name (i := 4) sc_ascending.nd rfl (Or.inl rfl))) (fun _ _ _ _ _ => pts_one (pt_val (pe_cal G_is_less (hr.mono (by decide)) rfl (pa_cons (pv 4) (pa_cons (pv 2) pa_nil))))) (fun _ _ _ _ _ => (pv 4))) pa_nil)))
    (pss_one (ps_expr (pe_bm PySem.F.plainAttrs_list PySem.F.slot_list_insert PySem.F.type_list_insert mt_insert (pv 1) (pa_cons (pv 3) (pa_cons (pv 2) pa_nil)))))) pss_nil)))
    (pss_one (ps_ret (pv 1)))))
theorem bi_ascending {f : Addr} {fd : FuncData} (F : Fun K "ascending" "ascending" s_ascending f fd) : Binds K fd ["values"] [] := F.binds (ps := ["values"]) fun _ _ _ _ _ _ us hl => match us, hl with | [_], _ => rfl
def n_value_in : List Str := ["piece", "place", "a", "b", "c"]
def t_value_in (K : PySem.W.Frag) (sp_times sp_plus : Sp) : TS :=
  (tSeq (tAsg (tOp (rIxT K) (tVar 0) (tC (.int 1))) (gTup K 3 (gCons (gName 2) (gCons (gName 3) (gCons (gName 4) gNil)))))
  (tRet (tCall sp_plus [] E0 (tCons (tVar 2) (tCons (tCall sp_times [] E0 (tCons (tVar 1) (tCons (tCall sp_plus [] E0 (tCons (tVar 3) (tCons (tCall sp_times [] E0 (tCons (tVar 4) (tCons (tVar 1) tNil))) tNil))) tNil))) tNil)))))
theorem sc_value_in : FnScope n_value_in ["piece", "place"] (defScope s_value_in) := ⟨rfl, rfl, rfl, by decide +kernel, rfl, by decide +kernel, by decide +kernel⟩
theorem ok_value_in {sp_times sp_plus sp : Sp} (T : Txt K mg) (G_times : Cal P w K mg base 3 "times" ["first", "second"] sp_times) (G_plus : Cal P w K mg base 3 "plus" ["first", "second"] sp_plus) {f : Addr} {fd : FuncData} (F : Fun K "value_in" "value_in" s_value_in f fd)
    (len : ∀ vs H Q E, sp vs H Q E → vs.length = 2) (pure : ∀ vs H Q E, sp vs H Q E → t_value_in K sp_times sp_plus { nx := fun _ H' => Q .non H', rt := Q } (start n_value_in vs) H) :
    FnOk P w K mg base CX0 4 f fd ["piece", "place"] sp := by
  refine F.ok sc_value_in len (fun cdv A outer s H vs Q E hr h => ⟨t_value_in K sp_times sp_plus, ?_, pure vs H Q E h⟩)
  exact (pss_cons (ps_asg (pe_ix ix_tup (pv 0) pe_int (fun _ _ => rfl)) (pg_tup rfl (pgs_cons (pg_name (i := 2) sc_value_in.nd rfl (Or.inl rfl)) (pgs_cons (pg_name (i := 3) sc_value_in.nd rfl (Or.inl rfl)) (pgs_cons (pg_name (i := 4) sc_value_in.nd rfl (Or.inl rfl)) pgs_nil)))))
    (pss_one (ps_ret (pe_cal G_plus (hr.mono (by decide)) rfl (pa_cons (pv 2) (pa_cons (pe_cal G_times (hr.mono (by decide)) rfl (pa_cons (pv 1) (pa_cons (pe_cal G_plus (hr.mono (by decide)) rfl (pa_cons (pv 3) (pa_cons (pe_cal G_times (hr.mono (by decide)) rfl (pa_cons (pv 4) (pa_cons (pv 1) pa_nil))) pa_nil))) pa_nil))) pa_nil))))))
theorem bi_value_in {f : Addr} {fd : FuncData} (F : Fun K "value_in" "value_in" s_value_in f fd) : Binds K fd ["piece", "place"] [] := F.binds (ps := ["piece", "place"]) fun _ _ _ _ _ _ us hl => match us, hl with | [_, _], _ => rfl
def n_slope_in : List Str := ["piece", "place"]
def t_slope_in (K : PySem.W.Frag) (sp_times sp_plus : Sp) : TS :=
  (tRet (tCall sp_plus [] E0 (tCons (tOp (rIxT K) (tOp (rIxT K) (tVar 0) (tC (.int 1))) (tC (.int 1))) (tCons (tCall sp_times [] E0 (tCons (tC (.ref (He.ga K "TWO"))) (tCons (tCall sp_times [] E0 (tCons (tOp (rIxT K) (tOp (rIxT K) (tVar 0) (tC (.int 1))) (tC (.int 2))) (tCons (tVar 1) tNil))) tNil))) tNil))))
theorem sc_slope_in : FnScope n_slope_in ["piece", "place"] (defScope s_slope_in) := ⟨rfl, rfl, rfl, by decide +kernel, rfl, by decide +kernel, by decide +kernel⟩
theorem ok_slope_in {sp_times sp_plus sp : Sp} (T : Txt K mg) (G_times : Cal P w K mg base 3 "times" ["first", "second"] sp_times) (G_plus : Cal P w K mg base 3 "plus" ["first", "second"] sp_plus) {f : Addr} {fd : FuncData} (F : Fun K "slope_in" "slope_in" s_slope_in f fd)
    (len : ∀ vs H Q E, sp vs H Q E → vs.length = 2) (pure : ∀ vs H Q E, sp vs H Q E → t_slope_in K sp_times sp_plus { nx := fun _ H' => Q .non H', rt := Q } (start n_slope_in vs) H) :
    FnOk P w K mg base CX0 4 f fd ["piece", "place"] sp := by
  refine F.ok sc_slope_in len (fun cdv A outer s H vs Q E hr h => ⟨t_slope_in K sp_times sp_plus, ?_, pure vs H Q E h⟩)
  exact (pss_one (ps_ret (pe_cal G_plus (hr.mono (by decide)) rfl (pa_cons (pe_ix ix_tup (pe_ix ix_tup (pv 0) pe_int (fun _ _ => rfl)) pe_int (fun _ _ => rfl)) (pa_cons (pe_cal G_times (hr.mono (by decide)) rfl (pa_cons (pe_glob rfl T.g_TWO rfl) (pa_cons (pe_cal G_times (hr.mono (by decide)) rfl (pa_cons (pe_ix ix_tup (pe_ix ix_tup (pv 0) pe_int (fun _ _ => rfl)) pe_int (fun _ _ => rfl)) (pa_cons (pv 1) pa_nil))) pa_nil))) pa_nil)))))
theorem bi_slope_in {f : Addr} {fd : FuncData} (F : Fun K "slope_in" "slope_in" s_slope_in f fd) : Binds K fd ["piece", "place"] [] := F.binds (ps := ["piece", "place"]) fun _ _ _ _ _ _ us hl => match us, hl with | [_, _], _ => rfl
def n_track_of_clips : List Str := ["clip", "prop", "found", "name", "track"]
def t_track_of_clips (K : PySem.W.Frag) : TS :=
  (tSeq (tAsg (tTup tNil) (gName 2))
  (tSeq (tFor (iTup K (tOp (rIxT K) (tVar 0) (tC (.int 1)))) (gTup K 2 (gCons (gName 3) (gCons (gName 4) gNil))) (tIfS (tTest (tOp rEq (tVar 3) (tVar 1))) (tAsg (tVar 4) (gName 2)) tNext))
  (tRet (tVar 2))))
theorem sc_track_of_clips : FnScope n_track_of_clips ["clip", "prop"] (defScope s_track_of_clips) := ⟨rfl, rfl, rfl, by decide +kernel, rfl, by decide +kernel, by decide +kernel⟩
theorem ok_track_of_clips {sp : Sp} (T : Txt K mg)  {f : Addr} {fd : FuncData} (F : Fun K "track_of" "track_of" s_track_of_clips f fd)
    (len : ∀ vs H Q E, sp vs H Q E → vs.length = 2) (pure : ∀ vs H Q E, sp vs H Q E → t_track_of_clips K  { nx := fun _ H' => Q .non H', rt := Q } (start n_track_of_clips vs) H) :
    FnOk P w K mg base CX0 1 f fd ["clip", "prop"] sp := by
  refine F.ok sc_track_of_clips len (fun cdv A outer s H vs Q E hr h => ⟨t_track_of_clips K , ?_, pure vs H Q E h⟩)
  exact (pss_cons (ps_set (i := 2) sc_track_of_clips.nd rfl (Or.inl rfl) (pe_tup pa_nil))
    (pss_cons (ps_for PassesOwn.never rfl (pi_tup (pe_ix ix_tup (pv 0) pe_int (fun _ _ => rfl))) (pg_tup rfl (pgs_cons (pg_name (i := 3) sc_track_of_clips.nd rfl (Or.inl rfl)) (pgs_cons (pg_name (i := 4) sc_track_of_clips.nd rfl (Or.inl rfl)) pgs_nil))) (pss_one (ps_if (pt_cmpR op_eq (pv 3) (pv 1) (nomark _)) (pss_one (ps_set (i := 2) sc_track_of_clips.nd rfl (Or.inl rfl) (pv 4))) pss_nil)))
    (pss_one (ps_ret (pv 2)))))
theorem bi_track_of_clips {f : Addr} {fd : FuncData} (F : Fun K "track_of" "track_of" s_track_of_clips f fd) : Binds K fd ["clip", "prop"] [] := F.binds (ps := ["clip", "prop"]) fun _ _ _ _ _ _ us hl => match us, hl with | [_, _], _ => rfl
def n_piece_at : List Str := ["track", "position", "back", "start", "k", "end", "order"]
def t_piece_at (K : PySem.W.Frag) (sp_plus sp_compare sp_minus : Sp) : TS :=
  (tSeq (tAsg (tC (.ref (He.ga K "ZERO"))) (gName 3))
  (tSeq (tFor (iRng1 (tCons (tCB (rLenQ K) (tCons (tVar 0) tNil)) tNil)) (gName 4) (tSeq (tAsg (tCall sp_plus [] E0 (tCons (tVar 3) (tCons (tOp (rIxT K) (tOp (rIxT K) (tVar 0) (tVar 4)) (tC (.int 0))) tNil))) (gName 5))
  (tSeq (tAsg (tCall sp_compare [] E0 (tCons (tVar 1) (tCons (tVar 5) tNil))) (gName 6))
  (tSeq (tIfS (tOr (tTest (tOp (rI0 fun i j => .bl (decide (i < j))) (tVar 6) (tC (.int 0)))) (tOr (tAnd (tB (tVar 2)) (tTest (tOp rEq (tVar 6) (tC (.int 0))))) (tTest (tOp rEq (tOp (rI0 fun i j => .int (i + j)) (tVar 4) (tC (.int 1))) (tCB (rLenQ K) (tCons (tVar 0) tNil)))))) (tRet (tTup (tCons (tOp (rIxT K) (tVar 0) (tVar 4)) (tCons (tCall sp_minus [] E0 (tCons (tVar 1) (tCons (tVar 3) tNil))) tNil)))) tNext)
  (tAsg (tVar 5) (gName 3))))))
  (tRet (tTup (tCons (tOp (rIxT K) (tVar 0) (tUn (rU fun i => .int (-i)) (tC (.int 1)))) (tCons (tC (.ref (He.ga K "ZERO"))) tNil))))))
theorem sc_piece_at : FnScope n_piece_at ["track", "position", "back"] (defScope s_piece_at) := ⟨rfl, rfl, rfl, by decide +kernel, rfl, by decide +kernel, by decide +kernel⟩
theorem ok_piece_at {sp_plus sp_compare sp_minus sp : Sp} (T : Txt K mg) (G_plus : Cal P w K mg base 3 "plus" ["first", "second"] sp_plus) (G_compare : Cal P w K mg base 1 "compare" ["first", "second"] sp_compare) (G_minus : Cal P w K mg base 3 "minus" ["first", "second"] sp_minus) {f : Addr} {fd : FuncData} (F : Fun K "piece_at" "piece_at" s_piece_at f fd)
    (len : ∀ vs H Q E, sp vs H Q E → vs.length = 3) (pure : ∀ vs H Q E, sp vs H Q E → t_piece_at K sp_plus sp_compare sp_minus { nx := fun _ H' => Q .non H', rt := Q } (start n_piece_at vs) H) :
    FnOk P w K mg base CX0 4 f fd ["track", "position", "back"] sp := by
  refine F.ok sc_piece_at len (fun cdv A outer s H vs Q E hr h => ⟨t_piece_at K sp_plus sp_compare sp_minus, ?_, pure vs H Q E h⟩)
  exact (pss_cons (ps_set (i := 3) sc_piece_at.nd rfl (Or.inl rfl) (pe_glob rfl T.g_ZERO rfl))
    (pss_cons (ps_for PassesOwn.never rfl (pi_range1 (by rfl) T.f_range (pa_cons (pe_callB call_len_seq (by rfl) T.f_len PySem.boot_len (pa_cons (pv 0) pa_nil)) pa_nil)) (pg_name (i := 4) sc_piece_at.nd rfl (Or.inl rfl)) (pss_cons (ps_set (i := 5) sc_piece_at.nd rfl (Or.inl rfl) (pe_cal G_plus (hr.mono (by decide)) rfl (pa_cons (pv 3) (pa_cons (pe_ix ix_tup (pe_ix ix_tup (pv 0) (pv 4) (fun _ _ => rfl)) pe_int (fun _ _ => rfl)) pa_nil))))
    (pss_cons (ps_set (i := 6) sc_piece_at.nd rfl (Or.inl rfl) (pe_cal G_compare (hr.mono (by decide)) rfl (pa_cons (pv 1) (pa_cons (pv 5) pa_nil))))
    (pss_cons (ps_if (PW.pt (pw_or (pt_cmpR op_lt (pv 6) pe_int (nomark _)) (pw_or (PW.pt (pw_and (pt_val (pv 2)) (pw_and1 (pt_cmpR op_eq (pv 6) pe_int (nomark _))))) (pw_or1 (pt_cmpR op_eq (pe_op op_add (pv 4) pe_int) (pe_callB call_len_seq (by rfl) T.f_len PySem.boot_len (pa_cons (pv 0) pa_nil)) (nomark _)))))) (pss_one (ps_ret (pe_tup (pa_cons (pe_ix ix_tup (pv 0) (pv 4) (fun _ _ => rfl)) (pa_cons (pe_cal G_minus (hr.mono (by decide)) rfl (pa_cons (pv 1) (pa_cons (pv 3) pa_nil))) pa_nil))))) pss_nil)
    (pss_one (ps_set (i := 3) sc_piece_at.nd rfl (Or.inl rfl) (pv 5)))))))
    (pss_one (ps_ret (pe_tup (pa_cons (pe_ix ix_tup (pv 0) (pe_un un_neg pe_int) (fun _ _ => rfl)) (pa_cons (pe_glob rfl T.g_ZERO rfl) pa_nil)))))))
theorem bi_piece_at {f : Addr} {fd : FuncData} (F : Fun K "piece_at" "piece_at" s_piece_at f fd) : Binds K fd ["track", "position", "back"] [] := F.binds (ps := ["track", "position", "back"]) fun _ _ _ _ _ _ us hl => match us, hl with | [_, _, _], _ => rfl
def n_value_at : List Str := ["clip", "prop", "position", "piece", "place"]
def t_value_at (K : PySem.W.Frag) (sp_track_of_clips sp_piece_at sp_value_in : Sp) : TS :=
  (tSeq (tAsg (tCall sp_piece_at [] E0 (tCons (tCall sp_track_of_clips [] E0 (tCons (tVar 0) (tCons (tVar 1) tNil))) (tCons (tVar 2) (tCons (tC (.bl false)) tNil)))) (gTup K 2 (gCons (gName 3) (gCons (gName 4) gNil))))
  (tRet (tCall sp_value_in [] E0 (tCons (tVar 3) (tCons (tVar 4) tNil)))))
theorem sc_value_at : FnScope n_value_at ["clip", "prop", "position"] (defScope s_value_at) := ⟨rfl, rfl, rfl, by decide +kernel, rfl, by decide +kernel, by decide +kernel⟩
theorem ok_value_at {sp_track_of_clips sp_piece_at sp_value_in sp : Sp} (T : Txt K mg) (G_track_of_clips : Cal P w K mg base 1 "track_of_clips" ["clip", "prop"] sp_track_of_clips) (G_piece_at : Cal P w K mg base 4 "piece_at" ["track", "position", "back"] sp_piece_at) (G_value_in : Cal P w K mg base 4 "value_in" ["piece", "place"] sp_value_in) {f : Addr} {fd : FuncData} (F : Fun K "value_at" "value_at" s_value_at f fd)
    (len : ∀ vs H Q E, sp vs H Q E → vs.length = 3) (pure : ∀ vs H Q E, sp vs H Q E → t_value_at K sp_track_of_clips sp_piece_at sp_value_in { nx := fun _ H' => Q .non H', rt := Q } (start n_value_at vs) H) :
    FnOk P w K mg base CX0 5 f fd ["clip", "prop", "position"] sp := by
  refine F.ok sc_value_at len (fun cdv A outer s H vs Q E hr h => ⟨t_value_at K sp_track_of_clips sp_piece_at sp_value_in, ?_, pure vs H Q E h⟩)
  exact (pss_cons (ps_asg (pe_cal G_piece_at (hr.mono (by decide)) rfl (pa_cons (pe_cal G_track_of_clips (hr.mono (by decide)) rfl (pa_cons (pv 0) (pa_cons (pv 1) pa_nil))) (pa_cons (pv 2) (pa_cons pe_bl pa_nil)))) (pg_tup rfl (pgs_cons (pg_name (i := 3) sc_value_at.nd rfl (Or.inl rfl)) (pgs_cons (pg_name (i := 4) sc_value_at.nd rfl (Or.inl rfl)) pgs_nil))))
    (pss_one (ps_ret (pe_cal G_value_in (hr.mono (by decide)) rfl (pa_cons (pv 3) (pa_cons (pv 4) pa_nil))))))
theorem bi_value_at {f : Addr} {fd : FuncData} (F : Fun K "value_at" "value_at" s_value_at f fd) : Binds K fd ["clip", "prop", "position"] [] := F.binds (ps := ["clip", "prop", "position"]) fun _ _ _ _ _ _ us hl => match us, hl with | [_, _, _], _ => rfl
def n_turning_place_clips : List Str := ["piece", "place"]
def t_turning_place_clips (K : PySem.W.Frag) (sp_times sp_minus sp_over sp_is_less : Sp) : TS :=
  (tSeq (tIfS (tTest (tOp (rEqD K) (tOp (rIxT K) (tOp (rIxT K) (tVar 0) (tC (.int 1))) (tC (.int 2))) (tC (.ref (He.ga K "ZERO"))))) (tRet (tC .non)) tNext)
  (tSeq (tAsg (tCall sp_over [] E0 (tCons (tCall sp_minus [] E0 (tCons (tC (.ref (He.ga K "ZERO"))) (tCons (tOp (rIxT K) (tOp (rIxT K) (tVar 0) (tC (.int 1))) (tC (.int 1))) tNil))) (tCons (tCall sp_times [] E0 (tCons (tC (.ref (He.ga K "TWO"))) (tCons (tOp (rIxT K) (tOp (rIxT K) (tVar 0) (tC (.int 1))) (tC (.int 2))) tNil))) tNil))) (gName 1))
  (tSeq (tIfS (tAnd (tB (tCall sp_is_less [] E0 (tCons (tC (.ref (He.ga K "ZERO"))) (tCons (tVar 1) tNil)))) (tB (tCall sp_is_less [] E0 (tCons (tVar 1) (tCons (tOp (rIxT K) (tVar 0) (tC (.int 0))) tNil))))) (tRet (tVar 1)) tNext)
  (tRet (tC .non)))))
theorem sc_turning_place_clips : FnScope n_turning_place_clips ["piece"] (defScope s_turning_place_clips) := ⟨rfl, rfl, rfl, by decide +kernel, rfl, by decide +kernel, by decide +kernel⟩
theorem ok_turning_place_clips {sp_times sp_minus sp_over sp_is_less sp : Sp} (T : Txt K mg) (G_times : Cal P w K mg base 3 "times" ["first", "second"] sp_times) (G_minus : Cal P w K mg base 3 "minus" ["first", "second"] sp_minus) (G_over : Cal P w K mg base 3 "over" ["first", "second"] sp_over) (G_is_less : Cal P w K mg base 2 "is_less" ["first", "second"] sp_is_less) {f : Addr} {fd : FuncData} (F : Fun K "turning_place" "turning_place" s_turning_place_clips f fd)
    (len : ∀ vs H Q E, sp vs H Q E → vs.length = 1) (pure : ∀ vs H Q E, sp vs H Q E → t_turning_place_clips K sp_times sp_minus sp_over sp_is_less { nx := fun _ H' => Q .non H', rt := Q } (start n_turning_place_clips vs) H) :
    FnOk P w K mg base CX0 4 f fd ["piece"] sp := by
  refine F.ok sc_turning_place_clips len (fun cdv A outer s H vs Q E hr h => ⟨t_turning_place_clips K sp_times sp_minus sp_over sp_is_less, ?_, pure vs H Q E h⟩)
  exact (pss_cons (ps_if (pt_cmpR (op_eqD hr.units) (pe_ix ix_tup (pe_ix ix_tup (pv 0) pe_int (fun _ _ => rfl)) pe_int (fun _ _ => rfl)) (pe_glob rfl T.g_ZERO rfl) (nomark _)) (pss_one (ps_ret pe_non)) pss_nil)
    (pss_cons (ps_set (i := 1) sc_turning_place_clips.nd rfl (Or.inl rfl) (pe_cal G_over (hr.mono (by decide)) rfl (pa_cons (pe_cal G_minus (hr.mono (by decide)) rfl (pa_cons (pe_glob rfl T.g_ZERO rfl) (pa_cons (pe_ix ix_tup (pe_ix ix_tup (pv 0) pe_int (fun _ _ => rfl)) pe_int (fun _ _ => rfl)) pa_nil))) (pa_cons (pe_cal G_times (hr.mono (by decide)) rfl (pa_cons (pe_glob rfl T.g_TWO rfl) (pa_cons (pe_ix ix_tup (pe_ix ix_tup (pv 0) pe_int (fun _ _ => rfl)) pe_int (fun _ _ => rfl)) pa_nil))) pa_nil))))
    (pss_cons (ps_if (PW.pt (pw_and (pt_val (pe_cal G_is_less (hr.mono (by decide)) rfl (pa_cons (pe_glob rfl T.g_ZERO rfl) (pa_cons (pv 1) pa_nil)))) (pw_and1 (pt_val (pe_cal G_is_less (hr.mono (by decide)) rfl (pa_cons (pv 1) (pa_cons (pe_ix ix_tup (pv 0) pe_int (fun _ _ => rfl)) pa_nil))))))) (pss_one (ps_ret (pv 1))) pss_nil)
    (pss_one (ps_ret pe_non)))))
theorem bi_turning_place_clips {f : Addr} {fd : FuncData} (F : Fun K "turning_place" "turning_place" s_turning_place_clips f fd) : Binds K fd ["piece"] [] := F.binds (ps := ["piece"]) fun _ _ _ _ _ _ us hl => match us, hl with | [_], _ => rfl
def n_turning_points : List Str := ["track", "points", "start", "piece", "place"]
def t_turning_points (K : PySem.W.Frag) (sp_turning_place_clips sp_plus : Sp) : TS :=
  (tSeq (tAsg (tLst tNil) (gName 1))
  (tSeq (tAsg (tC (.ref (He.ga K "ZERO"))) (gName 2))
  (tSeq (tFor (iTup K (tVar 0)) (gName 3) (tSeq (tIfS (tTest (tOp (rNeD K) (tVar 2) (tC (.ref (He.ga K "ZERO"))))) (tDrop (tBM K "list" rAppend (tVar 1) (tCons (tVar 2) tNil))) tNext)
  (tSeq (tAsg (tCall sp_turning_place_clips [] E0 (tCons (tVar 3) tNil)) (gName 4))
  (tSeq (tIfS (tTest (tOp rNotNone (tVar 4) (tC .non))) (tDrop (tBM K "list" rAppend (tVar 1) (tCons (tCall sp_plus [] E0 (tCons (tVar 2) (tCons (tVar 4) tNil))) tNil))) tNext)
  (tAsg (tCall sp_plus [] E0 (tCons (tVar 2) (tCons (tOp (rIxT K) (tVar 3) (tC (.int 0))) tNil))) (gName 2))))))
  (tRet (tVar 1)))))
theorem sc_turning_points : FnScope n_turning_points ["track"] (defScope s_turning_points) := ⟨rfl, rfl, rfl, by decide +kernel, rfl, by decide +kernel, by decide +kernel⟩
theorem ok_turning_points {sp_turning_place_clips sp_plus sp : Sp} (T : Txt K mg) (G_turning_place_clips : Cal P w K mg base 4 "turning_place_clips" ["piece"] sp_turning_place_clips) (G_plus : Cal P w K mg base 3 "plus" ["first", "second"] sp_plus) {f : Addr} {fd : FuncData} (F : Fun K "turning_points" "turning_points" s_turning_points f fd)
    (len : ∀ vs H Q E, sp vs H Q E → vs.length = 1) (pure : ∀ vs H Q E, sp vs H Q E → t_turning_points K sp_turning_place_clips sp_plus { nx := fun _ H' => Q .non H', rt := Q } (start n_turning_points vs) H) :
    FnOk P w K mg base CX0 5 f fd ["track"] sp := by
  refine F.ok sc_turning_points len (fun cdv A outer s H vs Q E hr h => ⟨t_turning_points K sp_turning_place_clips sp_plus, ?_, pure vs H Q E h⟩)
  exact (pss_cons (ps_set (i := 1) sc_turning_points.nd rfl (Or.inl rfl) (pe_lst pa_nil))
    (pss_cons (ps_set (i := 2) sc_turning_points.nd rfl (Or.inl rfl) (pe_glob rfl T.g_ZERO rfl))
    (pss_cons (ps_for PassesOwn.never rfl (pi_tup (pv 0)) (pg_name (i := 3) sc_turning_points.nd rfl (Or.inl rfl)) (pss_cons (ps_if (pt_cmpR (op_neD hr.units) (pv 2) (pe_glob rfl T.g_ZERO rfl) (nomark _)) (pss_one (ps_expr (pe_bm PySem.F.plainAttrs_list PySem.F.slot_list_append PySem.F.type_list_append mt_append (pv 1) (pa_cons (pv 2) pa_nil)))) pss_nil)
    (pss_cons (ps_set (i := 4) sc_turning_points.nd rfl (Or.inl rfl) (pe_cal G_turning_place_clips (hr.mono (by decide)) rfl (pa_cons (pv 3) pa_nil)))
    (pss_cons (ps_if (pt_cmpR op_notN (pv 4) pe_non (nomark _)) (pss_one (ps_expr (pe_bm PySem.F.plainAttrs_list PySem.F.slot_list_append PySem.F.type_list_append mt_append (pv 1) (pa_cons (pe_cal G_plus (hr.mono (by decide)) rfl (pa_cons (pv 2) (pa_cons (pv 4) pa_nil))) pa_nil)))) pss_nil)
    (pss_one (ps_set (i := 2) sc_turning_points.nd rfl (Or.inl rfl) (pe_cal G_plus (hr.mono (by decide)) rfl (pa_cons (pv 2) (pa_cons (pe_ix ix_tup (pv 3) pe_int (fun _ _ => rfl)) pa_nil)))))))))
    (pss_one (ps_ret (pv 1))))))
theorem bi_turning_points {f : Addr} {fd : FuncData} (F : Fun K "turning_points" "turning_points" s_turning_points f fd) : Binds K fd ["track"] [] := F.binds (ps := ["track"]) fun _ _ _ _ _ _ us hl => match us, hl with | [_], _ => rfl
def n_values_between_clips : List Str := ["clip", "prop", "first", "second", "inner", "points", "point"]
def t_values_between_clips (K : PySem.W.Frag) (sp_track_of_clips sp_turning_points sp_is_less sp_ascending sp_value_at : Sp) : TS :=
  (tSeq (tAsg (tLc (iList K (tCall sp_turning_points [] E0 (tCons (tCall sp_track_of_clips [] E0 (tCons (tVar 0) (tCons (tVar 1) tNil))) tNil))) (gName 6) (tB (tCall sp_is_less [] E0 (tCons (tVar 2) (tCons (tVar 6) tNil)))) (tVar 6) [6]) (gName 4))
  (tSeq (tAsg (tOp rCat (tOp rCat (tLst (tCons (tVar 2) tNil)) (tLc (iList K (tVar 4)) (gName 6) (tB (tCall sp_is_less [] E0 (tCons (tVar 6) (tCons (tVar 3) tNil)))) (tVar 6) [6])) (tLst (tCons (tVar 3) tNil))) (gName 5))
  (tRet (tLc (iList K (tCall sp_ascending [] E0 (tCons (tVar 5) tNil))) (gName 6) tYes (tCall sp_value_at [] E0 (tCons (tVar 0) (tCons (tVar 1) (tCons (tVar 6) tNil)))) [6]))))
theorem sc_values_between_clips : FnScope n_values_between_clips ["clip", "prop", "first", "second"] (defScope s_values_between_clips) := ⟨rfl, rfl, rfl, by decide +kernel, rfl, by decide +kernel, by decide +kernel⟩
theorem ok_values_between_clips {sp_track_of_clips sp_turning_points sp_is_less sp_ascending sp_value_at sp : Sp} (T : Txt K mg) (G_track_of_clips : Cal P w K mg base 1 "track_of_clips" ["clip", "prop"] sp_track_of_clips) (G_turning_points : Cal P w K mg base 5 "turning_points" ["track"] sp_turning_points) (G_is_less : Cal P w K mg base 2 "is_less" ["first", "second"] sp_is_less) (G_ascending : Cal P w K mg base 3 "ascending" ["values"] sp_ascending) (G_value_at : Cal P w K mg base 5 "value_at" ["clip", "prop", "position"] sp_value_at) {f : Addr} {fd : FuncData} (F : Fun K "values_between" "values_between" s_values_between_clips f fd)
    (len : ∀ vs H Q E, sp vs H Q E → vs.length = 4) (pure : ∀ vs H Q E, sp vs H Q E → t_values_between_clips K sp_track_of_clips sp_turning_points sp_is_less sp_ascending sp_value_at { nx := fun _ H' => Q .non H', rt := Q } (start n_values_between_clips vs) H) :
    FnOk P w K mg base CX0 6 f fd ["clip", "prop", "first", "second"] sp := by
  refine F.ok sc_values_between_clips len (fun cdv A outer s H vs Q E hr h => ⟨t_values_between_clips K sp_track_of_clips sp_turning_points sp_is_less sp_ascending sp_value_at, ?_, pure vs H Q E h⟩)
  exact (pss_cons (ps_setLc (i := 4) (own := [("point", 6)]) (g := (gName 6)) rfl sc_values_between_clips.nd rfl rfl (sw_true rfl rfl rfl (by decide +kernel)) (pi_list (pe_cal G_turning_points (hr.mono (by decide)) rfl (pa_cons (pe_cal G_track_of_clips (hr.mono (by decide)) rfl (pa_cons (pv 0) (pa_cons (pv 1) pa_nil))) pa_nil))) (blkOk_by (own := [("point", 6)]) (N := n_values_between_clips) (sc := defScope s_values_between_clips) (by decide +kernel)) (fun _ _ _ _ _ => (pg_name (i := 6) sc_values_between_clips.nd rfl (Or.inl rfl))) (fun _ _ _ _ _ => pts_one (pt_val (pe_cal G_is_less (hr.mono (by decide)) rfl (pa_cons (pv 2) (pa_cons (pv 6) pa_nil))))) (fun _ _ _ _ _ => (pv 6)))
    (pss_cons (ps_set (i := 5) sc_values_between_clips.nd rfl (Or.inl rfl) (pe_op op_cat (pe_op op_cat (pe_lst (pa_cons (pv 2) pa_nil)) (pe_lc (own := [("point", 6)]) (g := (gName 6)) rfl sc_values_between_clips.nd (pi_list (pv 4)) (blkOk_by (own := [("point", 6)]) (N := n_values_between_clips) (sc := defScope s_values_between_clips) (by decide +kernel)) (fun _ _ _ _ _ => (pg_name (i := 6) sc_values_between_clips.nd rfl (Or.inl rfl))) (fun _ _ _ _ _ => pts_one (pt_val (pe_cal G_is_less (hr.mono (by decide)) rfl (pa_cons (pv 6) (pa_cons (pv 3) pa_nil))))) (fun _ _ _ _ _ => (pv 6)))) (pe_lst (pa_cons (pv 3) pa_nil))))
    (pss_one (ps_ret (pe_lc (own := [("point", 6)]) (g := (gName 6)) rfl sc_values_between_clips.nd (pi_list (pe_cal G_ascending (hr.mono (by decide)) rfl (pa_cons (pv 5) pa_nil))) (blkOk_by (own := [("point", 6)]) (N := n_values_between_clips) (sc := defScope s_values_between_clips) (by decide +kernel)) (fun _ _ _ _ _ => (pg_name (i := 6) sc_values_between_clips.nd rfl (Or.inl rfl))) (fun _ _ _ _ _ => pts_nil) (fun _ _ _ _ _ => (pe_cal G_value_at (hr.mono (by decide)) rfl (pa_cons (pv 0) (pa_cons (pv 1) (pa_cons (pv 6) pa_nil))))))))))
theorem bi_values_between_clips {f : Addr} {fd : FuncData} (F : Fun K "values_between" "values_between" s_values_between_clips f fd) : Binds K fd ["clip", "prop", "first", "second"] [] := F.binds (ps := ["clip", "prop", "first", "second"]) fun _ _ _ _ _ _ us hl => match us, hl with | [_, _, _, _], _ => rfl
def n_least_value : List Str := ["clip", "prop", "first", "second"]
def t_least_value (K : PySem.W.Frag) (sp_values_between_clips sp_least_of : Sp) : TS :=
  (tRet (tCall sp_least_of [] E0 (tCons (tCall sp_values_between_clips [] E0 (tCons (tVar 0) (tCons (tVar 1) (tCons (tVar 2) (tCons (tVar 3) tNil))))) tNil)))
theorem sc_least_value : FnScope n_least_value ["clip", "prop", "first", "second"] (defScope s_least_value) := ⟨rfl, rfl, rfl, by decide +kernel, rfl, by decide +kernel, by decide +kernel⟩
theorem ok_least_value {sp_values_between_clips sp_least_of sp : Sp} (T : Txt K mg) (G_values_between_clips : Cal P w K mg base 6 "values_between_clips" ["clip", "prop", "first", "second"] sp_values_between_clips) (G_least_of : Cal P w K mg base 3 "least_of" ["values"] sp_least_of) {f : Addr} {fd : FuncData} (F : Fun K "least_value" "least_value" s_least_value f fd)
    (len : ∀ vs H Q E, sp vs H Q E → vs.length = 4) (pure : ∀ vs H Q E, sp vs H Q E → t_least_value K sp_values_between_clips sp_least_of { nx := fun _ H' => Q .non H', rt := Q } (start n_least_value vs) H) :
    FnOk P w K mg base CX0 7 f fd ["clip", "prop", "first", "second"] sp := by
  refine F.ok sc_least_value len (fun cdv A outer s H vs Q E hr h => ⟨t_least_value K sp_values_between_clips sp_least_of, ?_, pure vs H Q E h⟩)
  exact (pss_one (ps_ret (pe_cal G_least_of (hr.mono (by decide)) rfl (pa_cons (pe_cal G_values_between_clips (hr.mono (by decide)) rfl (pa_cons (pv 0) (pa_cons (pv 1) (pa_cons (pv 2) (pa_cons (pv 3) pa_nil))))) pa_nil))))
theorem bi_least_value {f : Addr} {fd : FuncData} (F : Fun K "least_value" "least_value" s_least_value f fd) : Binds K fd ["clip", "prop", "first", "second"] [] := F.binds (ps := ["clip", "prop", "first", "second"]) fun _ _ _ _ _ _ us hl => match us, hl with | [_, _, _, _], _ => rfl
def n_greatest_value : List Str := ["clip", "prop", "first", "second"]
def t_greatest_value (K : PySem.W.Frag) (sp_values_between_clips sp_greatest_of : Sp) : TS :=
  (tRet (tCall sp_greatest_of [] E0 (tCons (tCall sp_values_between_clips [] E0 (tCons (tVar 0) (tCons (tVar 1) (tCons (tVar 2) (tCons (tVar 3) tNil))))) tNil)))
theorem sc_greatest_value : FnScope n_greatest_value ["clip", "prop", "first", "second"] (defScope s_greatest_value) := ⟨rfl, rfl, rfl, by decide +kernel, rfl, by decide +kernel, by decide +kernel⟩
theorem ok_greatest_value {sp_values_between_clips sp_greatest_of sp : Sp} (T : Txt K mg) (G_values_between_clips : Cal P w K mg base 6 "values_between_clips" ["clip", "prop", "first", "second"] sp_values_between_clips) (G_greatest_of : Cal P w K mg base 3 "greatest_of" ["values"] sp_greatest_of) {f : Addr} {fd : FuncData} (F : Fun K "greatest_value" "greatest_value" s_greatest_value f fd)
    (len : ∀ vs H Q E, sp vs H Q E → vs.length = 4) (pure : ∀ vs H Q E, sp vs H Q E → t_greatest_value K sp_values_between_clips sp_greatest_of { nx := fun _ H' => Q .non H', rt := Q } (start n_greatest_value vs) H) :
    FnOk P w K mg base CX0 7 f fd ["clip", "prop", "first", "second"] sp := by
  refine F.ok sc_greatest_value len (fun cdv A outer s H vs Q E hr h => ⟨t_greatest_value K sp_values_between_clips sp_greatest_of, ?_, pure vs H Q E h⟩)
  exact (pss_one (ps_ret (pe_cal G_greatest_of (hr.mono (by decide)) rfl (pa_cons (pe_cal G_values_between_clips (hr.mono (by decide)) rfl (pa_cons (pv 0) (pa_cons (pv 1) (pa_cons (pv 2) (pa_cons (pv 3) pa_nil))))) pa_nil))))
theorem bi_greatest_value {f : Addr} {fd : FuncData} (F : Fun K "greatest_value" "greatest_value" s_greatest_value f fd) : Binds K fd ["clip", "prop", "first", "second"] [] := F.binds (ps := ["clip", "prop", "first", "second"]) fun _ _ _ _ _ _ us hl => match us, hl with | [_, _, _, _], _ => rfl
def n_later_form : List Str := ["piece", "place"]
def t_later_form (K : PySem.W.Frag) (sp_slope_in sp_value_in : Sp) : TS :=
  (tRet (tTup (tCons (tCall sp_value_in [] E0 (tCons (tVar 0) (tCons (tVar 1) tNil))) (tCons (tCall sp_slope_in [] E0 (tCons (tVar 0) (tCons (tVar 1) tNil))) (tCons (tOp (rIxT K) (tOp (rIxT K) (tVar 0) (tC (.int 1))) (tC (.int 2))) tNil)))))
theorem sc_later_form : FnScope n_later_form ["piece", "place"] (defScope s_later_form) := ⟨rfl, rfl, rfl, by decide +kernel, rfl, by decide +kernel, by decide +kernel⟩
theorem ok_later_form {sp_slope_in sp_value_in sp : Sp} (T : Txt K mg) (G_slope_in : Cal P w K mg base 4 "slope_in" ["piece", "place"] sp_slope_in) (G_value_in : Cal P w K mg base 4 "value_in" ["piece", "place"] sp_value_in) {f : Addr} {fd : FuncData} (F : Fun K "later_form" "later_form" s_later_form f fd)
    (len : ∀ vs H Q E, sp vs H Q E → vs.length = 2) (pure : ∀ vs H Q E, sp vs H Q E → t_later_form K sp_slope_in sp_value_in { nx := fun _ H' => Q .non H', rt := Q } (start n_later_form vs) H) :
    FnOk P w K mg base CX0 5 f fd ["piece", "place"] sp := by
  refine F.ok sc_later_form len (fun cdv A outer s H vs Q E hr h => ⟨t_later_form K sp_slope_in sp_value_in, ?_, pure vs H Q E h⟩)
  exact (pss_one (ps_ret (pe_tup (pa_cons (pe_cal G_value_in (hr.mono (by decide)) rfl (pa_cons (pv 0) (pa_cons (pv 1) pa_nil))) (pa_cons (pe_cal G_slope_in (hr.mono (by decide)) rfl (pa_cons (pv 0) (pa_cons (pv 1) pa_nil))) (pa_cons (pe_ix ix_tup (pe_ix ix_tup (pv 0) pe_int (fun _ _ => rfl)) pe_int (fun _ _ => rfl)) pa_nil))))))
theorem bi_later_form {f : Addr} {fd : FuncData} (F : Fun K "later_form" "later_form" s_later_form f fd) : Binds K fd ["piece", "place"] [] := F.binds (ps := ["piece", "place"]) fun _ _ _ _ _ _ us hl => match us, hl with | [_, _], _ => rfl
def n_normal_track : List Str := ["track", "made", "piece", "last"]
def t_normal_track (K : PySem.W.Frag) (sp_later_form sp_plus : Sp) : TS :=
  (tSeq (tAsg (tLst (tCons (tOp (rIxT K) (tVar 0) (tC (.int 0))) tNil)) (gName 1))
  (tSeq (tFor (iTup K (tSl (rSlT K) (tVar 0) (tPart (tC (.int 1))) tNoPart)) (gName 2) (tSeq (tAsg (tOp (rIxL K) (tVar 1) (tUn (rU fun i => .int (-i)) (tC (.int 1)))) (gName 3))
  (tIfS (tTest (tOp (rEqD K) (tCall sp_later_form [] E0 (tCons (tVar 3) (tCons (tOp (rIxT K) (tVar 3) (tC (.int 0))) tNil))) (tOp (rIxT K) (tVar 2) (tC (.int 1))))) (tAsg (tTup (tCons (tCall sp_plus [] E0 (tCons (tOp (rIxT K) (tVar 3) (tC (.int 0))) (tCons (tOp (rIxT K) (tVar 2) (tC (.int 0))) tNil))) (tCons (tOp (rIxT K) (tVar 3) (tC (.int 1))) tNil))) (gSub (tVar 1) (tUn (rU fun i => .int (-i)) (tC (.int 1))) rSetL)) (tDrop (tBM K "list" rAppend (tVar 1) (tCons (tVar 2) tNil))))))
  (tRet (tCB (rTupleOf K) (tCons (tVar 1) tNil)))))
theorem sc_normal_track : FnScope n_normal_track ["track"] (defScope s_normal_track) := ⟨rfl, rfl, rfl, by decide +kernel, rfl, by decide +kernel, by decide +kernel⟩
theorem ok_normal_track {sp_later_form sp_plus sp : Sp} (T : Txt K mg) (G_later_form : Cal P w K mg base 5 "later_form" ["piece", "place"] sp_later_form) (G_plus : Cal P w K mg base 3 "plus" ["first", "second"] sp_plus) {f : Addr} {fd : FuncData} (F : Fun K "normal_track" "normal_track" s_normal_track f fd)
    (len : ∀ vs H Q E, sp vs H Q E → vs.length = 1) (pure : ∀ vs H Q E, sp vs H Q E → t_normal_track K sp_later_form sp_plus { nx := fun _ H' => Q .non H', rt := Q } (start n_normal_track vs) H) :
    FnOk P w K mg base CX0 6 f fd ["track"] sp := by
  refine F.ok sc_normal_track len (fun cdv A outer s H vs Q E hr h => ⟨t_normal_track K sp_later_form sp_plus, ?_, pure vs H Q E h⟩)
  exact (pss_cons (ps_set (i := 1) sc_normal_track.nd rfl (Or.inl rfl) (pe_lst (pa_cons (pe_ix ix_tup (pv 0) pe_int (fun _ _ => rfl)) pa_nil)))
    (pss_cons (ps_for PassesOwn.never rfl (pi_tup (pe_slice sl_tup (pv 0) (po_some pe_int) po_none)) (pg_name (i := 2) sc_normal_track.nd rfl (Or.inl rfl)) (pss_cons (ps_set (i := 3) sc_normal_track.nd rfl (Or.inl rfl) (pe_ix ix_list (pv 1) (pe_un un_neg pe_int) (fun _ _ => rfl)))
    (pss_one (ps_if (pt_cmpR (op_eqD hr.units) (pe_cal G_later_form (hr.mono (by decide)) rfl (pa_cons (pv 3) (pa_cons (pe_ix ix_tup (pv 3) pe_int (fun _ _ => rfl)) pa_nil))) (pe_ix ix_tup (pv 2) pe_int (fun _ _ => rfl)) (nomark _)) (pss_one (ps_asg (pe_tup (pa_cons (pe_cal G_plus (hr.mono (by decide)) rfl (pa_cons (pe_ix ix_tup (pv 3) pe_int (fun _ _ => rfl)) (pa_cons (pe_ix ix_tup (pv 2) pe_int (fun _ _ => rfl)) pa_nil))) (pa_cons (pe_ix ix_tup (pv 3) pe_int (fun _ _ => rfl)) pa_nil))) (pg_sub (pv 1) (pe_un un_neg pe_int) set_list))) (pss_one (ps_expr (pe_bm PySem.F.plainAttrs_list PySem.F.slot_list_append PySem.F.type_list_append mt_append (pv 1) (pa_cons (pv 2) pa_nil))))))))
    (pss_one (ps_ret (pe_callTy call_tuple_of (by rfl) T.f_tuple PyProof.Rows.boot_tuple (pa_cons (pv 1) pa_nil))))))
theorem bi_normal_track {f : Addr} {fd : FuncData} (F : Fun K "normal_track" "normal_track" s_normal_track f fd) : Binds K fd ["track"] [] := F.binds (ps := ["track"]) fun _ _ _ _ _ _ us hl => match us, hl with | [_], _ => rfl
end
end Sc

/-! KWalk1 -/
set_option Elab.async false
set_option linter.all false
set_option maxRecDepth 100000
set_option maxHeartbeats 4000000
namespace Sc
open PySem PySem.Spec PyProof.Rows L2
section
variable {P : Program} {w : World} {K : PySem.W.Frag} {mg : Str → Option Value} {base : Heap}
def n_normal : List Str := ["clip", "name", "track"]
def t_normal (K : PySem.W.Frag) (sp_normal_track : Sp) : TS :=
  (tRet (tTup (tCons (tOp (rIxT K) (tVar 0) (tC (.int 0))) (tCons (tCB (rTupleOf K) (tCons (tLc (iTup K (tOp (rIxT K) (tVar 0) (tC (.int 1)))) (gTup K 2 (gCons (gName 1) (gCons (gName 2) gNil))) tYes (tTup (tCons (tVar 1) (tCons (tCall sp_normal_track [] E0 (tCons (tVar 2) tNil)) tNil))) [1, 2]) tNil)) (tCons (tOp (rIxT K) (tVar 0) (tC (.int 2))) tNil)))))
theorem sc_normal : FnScope n_normal ["clip"] (defScope s_normal) := ⟨rfl, rfl, rfl, by decide +kernel, rfl, by decide +kernel, by decide +kernel⟩
theorem ok_normal {sp_normal_track sp : Sp} (T : Txt K mg) (G_normal_track : Cal P w K mg base 6 "normal_track" ["track"] sp_normal_track) {f : Addr} {fd : FuncData} (F : Fun K "normal" "normal" s_normal f fd)
    (len : ∀ vs H Q E, sp vs H Q E → vs.length = 1) (pure : ∀ vs H Q E, sp vs H Q E → t_normal K sp_normal_track { nx := fun _ H' => Q .non H', rt := Q } (start n_normal vs) H) :
    FnOk P w K mg base CX0 7 f fd ["clip"] sp := by
  refine F.ok sc_normal len (fun cdv A outer s H vs Q E hr h => ⟨t_normal K sp_normal_track, ?_, pure vs H Q E h⟩)
  exact (pss_one (ps_ret (pe_tup (pa_cons (pe_ix ix_tup (pv 0) pe_int (fun _ _ => rfl)) (pa_cons (pe_callTy call_tuple_of (by rfl) T.f_tuple PyProof.Rows.boot_tuple (pa_cons (pe_lc (own := [("name", 1), ("track", 2)]) (g := (gTup K 2 (gCons (gName 1) (gCons (gName 2) gNil)))) rfl sc_normal.nd (pi_tup (pe_ix ix_tup (pv 0) pe_int (fun _ _ => rfl))) (blkOk_by (own := [("name", 1), ("track", 2)]) (N := n_normal) (sc := defScope s_normal) (by decide +kernel)) (fun _ _ _ _ _ => (pg_tup rfl (pgs_cons (pg_name (i := 1) sc_normal.nd rfl (Or.inl rfl)) (pgs_cons (pg_name (i := 2) sc_normal.nd rfl (Or.inl rfl)) pgs_nil)))) (fun _ _ _ _ _ => pts_nil) (fun _ _ _ _ _ => (pe_tup (pa_cons (pv 1) (pa_cons (pe_cal G_normal_track (hr.mono (by decide)) rfl (pa_cons (pv 2) pa_nil)) pa_nil))))) pa_nil)) (pa_cons (pe_ix ix_tup (pv 0) pe_int (fun _ _ => rfl)) pa_nil))))))
theorem bi_normal {f : Addr} {fd : FuncData} (F : Fun K "normal" "normal" s_normal f fd) : Binds K fd ["clip"] [] := F.binds (ps := ["clip"]) fun _ _ _ _ _ _ us hl => match us, hl with | [_], _ => rfl
def n_clamped : List Str := ["clip", "number"]
def t_clamped (K : PySem.W.Frag) (sp_compare : Sp) : TS :=
  (tSeq (tIfS (tTest (tOp (rI0 fun i j => .bl (decide (i < j))) (tCall sp_compare [] E0 (tCons (tVar 1) (tCons (tC (.ref (He.ga K "NOUGHT_scenes"))) tNil))) (tC (.int 0)))) (tRet (tC (.ref (He.ga K "NOUGHT_scenes")))) tNext)
  (tSeq (tIfS (tTest (tOp (rI0 fun i j => .bl (decide (j < i))) (tCall sp_compare [] E0 (tCons (tVar 1) (tCons (tOp (rIxT K) (tVar 0) (tC (.int 0))) tNil))) (tC (.int 0)))) (tRet (tOp (rIxT K) (tVar 0) (tC (.int 0)))) tNext)
  (tRet (tVar 1))))
theorem sc_clamped : FnScope n_clamped ["clip", "number"] (defScope s_clamped) := ⟨rfl, rfl, rfl, by decide +kernel, rfl, by decide +kernel, by decide +kernel⟩
theorem ok_clamped {sp_compare sp : Sp} (T : Txt K mg) (G_compare : Cal P w K mg base 1 "compare" ["first", "second"] sp_compare) {f : Addr} {fd : FuncData} (F : Fun K "clamped" "clamped" s_clamped f fd)
    (len : ∀ vs H Q E, sp vs H Q E → vs.length = 2) (pure : ∀ vs H Q E, sp vs H Q E → t_clamped K sp_compare { nx := fun _ H' => Q .non H', rt := Q } (start n_clamped vs) H) :
    FnOk P w K mg base CX0 2 f fd ["clip", "number"] sp := by
  refine F.ok sc_clamped len (fun cdv A outer s H vs Q E hr h => ⟨t_clamped K sp_compare, ?_, pure vs H Q E h⟩)
  exact (pss_cons (ps_if (pt_cmpR op_lt (pe_cal G_compare (hr.mono (by decide)) rfl (pa_cons (pv 1) (pa_cons (pe_glob rfl T.g_NOUGHT_scenes rfl) pa_nil))) pe_int (nomark _)) (pss_one (ps_ret (pe_glob rfl T.g_NOUGHT_scenes rfl))) pss_nil)
    (pss_cons (ps_if (pt_cmpR op_gt (pe_cal G_compare (hr.mono (by decide)) rfl (pa_cons (pv 1) (pa_cons (pe_ix ix_tup (pv 0) pe_int (fun _ _ => rfl)) pa_nil))) pe_int (nomark _)) (pss_one (ps_ret (pe_ix ix_tup (pv 0) pe_int (fun _ _ => rfl)))) pss_nil)
    (pss_one (ps_ret (pv 1)))))
theorem bi_clamped {f : Addr} {fd : FuncData} (F : Fun K "clamped" "clamped" s_clamped f fd) : Binds K fd ["clip", "number"] [] := F.binds (ps := ["clip", "number"]) fun _ _ _ _ _ _ us hl => match us, hl with | [_, _], _ => rfl
def n_shown_at : List Str := ["clip", "prop", "number"]
def t_shown_at (K : PySem.W.Frag) (sp_clamped sp_value_at : Sp) : TS :=
  (tRet (tCall sp_value_at [] E0 (tCons (tVar 0) (tCons (tVar 1) (tCons (tCall sp_clamped [] E0 (tCons (tVar 0) (tCons (tVar 2) tNil))) tNil)))))
theorem sc_shown_at : FnScope n_shown_at ["clip", "prop", "number"] (defScope s_shown_at) := ⟨rfl, rfl, rfl, by decide +kernel, rfl, by decide +kernel, by decide +kernel⟩
theorem ok_shown_at {sp_clamped sp_value_at sp : Sp} (T : Txt K mg) (G_clamped : Cal P w K mg base 2 "clamped" ["clip", "number"] sp_clamped) (G_value_at : Cal P w K mg base 5 "value_at" ["clip", "prop", "position"] sp_value_at) {f : Addr} {fd : FuncData} (F : Fun K "shown_at" "shown_at" s_shown_at f fd)
    (len : ∀ vs H Q E, sp vs H Q E → vs.length = 3) (pure : ∀ vs H Q E, sp vs H Q E → t_shown_at K sp_clamped sp_value_at { nx := fun _ H' => Q .non H', rt := Q } (start n_shown_at vs) H) :
    FnOk P w K mg base CX0 6 f fd ["clip", "prop", "number"] sp := by
  refine F.ok sc_shown_at len (fun cdv A outer s H vs Q E hr h => ⟨t_shown_at K sp_clamped sp_value_at, ?_, pure vs H Q E h⟩)
  exact (pss_one (ps_ret (pe_cal G_value_at (hr.mono (by decide)) rfl (pa_cons (pv 0) (pa_cons (pv 1) (pa_cons (pe_cal G_clamped (hr.mono (by decide)) rfl (pa_cons (pv 0) (pa_cons (pv 2) pa_nil))) pa_nil))))))
theorem bi_shown_at {f : Addr} {fd : FuncData} (F : Fun K "shown_at" "shown_at" s_shown_at f fd) : Binds K fd ["clip", "prop", "number"] [] := F.binds (ps := ["clip", "prop", "number"]) fun _ _ _ _ _ _ us hl => match us, hl with | [_, _, _], _ => rfl
def n_track_of_scenes : List Str := ["clip", "prop", "name", "track"]
def t_track_of_scenes (K : PySem.W.Frag) (sp_normal : Sp) : TS :=
  (tSeq (tFor (iTup K (tOp (rIxT K) (tCall sp_normal [] E0 (tCons (tVar 0) tNil)) (tC (.int 1)))) (gTup K 2 (gCons (gName 2) (gCons (gName 3) gNil))) (tIfS (tTest (tOp rEq (tVar 2) (tVar 1))) (tRet (tVar 3)) tNext))
  (tRet (tTup tNil)))
theorem sc_track_of_scenes : FnScope n_track_of_scenes ["clip", "prop"] (defScope s_track_of_scenes) := ⟨rfl, rfl, rfl, by decide +kernel, rfl, by decide +kernel, by decide +kernel⟩
theorem ok_track_of_scenes {sp_normal sp : Sp} (T : Txt K mg) (G_normal : Cal P w K mg base 7 "normal" ["clip"] sp_normal) {f : Addr} {fd : FuncData} (F : Fun K "track_of" "track_of" s_track_of_scenes f fd)
    (len : ∀ vs H Q E, sp vs H Q E → vs.length = 2) (pure : ∀ vs H Q E, sp vs H Q E → t_track_of_scenes K sp_normal { nx := fun _ H' => Q .non H', rt := Q } (start n_track_of_scenes vs) H) :
    FnOk P w K mg base CX0 8 f fd ["clip", "prop"] sp := by
  refine F.ok sc_track_of_scenes len (fun cdv A outer s H vs Q E hr h => ⟨t_track_of_scenes K sp_normal, ?_, pure vs H Q E h⟩)
  exact (pss_cons (ps_for PassesOwn.never rfl (pi_tup (pe_ix ix_tup (pe_cal G_normal (hr.mono (by decide)) rfl (pa_cons (pv 0) pa_nil)) pe_int (fun _ _ => rfl))) (pg_tup rfl (pgs_cons (pg_name (i := 2) sc_track_of_scenes.nd rfl (Or.inl rfl)) (pgs_cons (pg_name (i := 3) sc_track_of_scenes.nd rfl (Or.inl rfl)) pgs_nil))) (pss_one (ps_if (pt_cmpR op_eq (pv 2) (pv 1) (nomark _)) (pss_one (ps_ret (pv 3))) pss_nil)))
    (pss_one (ps_ret (pe_tup pa_nil))))
theorem bi_track_of_scenes {f : Addr} {fd : FuncData} (F : Fun K "track_of" "track_of" s_track_of_scenes f fd) : Binds K fd ["clip", "prop"] [] := F.binds (ps := ["clip", "prop"]) fun _ _ _ _ _ _ us hl => match us, hl with | [_, _], _ => rfl
def n_turning_place_scenes : List Str := ["piece", "length", "a", "b", "c", "place"]
def t_turning_place_scenes (K : PySem.W.Frag) (sp_plus sp_minus sp_over sp_compare : Sp) : TS :=
  (tSeq (tAsg (tVar 0) (gTup K 2 (gCons (gName 1) (gCons (gTup K 3 (gCons (gName 2) (gCons (gName 3) (gCons (gName 4) gNil)))) gNil))))
  (tSeq (tIfS (tTest (tOp (rEqD K) (tVar 4) (tC (.ref (He.ga K "NOUGHT_scenes"))))) (tRet (tC .non)) tNext)
  (tSeq (tAsg (tCall sp_over [] E0 (tCons (tCall sp_minus [] E0 (tCons (tC (.ref (He.ga K "NOUGHT_scenes"))) (tCons (tVar 3) tNil))) (tCons (tCall sp_plus [] E0 (tCons (tVar 4) (tCons (tVar 4) tNil))) tNil))) (gName 5))
  (tSeq (tIfS (tOr (tTest (tOp (rI0 fun i j => .bl (decide (i ≤ j))) (tCall sp_compare [] E0 (tCons (tVar 5) (tCons (tC (.ref (He.ga K "NOUGHT_scenes"))) tNil))) (tC (.int 0)))) (tTest (tOp (rI0 fun i j => .bl (decide (j ≤ i))) (tCall sp_compare [] E0 (tCons (tVar 5) (tCons (tVar 1) tNil))) (tC (.int 0))))) (tRet (tC .non)) tNext)
  (tRet (tVar 5))))))
theorem sc_turning_place_scenes : FnScope n_turning_place_scenes ["piece"] (defScope s_turning_place_scenes) := ⟨rfl, rfl, rfl, by decide +kernel, rfl, by decide +kernel, by decide +kernel⟩
theorem ok_turning_place_scenes {sp_plus sp_minus sp_over sp_compare sp : Sp} (T : Txt K mg) (G_plus : Cal P w K mg base 3 "plus" ["first", "second"] sp_plus) (G_minus : Cal P w K mg base 3 "minus" ["first", "second"] sp_minus) (G_over : Cal P w K mg base 3 "over" ["first", "second"] sp_over) (G_compare : Cal P w K mg base 1 "compare" ["first", "second"] sp_compare) {f : Addr} {fd : FuncData} (F : Fun K "turning_place" "turning_place" s_turning_place_scenes f fd)
    (len : ∀ vs H Q E, sp vs H Q E → vs.length = 1) (pure : ∀ vs H Q E, sp vs H Q E → t_turning_place_scenes K sp_plus sp_minus sp_over sp_compare { nx := fun _ H' => Q .non H', rt := Q } (start n_turning_place_scenes vs) H) :
    FnOk P w K mg base CX0 4 f fd ["piece"] sp := by
  refine F.ok sc_turning_place_scenes len (fun cdv A outer s H vs Q E hr h => ⟨t_turning_place_scenes K sp_plus sp_minus sp_over sp_compare, ?_, pure vs H Q E h⟩)
  exact (pss_cons (ps_asg (pv 0) (pg_tup rfl (pgs_cons (pg_name (i := 1) sc_turning_place_scenes.nd rfl (Or.inl rfl)) (pgs_cons (pg_tup rfl (pgs_cons (pg_name (i := 2) sc_turning_place_scenes.nd rfl (Or.inl rfl)) (pgs_cons (pg_name (i := 3) sc_turning_place_scenes.nd rfl (Or.inl rfl)) (pgs_cons (pg_name (i := 4) sc_turning_place_scenes.nd rfl (Or.inl rfl)) pgs_nil)))) pgs_nil))))
    (pss_cons (ps_if (pt_cmpR (op_eqD hr.units) (pv 4) (pe_glob rfl T.g_NOUGHT_scenes rfl) (nomark _)) (pss_one (ps_ret pe_non)) pss_nil)
    (pss_cons (ps_set (i := 5) sc_turning_place_scenes.nd rfl (Or.inl rfl) (pe_cal G_over (hr.mono (by decide)) rfl (pa_cons (pe_cal G_minus (hr.mono (by decide)) rfl (pa_cons (pe_glob rfl T.g_NOUGHT_scenes rfl) (pa_cons (pv 3) pa_nil))) (pa_cons (pe_cal G_plus (hr.mono (by decide)) rfl (pa_cons (pv 4) (pa_cons (pv 4) pa_nil))) pa_nil))))
    (pss_cons (ps_if (PW.pt (pw_or (pt_cmpR op_le (pe_cal G_compare (hr.mono (by decide)) rfl (pa_cons (pv 5) (pa_cons (pe_glob rfl T.g_NOUGHT_scenes rfl) pa_nil))) pe_int (nomark _)) (pw_or1 (pt_cmpR op_ge (pe_cal G_compare (hr.mono (by decide)) rfl (pa_cons (pv 5) (pa_cons (pv 1) pa_nil))) pe_int (nomark _))))) (pss_one (ps_ret pe_non)) pss_nil)
    (pss_one (ps_ret (pv 5)))))))
theorem bi_turning_place_scenes {f : Addr} {fd : FuncData} (F : Fun K "turning_place" "turning_place" s_turning_place_scenes f fd) : Binds K fd ["piece"] [] := F.binds (ps := ["piece"]) fun _ _ _ _ _ _ us hl => match us, hl with | [_], _ => rfl
def n_turning_positions : List Str := ["clip", "prop", "positions", "piece", "begin", "place"]
def t_turning_positions (K : PySem.W.Frag) (sp_track_of_scenes sp_turning_place_scenes sp_plus : Sp) : TS :=
  (tSeq (tAsg (tLst (tCons (tC (.ref (He.ga K "NOUGHT_scenes"))) tNil)) (gName 2))
  (tSeq (tFor (iTup K (tCall sp_track_of_scenes [] E0 (tCons (tVar 0) (tCons (tVar 1) tNil)))) (gName 3) (tSeq (tAsg (tOp (rIxL K) (tVar 2) (tUn (rU fun i => .int (-i)) (tC (.int 1)))) (gName 4))
  (tSeq (tAsg (tCall sp_turning_place_scenes [] E0 (tCons (tVar 3) tNil)) (gName 5))
  (tSeq (tIfS (tTest (tOp rNotNone (tVar 5) (tC .non))) (tDrop (tBM K "list" rAppend (tVar 2) (tCons (tCall sp_plus [] E0 (tCons (tVar 4) (tCons (tVar 5) tNil))) tNil))) tNext)
  (tDrop (tBM K "list" rAppend (tVar 2) (tCons (tCall sp_plus [] E0 (tCons (tVar 4) (tCons (tOp (rIxT K) (tVar 3) (tC (.int 0))) tNil))) tNil)))))))
  (tRet (tVar 2))))
theorem sc_turning_positions : FnScope n_turning_positions ["clip", "prop"] (defScope s_turning_positions) := ⟨rfl, rfl, rfl, by decide +kernel, rfl, by decide +kernel, by decide +kernel⟩
theorem ok_turning_positions {sp_track_of_scenes sp_turning_place_scenes sp_plus sp : Sp} (T : Txt K mg) (G_track_of_scenes : Cal P w K mg base 8 "track_of_scenes" ["clip", "prop"] sp_track_of_scenes) (G_turning_place_scenes : Cal P w K mg base 4 "turning_place_scenes" ["piece"] sp_turning_place_scenes) (G_plus : Cal P w K mg base 3 "plus" ["first", "second"] sp_plus) {f : Addr} {fd : FuncData} (F : Fun K "turning_positions" "turning_positions" s_turning_positions f fd)
    (len : ∀ vs H Q E, sp vs H Q E → vs.length = 2) (pure : ∀ vs H Q E, sp vs H Q E → t_turning_positions K sp_track_of_scenes sp_turning_place_scenes sp_plus { nx := fun _ H' => Q .non H', rt := Q } (start n_turning_positions vs) H) :
    FnOk P w K mg base CX0 9 f fd ["clip", "prop"] sp := by
  refine F.ok sc_turning_positions len (fun cdv A outer s H vs Q E hr h => ⟨t_turning_positions K sp_track_of_scenes sp_turning_place_scenes sp_plus, ?_, pure vs H Q E h⟩)
  exact (pss_cons (ps_set (i := 2) sc_turning_positions.nd rfl (Or.inl rfl) (pe_lst (pa_cons (pe_glob rfl T.g_NOUGHT_scenes rfl) pa_nil)))
    (pss_cons (ps_for PassesOwn.never rfl (pi_tup (pe_cal G_track_of_scenes (hr.mono (by decide)) rfl (pa_cons (pv 0) (pa_cons (pv 1) pa_nil)))) (pg_name (i := 3) sc_turning_positions.nd rfl (Or.inl rfl)) (pss_cons (ps_set (i := 4) sc_turning_positions.nd rfl (Or.inl rfl) (pe_ix ix_list (pv 2) (pe_un un_neg pe_int) (fun _ _ => rfl)))
    (pss_cons (ps_set (i := 5) sc_turning_positions.nd rfl (Or.inl rfl) (pe_cal G_turning_place_scenes (hr.mono (by decide)) rfl (pa_cons (pv 3) pa_nil)))
    (pss_cons (ps_if (pt_cmpR op_notN (pv 5) pe_non (nomark _)) (pss_one (ps_expr (pe_bm PySem.F.plainAttrs_list PySem.F.slot_list_append PySem.F.type_list_append mt_append (pv 2) (pa_cons (pe_cal G_plus (hr.mono (by decide)) rfl (pa_cons (pv 4) (pa_cons (pv 5) pa_nil))) pa_nil)))) pss_nil)
    (pss_one (ps_expr (pe_bm PySem.F.plainAttrs_list PySem.F.slot_list_append PySem.F.type_list_append mt_append (pv 2) (pa_cons (pe_cal G_plus (hr.mono (by decide)) rfl (pa_cons (pv 4) (pa_cons (pe_ix ix_tup (pv 3) pe_int (fun _ _ => rfl)) pa_nil))) pa_nil))))))))
    (pss_one (ps_ret (pv 2)))))
theorem bi_turning_positions {f : Addr} {fd : FuncData} (F : Fun K "turning_positions" "turning_positions" s_turning_positions f fd) : Binds K fd ["clip", "prop"] [] := F.binds (ps := ["clip", "prop"]) fun _ _ _ _ _ _ us hl => match us, hl with | [_, _], _ => rfl
def n_points_between : List Str := ["clip", "prop", "low", "high", "points", "position"]
def t_points_between (K : PySem.W.Frag) (sp_turning_positions sp_compare : Sp) : TS :=
  (tSeq (tAsg (tLst (tCons (tVar 2) tNil)) (gName 4))
  (tSeq (tFor (iList K (tCall sp_turning_positions [] E0 (tCons (tVar 0) (tCons (tVar 1) tNil)))) (gName 5) (tIfS (tAnd (tTest (tOp (rI0 fun i j => .bl (decide (i < j))) (tCall sp_compare [] E0 (tCons (tVar 2) (tCons (tVar 5) tNil))) (tC (.int 0)))) (tTest (tOp (rI0 fun i j => .bl (decide (i < j))) (tCall sp_compare [] E0 (tCons (tVar 5) (tCons (tVar 3) tNil))) (tC (.int 0))))) (tDrop (tBM K "list" rAppend (tVar 4) (tCons (tVar 5) tNil))) tNext))
  (tSeq (tIfS (tTest (tOp (rI0 fun i j => .bl (decide (i < j))) (tCall sp_compare [] E0 (tCons (tVar 2) (tCons (tVar 3) tNil))) (tC (.int 0)))) (tDrop (tBM K "list" rAppend (tVar 4) (tCons (tVar 3) tNil))) tNext)
  (tRet (tVar 4)))))
theorem sc_points_between : FnScope n_points_between ["clip", "prop", "low", "high"] (defScope s_points_between) := ⟨rfl, rfl, rfl, by decide +kernel, rfl, by decide +kernel, by decide +kernel⟩
theorem ok_points_between {sp_turning_positions sp_compare sp : Sp} (T : Txt K mg) (G_turning_positions : Cal P w K mg base 9 "turning_positions" ["clip", "prop"] sp_turning_positions) (G_compare : Cal P w K mg base 1 "compare" ["first", "second"] sp_compare) {f : Addr} {fd : FuncData} (F : Fun K "points_between" "points_between" s_points_between f fd)
    (len : ∀ vs H Q E, sp vs H Q E → vs.length = 4) (pure : ∀ vs H Q E, sp vs H Q E → t_points_between K sp_turning_positions sp_compare { nx := fun _ H' => Q .non H', rt := Q } (start n_points_between vs) H) :
    FnOk P w K mg base CX0 10 f fd ["clip", "prop", "low", "high"] sp := by
  refine F.ok sc_points_between len (fun cdv A outer s H vs Q E hr h => ⟨t_points_between K sp_turning_positions sp_compare, ?_, pure vs H Q E h⟩)
  exact (pss_cons (ps_set (i := 4) sc_points_between.nd rfl (Or.inl rfl) (pe_lst (pa_cons (pv 2) pa_nil)))
    (pss_cons (ps_for PassesOwn.never rfl (pi_list (pe_cal G_turning_positions (hr.mono (by decide)) rfl (pa_cons (pv 0) (pa_cons (pv 1) pa_nil)))) (pg_name (i := 5) sc_points_between.nd rfl (Or.inl rfl)) (pss_one (ps_if (PW.pt (pw_and (pt_cmpR op_lt (pe_cal G_compare (hr.mono (by decide)) rfl (pa_cons (pv 2) (pa_cons (pv 5) pa_nil))) pe_int (nomark _)) (pw_and1 (pt_cmpR op_lt (pe_cal G_compare (hr.mono (by decide)) rfl (pa_cons (pv 5) (pa_cons (pv 3) pa_nil))) pe_int (nomark _))))) (pss_one (ps_expr (pe_bm PySem.F.plainAttrs_list PySem.F.slot_list_append PySem.F.type_list_append mt_append (pv 4) (pa_cons (pv 5) pa_nil)))) pss_nil)))
    (pss_cons (ps_if (pt_cmpR op_lt (pe_cal G_compare (hr.mono (by decide)) rfl (pa_cons (pv 2) (pa_cons (pv 3) pa_nil))) pe_int (nomark _)) (pss_one (ps_expr (pe_bm PySem.F.plainAttrs_list PySem.F.slot_list_append PySem.F.type_list_append mt_append (pv 4) (pa_cons (pv 3) pa_nil)))) pss_nil)
    (pss_one (ps_ret (pv 4))))))
theorem bi_points_between {f : Addr} {fd : FuncData} (F : Fun K "points_between" "points_between" s_points_between f fd) : Binds K fd ["clip", "prop", "low", "high"] [] := F.binds (ps := ["clip", "prop", "low", "high"]) fun _ _ _ _ _ _ us hl => match us, hl with | [_, _, _, _], _ => rfl
def n_values_between_scenes : List Str := ["clip", "prop", "low", "high", "first", "second"]
def t_values_between_scenes (K : PySem.W.Frag) (sp_clamped sp_greatest_value sp_least_value : Sp) : TS :=
  (tSeq (tAsg (tCall sp_clamped [] E0 (tCons (tVar 0) (tCons (tVar 2) tNil))) (gName 4))
  (tSeq (tAsg (tCall sp_clamped [] E0 (tCons (tVar 0) (tCons (tVar 3) tNil))) (gName 5))
  (tRet (tTup (tCons (tCall sp_least_value [] E0 (tCons (tVar 0) (tCons (tVar 1) (tCons (tVar 4) (tCons (tVar 5) tNil))))) (tCons (tCall sp_greatest_value [] E0 (tCons (tVar 0) (tCons (tVar 1) (tCons (tVar 4) (tCons (tVar 5) tNil))))) tNil))))))
theorem sc_values_between_scenes : FnScope n_values_between_scenes ["clip", "prop", "low", "high"] (defScope s_values_between_scenes) := ⟨rfl, rfl, rfl, by decide +kernel, rfl, by decide +kernel, by decide +kernel⟩
theorem ok_values_between_scenes {sp_clamped sp_greatest_value sp_least_value sp : Sp} (T : Txt K mg) (G_clamped : Cal P w K mg base 2 "clamped" ["clip", "number"] sp_clamped) (G_greatest_value : Cal P w K mg base 7 "greatest_value" ["clip", "prop", "first", "second"] sp_greatest_value) (G_least_value : Cal P w K mg base 7 "least_value" ["clip", "prop", "first", "second"] sp_least_value) {f : Addr} {fd : FuncData} (F : Fun K "values_between" "values_between" s_values_between_scenes f fd)
    (len : ∀ vs H Q E, sp vs H Q E → vs.length = 4) (pure : ∀ vs H Q E, sp vs H Q E → t_values_between_scenes K sp_clamped sp_greatest_value sp_least_value { nx := fun _ H' => Q .non H', rt := Q } (start n_values_between_scenes vs) H) :
    FnOk P w K mg base CX0 8 f fd ["clip", "prop", "low", "high"] sp := by
  refine F.ok sc_values_between_scenes len (fun cdv A outer s H vs Q E hr h => ⟨t_values_between_scenes K sp_clamped sp_greatest_value sp_least_value, ?_, pure vs H Q E h⟩)
  exact (pss_cons (ps_set (i := 4) sc_values_between_scenes.nd rfl (Or.inl rfl) (pe_cal G_clamped (hr.mono (by decide)) rfl (pa_cons (pv 0) (pa_cons (pv 2) pa_nil))))
    (pss_cons (ps_set (i := 5) sc_values_between_scenes.nd rfl (Or.inl rfl) (pe_cal G_clamped (hr.mono (by decide)) rfl (pa_cons (pv 0) (pa_cons (pv 3) pa_nil))))
    (pss_one (ps_ret (pe_tup (pa_cons (pe_cal G_least_value (hr.mono (by decide)) rfl (pa_cons (pv 0) (pa_cons (pv 1) (pa_cons (pv 4) (pa_cons (pv 5) pa_nil))))) (pa_cons (pe_cal G_greatest_value (hr.mono (by decide)) rfl (pa_cons (pv 0) (pa_cons (pv 1) (pa_cons (pv 4) (pa_cons (pv 5) pa_nil))))) pa_nil)))))))
theorem bi_values_between_scenes {f : Addr} {fd : FuncData} (F : Fun K "values_between" "values_between" s_values_between_scenes f fd) : Binds K fd ["clip", "prop", "low", "high"] [] := F.binds (ps := ["clip", "prop", "low", "high"]) fun _ _ _ _ _ _ us hl => match us, hl with | [_, _, _, _], _ => rfl
def n_has_property : List Str := ["clip", "prop", "name", "track"]
def t_has_property (K : PySem.W.Frag) : TS :=
  (tRet (tOp (rIn K false) (tVar 1) (tLc (iTup K (tOp (rIxT K) (tVar 0) (tC (.int 1)))) (gTup K 2 (gCons (gName 2) (gCons (gName 3) gNil))) tYes (tVar 2) [2, 3])))
theorem sc_has_property : FnScope n_has_property ["clip", "prop"] (defScope s_has_property) := ⟨rfl, rfl, rfl, by decide +kernel, rfl, by decide +kernel, by decide +kernel⟩
theorem ok_has_property {sp : Sp} (T : Txt K mg)  {f : Addr} {fd : FuncData} (F : Fun K "has_property" "has_property" s_has_property f fd)
    (len : ∀ vs H Q E, sp vs H Q E → vs.length = 2) (pure : ∀ vs H Q E, sp vs H Q E → t_has_property K  { nx := fun _ H' => Q .non H', rt := Q } (start n_has_property vs) H) :
    FnOk P w K mg base CX0 1 f fd ["clip", "prop"] sp := by
  refine F.ok sc_has_property len (fun cdv A outer s H vs Q E hr h => ⟨t_has_property K , ?_, pure vs H Q E h⟩)
  exact (pss_one (ps_ret (pe_cmpR op_in_seq (pv 1) (pe_lc (own := [("name", 2), ("track", 3)]) (g := (gTup K 2 (gCons (gName 2) (gCons (gName 3) gNil)))) rfl sc_has_property.nd (pi_tup (pe_ix ix_tup (pv 0) pe_int (fun _ _ => rfl))) (blkOk_by (own := [("name", 2), ("track", 3)]) (N := n_has_property) (sc := defScope s_has_property) (by decide +kernel)) (fun _ _ _ _ _ => (pg_tup rfl (pgs_cons (pg_name (i := 2) sc_has_property.nd rfl (Or.inl rfl)) (pgs_cons (pg_name (i := 3) sc_has_property.nd rfl (Or.inl rfl)) pgs_nil)))) (fun _ _ _ _ _ => pts_nil) (fun _ _ _ _ _ => (pv 2))) (by rfl))))
theorem bi_has_property {f : Addr} {fd : FuncData} (F : Fun K "has_property" "has_property" s_has_property f fd) : Binds K fd ["clip", "prop"] [] := F.binds (ps := ["clip", "prop"]) fun _ _ _ _ _ _ us hl => match us, hl with | [_, _], _ => rfl
def n_Scene_init : List Str := ["self", "book"]
def t_Scene_init (K : PySem.W.Frag) : TS :=
  (tSeq (sFld K (tVar 0) (tVar 1) "_book")
  (sFld K (tVar 0) (tLst tNil) "_shows"))
theorem sc_Scene_init : FnScope n_Scene_init ["self", "book"] (defScope s_Scene_init) := ⟨rfl, rfl, rfl, by decide +kernel, rfl, by decide +kernel, by decide +kernel⟩
theorem ok_Scene_init {sp : Sp} (T : Txt K mg)  {f : Addr} {fd : FuncData} (F : Fun K "__init__" "Scene.__init__" s_Scene_init f fd)
    (len : ∀ vs H Q E, sp vs H Q E → vs.length = 2) (pure : ∀ vs H Q E, sp vs H Q E → t_Scene_init K  { nx := fun _ H' => Q .non H', rt := Q } (start n_Scene_init vs) H) :
    FnOk P w K mg base CX0 1 f fd ["self", "book"] sp := by
  refine F.ok sc_Scene_init len (fun cdv A outer s H vs Q E hr h => ⟨t_Scene_init K , ?_, pure vs H Q E h⟩)
  exact (pss_cons (ps_fld (pv 0) (pv 1) rfl)
    (pss_one (ps_fld (pv 0) (pe_lst pa_nil) rfl)))
theorem bi_Scene_init {f : Addr} {fd : FuncData} (F : Fun K "__init__" "Scene.__init__" s_Scene_init f fd) : Binds K fd ["self", "book"] [] := F.binds (ps := ["self", "book"]) fun _ _ _ _ _ _ us hl => match us, hl with | [_, _], _ => rfl
def n_Scene_book : List Str := ["self"]
def t_Scene_book (K : PySem.W.Frag) : TS :=
  (tRet (tFld K (tVar 0) "_book"))
theorem sc_Scene_book : FnScope n_Scene_book ["self"] (defScope s_Scene_book) := ⟨rfl, rfl, rfl, by decide +kernel, rfl, by decide +kernel, by decide +kernel⟩
theorem ok_Scene_book {sp : Sp} (T : Txt K mg)  {f : Addr} {fd : FuncData} (F : Fun K "book" "Scene.book" s_Scene_book f fd)
    (len : ∀ vs H Q E, sp vs H Q E → vs.length = 1) (pure : ∀ vs H Q E, sp vs H Q E → t_Scene_book K  { nx := fun _ H' => Q .non H', rt := Q } (start n_Scene_book vs) H) :
    FnOk P w K mg base CX0 1 f fd ["self"] sp := by
  refine F.ok sc_Scene_book len (fun cdv A outer s H vs Q E hr h => ⟨t_Scene_book K , ?_, pure vs H Q E h⟩)
  exact (pss_one (ps_ret (pe_fld (pv 0) rfl)))
theorem bi_Scene_book {f : Addr} {fd : FuncData} (F : Fun K "book" "Scene.book" s_Scene_book f fd) : Binds K fd ["self"] [] := F.binds (ps := ["self"]) fun _ _ _ _ _ _ us hl => match us, hl with | [_], _ => rfl
def n_Scene_shows : List Str := ["self"]
def t_Scene_shows (K : PySem.W.Frag) : TS :=
  (tRet (tCB (rListOf K) (tCons (tFld K (tVar 0) "_shows") tNil)))
theorem sc_Scene_shows : FnScope n_Scene_shows ["self"] (defScope s_Scene_shows) := ⟨rfl, rfl, rfl, by decide +kernel, rfl, by decide +kernel, by decide +kernel⟩
theorem ok_Scene_shows {sp : Sp} (T : Txt K mg)  {f : Addr} {fd : FuncData} (F : Fun K "shows" "Scene.shows" s_Scene_shows f fd)
    (len : ∀ vs H Q E, sp vs H Q E → vs.length = 1) (pure : ∀ vs H Q E, sp vs H Q E → t_Scene_shows K  { nx := fun _ H' => Q .non H', rt := Q } (start n_Scene_shows vs) H) :
    FnOk P w K mg base CX0 1 f fd ["self"] sp := by
  refine F.ok sc_Scene_shows len (fun cdv A outer s H vs Q E hr h => ⟨t_Scene_shows K , ?_, pure vs H Q E h⟩)
  exact (pss_one (ps_ret (pe_callTy call_list_of (by rfl) T.f_list PyProof.Rows.boot_list (pa_cons (pe_fld (pv 0) rfl) pa_nil))))
theorem bi_Scene_shows {f : Addr} {fd : FuncData} (F : Fun K "shows" "Scene.shows" s_Scene_shows f fd) : Binds K fd ["self"] [] := F.binds (ps := ["self"]) fun _ _ _ _ _ _ us hl => match us, hl with | [_], _ => rfl
def n_Book_contains : List Str := ["self", "name"]
def t_Book_contains (K : PySem.W.Frag) : TS :=
  (tRet (tOp (rIn K false) (tVar 1) (tFld K (tVar 0) "_names")))
theorem sc_Book_contains : FnScope n_Book_contains ["self", "name"] (defScope s_Book_contains) := ⟨rfl, rfl, rfl, by decide +kernel, rfl, by decide +kernel, by decide +kernel⟩
theorem ok_Book_contains {sp : Sp} (T : Txt K mg)  {f : Addr} {fd : FuncData} (F : Fun K "__contains__" "Book.__contains__" s_Book_contains f fd)
    (len : ∀ vs H Q E, sp vs H Q E → vs.length = 2) (pure : ∀ vs H Q E, sp vs H Q E → t_Book_contains K  { nx := fun _ H' => Q .non H', rt := Q } (start n_Book_contains vs) H) :
    FnOk P w K mg base CX0 1 f fd ["self", "name"] sp := by
  refine F.ok sc_Book_contains len (fun cdv A outer s H vs Q E hr h => ⟨t_Book_contains K , ?_, pure vs H Q E h⟩)
  exact (pss_one (ps_ret (pe_cmpR op_in_seq (pv 1) (pe_fld (pv 0) rfl) (by rfl))))
theorem bi_Book_contains {f : Addr} {fd : FuncData} (F : Fun K "__contains__" "Book.__contains__" s_Book_contains f fd) : Binds K fd ["self", "name"] [] := F.binds (ps := ["self", "name"]) fun _ _ _ _ _ _ us hl => match us, hl with | [_, _], _ => rfl
def n_Scene_show : List Str := ["self", "name", "clip", "prop", "cue", "other"]
def t_Scene_show (K : PySem.W.Frag) (sp_has_property sp_Book_contains : Sp) : TS :=
  (tSeq (tIfS (tTest (tOp (rIn K false) (tVar 1) (tLc (iList K (tFld K (tVar 0) "_shows")) (gName 5) tYes (tOp (rIxT K) (tVar 5) (tC (.int 0))) [5]))) tNever tNext)
  (tSeq (tIfS (tNot (tB (tCall sp_has_property [] E0 (tCons (tVar 2) (tCons (tVar 3) tNil))))) tNever tNext)
  (tSeq (tIfS (tTest (tOp (rHas (He.ga K "Book") sp_Book_contains true) (tVar 4) (tFld K (tVar 0) "_book"))) tNever tNext)
  (tSeq (tIfS (tTest (tOp (rI0 fun i j => .bl (decide (j ≤ i))) (tCB (rLenQ K) (tCons (tFld K (tVar 0) "_shows") tNil)) (tC (.int 6)))) tNever tNext)
  (tDrop (tBM K "list" rAppend (tFld K (tVar 0) "_shows") (tCons (tTup (tCons (tVar 1) (tCons (tVar 2) (tCons (tVar 3) (tCons (tVar 4) tNil))))) tNil)))))))
theorem sc_Scene_show : FnScope n_Scene_show ["self", "name", "clip", "prop", "cue"] (defScope s_Scene_show) := ⟨rfl, rfl, rfl, by decide +kernel, rfl, by decide +kernel, by decide +kernel⟩
theorem ok_Scene_show {sp_has_property sp_Book_contains sp : Sp} (T : Txt K mg) (G_has_property : Cal P w K mg base 1 "has_property" ["clip", "prop"] sp_has_property) (G_Book_contains : MCal P w K mg base 1 (He.ga K "Book") "__contains__" ["self", "name"] sp_Book_contains) {f : Addr} {fd : FuncData} (F : Fun K "show" "Scene.show" s_Scene_show f fd)
    (len : ∀ vs H Q E, sp vs H Q E → vs.length = 5) (pure : ∀ vs H Q E, sp vs H Q E → t_Scene_show K sp_has_property sp_Book_contains { nx := fun _ H' => Q .non H', rt := Q } (start n_Scene_show vs) H) :
    FnOk P w K mg base CX0 2 f fd ["self", "name", "clip", "prop", "cue"] sp := by
  refine F.ok sc_Scene_show len (fun cdv A outer s H vs Q E hr h => ⟨t_Scene_show K sp_has_property sp_Book_contains, ?_, pure vs H Q E h⟩)
  exact (pss_cons (ps_if (pt_cmpR op_in_seq (pv 1) (pe_lc (own := [("other", 5)]) (g := (gName 5)) rfl sc_Scene_show.nd (pi_list (pe_fld (pv 0) rfl)) (blkOk_by (own := [("other", 5)]) (N := n_Scene_show) (sc := defScope s_Scene_show) (by decide +kernel)) (fun _ _ _ _ _ => (pg_name (i := 5) sc_Scene_show.nd rfl (Or.inl rfl))) (fun _ _ _ _ _ => pts_nil) (fun _ _ _ _ _ => (pe_ix ix_tup (pv 5) pe_int (fun _ _ => rfl)))) (by rfl)) (pss_one ps_never) pss_nil)
    (pss_cons (ps_if (pt_not (pt_val (pe_cal G_has_property (hr.mono (by decide)) rfl (pa_cons (pv 2) (pa_cons (pv 3) pa_nil))))) (pss_one ps_never) pss_nil)
    (pss_cons (ps_if (pt_cmpR (op_hasNot G_Book_contains (hr.mono (by decide))) (pv 4) (pe_fld (pv 0) rfl) (by rfl)) (pss_one ps_never) pss_nil)
    (pss_cons (ps_if (pt_cmpR op_ge (pe_callB call_len_seq (by rfl) T.f_len PySem.boot_len (pa_cons (pe_fld (pv 0) rfl) pa_nil)) (pe_globI rfl T.i_SHOWS) (nomark _)) (pss_one ps_never) pss_nil)
    (pss_one (ps_expr (pe_bm PySem.F.plainAttrs_list PySem.F.slot_list_append PySem.F.type_list_append mt_append (pe_fld (pv 0) rfl) (pa_cons (pe_tup (pa_cons (pv 1) (pa_cons (pv 2) (pa_cons (pv 3) (pa_cons (pv 4) pa_nil))))) pa_nil))))))))
theorem bi_Scene_show {f : Addr} {fd : FuncData} (F : Fun K "show" "Scene.show" s_Scene_show f fd) : Binds K fd ["self", "name", "clip", "prop", "cue"] [] := F.binds (ps := ["self", "name", "clip", "prop", "cue"]) fun _ _ _ _ _ _ us hl => match us, hl with | [_, _, _, _, _], _ => rfl
def n_Scene_shown : List Str := ["self", "name", "moment", "found", "other"]
def t_Scene_shown (K : PySem.W.Frag) (sp_Book_contains : Sp) : TS :=
  (tSeq (tAsg (tC .non) (gName 3))
  (tSeq (tFor (iList K (tFld K (tVar 0) "_shows")) (gName 4) (tIfS (tTest (tOp rEq (tOp (rIxT K) (tVar 4) (tC (.int 0))) (tVar 1))) (tAsg (tVar 4) (gName 3)) tNext))
  (tSeq (tIfS (tTest (tOp rIsNone (tVar 3) (tC .non))) tNever tNext)
  (tSeq (tIfS (tOr (tTest (tOp (rHas (He.ga K "Book") sp_Book_contains true) (tVar 2) (tFld K (tVar 0) "_book"))) (tTest (tOp (rHas (He.ga K "Book") sp_Book_contains true) (tOp (rIxT K) (tVar 3) (tC (.int 3))) (tFld K (tVar 0) "_book")))) tNever tNext)
  (tRet (tVar 3))))))
theorem sc_Scene_shown : FnScope n_Scene_shown ["self", "name", "moment"] (defScope s_Scene_shown) := ⟨rfl, rfl, rfl, by decide +kernel, rfl, by decide +kernel, by decide +kernel⟩
theorem ok_Scene_shown {sp_Book_contains sp : Sp} (T : Txt K mg) (G_Book_contains : MCal P w K mg base 1 (He.ga K "Book") "__contains__" ["self", "name"] sp_Book_contains) {f : Addr} {fd : FuncData} (F : Fun K "shown" "Scene.shown" s_Scene_shown f fd)
    (len : ∀ vs H Q E, sp vs H Q E → vs.length = 3) (pure : ∀ vs H Q E, sp vs H Q E → t_Scene_shown K sp_Book_contains { nx := fun _ H' => Q .non H', rt := Q } (start n_Scene_shown vs) H) :
    FnOk P w K mg base CX0 2 f fd ["self", "name", "moment"] sp := by
  refine F.ok sc_Scene_shown len (fun cdv A outer s H vs Q E hr h => ⟨t_Scene_shown K sp_Book_contains, ?_, pure vs H Q E h⟩)
  exact (pss_cons (ps_set (i := 3) sc_Scene_shown.nd rfl (Or.inl rfl) pe_non)
    (pss_cons (ps_for PassesOwn.never rfl (pi_list (pe_fld (pv 0) rfl)) (pg_name (i := 4) sc_Scene_shown.nd rfl (Or.inl rfl)) (pss_one (ps_if (pt_cmpR op_eq (pe_ix ix_tup (pv 4) pe_int (fun _ _ => rfl)) (pv 1) (nomark _)) (pss_one (ps_set (i := 3) sc_Scene_shown.nd rfl (Or.inl rfl) (pv 4))) pss_nil)))
    (pss_cons (ps_if (pt_cmpR op_isN (pv 3) pe_non (nomark _)) (pss_one ps_never) pss_nil)
    (pss_cons (ps_if (PW.pt (pw_or (pt_cmpR (op_hasNot G_Book_contains (hr.mono (by decide))) (pv 2) (pe_fld (pv 0) rfl) (by rfl)) (pw_or1 (pt_cmpR (op_hasNot G_Book_contains (hr.mono (by decide))) (pe_ix ix_tup (pv 3) pe_int (fun _ _ => rfl)) (pe_fld (pv 0) rfl) (by rfl))))) (pss_one ps_never) pss_nil)
    (pss_one (ps_ret (pv 3)))))))
theorem bi_Scene_shown {f : Addr} {fd : FuncData} (F : Fun K "shown" "Scene.shown" s_Scene_shown f fd) : Binds K fd ["self", "name", "moment"] [] := F.binds (ps := ["self", "name", "moment"]) fun _ _ _ _ _ _ us hl => match us, hl with | [_, _, _], _ => rfl
def n_Scene_value : List Str := ["self", "name", "moment", "fit", "_", "clip", "prop", "cue", "times"]
def t_Scene_value (K : PySem.W.Frag) (sp_Scene_shown sp_minus sp_shown_at : Sp) : TS :=
  (tSeq (tAsg (tMeth (He.ga K "Scene") "shown" sp_Scene_shown [] E0 (tVar 0) (tCons (tVar 1) (tCons (tVar 2) tNil))) (gTup K 4 (gCons (gName 4) (gCons (gName 5) (gCons (gName 6) (gCons (gName 7) gNil))))))
  (tSeq (tAsg (tCB (rDictP K) (tCons (tVar 3) tNil)) (gName 8))
  (tRet (tCall sp_shown_at [] E0 (tCons (tVar 5) (tCons (tVar 6) (tCons (tCall sp_minus [] E0 (tCons (tDGet (tVar 8) (tVar 2)) (tCons (tDGet (tVar 8) (tVar 7)) tNil))) tNil)))))))
theorem sc_Scene_value : FnScope n_Scene_value ["self", "name", "moment", "fit"] (defScope s_Scene_value) := ⟨rfl, rfl, rfl, by decide +kernel, rfl, by decide +kernel, by decide +kernel⟩
theorem ok_Scene_value {sp_Scene_shown sp_minus sp_shown_at sp : Sp} (T : Txt K mg) (G_Scene_shown : MCal P w K mg base 2 (He.ga K "Scene") "shown" ["self", "name", "moment"] sp_Scene_shown) (G_minus : Cal P w K mg base 3 "minus" ["first", "second"] sp_minus) (G_shown_at : Cal P w K mg base 6 "shown_at" ["clip", "prop", "number"] sp_shown_at) {f : Addr} {fd : FuncData} (F : Fun K "value" "Scene.value" s_Scene_value f fd)
    (len : ∀ vs H Q E, sp vs H Q E → vs.length = 4) (pure : ∀ vs H Q E, sp vs H Q E → t_Scene_value K sp_Scene_shown sp_minus sp_shown_at { nx := fun _ H' => Q .non H', rt := Q } (start n_Scene_value vs) H) :
    FnOk P w K mg base CX0 7 f fd ["self", "name", "moment", "fit"] sp := by
  refine F.ok sc_Scene_value len (fun cdv A outer s H vs Q E hr h => ⟨t_Scene_value K sp_Scene_shown sp_minus sp_shown_at, ?_, pure vs H Q E h⟩)
  exact (pss_cons (ps_asg (pe_mcal G_Scene_shown (hr.mono (by decide)) (pv 0) (pa_cons (pv 1) (pa_cons (pv 2) pa_nil))) (pg_tup rfl (pgs_cons (pg_name (i := 4) sc_Scene_value.nd rfl (Or.inl rfl)) (pgs_cons (pg_name (i := 5) sc_Scene_value.nd rfl (Or.inl rfl)) (pgs_cons (pg_name (i := 6) sc_Scene_value.nd rfl (Or.inl rfl)) (pgs_cons (pg_name (i := 7) sc_Scene_value.nd rfl (Or.inl rfl)) pgs_nil))))))
    (pss_cons (ps_set (i := 8) sc_Scene_value.nd rfl (Or.inl rfl) (pe_callTy (call_dictP rfl) (by rfl) T.f_dict PyProof.Rows.boot_dict (pa_cons (pv 3) pa_nil)))
    (pss_one (ps_ret (pe_cal G_shown_at (hr.mono (by decide)) rfl (pa_cons (pv 5) (pa_cons (pv 6) (pa_cons (pe_cal G_minus (hr.mono (by decide)) rfl (pa_cons (pe_dget (hu_of hr) (pv 8) (pv 2) (fun _ _ => rfl)) (pa_cons (pe_dget (hu_of hr) (pv 8) (pv 7) (fun _ _ => rfl)) pa_nil))) pa_nil))))))))
theorem bi_Scene_value {f : Addr} {fd : FuncData} (F : Fun K "value" "Scene.value" s_Scene_value f fd) : Binds K fd ["self", "name", "moment", "fit"] [] := F.binds (ps := ["self", "name", "moment", "fit"]) fun _ _ _ _ _ _ us hl => match us, hl with | [_, _, _, _], _ => rfl
def n_Book_check_moments : List Str := ["self", "first", "second"]
def t_Book_check_moments (K : PySem.W.Frag) : TS :=
  (tIfS (tOr (tTest (tOp (rIn K true) (tVar 1) (tFld K (tVar 0) "_names"))) (tTest (tOp (rIn K true) (tVar 2) (tFld K (tVar 0) "_names")))) tNever tNext)
theorem sc_Book_check_moments : FnScope n_Book_check_moments ["self", "first", "second"] (defScope s_Book_check_moments) := ⟨rfl, rfl, rfl, by decide +kernel, rfl, by decide +kernel, by decide +kernel⟩
theorem ok_Book_check_moments {sp : Sp} (T : Txt K mg)  {f : Addr} {fd : FuncData} (F : Fun K "check_moments" "Book.check_moments" s_Book_check_moments f fd)
    (len : ∀ vs H Q E, sp vs H Q E → vs.length = 3) (pure : ∀ vs H Q E, sp vs H Q E → t_Book_check_moments K  { nx := fun _ H' => Q .non H', rt := Q } (start n_Book_check_moments vs) H) :
    FnOk P w K mg base CX0 1 f fd ["self", "first", "second"] sp := by
  refine F.ok sc_Book_check_moments len (fun cdv A outer s H vs Q E hr h => ⟨t_Book_check_moments K , ?_, pure vs H Q E h⟩)
  exact (pss_one (ps_if (PW.pt (pw_or (pt_cmpR op_notIn_seq (pv 1) (pe_fld (pv 0) rfl) (by rfl)) (pw_or1 (pt_cmpR op_notIn_seq (pv 2) (pe_fld (pv 0) rfl) (by rfl))))) (pss_one ps_never) pss_nil))
theorem bi_Book_check_moments {f : Addr} {fd : FuncData} (F : Fun K "check_moments" "Book.check_moments" s_Book_check_moments f fd) : Binds K fd ["self", "first", "second"] [] := F.binds (ps := ["self", "first", "second"]) fun _ _ _ _ _ _ us hl => match us, hl with | [_, _, _], _ => rfl
def n_ends_of_books : List Str := ["fact", "turn"]
def t_ends_of_books (K : PySem.W.Frag) (sp_minus : Sp) : TS :=
  (tSeq (tIfS (tTest (tOp rEq (tVar 1) (tC (.int 0)))) (tRet (tTup (tCons (tOp (rIxT K) (tVar 0) (tC (.int 0))) (tCons (tOp (rIxT K) (tVar 0) (tC (.int 1))) (tCons (tOp (rIxT K) (tVar 0) (tC (.int 3))) tNil))))) tNext)
  (tRet (tTup (tCons (tOp (rIxT K) (tVar 0) (tC (.int 1))) (tCons (tOp (rIxT K) (tVar 0) (tC (.int 0))) (tCons (tCall sp_minus [] E0 (tCons (tC (.ref (He.ga K "NOUGHT_books"))) (tCons (tOp (rIxT K) (tVar 0) (tC (.int 2))) tNil))) tNil))))))
theorem sc_ends_of_books : FnScope n_ends_of_books ["fact", "turn"] (defScope s_ends_of_books) := ⟨rfl, rfl, rfl, by decide +kernel, rfl, by decide +kernel, by decide +kernel⟩
theorem ok_ends_of_books {sp_minus sp : Sp} (T : Txt K mg) (G_minus : Cal P w K mg base 3 "minus" ["first", "second"] sp_minus) {f : Addr} {fd : FuncData} (F : Fun K "ends_of" "ends_of" s_ends_of_books f fd)
    (len : ∀ vs H Q E, sp vs H Q E → vs.length = 2) (pure : ∀ vs H Q E, sp vs H Q E → t_ends_of_books K sp_minus { nx := fun _ H' => Q .non H', rt := Q } (start n_ends_of_books vs) H) :
    FnOk P w K mg base CX0 4 f fd ["fact", "turn"] sp := by
  refine F.ok sc_ends_of_books len (fun cdv A outer s H vs Q E hr h => ⟨t_ends_of_books K sp_minus, ?_, pure vs H Q E h⟩)
  exact (pss_cons (ps_if (pt_cmpR op_eq (pv 1) pe_int (nomark _)) (pss_one (ps_ret (pe_tup (pa_cons (pe_ix ix_tup (pv 0) pe_int (fun _ _ => rfl)) (pa_cons (pe_ix ix_tup (pv 0) pe_int (fun _ _ => rfl)) (pa_cons (pe_ix ix_tup (pv 0) pe_int (fun _ _ => rfl)) pa_nil)))))) pss_nil)
    (pss_one (ps_ret (pe_tup (pa_cons (pe_ix ix_tup (pv 0) pe_int (fun _ _ => rfl)) (pa_cons (pe_ix ix_tup (pv 0) pe_int (fun _ _ => rfl)) (pa_cons (pe_cal G_minus (hr.mono (by decide)) rfl (pa_cons (pe_glob rfl T.g_NOUGHT_books rfl) (pa_cons (pe_ix ix_tup (pv 0) pe_int (fun _ _ => rfl)) pa_nil))) pa_nil)))))))
theorem bi_ends_of_books {f : Addr} {fd : FuncData} (F : Fun K "ends_of" "ends_of" s_ends_of_books f fd) : Binds K fd ["fact", "turn"] [] := F.binds (ps := ["fact", "turn"]) fun _ _ _ _ _ _ us hl => match us, hl with | [_, _], _ => rfl
def n_is_better : List Str := ["found", "other", "order"]
def t_is_better (K : PySem.W.Frag) (sp_compare : Sp) : TS :=
  (tSeq (tAsg (tCall sp_compare [] E0 (tCons (tOp (rIxT K) (tVar 0) (tC (.int 0))) (tCons (tOp (rIxT K) (tVar 1) (tC (.int 0))) tNil))) (gName 2))
  (tSeq (tIfS (tTest (tOp rNe (tVar 2) (tC (.int 0)))) (tRet (tOp (rI0 fun i j => .bl (decide (i < j))) (tVar 2) (tC (.int 0)))) tNext)
  (tRet (tOp (rLtA K) (tOp (rIxT K) (tVar 0) (tC (.int 1))) (tOp (rIxT K) (tVar 1) (tC (.int 1)))))))
theorem sc_is_better : FnScope n_is_better ["found", "other"] (defScope s_is_better) := ⟨rfl, rfl, rfl, by decide +kernel, rfl, by decide +kernel, by decide +kernel⟩
theorem ok_is_better {sp_compare sp : Sp} (T : Txt K mg) (G_compare : Cal P w K mg base 1 "compare" ["first", "second"] sp_compare) {f : Addr} {fd : FuncData} (F : Fun K "is_better" "is_better" s_is_better f fd)
    (len : ∀ vs H Q E, sp vs H Q E → vs.length = 2) (pure : ∀ vs H Q E, sp vs H Q E → t_is_better K sp_compare { nx := fun _ H' => Q .non H', rt := Q } (start n_is_better vs) H) :
    FnOk P w K mg base CX0 2 f fd ["found", "other"] sp := by
  refine F.ok sc_is_better len (fun cdv A outer s H vs Q E hr h => ⟨t_is_better K sp_compare, ?_, pure vs H Q E h⟩)
  exact (pss_cons (ps_set (i := 2) sc_is_better.nd rfl (Or.inl rfl) (pe_cal G_compare (hr.mono (by decide)) rfl (pa_cons (pe_ix ix_tup (pv 0) pe_int (fun _ _ => rfl)) (pa_cons (pe_ix ix_tup (pv 1) pe_int (fun _ _ => rfl)) pa_nil))))
    (pss_cons (ps_if (pt_cmpR op_ne (pv 2) pe_int (nomark _)) (pss_one (ps_ret (pe_cmpR op_lt (pv 2) pe_int (nomark _)))) pss_nil)
    (pss_one (ps_ret (pe_cmpR (op_ltA hr.units) (pe_ix ix_tup (pv 0) pe_int (fun _ _ => rfl)) (pe_ix ix_tup (pv 1) pe_int (fun _ _ => rfl)) (nomark _))))))
theorem bi_is_better {f : Addr} {fd : FuncData} (F : Fun K "is_better" "is_better" s_is_better f fd) : Binds K fd ["found", "other"] [] := F.binds (ps := ["found", "other"]) fun _ _ _ _ _ _ us hl => match us, hl with | [_, _], _ => rfl
def n_one_step_more : List Str := ["facts", "layer", "later", "number", "turn", "begin", "end", "length", "found"]
def t_one_step_more (K : PySem.W.Frag) (sp_ends_of_books sp_plus sp_is_better : Sp) : TS :=
  (tSeq (tAsg tDNewK (gName 2))
  (tSeq (tFor (iRng1 (tCons (tCB (rLenQ K) (tCons (tVar 0) tNil)) tNil)) (gName 3) (tFor (iRng1 (tCons (tC (.int 2)) tNil)) (gName 4) (tSeq (tAsg (tCall sp_ends_of_books [] E0 (tCons (tOp (rIxL K) (tVar 0) (tVar 3)) (tCons (tVar 4) tNil))) (gTup K 3 (gCons (gName 5) (gCons (gName 6) (gCons (gName 7) gNil)))))
  (tIfS (tB (tDIn (tVar 5) (tVar 1))) (tSeq (tAsg (tTup (tCons (tCall sp_plus [] E0 (tCons (tOp (rIxT K) (tDGet (tVar 1) (tVar 5)) (tC (.int 0))) (tCons (tVar 7) tNil))) (tCons (tOp rCat (tOp (rIxT K) (tDGet (tVar 1) (tVar 5)) (tC (.int 1))) (tLst (tCons (tTup (tCons (tVar 3) (tCons (tVar 4) tNil))) tNil))) tNil))) (gName 8))
  (tIfS (tOr (tB (tDNotIn (tVar 6) (tVar 2))) (tB (tCall sp_is_better [] E0 (tCons (tVar 8) (tCons (tDGet (tVar 2) (tVar 6)) tNil))))) (sDPut (tVar 2) (tVar 6) (tVar 8)) tNext)) tNext))))
  (tRet (tVar 2))))
theorem sc_one_step_more : FnScope n_one_step_more ["facts", "layer"] (defScope s_one_step_more) := ⟨rfl, rfl, rfl, by decide +kernel, rfl, by decide +kernel, by decide +kernel⟩
theorem ok_one_step_more {sp_ends_of_books sp_plus sp_is_better sp : Sp} (T : Txt K mg) (G_ends_of_books : Cal P w K mg base 4 "ends_of_books" ["fact", "turn"] sp_ends_of_books) (G_plus : Cal P w K mg base 3 "plus" ["first", "second"] sp_plus) (G_is_better : Cal P w K mg base 2 "is_better" ["found", "other"] sp_is_better) {f : Addr} {fd : FuncData} (F : Fun K "one_step_more" "one_step_more" s_one_step_more f fd)
    (len : ∀ vs H Q E, sp vs H Q E → vs.length = 2) (pure : ∀ vs H Q E, sp vs H Q E → t_one_step_more K sp_ends_of_books sp_plus sp_is_better { nx := fun _ H' => Q .non H', rt := Q } (start n_one_step_more vs) H) :
    FnOk P w K mg base CX0 5 f fd ["facts", "layer"] sp := by
  refine F.ok sc_one_step_more len (fun cdv A outer s H vs Q E hr h => ⟨t_one_step_more K sp_ends_of_books sp_plus sp_is_better, ?_, pure vs H Q E h⟩)
  exact (pss_cons (ps_set (i := 2) sc_one_step_more.nd rfl (Or.inl rfl) pe_dnewK)
    (pss_cons (ps_for PassesOwn.never rfl (pi_range1 (by rfl) T.f_range (pa_cons (pe_callB call_len_seq (by rfl) T.f_len PySem.boot_len (pa_cons (pv 0) pa_nil)) pa_nil)) (pg_name (i := 3) sc_one_step_more.nd rfl (Or.inl rfl)) (pss_one (ps_for PassesOwn.never rfl (pi_range1 (by rfl) T.f_range (pa_cons pe_int pa_nil)) (pg_name (i := 4) sc_one_step_more.nd rfl (Or.inl rfl)) (pss_cons (ps_asg (pe_cal G_ends_of_books (hr.mono (by decide)) rfl (pa_cons (pe_ix ix_list (pv 0) (pv 3) (fun _ _ => rfl)) (pa_cons (pv 4) pa_nil))) (pg_tup rfl (pgs_cons (pg_name (i := 5) sc_one_step_more.nd rfl (Or.inl rfl)) (pgs_cons (pg_name (i := 6) sc_one_step_more.nd rfl (Or.inl rfl)) (pgs_cons (pg_name (i := 7) sc_one_step_more.nd rfl (Or.inl rfl)) pgs_nil)))))
    (pss_one (ps_if (pt_cmp (pc_din (hu_of hr) (pv 5) (pv 1))) (pss_cons (ps_set (i := 8) sc_one_step_more.nd rfl (Or.inl rfl) (pe_tup (pa_cons (pe_cal G_plus (hr.mono (by decide)) rfl (pa_cons (pe_ix ix_tup (pe_dget (hu_of hr) (pv 1) (pv 5) (fun _ _ => rfl)) pe_int (fun _ _ => rfl)) (pa_cons (pv 7) pa_nil))) (pa_cons (pe_op op_cat (pe_ix ix_tup (pe_dget (hu_of hr) (pv 1) (pv 5) (fun _ _ => rfl)) pe_int (fun _ _ => rfl)) (pe_lst (pa_cons (pe_tup (pa_cons (pv 3) (pa_cons (pv 4) pa_nil))) pa_nil))) pa_nil))))
    (pss_one (ps_if (PW.pt (pw_or (pt_cmp (pc_dnotin (hu_of hr) (pv 6) (pv 2))) (pw_or1 (pt_val (pe_cal G_is_better (hr.mono (by decide)) rfl (pa_cons (pv 8) (pa_cons (pe_dget (hu_of hr) (pv 2) (pv 6) (fun _ _ => rfl)) pa_nil))))))) (pss_one (ps_dput (hu_of hr) (pv 2) (pv 6) (pv 8) rfl)) pss_nil))) pss_nil))))))
    (pss_one (ps_ret (pv 2)))))
theorem bi_one_step_more {f : Addr} {fd : FuncData} (F : Fun K "one_step_more" "one_step_more" s_one_step_more f fd) : Binds K fd ["facts", "layer"] [] := F.binds (ps := ["facts", "layer"]) fun _ _ _ _ _ _ us hl => match us, hl with | [_, _], _ => rfl
def n_best_chains : List Str := ["facts", "many", "first", "layer", "best", "_", "name"]
def t_best_chains (K : PySem.W.Frag) (sp_one_step_more sp_compare : Sp) : TS :=
  (tSeq (tAsg (tDisp [((tVar 2), (tTup (tCons (tC (.ref (He.ga K "NOUGHT_books"))) (tCons (tLst tNil) tNil))))]) (gName 3))
  (tSeq (tAsg (tDisp [((tVar 2), (tTup (tCons (tC (.ref (He.ga K "NOUGHT_books"))) (tCons (tLst tNil) tNil))))]) (gName 4))
  (tSeq (tFor (iRng1 (tCons (tVar 1) tNil)) (gName 5) (tSeq (tAsg (tCall sp_one_step_more [] E0 (tCons (tVar 0) (tCons (tVar 3) tNil))) (gName 3))
  (tLock (tFor (iKeys (tVar 3)) (gName 6) (tIfS (tOr (tB (tDNotIn (tVar 6) (tVar 4))) (tTest (tOp (rI0 fun i j => .bl (decide (i < j))) (tCall sp_compare [] E0 (tCons (tOp (rIxT K) (tDGet (tVar 3) (tVar 6)) (tC (.int 0))) (tCons (tOp (rIxT K) (tDGet (tVar 4) (tVar 6)) (tC (.int 0))) tNil))) (tC (.int 0))))) (sDPut (tVar 4) (tVar 6) (tDGet (tVar 3) (tVar 6))) tNext)))))
  (tRet (tVar 4)))))
theorem sc_best_chains : FnScope n_best_chains ["facts", "many", "first"] (defScope s_best_chains) := ⟨rfl, rfl, rfl, by decide +kernel, rfl, by decide +kernel, by decide +kernel⟩
theorem ok_best_chains {sp_one_step_more sp_compare sp : Sp} (T : Txt K mg) (G_one_step_more : Cal P w K mg base 5 "one_step_more" ["facts", "layer"] sp_one_step_more) (G_compare : Cal P w K mg base 1 "compare" ["first", "second"] sp_compare) {f : Addr} {fd : FuncData} (F : Fun K "best_chains" "best_chains" s_best_chains f fd)
    (len : ∀ vs H Q E, sp vs H Q E → vs.length = 3) (pure : ∀ vs H Q E, sp vs H Q E → t_best_chains K sp_one_step_more sp_compare { nx := fun _ H' => Q .non H', rt := Q } (start n_best_chains vs) H) :
    FnOk P w K mg base CX0 6 f fd ["facts", "many", "first"] sp := by
  refine F.ok sc_best_chains len (fun cdv A outer s H vs Q E hr h => ⟨t_best_chains K sp_one_step_more sp_compare, ?_, pure vs H Q E h⟩)
  exact (pss_cons (ps_set (i := 3) sc_best_chains.nd rfl (Or.inl rfl) (pe_disp (pps_cons (pv 2) (pe_tup (pa_cons (pe_glob rfl T.g_NOUGHT_books rfl) (pa_cons (pe_lst pa_nil) pa_nil))) pps_nil) (by rfl) (by rfl) (fun z => by cases z) (by decide)))
    (pss_cons (ps_set (i := 4) sc_best_chains.nd rfl (Or.inl rfl) (pe_disp (pps_cons (pv 2) (pe_tup (pa_cons (pe_glob rfl T.g_NOUGHT_books rfl) (pa_cons (pe_lst pa_nil) pa_nil))) pps_nil) (by rfl) (by rfl) (fun z => by cases z) (by decide)))
    (pss_cons (ps_for PassesOwn.never rfl (pi_range1 (by rfl) T.f_range (pa_cons (pv 1) pa_nil)) (pg_name (i := 5) sc_best_chains.nd rfl (Or.inl rfl)) (pss_cons (ps_set (i := 3) sc_best_chains.nd rfl (Or.inl rfl) (pe_cal G_one_step_more (hr.mono (by decide)) rfl (pa_cons (pv 0) (pa_cons (pv 3) pa_nil))))
    (pss_one (ps_lock (ps_for PassesOwn.never rfl (pi_keys (pv 3)) (pg_name (i := 6) sc_best_chains.nd rfl (Or.inl rfl)) (pss_one (ps_if (PW.pt (pw_or (pt_cmp (pc_dnotin (hu_of hr) (pv 6) (pv 4))) (pw_or1 (pt_cmpR op_lt (pe_cal G_compare (hr.mono (by decide)) rfl (pa_cons (pe_ix ix_tup (pe_dget (hu_of hr) (pv 3) (pv 6) (fun _ _ => rfl)) pe_int (fun _ _ => rfl)) (pa_cons (pe_ix ix_tup (pe_dget (hu_of hr) (pv 4) (pv 6) (fun _ _ => rfl)) pe_int (fun _ _ => rfl)) pa_nil))) pe_int (nomark _))))) (pss_one (ps_dput (hu_of hr) (pv 4) (pv 6) (pe_dget (hu_of hr) (pv 3) (pv 6) (fun _ _ => rfl)) rfl)) pss_nil)))))))
    (pss_one (ps_ret (pv 4))))))
theorem bi_best_chains {f : Addr} {fd : FuncData} (F : Fun K "best_chains" "best_chains" s_best_chains f fd) : Binds K fd ["facts", "many", "first"] [] := F.binds (ps := ["facts", "many", "first"]) fun _ _ _ _ _ _ us hl => match us, hl with | [_, _, _], _ => rfl
def n_Book_best : List Str := ["self", "first", "second"]
def t_Book_best (K : PySem.W.Frag) (sp_Book_check_moments sp_best_chains : Sp) : TS :=
  (tSeq (tDrop (tMeth (He.ga K "Book") "check_moments" sp_Book_check_moments [] E0 (tVar 0) (tCons (tVar 1) (tCons (tVar 2) tNil))))
  (tRet (tDGet (tCall sp_best_chains [] E0 (tCons (tFld K (tVar 0) "_facts") (tCons (tCB (rLenQ K) (tCons (tFld K (tVar 0) "_names") tNil)) (tCons (tVar 1) tNil)))) (tVar 2))))
theorem sc_Book_best : FnScope n_Book_best ["self", "first", "second"] (defScope s_Book_best) := ⟨rfl, rfl, rfl, by decide +kernel, rfl, by decide +kernel, by decide +kernel⟩
theorem ok_Book_best {sp_Book_check_moments sp_best_chains sp : Sp} (T : Txt K mg) (G_Book_check_moments : MCal P w K mg base 1 (He.ga K "Book") "check_moments" ["self", "first", "second"] sp_Book_check_moments) (G_best_chains : Cal P w K mg base 6 "best_chains" ["facts", "many", "first"] sp_best_chains) {f : Addr} {fd : FuncData} (F : Fun K "best" "Book.best" s_Book_best f fd)
    (len : ∀ vs H Q E, sp vs H Q E → vs.length = 3) (pure : ∀ vs H Q E, sp vs H Q E → t_Book_best K sp_Book_check_moments sp_best_chains { nx := fun _ H' => Q .non H', rt := Q } (start n_Book_best vs) H) :
    FnOk P w K mg base CX0 7 f fd ["self", "first", "second"] sp := by
  refine F.ok sc_Book_best len (fun cdv A outer s H vs Q E hr h => ⟨t_Book_best K sp_Book_check_moments sp_best_chains, ?_, pure vs H Q E h⟩)
  exact (pss_cons (ps_expr (pe_mcal G_Book_check_moments (hr.mono (by decide)) (pv 0) (pa_cons (pv 1) (pa_cons (pv 2) pa_nil))))
    (pss_one (ps_ret (pe_dget (hu_of hr) (pe_cal G_best_chains (hr.mono (by decide)) rfl (pa_cons (pe_fld (pv 0) rfl) (pa_cons (pe_callB call_len_seq (by rfl) T.f_len PySem.boot_len (pa_cons (pe_fld (pv 0) rfl) pa_nil)) (pa_cons (pv 1) pa_nil)))) (pv 2) (fun _ _ => rfl)))))
theorem bi_Book_best {f : Addr} {fd : FuncData} (F : Fun K "best" "Book.best" s_Book_best f fd) : Binds K fd ["self", "first", "second"] [] := F.binds (ps := ["self", "first", "second"]) fun _ _ _ _ _ _ us hl => match us, hl with | [_, _, _], _ => rfl
def n_Book_span : List Str := ["self", "first", "second", "high"]
def t_Book_span (K : PySem.W.Frag) (sp_Book_best sp_minus : Sp) : TS :=
  (tSeq (tAsg (tOp (rIxT K) (tMeth (He.ga K "Book") "best" sp_Book_best [] E0 (tVar 0) (tCons (tVar 1) (tCons (tVar 2) tNil))) (tC (.int 0))) (gName 3))
  (tRet (tTup (tCons (tCall sp_minus [] E0 (tCons (tC (.ref (He.ga K "NOUGHT_books"))) (tCons (tOp (rIxT K) (tMeth (He.ga K "Book") "best" sp_Book_best [] E0 (tVar 0) (tCons (tVar 2) (tCons (tVar 1) tNil))) (tC (.int 0))) tNil))) (tCons (tVar 3) tNil)))))
theorem sc_Book_span : FnScope n_Book_span ["self", "first", "second"] (defScope s_Book_span) := ⟨rfl, rfl, rfl, by decide +kernel, rfl, by decide +kernel, by decide +kernel⟩
theorem ok_Book_span {sp_Book_best sp_minus sp : Sp} (T : Txt K mg) (G_Book_best : MCal P w K mg base 7 (He.ga K "Book") "best" ["self", "first", "second"] sp_Book_best) (G_minus : Cal P w K mg base 3 "minus" ["first", "second"] sp_minus) {f : Addr} {fd : FuncData} (F : Fun K "span" "Book.span" s_Book_span f fd)
    (len : ∀ vs H Q E, sp vs H Q E → vs.length = 3) (pure : ∀ vs H Q E, sp vs H Q E → t_Book_span K sp_Book_best sp_minus { nx := fun _ H' => Q .non H', rt := Q } (start n_Book_span vs) H) :
    FnOk P w K mg base CX0 8 f fd ["self", "first", "second"] sp := by
  refine F.ok sc_Book_span len (fun cdv A outer s H vs Q E hr h => ⟨t_Book_span K sp_Book_best sp_minus, ?_, pure vs H Q E h⟩)
  exact (pss_cons (ps_set (i := 3) sc_Book_span.nd rfl (Or.inl rfl) (pe_ix ix_tup (pe_mcal G_Book_best (hr.mono (by decide)) (pv 0) (pa_cons (pv 1) (pa_cons (pv 2) pa_nil))) pe_int (fun _ _ => rfl)))
    (pss_one (ps_ret (pe_tup (pa_cons (pe_cal G_minus (hr.mono (by decide)) rfl (pa_cons (pe_glob rfl T.g_NOUGHT_books rfl) (pa_cons (pe_ix ix_tup (pe_mcal G_Book_best (hr.mono (by decide)) (pv 0) (pa_cons (pv 2) (pa_cons (pv 1) pa_nil))) pe_int (fun _ _ => rfl)) pa_nil))) (pa_cons (pv 3) pa_nil))))))
theorem bi_Book_span {f : Addr} {fd : FuncData} (F : Fun K "span" "Book.span" s_Book_span f fd) : Binds K fd ["self", "first", "second"] [] := F.binds (ps := ["self", "first", "second"]) fun _ _ _ _ _ _ us hl => match us, hl with | [_, _, _], _ => rfl
end
end Sc

/-! KWalk2 -/
set_option Elab.async false
set_option linter.all false
set_option maxRecDepth 100000
set_option maxHeartbeats 4000000
namespace Sc
open PySem PySem.Spec PyProof.Rows L2
section
variable {P : Program} {w : World} {K : PySem.W.Frag} {mg : Str → Option Value} {base : Heap}
def n_Scene_bounds : List Str := ["self", "name", "moment", "_", "clip", "prop", "cue", "low", "high"]
def t_Scene_bounds (K : PySem.W.Frag) (sp_Scene_shown sp_Book_span sp_values_between_scenes : Sp) : TS :=
  (tSeq (tAsg (tMeth (He.ga K "Scene") "shown" sp_Scene_shown [] E0 (tVar 0) (tCons (tVar 1) (tCons (tVar 2) tNil))) (gTup K 4 (gCons (gName 3) (gCons (gName 4) (gCons (gName 5) (gCons (gName 6) gNil))))))
  (tSeq (tAsg (tMeth (He.ga K "Book") "span" sp_Book_span [] E0 (tFld K (tVar 0) "_book") (tCons (tVar 6) (tCons (tVar 2) tNil))) (gTup K 2 (gCons (gName 7) (gCons (gName 8) gNil))))
  (tRet (tCall sp_values_between_scenes [] E0 (tCons (tVar 4) (tCons (tVar 5) (tCons (tVar 7) (tCons (tVar 8) tNil))))))))
theorem sc_Scene_bounds : FnScope n_Scene_bounds ["self", "name", "moment"] (defScope s_Scene_bounds) := ⟨rfl, rfl, rfl, by decide +kernel, rfl, by decide +kernel, by decide +kernel⟩
theorem ok_Scene_bounds {sp_Scene_shown sp_Book_span sp_values_between_scenes sp : Sp} (T : Txt K mg) (G_Scene_shown : MCal P w K mg base 2 (He.ga K "Scene") "shown" ["self", "name", "moment"] sp_Scene_shown) (G_Book_span : MCal P w K mg base 8 (He.ga K "Book") "span" ["self", "first", "second"] sp_Book_span) (G_values_between_scenes : Cal P w K mg base 8 "values_between_scenes" ["clip", "prop", "low", "high"] sp_values_between_scenes) {f : Addr} {fd : FuncData} (F : Fun K "bounds" "Scene.bounds" s_Scene_bounds f fd)
    (len : ∀ vs H Q E, sp vs H Q E → vs.length = 3) (pure : ∀ vs H Q E, sp vs H Q E → t_Scene_bounds K sp_Scene_shown sp_Book_span sp_values_between_scenes { nx := fun _ H' => Q .non H', rt := Q } (start n_Scene_bounds vs) H) :
    FnOk P w K mg base CX0 9 f fd ["self", "name", "moment"] sp := by
  refine F.ok sc_Scene_bounds len (fun cdv A outer s H vs Q E hr h => ⟨t_Scene_bounds K sp_Scene_shown sp_Book_span sp_values_between_scenes, ?_, pure vs H Q E h⟩)
  exact (pss_cons (ps_asg (pe_mcal G_Scene_shown (hr.mono (by decide)) (pv 0) (pa_cons (pv 1) (pa_cons (pv 2) pa_nil))) (pg_tup rfl (pgs_cons (pg_name (i := 3) sc_Scene_bounds.nd rfl (Or.inl rfl)) (pgs_cons (pg_name (i := 4) sc_Scene_bounds.nd rfl (Or.inl rfl)) (pgs_cons (pg_name (i := 5) sc_Scene_bounds.nd rfl (Or.inl rfl)) (pgs_cons (pg_name (i := 6) sc_Scene_bounds.nd rfl (Or.inl rfl)) pgs_nil))))))
    (pss_cons (ps_asg (pe_mcal G_Book_span (hr.mono (by decide)) (pe_fld (pv 0) rfl) (pa_cons (pv 6) (pa_cons (pv 2) pa_nil))) (pg_tup rfl (pgs_cons (pg_name (i := 7) sc_Scene_bounds.nd rfl (Or.inl rfl)) (pgs_cons (pg_name (i := 8) sc_Scene_bounds.nd rfl (Or.inl rfl)) pgs_nil))))
    (pss_one (ps_ret (pe_cal G_values_between_scenes (hr.mono (by decide)) rfl (pa_cons (pv 4) (pa_cons (pv 5) (pa_cons (pv 7) (pa_cons (pv 8) pa_nil)))))))))
theorem bi_Scene_bounds {f : Addr} {fd : FuncData} (F : Fun K "bounds" "Scene.bounds" s_Scene_bounds f fd) : Binds K fd ["self", "name", "moment"] [] := F.binds (ps := ["self", "name", "moment"]) fun _ _ _ _ _ _ us hl => match us, hl with | [_, _, _], _ => rfl
def n_Scene_says : List Str := ["self", "name", "moment", "low", "high", "least", "greatest"]
def t_Scene_says (K : PySem.W.Frag) (sp_Scene_bounds sp_compare : Sp) : TS :=
  (tSeq (tAsg (tMeth (He.ga K "Scene") "bounds" sp_Scene_bounds [] E0 (tVar 0) (tCons (tVar 1) (tCons (tVar 2) tNil))) (gTup K 2 (gCons (gName 5) (gCons (gName 6) gNil))))
  (tSeq (tIfS (tAnd (tTest (tOp (rI0 fun i j => .bl (decide (i ≤ j))) (tCall sp_compare [] E0 (tCons (tVar 3) (tCons (tVar 5) tNil))) (tC (.int 0)))) (tTest (tOp (rI0 fun i j => .bl (decide (i ≤ j))) (tCall sp_compare [] E0 (tCons (tVar 6) (tCons (tVar 4) tNil))) (tC (.int 0))))) (tRet (tC (.bl true))) tNext)
  (tSeq (tIfS (tOr (tTest (tOp (rI0 fun i j => .bl (decide (i < j))) (tCall sp_compare [] E0 (tCons (tVar 6) (tCons (tVar 3) tNil))) (tC (.int 0)))) (tTest (tOp (rI0 fun i j => .bl (decide (j < i))) (tCall sp_compare [] E0 (tCons (tVar 5) (tCons (tVar 4) tNil))) (tC (.int 0))))) (tRet (tC (.bl false))) tNext)
  (tRet (tC .non)))))
theorem sc_Scene_says : FnScope n_Scene_says ["self", "name", "moment", "low", "high"] (defScope s_Scene_says) := ⟨rfl, rfl, rfl, by decide +kernel, rfl, by decide +kernel, by decide +kernel⟩
theorem ok_Scene_says {sp_Scene_bounds sp_compare sp : Sp} (T : Txt K mg) (G_Scene_bounds : MCal P w K mg base 9 (He.ga K "Scene") "bounds" ["self", "name", "moment"] sp_Scene_bounds) (G_compare : Cal P w K mg base 1 "compare" ["first", "second"] sp_compare) {f : Addr} {fd : FuncData} (F : Fun K "says" "Scene.says" s_Scene_says f fd)
    (len : ∀ vs H Q E, sp vs H Q E → vs.length = 5) (pure : ∀ vs H Q E, sp vs H Q E → t_Scene_says K sp_Scene_bounds sp_compare { nx := fun _ H' => Q .non H', rt := Q } (start n_Scene_says vs) H) :
    FnOk P w K mg base CX0 10 f fd ["self", "name", "moment", "low", "high"] sp := by
  refine F.ok sc_Scene_says len (fun cdv A outer s H vs Q E hr h => ⟨t_Scene_says K sp_Scene_bounds sp_compare, ?_, pure vs H Q E h⟩)
  exact (pss_cons (ps_asg (pe_mcal G_Scene_bounds (hr.mono (by decide)) (pv 0) (pa_cons (pv 1) (pa_cons (pv 2) pa_nil))) (pg_tup rfl (pgs_cons (pg_name (i := 5) sc_Scene_says.nd rfl (Or.inl rfl)) (pgs_cons (pg_name (i := 6) sc_Scene_says.nd rfl (Or.inl rfl)) pgs_nil))))
    (pss_cons (ps_if (PW.pt (pw_and (pt_cmpR op_le (pe_cal G_compare (hr.mono (by decide)) rfl (pa_cons (pv 3) (pa_cons (pv 5) pa_nil))) pe_int (nomark _)) (pw_and1 (pt_cmpR op_le (pe_cal G_compare (hr.mono (by decide)) rfl (pa_cons (pv 6) (pa_cons (pv 4) pa_nil))) pe_int (nomark _))))) (pss_one (ps_ret pe_bl)) pss_nil)
    (pss_cons (ps_if (PW.pt (pw_or (pt_cmpR op_lt (pe_cal G_compare (hr.mono (by decide)) rfl (pa_cons (pv 6) (pa_cons (pv 3) pa_nil))) pe_int (nomark _)) (pw_or1 (pt_cmpR op_gt (pe_cal G_compare (hr.mono (by decide)) rfl (pa_cons (pv 5) (pa_cons (pv 4) pa_nil))) pe_int (nomark _))))) (pss_one (ps_ret pe_bl)) pss_nil)
    (pss_one (ps_ret pe_non)))))
theorem bi_Scene_says {f : Addr} {fd : FuncData} (F : Fun K "says" "Scene.says" s_Scene_says f fd) : Binds K fd ["self", "name", "moment", "low", "high"] [] := F.binds (ps := ["self", "name", "moment", "low", "high"]) fun _ _ _ _ _ _ us hl => match us, hl with | [_, _, _, _, _], _ => rfl
def n_lies_within : List Str := ["number", "low", "high"]
def t_lies_within (K : PySem.W.Frag) (sp_compare : Sp) : TS :=
  (tRet (tAndV (tOp (rI0 fun i j => .bl (decide (i ≤ j))) (tCall sp_compare [] E0 (tCons (tVar 1) (tCons (tVar 0) tNil))) (tC (.int 0))) (tOp (rI0 fun i j => .bl (decide (i ≤ j))) (tCall sp_compare [] E0 (tCons (tVar 0) (tCons (tVar 2) tNil))) (tC (.int 0)))))
theorem sc_lies_within : FnScope n_lies_within ["number", "low", "high"] (defScope s_lies_within) := ⟨rfl, rfl, rfl, by decide +kernel, rfl, by decide +kernel, by decide +kernel⟩
theorem ok_lies_within {sp_compare sp : Sp} (T : Txt K mg) (G_compare : Cal P w K mg base 1 "compare" ["first", "second"] sp_compare) {f : Addr} {fd : FuncData} (F : Fun K "lies_within" "lies_within" s_lies_within f fd)
    (len : ∀ vs H Q E, sp vs H Q E → vs.length = 3) (pure : ∀ vs H Q E, sp vs H Q E → t_lies_within K sp_compare { nx := fun _ H' => Q .non H', rt := Q } (start n_lies_within vs) H) :
    FnOk P w K mg base CX0 2 f fd ["number", "low", "high"] sp := by
  refine F.ok sc_lies_within len (fun cdv A outer s H vs Q E hr h => ⟨t_lies_within K sp_compare, ?_, pure vs H Q E h⟩)
  exact (pss_one (ps_ret (pe_and (pe_cmpR op_le (pe_cal G_compare (hr.mono (by decide)) rfl (pa_cons (pv 1) (pa_cons (pv 0) pa_nil))) pe_int (nomark _)) (pe_one (pe_cmpR op_le (pe_cal G_compare (hr.mono (by decide)) rfl (pa_cons (pv 0) (pa_cons (pv 2) pa_nil))) pe_int (nomark _))))))
theorem bi_lies_within {f : Addr} {fd : FuncData} (F : Fun K "lies_within" "lies_within" s_lies_within f fd) : Binds K fd ["number", "low", "high"] [] := F.binds (ps := ["number", "low", "high"]) fun _ _ _ _ _ _ us hl => match us, hl with | [_, _, _], _ => rfl
def n_show_of : List Str := ["scene", "name", "show"]
def t_show_of (K : PySem.W.Frag) (sp_Scene_shows : Sp) : TS :=
  (tSeq (tFor (iList K (tProp (He.ga K "Scene") sp_Scene_shows [] E0 (tVar 0))) (gName 2) (tIfS (tTest (tOp rEq (tOp (rIxT K) (tVar 2) (tC (.int 0))) (tVar 1))) (tRet (tVar 2)) tNext))
  (tRet (tC .non)))
theorem sc_show_of : FnScope n_show_of ["scene", "name"] (defScope s_show_of) := ⟨rfl, rfl, rfl, by decide +kernel, rfl, by decide +kernel, by decide +kernel⟩
theorem ok_show_of {sp_Scene_shows sp : Sp} (T : Txt K mg) (G_Scene_shows : PCal P w K mg base 1 (He.ga K "Scene") "shows" sp_Scene_shows) {f : Addr} {fd : FuncData} (F : Fun K "show_of" "show_of" s_show_of f fd)
    (len : ∀ vs H Q E, sp vs H Q E → vs.length = 2) (pure : ∀ vs H Q E, sp vs H Q E → t_show_of K sp_Scene_shows { nx := fun _ H' => Q .non H', rt := Q } (start n_show_of vs) H) :
    FnOk P w K mg base CX0 3 f fd ["scene", "name"] sp := by
  refine F.ok sc_show_of len (fun cdv A outer s H vs Q E hr h => ⟨t_show_of K sp_Scene_shows, ?_, pure vs H Q E h⟩)
  exact (pss_cons (ps_for PassesOwn.never rfl (pi_list (pe_pcal G_Scene_shows (hr.mono (by decide)) (pv 0))) (pg_name (i := 2) sc_show_of.nd rfl (Or.inl rfl)) (pss_one (ps_if (pt_cmpR op_eq (pe_ix ix_tup (pv 2) pe_int (fun _ _ => rfl)) (pv 1) (nomark _)) (pss_one (ps_ret (pv 2))) pss_nil)))
    (pss_one (ps_ret pe_non)))
theorem bi_show_of {f : Addr} {fd : FuncData} (F : Fun K "show_of" "show_of" s_show_of f fd) : Binds K fd ["scene", "name"] [] := F.binds (ps := ["scene", "name"]) fun _ _ _ _ _ _ us hl => match us, hl with | [_, _], _ => rfl
def n_ends_of_papers : List Str := ["scene", "question", "show"]
def t_ends_of_papers (K : PySem.W.Frag) (sp_show_of : Sp) : TS :=
  (tSeq (tIfS (tTest (tOp rEq (tOp (rIxT K) (tVar 1) (tC (.int 0))) (tC (.str "span")))) (tRet (tTup (tCons (tOp (rIxT K) (tOp (rIxT K) (tVar 1) (tC (.int 1))) (tC (.int 0))) (tCons (tOp (rIxT K) (tOp (rIxT K) (tVar 1) (tC (.int 1))) (tC (.int 1))) tNil)))) tNext)
  (tSeq (tAsg (tCall sp_show_of [] E0 (tCons (tVar 0) (tCons (tOp (rIxT K) (tVar 1) (tC (.int 1))) tNil))) (gName 2))
  (tSeq (tIfS (tTest (tOp rIsNone (tVar 2) (tC .non))) (tRet (tC .non)) tNext)
  (tRet (tTup (tCons (tOp (rIxT K) (tVar 2) (tC (.int 3))) (tCons (tOp (rIxT K) (tVar 1) (tC (.int 2))) tNil)))))))
theorem sc_ends_of_papers : FnScope n_ends_of_papers ["scene", "question"] (defScope s_ends_of_papers) := ⟨rfl, rfl, rfl, by decide +kernel, rfl, by decide +kernel, by decide +kernel⟩
theorem ok_ends_of_papers {sp_show_of sp : Sp} (T : Txt K mg) (G_show_of : Cal P w K mg base 3 "show_of" ["scene", "name"] sp_show_of) {f : Addr} {fd : FuncData} (F : Fun K "ends_of" "ends_of" s_ends_of_papers f fd)
    (len : ∀ vs H Q E, sp vs H Q E → vs.length = 2) (pure : ∀ vs H Q E, sp vs H Q E → t_ends_of_papers K sp_show_of { nx := fun _ H' => Q .non H', rt := Q } (start n_ends_of_papers vs) H) :
    FnOk P w K mg base CX0 4 f fd ["scene", "question"] sp := by
  refine F.ok sc_ends_of_papers len (fun cdv A outer s H vs Q E hr h => ⟨t_ends_of_papers K sp_show_of, ?_, pure vs H Q E h⟩)
  exact (pss_cons (ps_if (pt_cmpR op_eq (pe_ix ix_tup (pv 1) pe_int (fun _ _ => rfl)) pe_str (nomark _)) (pss_one (ps_ret (pe_tup (pa_cons (pe_ix ix_tup (pe_ix ix_tup (pv 1) pe_int (fun _ _ => rfl)) pe_int (fun _ _ => rfl)) (pa_cons (pe_ix ix_tup (pe_ix ix_tup (pv 1) pe_int (fun _ _ => rfl)) pe_int (fun _ _ => rfl)) pa_nil))))) pss_nil)
    (pss_cons (ps_set (i := 2) sc_ends_of_papers.nd rfl (Or.inl rfl) (pe_cal G_show_of (hr.mono (by decide)) rfl (pa_cons (pv 0) (pa_cons (pe_ix ix_tup (pv 1) pe_int (fun _ _ => rfl)) pa_nil))))
    (pss_cons (ps_if (pt_cmpR op_isN (pv 2) pe_non (nomark _)) (pss_one (ps_ret pe_non)) pss_nil)
    (pss_one (ps_ret (pe_tup (pa_cons (pe_ix ix_tup (pv 2) pe_int (fun _ _ => rfl)) (pa_cons (pe_ix ix_tup (pv 1) pe_int (fun _ _ => rfl)) pa_nil))))))))
theorem bi_ends_of_papers {f : Addr} {fd : FuncData} (F : Fun K "ends_of" "ends_of" s_ends_of_papers f fd) : Binds K fd ["scene", "question"] [] := F.binds (ps := ["scene", "question"]) fun _ _ _ _ _ _ us hl => match us, hl with | [_, _], _ => rfl
def n_middle_number : List Str := ["clip", "prop", "first", "second", "low", "high", "below", "middle", "value"]
def t_middle_number (K : PySem.W.Frag) (sp_shown_at sp_compare sp_plus sp_over sp_lies_within : Sp) : TS :=
  (tSeq (tAsg (tOp (rI0 fun i j => .bl (decide (i < j))) (tCall sp_compare [] E0 (tCons (tCall sp_shown_at [] E0 (tCons (tVar 0) (tCons (tVar 1) (tCons (tVar 2) tNil)))) (tCons (tVar 4) tNil))) (tC (.int 0))) (gName 6))
  (tWhile (tB (tC (.bl true))) (tSeq (tAsg (tCall sp_over [] E0 (tCons (tCall sp_plus [] E0 (tCons (tVar 2) (tCons (tVar 3) tNil))) (tCons (tTup (tCons (tC (.int 2)) (tCons (tC (.int 1)) tNil))) tNil))) (gName 7))
  (tSeq (tAsg (tCall sp_shown_at [] E0 (tCons (tVar 0) (tCons (tVar 1) (tCons (tVar 7) tNil)))) (gName 8))
  (tSeq (tIfS (tB (tCall sp_lies_within [] E0 (tCons (tVar 8) (tCons (tVar 4) (tCons (tVar 5) tNil))))) (tRet (tVar 7)) tNext)
  (tIfS (tTest (tOp rEq (tOp (rI0 fun i j => .bl (decide (i < j))) (tCall sp_compare [] E0 (tCons (tVar 8) (tCons (tVar 4) tNil))) (tC (.int 0))) (tVar 6))) (tAsg (tVar 7) (gName 2)) (tAsg (tVar 7) (gName 3))))))))
theorem sc_middle_number : FnScope n_middle_number ["clip", "prop", "first", "second", "low", "high"] (defScope s_middle_number) := ⟨rfl, rfl, rfl, by decide +kernel, rfl, by decide +kernel, by decide +kernel⟩
theorem ok_middle_number {sp_shown_at sp_compare sp_plus sp_over sp_lies_within sp : Sp} (T : Txt K mg) (G_shown_at : Cal P w K mg base 6 "shown_at" ["clip", "prop", "number"] sp_shown_at) (G_compare : Cal P w K mg base 1 "compare" ["first", "second"] sp_compare) (G_plus : Cal P w K mg base 3 "plus" ["first", "second"] sp_plus) (G_over : Cal P w K mg base 3 "over" ["first", "second"] sp_over) (G_lies_within : Cal P w K mg base 2 "lies_within" ["number", "low", "high"] sp_lies_within) {f : Addr} {fd : FuncData} (F : Fun K "middle_number" "middle_number" s_middle_number f fd)
    (len : ∀ vs H Q E, sp vs H Q E → vs.length = 6) (pure : ∀ vs H Q E, sp vs H Q E → t_middle_number K sp_shown_at sp_compare sp_plus sp_over sp_lies_within { nx := fun _ H' => Q .non H', rt := Q } (start n_middle_number vs) H) :
    FnOk P w K mg base CX0 7 f fd ["clip", "prop", "first", "second", "low", "high"] sp := by
  refine F.ok sc_middle_number len (fun cdv A outer s H vs Q E hr h => ⟨t_middle_number K sp_shown_at sp_compare sp_plus sp_over sp_lies_within, ?_, pure vs H Q E h⟩)
  exact (pss_cons (ps_set (i := 6) sc_middle_number.nd rfl (Or.inl rfl) (pe_cmpR op_lt (pe_cal G_compare (hr.mono (by decide)) rfl (pa_cons (pe_cal G_shown_at (hr.mono (by decide)) rfl (pa_cons (pv 0) (pa_cons (pv 1) (pa_cons (pv 2) pa_nil)))) (pa_cons (pv 4) pa_nil))) pe_int (nomark _)))
    (pss_one (ps_while PassesOwn.never (pt_val pe_bl) (pss_cons (ps_set (i := 7) sc_middle_number.nd rfl (Or.inl rfl) (pe_cal G_over (hr.mono (by decide)) rfl (pa_cons (pe_cal G_plus (hr.mono (by decide)) rfl (pa_cons (pv 2) (pa_cons (pv 3) pa_nil))) (pa_cons (pe_tup (pa_cons pe_int (pa_cons pe_int pa_nil))) pa_nil))))
    (pss_cons (ps_set (i := 8) sc_middle_number.nd rfl (Or.inl rfl) (pe_cal G_shown_at (hr.mono (by decide)) rfl (pa_cons (pv 0) (pa_cons (pv 1) (pa_cons (pv 7) pa_nil)))))
    (pss_cons (ps_if (pt_val (pe_cal G_lies_within (hr.mono (by decide)) rfl (pa_cons (pv 8) (pa_cons (pv 4) (pa_cons (pv 5) pa_nil))))) (pss_one (ps_ret (pv 7))) pss_nil)
    (pss_one (ps_if (pt_cmpR op_eq (pe_cmpR op_lt (pe_cal G_compare (hr.mono (by decide)) rfl (pa_cons (pv 8) (pa_cons (pv 4) pa_nil))) pe_int (nomark _)) (pv 6) (nomark _)) (pss_one (ps_set (i := 2) sc_middle_number.nd rfl (Or.inl rfl) (pv 7))) (pss_one (ps_set (i := 3) sc_middle_number.nd rfl (Or.inl rfl) (pv 7)))))))))))
theorem bi_middle_number {f : Addr} {fd : FuncData} (F : Fun K "middle_number" "middle_number" s_middle_number f fd) : Binds K fd ["clip", "prop", "first", "second", "low", "high"] [] := F.binds (ps := ["clip", "prop", "first", "second", "low", "high"]) fun _ _ _ _ _ _ us hl => match us, hl with | [_, _, _, _, _, _], _ => rfl
def n_numbers_of : List Str := ["show", "span", "low", "high", "_", "clip", "prop", "points", "fine", "second", "sides", "place", "point"]
def t_numbers_of (K : PySem.W.Frag) (sp_points_between sp_shown_at sp_lies_within sp_compare sp_middle_number : Sp) : TS :=
  (tSeq (tAsg (tVar 0) (gTup K 4 (gCons (gName 4) (gCons (gName 5) (gCons (gName 6) (gCons (gName 4) gNil))))))
  (tSeq (tAsg (tCall sp_points_between [] E0 (tCons (tVar 5) (tCons (tVar 6) (tCons (tOp (rIxT K) (tVar 1) (tC (.int 0))) (tCons (tOp (rIxT K) (tVar 1) (tC (.int 1))) tNil))))) (gName 7))
  (tSeq (tAsg (tLc (iList K (tVar 7)) (gName 12) tYes (tCall sp_lies_within [] E0 (tCons (tCall sp_shown_at [] E0 (tCons (tVar 5) (tCons (tVar 6) (tCons (tVar 12) tNil)))) (tCons (tVar 2) (tCons (tVar 3) tNil)))) [12]) (gName 8))
  (tSeq (tAsg (tOp (rIxL K) (tVar 7) (tBM K "list" (rIndex K) (tVar 8) (tCons (tC (.bl false)) tNil))) (gName 9))
  (tSeq (tIfS (tTest (tOp (rIn K false) (tC (.bl true)) (tVar 8))) (tRet (tTup (tCons (tOp (rIxL K) (tVar 7) (tBM K "list" (rIndex K) (tVar 8) (tCons (tC (.bl true)) tNil))) (tCons (tVar 9) tNil)))) tNext)
  (tSeq (tAsg (tLc (iList K (tVar 7)) (gName 12) tYes (tOp (rI0 fun i j => .bl (decide (i < j))) (tCall sp_compare [] E0 (tCons (tCall sp_shown_at [] E0 (tCons (tVar 5) (tCons (tVar 6) (tCons (tVar 12) tNil)))) (tCons (tVar 2) tNil))) (tC (.int 0))) [12]) (gName 10))
  (tSeq (tAsg (tC (.int 0)) (gName 11))
  (tSeq (tWhile (tTest (tOp rEq (tOp (rIxL K) (tVar 10) (tVar 11)) (tOp (rIxL K) (tVar 10) (tOp (rI0 fun i j => .int (i + j)) (tVar 11) (tC (.int 1)))))) (tAug 11 (tC (.int 1)) (ipI fun i j => i + j)))
  (tRet (tTup (tCons (tCall sp_middle_number [] E0 (tCons (tVar 5) (tCons (tVar 6) (tCons (tOp (rIxL K) (tVar 7) (tVar 11)) (tCons (tOp (rIxL K) (tVar 7) (tOp (rI0 fun i j => .int (i + j)) (tVar 11) (tC (.int 1)))) (tCons (tVar 2) (tCons (tVar 3) tNil))))))) (tCons (tVar 9) tNil))))))))))))
theorem sc_numbers_of : FnScope n_numbers_of ["show", "span", "low", "high"] (defScope s_numbers_of) := ⟨rfl, rfl, rfl, by decide +kernel, rfl, by decide +kernel, by decide +kernel⟩
theorem ok_numbers_of {sp_points_between sp_shown_at sp_lies_within sp_compare sp_middle_number sp : Sp} (T : Txt K mg) (G_points_between : Cal P w K mg base 10 "points_between" ["clip", "prop", "low", "high"] sp_points_between) (G_shown_at : Cal P w K mg base 6 "shown_at" ["clip", "prop", "number"] sp_shown_at) (G_lies_within : Cal P w K mg base 2 "lies_within" ["number", "low", "high"] sp_lies_within) (G_compare : Cal P w K mg base 1 "compare" ["first", "second"] sp_compare) (G_middle_number : Cal P w K mg base 7 "middle_number" ["clip", "prop", "first", "second", "low", "high"] sp_middle_number) {f : Addr} {fd : FuncData} (F : Fun K "numbers_of" "numbers_of" s_numbers_of f fd)
    (len : ∀ vs H Q E, sp vs H Q E → vs.length = 4) (pure : ∀ vs H Q E, sp vs H Q E → t_numbers_of K sp_points_between sp_shown_at sp_lies_within sp_compare sp_middle_number { nx := fun _ H' => Q .non H', rt := Q } (start n_numbers_of vs) H) :
    FnOk P w K mg base CX0 11 f fd ["show", "span", "low", "high"] sp := by
  refine F.ok sc_numbers_of len (fun cdv A outer s H vs Q E hr h => ⟨t_numbers_of K sp_points_between sp_shown_at sp_lies_within sp_compare sp_middle_number, ?_, pure vs H Q E h⟩)
  exact (pss_cons (ps_asg (pv 0) (pg_tup rfl (pgs_cons (pg_name (i := 4) sc_numbers_of.nd rfl (Or.inl rfl)) (pgs_cons (pg_name (i := 5) sc_numbers_of.nd rfl (Or.inr rfl)) (pgs_cons (pg_name (i := 6) sc_numbers_of.nd rfl (Or.inr rfl)) (pgs_cons (pg_name (i := 4) sc_numbers_of.nd rfl (Or.inl rfl)) pgs_nil))))))
    (pss_cons (ps_set (i := 7) sc_numbers_of.nd rfl (Or.inl rfl) (pe_cal G_points_between (hr.mono (by decide)) rfl (pa_cons (pv 5) (pa_cons (pv 6) (pa_cons (pe_ix ix_tup (pv 1) pe_int (fun _ _ => rfl)) (pa_cons (pe_ix ix_tup (pv 1) pe_int (fun _ _ => rfl)) pa_nil))))))
    (pss_cons (ps_setLc (i := 8) (own := [("point", 12)]) (g := (gName 12)) rfl sc_numbers_of.nd rfl rfl (sw_true rfl rfl rfl (by decide +kernel)) (pi_list (pv 7)) (blkOk_by (own := [("point", 12)]) (N := n_numbers_of) (sc := defScope s_numbers_of) (by decide +kernel)) (fun _ _ _ _ _ => (pg_name (i := 12) sc_numbers_of.nd rfl (Or.inl rfl))) (fun _ _ _ _ _ => pts_nil) (fun _ _ _ _ _ => (pe_cal G_lies_within (hr.mono (by decide)) rfl (pa_cons (pe_cal G_shown_at (hr.mono (by decide)) rfl (pa_cons (pv 5) (pa_cons (pv 6) (pa_cons (pv 12) pa_nil)))) (pa_cons (pv 2) (pa_cons (pv 3) pa_nil))))))
    (pss_cons (ps_set (i := 9) sc_numbers_of.nd rfl (Or.inl rfl) (pe_ix ix_list (pv 7) (pe_bm PySem.F.plainAttrs_list PySem.F.slot_list_index PySem.F.type_list_index mt_index (pv 8) (pa_cons pe_bl pa_nil)) (fun _ _ => rfl)))
    (pss_cons (ps_if (pt_cmpR op_in_seq pe_bl (pv 8) (by rfl)) (pss_one (ps_ret (pe_tup (pa_cons (pe_ix ix_list (pv 7) (pe_bm PySem.F.plainAttrs_list PySem.F.slot_list_index PySem.F.type_list_index mt_index (pv 8) (pa_cons pe_bl pa_nil)) (fun _ _ => rfl)) (pa_cons (pv 9) pa_nil))))) pss_nil)
    (pss_cons (ps_setLc (i := 10) (own := [("point", 12)]) (g := (gName 12)) rfl sc_numbers_of.nd rfl rfl (sw_true rfl rfl rfl (by decide +kernel)) (pi_list (pv 7)) (blkOk_by (own := [("point", 12)]) (N := n_numbers_of) (sc := defScope s_numbers_of) (by decide +kernel)) (fun _ _ _ _ _ => (pg_name (i := 12) sc_numbers_of.nd rfl (Or.inl rfl))) (fun _ _ _ _ _ => pts_nil) (fun _ _ _ _ _ => (pe_cmpR op_lt (pe_cal G_compare (hr.mono (by decide)) rfl (pa_cons (pe_cal G_shown_at (hr.mono (by decide)) rfl (pa_cons (pv 5) (pa_cons (pv 6) (pa_cons (pv 12) pa_nil)))) (pa_cons (pv 2) pa_nil))) pe_int (nomark _))))
    (pss_cons (ps_set (i := 11) sc_numbers_of.nd rfl (Or.inl rfl) pe_int)
    (pss_cons (ps_while PassesOwn.never (pt_cmpR op_eq (pe_ix ix_list (pv 10) (pv 11) (fun _ _ => rfl)) (pe_ix ix_list (pv 10) (pe_op op_add (pv 11) pe_int) (fun _ _ => rfl)) (nomark _)) (pss_one (ps_aug (i := 11) sc_numbers_of.nd rfl (Or.inl rfl) pe_int ip_add)))
    (pss_one (ps_ret (pe_tup (pa_cons (pe_cal G_middle_number (hr.mono (by decide)) rfl (pa_cons (pv 5) (pa_cons (pv 6) (pa_cons (pe_ix ix_list (pv 7) (pv 11) (fun _ _ => rfl)) (pa_cons (pe_ix ix_list (pv 7) (pe_op op_add (pv 11) pe_int) (fun _ _ => rfl)) (pa_cons (pv 2) (pa_cons (pv 3) pa_nil))))))) (pa_cons (pv 9) pa_nil)))))))))))))
theorem bi_numbers_of {f : Addr} {fd : FuncData} (F : Fun K "numbers_of" "numbers_of" s_numbers_of f fd) : Binds K fd ["show", "span", "low", "high"] [] := F.binds (ps := ["show", "span", "low", "high"]) fun _ _ _ _ _ _ us hl => match us, hl with | [_, _, _, _], _ => rfl
def n_open_numbers : List Str := ["scene", "question", "span", "low", "high", "least", "first", "second"]
def t_open_numbers (K : PySem.W.Frag) (sp_compare sp_show_of sp_numbers_of : Sp) : TS :=
  (tSeq (tIfS (tTest (tOp rEq (tOp (rIxT K) (tVar 1) (tC (.int 0))) (tC (.str "span")))) (tSeq (tAsg (tVar 2) (gTup K 2 (gCons (gName 3) (gCons (gName 4) gNil))))
  (tSeq (tAsg (tOp (rIxT K) (tOp (rIxT K) (tVar 1) (tC (.int 1))) (tC (.int 2))) (gName 5))
  (tSeq (tAsg (tVar 3) (gName 6))
  (tSeq (tIfS (tTest (tOp (rI0 fun i j => .bl (decide (i < j))) (tCall sp_compare [] E0 (tCons (tVar 3) (tCons (tVar 5) tNil))) (tC (.int 0)))) (tAsg (tVar 5) (gName 6)) tNext)
  (tSeq (tAsg (tVar 4) (gName 7))
  (tSeq (tIfS (tTest (tOp (rI0 fun i j => .bl (decide (i < j))) (tCall sp_compare [] E0 (tCons (tVar 3) (tCons (tVar 5) tNil))) (tC (.int 0)))) (tAsg (tVar 3) (gName 7)) tNext)
  (tRet (tTup (tCons (tVar 6) (tCons (tVar 7) tNil)))))))))) tNext)
  (tRet (tCall sp_numbers_of [] E0 (tCons (tCall sp_show_of [] E0 (tCons (tVar 0) (tCons (tOp (rIxT K) (tVar 1) (tC (.int 1))) tNil))) (tCons (tVar 2) (tCons (tOp (rIxT K) (tVar 1) (tC (.int 3))) (tCons (tOp (rIxT K) (tVar 1) (tC (.int 4))) tNil)))))))
theorem sc_open_numbers : FnScope n_open_numbers ["scene", "question", "span"] (defScope s_open_numbers) := ⟨rfl, rfl, rfl, by decide +kernel, rfl, by decide +kernel, by decide +kernel⟩
theorem ok_open_numbers {sp_compare sp_show_of sp_numbers_of sp : Sp} (T : Txt K mg) (G_compare : Cal P w K mg base 1 "compare" ["first", "second"] sp_compare) (G_show_of : Cal P w K mg base 3 "show_of" ["scene", "name"] sp_show_of) (G_numbers_of : Cal P w K mg base 11 "numbers_of" ["show", "span", "low", "high"] sp_numbers_of) {f : Addr} {fd : FuncData} (F : Fun K "open_numbers" "open_numbers" s_open_numbers f fd)
    (len : ∀ vs H Q E, sp vs H Q E → vs.length = 3) (pure : ∀ vs H Q E, sp vs H Q E → t_open_numbers K sp_compare sp_show_of sp_numbers_of { nx := fun _ H' => Q .non H', rt := Q } (start n_open_numbers vs) H) :
    FnOk P w K mg base CX0 12 f fd ["scene", "question", "span"] sp := by
  refine F.ok sc_open_numbers len (fun cdv A outer s H vs Q E hr h => ⟨t_open_numbers K sp_compare sp_show_of sp_numbers_of, ?_, pure vs H Q E h⟩)
  exact (pss_cons (ps_if (pt_cmpR op_eq (pe_ix ix_tup (pv 1) pe_int (fun _ _ => rfl)) pe_str (nomark _)) (pss_cons (ps_asg (pv 2) (pg_tup rfl (pgs_cons (pg_name (i := 3) sc_open_numbers.nd rfl (Or.inl rfl)) (pgs_cons (pg_name (i := 4) sc_open_numbers.nd rfl (Or.inl rfl)) pgs_nil))))
    (pss_cons (ps_set (i := 5) sc_open_numbers.nd rfl (Or.inl rfl) (pe_ix ix_tup (pe_ix ix_tup (pv 1) pe_int (fun _ _ => rfl)) pe_int (fun _ _ => rfl)))
    (pss_cons (ps_set (i := 6) sc_open_numbers.nd rfl (Or.inl rfl) (pv 3))
    (pss_cons (ps_if (pt_cmpR op_lt (pe_cal G_compare (hr.mono (by decide)) rfl (pa_cons (pv 3) (pa_cons (pv 5) pa_nil))) pe_int (nomark _)) (pss_one (ps_set (i := 6) sc_open_numbers.nd rfl (Or.inl rfl) (pv 5))) pss_nil)
    (pss_cons (ps_set (i := 7) sc_open_numbers.nd rfl (Or.inl rfl) (pv 4))
    (pss_cons (ps_if (pt_cmpR op_lt (pe_cal G_compare (hr.mono (by decide)) rfl (pa_cons (pv 3) (pa_cons (pv 5) pa_nil))) pe_int (nomark _)) (pss_one (ps_set (i := 7) sc_open_numbers.nd rfl (Or.inl rfl) (pv 3))) pss_nil)
    (pss_one (ps_ret (pe_tup (pa_cons (pv 6) (pa_cons (pv 7) pa_nil))))))))))) pss_nil)
    (pss_one (ps_ret (pe_cal G_numbers_of (hr.mono (by decide)) rfl (pa_cons (pe_cal G_show_of (hr.mono (by decide)) rfl (pa_cons (pv 0) (pa_cons (pe_ix ix_tup (pv 1) pe_int (fun _ _ => rfl)) pa_nil))) (pa_cons (pv 2) (pa_cons (pe_ix ix_tup (pv 1) pe_int (fun _ _ => rfl)) (pa_cons (pe_ix ix_tup (pv 1) pe_int (fun _ _ => rfl)) pa_nil))))))))
theorem bi_open_numbers {f : Addr} {fd : FuncData} (F : Fun K "open_numbers" "open_numbers" s_open_numbers f fd) : Binds K fd ["scene", "question", "span"] [] := F.binds (ps := ["scene", "question", "span"]) fun _ _ _ _ _ _ us hl => match us, hl with | [_, _, _], _ => rfl
def n_Book_says : List Str := ["self", "first", "second", "least", "most", "low", "high"]
def t_Book_says (K : PySem.W.Frag) (sp_Book_span sp_compare : Sp) : TS :=
  (tSeq (tAsg (tMeth (He.ga K "Book") "span" sp_Book_span [] E0 (tVar 0) (tCons (tVar 1) (tCons (tVar 2) tNil))) (gTup K 2 (gCons (gName 5) (gCons (gName 6) gNil))))
  (tSeq (tIfS (tAnd (tTest (tOp (rI0 fun i j => .bl (decide (i ≤ j))) (tCall sp_compare [] E0 (tCons (tVar 3) (tCons (tVar 5) tNil))) (tC (.int 0)))) (tTest (tOp (rI0 fun i j => .bl (decide (i ≤ j))) (tCall sp_compare [] E0 (tCons (tVar 6) (tCons (tVar 4) tNil))) (tC (.int 0))))) (tRet (tC (.bl true))) tNext)
  (tSeq (tIfS (tOr (tTest (tOp (rI0 fun i j => .bl (decide (i < j))) (tCall sp_compare [] E0 (tCons (tVar 6) (tCons (tVar 3) tNil))) (tC (.int 0)))) (tTest (tOp (rI0 fun i j => .bl (decide (j < i))) (tCall sp_compare [] E0 (tCons (tVar 5) (tCons (tVar 4) tNil))) (tC (.int 0))))) (tRet (tC (.bl false))) tNext)
  (tRet (tC .non)))))
theorem sc_Book_says : FnScope n_Book_says ["self", "first", "second", "least", "most"] (defScope s_Book_says) := ⟨rfl, rfl, rfl, by decide +kernel, rfl, by decide +kernel, by decide +kernel⟩
theorem ok_Book_says {sp_Book_span sp_compare sp : Sp} (T : Txt K mg) (G_Book_span : MCal P w K mg base 8 (He.ga K "Book") "span" ["self", "first", "second"] sp_Book_span) (G_compare : Cal P w K mg base 1 "compare" ["first", "second"] sp_compare) {f : Addr} {fd : FuncData} (F : Fun K "says" "Book.says" s_Book_says f fd)
    (len : ∀ vs H Q E, sp vs H Q E → vs.length = 5) (pure : ∀ vs H Q E, sp vs H Q E → t_Book_says K sp_Book_span sp_compare { nx := fun _ H' => Q .non H', rt := Q } (start n_Book_says vs) H) :
    FnOk P w K mg base CX0 9 f fd ["self", "first", "second", "least", "most"] sp := by
  refine F.ok sc_Book_says len (fun cdv A outer s H vs Q E hr h => ⟨t_Book_says K sp_Book_span sp_compare, ?_, pure vs H Q E h⟩)
  exact (pss_cons (ps_asg (pe_mcal G_Book_span (hr.mono (by decide)) (pv 0) (pa_cons (pv 1) (pa_cons (pv 2) pa_nil))) (pg_tup rfl (pgs_cons (pg_name (i := 5) sc_Book_says.nd rfl (Or.inl rfl)) (pgs_cons (pg_name (i := 6) sc_Book_says.nd rfl (Or.inl rfl)) pgs_nil))))
    (pss_cons (ps_if (PW.pt (pw_and (pt_cmpR op_le (pe_cal G_compare (hr.mono (by decide)) rfl (pa_cons (pv 3) (pa_cons (pv 5) pa_nil))) pe_int (nomark _)) (pw_and1 (pt_cmpR op_le (pe_cal G_compare (hr.mono (by decide)) rfl (pa_cons (pv 6) (pa_cons (pv 4) pa_nil))) pe_int (nomark _))))) (pss_one (ps_ret pe_bl)) pss_nil)
    (pss_cons (ps_if (PW.pt (pw_or (pt_cmpR op_lt (pe_cal G_compare (hr.mono (by decide)) rfl (pa_cons (pv 6) (pa_cons (pv 3) pa_nil))) pe_int (nomark _)) (pw_or1 (pt_cmpR op_gt (pe_cal G_compare (hr.mono (by decide)) rfl (pa_cons (pv 5) (pa_cons (pv 4) pa_nil))) pe_int (nomark _))))) (pss_one (ps_ret pe_bl)) pss_nil)
    (pss_one (ps_ret pe_non)))))
theorem bi_Book_says {f : Addr} {fd : FuncData} (F : Fun K "says" "Book.says" s_Book_says f fd) : Binds K fd ["self", "first", "second", "least", "most"] [] := F.binds (ps := ["self", "first", "second", "least", "most"]) fun _ _ _ _ _ _ us hl => match us, hl with | [_, _, _, _, _], _ => rfl
def n_said_of : List Str := ["scene", "question", "first", "second", "least", "most"]
def t_said_of (K : PySem.W.Frag) (sp_Scene_book sp_Book_says sp_Scene_says : Sp) : TS :=
  (tSeq (tIfS (tTest (tOp rEq (tOp (rIxT K) (tVar 1) (tC (.int 0))) (tC (.str "span")))) (tSeq (tAsg (tOp (rIxT K) (tVar 1) (tC (.int 1))) (gTup K 4 (gCons (gName 2) (gCons (gName 3) (gCons (gName 4) (gCons (gName 5) gNil))))))
  (tRet (tMeth (He.ga K "Book") "says" sp_Book_says [] E0 (tProp (He.ga K "Scene") sp_Scene_book [] E0 (tVar 0)) (tCons (tVar 2) (tCons (tVar 3) (tCons (tVar 4) (tCons (tVar 5) tNil))))))) tNext)
  (tRet (tMeth (He.ga K "Scene") "says" sp_Scene_says [] E0 (tVar 0) (tCons (tOp (rIxT K) (tVar 1) (tC (.int 1))) (tCons (tOp (rIxT K) (tVar 1) (tC (.int 2))) (tCons (tOp (rIxT K) (tVar 1) (tC (.int 3))) (tCons (tOp (rIxT K) (tVar 1) (tC (.int 4))) tNil)))))))
theorem sc_said_of : FnScope n_said_of ["scene", "question"] (defScope s_said_of) := ⟨rfl, rfl, rfl, by decide +kernel, rfl, by decide +kernel, by decide +kernel⟩
theorem ok_said_of {sp_Scene_book sp_Book_says sp_Scene_says sp : Sp} (T : Txt K mg) (G_Scene_book : PCal P w K mg base 1 (He.ga K "Scene") "book" sp_Scene_book) (G_Book_says : MCal P w K mg base 9 (He.ga K "Book") "says" ["self", "first", "second", "least", "most"] sp_Book_says) (G_Scene_says : MCal P w K mg base 10 (He.ga K "Scene") "says" ["self", "name", "moment", "low", "high"] sp_Scene_says) {f : Addr} {fd : FuncData} (F : Fun K "said_of" "said_of" s_said_of f fd)
    (len : ∀ vs H Q E, sp vs H Q E → vs.length = 2) (pure : ∀ vs H Q E, sp vs H Q E → t_said_of K sp_Scene_book sp_Book_says sp_Scene_says { nx := fun _ H' => Q .non H', rt := Q } (start n_said_of vs) H) :
    FnOk P w K mg base CX0 11 f fd ["scene", "question"] sp := by
  refine F.ok sc_said_of len (fun cdv A outer s H vs Q E hr h => ⟨t_said_of K sp_Scene_book sp_Book_says sp_Scene_says, ?_, pure vs H Q E h⟩)
  exact (pss_cons (ps_if (pt_cmpR op_eq (pe_ix ix_tup (pv 1) pe_int (fun _ _ => rfl)) pe_str (nomark _)) (pss_cons (ps_asg (pe_ix ix_tup (pv 1) pe_int (fun _ _ => rfl)) (pg_tup rfl (pgs_cons (pg_name (i := 2) sc_said_of.nd rfl (Or.inl rfl)) (pgs_cons (pg_name (i := 3) sc_said_of.nd rfl (Or.inl rfl)) (pgs_cons (pg_name (i := 4) sc_said_of.nd rfl (Or.inl rfl)) (pgs_cons (pg_name (i := 5) sc_said_of.nd rfl (Or.inl rfl)) pgs_nil))))))
    (pss_one (ps_ret (pe_mcal G_Book_says (hr.mono (by decide)) (pe_pcal G_Scene_book (hr.mono (by decide)) (pv 0)) (pa_cons (pv 2) (pa_cons (pv 3) (pa_cons (pv 4) (pa_cons (pv 5) pa_nil)))))))) pss_nil)
    (pss_one (ps_ret (pe_mcal G_Scene_says (hr.mono (by decide)) (pv 0) (pa_cons (pe_ix ix_tup (pv 1) pe_int (fun _ _ => rfl)) (pa_cons (pe_ix ix_tup (pv 1) pe_int (fun _ _ => rfl)) (pa_cons (pe_ix ix_tup (pv 1) pe_int (fun _ _ => rfl)) (pa_cons (pe_ix ix_tup (pv 1) pe_int (fun _ _ => rfl)) pa_nil))))))))
theorem bi_said_of {f : Addr} {fd : FuncData} (F : Fun K "said_of" "said_of" s_said_of f fd) : Binds K fd ["scene", "question"] [] := F.binds (ps := ["scene", "question"]) fun _ _ _ _ _ _ us hl => match us, hl with | [_, _], _ => rfl
def n_Book_chain : List Str := ["self", "first", "second", "number", "turn"]
def t_Book_chain (K : PySem.W.Frag) (sp_Book_best : Sp) : TS :=
  (tRet (tLc (iList K (tOp (rIxT K) (tMeth (He.ga K "Book") "best" sp_Book_best [] E0 (tVar 0) (tCons (tVar 1) (tCons (tVar 2) tNil))) (tC (.int 1)))) (gTup K 2 (gCons (gName 3) (gCons (gName 4) gNil))) tYes (tTup (tCons (tVar 3) (tCons (tOp rEq (tVar 4) (tC (.int 0))) tNil))) [3, 4]))
theorem sc_Book_chain : FnScope n_Book_chain ["self", "first", "second"] (defScope s_Book_chain) := ⟨rfl, rfl, rfl, by decide +kernel, rfl, by decide +kernel, by decide +kernel⟩
theorem ok_Book_chain {sp_Book_best sp : Sp} (T : Txt K mg) (G_Book_best : MCal P w K mg base 7 (He.ga K "Book") "best" ["self", "first", "second"] sp_Book_best) {f : Addr} {fd : FuncData} (F : Fun K "chain" "Book.chain" s_Book_chain f fd)
    (len : ∀ vs H Q E, sp vs H Q E → vs.length = 3) (pure : ∀ vs H Q E, sp vs H Q E → t_Book_chain K sp_Book_best { nx := fun _ H' => Q .non H', rt := Q } (start n_Book_chain vs) H) :
    FnOk P w K mg base CX0 8 f fd ["self", "first", "second"] sp := by
  refine F.ok sc_Book_chain len (fun cdv A outer s H vs Q E hr h => ⟨t_Book_chain K sp_Book_best, ?_, pure vs H Q E h⟩)
  exact (pss_one (ps_ret (pe_lc (own := [("number", 3), ("turn", 4)]) (g := (gTup K 2 (gCons (gName 3) (gCons (gName 4) gNil)))) rfl sc_Book_chain.nd (pi_list (pe_ix ix_tup (pe_mcal G_Book_best (hr.mono (by decide)) (pv 0) (pa_cons (pv 1) (pa_cons (pv 2) pa_nil))) pe_int (fun _ _ => rfl))) (blkOk_by (own := [("number", 3), ("turn", 4)]) (N := n_Book_chain) (sc := defScope s_Book_chain) (by decide +kernel)) (fun _ _ _ _ _ => (pg_tup rfl (pgs_cons (pg_name (i := 3) sc_Book_chain.nd rfl (Or.inl rfl)) (pgs_cons (pg_name (i := 4) sc_Book_chain.nd rfl (Or.inl rfl)) pgs_nil)))) (fun _ _ _ _ _ => pts_nil) (fun _ _ _ _ _ => (pe_tup (pa_cons (pv 3) (pa_cons (pe_cmpR op_eq (pv 4) pe_int (nomark _)) pa_nil)))))))
theorem bi_Book_chain {f : Addr} {fd : FuncData} (F : Fun K "chain" "Book.chain" s_Book_chain f fd) : Binds K fd ["self", "first", "second"] [] := F.binds (ps := ["self", "first", "second"]) fun _ _ _ _ _ _ us hl => match us, hl with | [_, _, _], _ => rfl
def n_earliest_of : List Str := ["names", "facts", "fit", "name", "length"]
def t_earliest_of (K : PySem.W.Frag) (sp_best_chains sp_minus : Sp) : TS :=
  (tSeq (tAsg (tLst tNil) (gName 2))
  (tSeq (tFor (iList K (tVar 0)) (gName 3) (tSeq (tAsg (tOp (rIxT K) (tDGet (tCall sp_best_chains [] E0 (tCons (tVar 1) (tCons (tCB (rLenQ K) (tCons (tVar 0) tNil)) (tCons (tVar 3) tNil)))) (tC (.str "start"))) (tC (.int 0))) (gName 4))
  (tDrop (tBM K "list" rAppend (tVar 2) (tCons (tTup (tCons (tVar 3) (tCons (tCall sp_minus [] E0 (tCons (tC (.ref (He.ga K "NOUGHT_books"))) (tCons (tVar 4) tNil))) tNil))) tNil)))))
  (tRet (tVar 2))))
theorem sc_earliest_of : FnScope n_earliest_of ["names", "facts"] (defScope s_earliest_of) := ⟨rfl, rfl, rfl, by decide +kernel, rfl, by decide +kernel, by decide +kernel⟩
theorem ok_earliest_of {sp_best_chains sp_minus sp : Sp} (T : Txt K mg) (G_best_chains : Cal P w K mg base 6 "best_chains" ["facts", "many", "first"] sp_best_chains) (G_minus : Cal P w K mg base 3 "minus" ["first", "second"] sp_minus) {f : Addr} {fd : FuncData} (F : Fun K "earliest_of" "earliest_of" s_earliest_of f fd)
    (len : ∀ vs H Q E, sp vs H Q E → vs.length = 2) (pure : ∀ vs H Q E, sp vs H Q E → t_earliest_of K sp_best_chains sp_minus { nx := fun _ H' => Q .non H', rt := Q } (start n_earliest_of vs) H) :
    FnOk P w K mg base CX0 7 f fd ["names", "facts"] sp := by
  refine F.ok sc_earliest_of len (fun cdv A outer s H vs Q E hr h => ⟨t_earliest_of K sp_best_chains sp_minus, ?_, pure vs H Q E h⟩)
  exact (pss_cons (ps_set (i := 2) sc_earliest_of.nd rfl (Or.inl rfl) (pe_lst pa_nil))
    (pss_cons (ps_for PassesOwn.never rfl (pi_list (pv 0)) (pg_name (i := 3) sc_earliest_of.nd rfl (Or.inl rfl)) (pss_cons (ps_set (i := 4) sc_earliest_of.nd rfl (Or.inl rfl) (pe_ix ix_tup (pe_dget (hu_of hr) (pe_cal G_best_chains (hr.mono (by decide)) rfl (pa_cons (pv 1) (pa_cons (pe_callB call_len_seq (by rfl) T.f_len PySem.boot_len (pa_cons (pv 0) pa_nil)) (pa_cons (pv 3) pa_nil)))) pe_str (fun _ _ => rfl)) pe_int (fun _ _ => rfl)))
    (pss_one (ps_expr (pe_bm PySem.F.plainAttrs_list PySem.F.slot_list_append PySem.F.type_list_append mt_append (pv 2) (pa_cons (pe_tup (pa_cons (pv 3) (pa_cons (pe_cal G_minus (hr.mono (by decide)) rfl (pa_cons (pe_glob rfl T.g_NOUGHT_books rfl) (pa_cons (pv 4) pa_nil))) pa_nil))) pa_nil))))))
    (pss_one (ps_ret (pv 2)))))
theorem bi_earliest_of {f : Addr} {fd : FuncData} (F : Fun K "earliest_of" "earliest_of" s_earliest_of f fd) : Binds K fd ["names", "facts"] [] := F.binds (ps := ["names", "facts"]) fun _ _ _ _ _ _ us hl => match us, hl with | [_, _], _ => rfl
def n_Book_fit_with : List Str := ["self", "first", "second", "number", "low", "high"]
def t_Book_fit_with (K : PySem.W.Frag) (sp_Book_span sp_compare sp_earliest_of : Sp) : TS :=
  (tSeq (tAsg (tMeth (He.ga K "Book") "span" sp_Book_span [] E0 (tVar 0) (tCons (tVar 1) (tCons (tVar 2) tNil))) (gTup K 2 (gCons (gName 4) (gCons (gName 5) gNil))))
  (tSeq (tIfS (tOr (tTest (tOp (rI0 fun i j => .bl (decide (i < j))) (tCall sp_compare [] E0 (tCons (tVar 3) (tCons (tVar 4) tNil))) (tC (.int 0)))) (tTest (tOp (rI0 fun i j => .bl (decide (j < i))) (tCall sp_compare [] E0 (tCons (tVar 3) (tCons (tVar 5) tNil))) (tC (.int 0))))) tNever tNext)
  (tRet (tCall sp_earliest_of [] E0 (tCons (tFld K (tVar 0) "_names") (tCons (tOp rCat (tFld K (tVar 0) "_facts") (tLst (tCons (tTup (tCons (tVar 1) (tCons (tVar 2) (tCons (tVar 3) (tCons (tVar 3) tNil))))) tNil))) tNil))))))
theorem sc_Book_fit_with : FnScope n_Book_fit_with ["self", "first", "second", "number"] (defScope s_Book_fit_with) := ⟨rfl, rfl, rfl, by decide +kernel, rfl, by decide +kernel, by decide +kernel⟩
theorem ok_Book_fit_with {sp_Book_span sp_compare sp_earliest_of sp : Sp} (T : Txt K mg) (G_Book_span : MCal P w K mg base 8 (He.ga K "Book") "span" ["self", "first", "second"] sp_Book_span) (G_compare : Cal P w K mg base 1 "compare" ["first", "second"] sp_compare) (G_earliest_of : Cal P w K mg base 7 "earliest_of" ["names", "facts"] sp_earliest_of) {f : Addr} {fd : FuncData} (F : Fun K "fit_with" "Book.fit_with" s_Book_fit_with f fd)
    (len : ∀ vs H Q E, sp vs H Q E → vs.length = 4) (pure : ∀ vs H Q E, sp vs H Q E → t_Book_fit_with K sp_Book_span sp_compare sp_earliest_of { nx := fun _ H' => Q .non H', rt := Q } (start n_Book_fit_with vs) H) :
    FnOk P w K mg base CX0 9 f fd ["self", "first", "second", "number"] sp := by
  refine F.ok sc_Book_fit_with len (fun cdv A outer s H vs Q E hr h => ⟨t_Book_fit_with K sp_Book_span sp_compare sp_earliest_of, ?_, pure vs H Q E h⟩)
  exact (pss_cons (ps_asg (pe_mcal G_Book_span (hr.mono (by decide)) (pv 0) (pa_cons (pv 1) (pa_cons (pv 2) pa_nil))) (pg_tup rfl (pgs_cons (pg_name (i := 4) sc_Book_fit_with.nd rfl (Or.inl rfl)) (pgs_cons (pg_name (i := 5) sc_Book_fit_with.nd rfl (Or.inl rfl)) pgs_nil))))
    (pss_cons (ps_if (PW.pt (pw_or (pt_cmpR op_lt (pe_cal G_compare (hr.mono (by decide)) rfl (pa_cons (pv 3) (pa_cons (pv 4) pa_nil))) pe_int (nomark _)) (pw_or1 (pt_cmpR op_gt (pe_cal G_compare (hr.mono (by decide)) rfl (pa_cons (pv 3) (pa_cons (pv 5) pa_nil))) pe_int (nomark _))))) (pss_one ps_never) pss_nil)
    (pss_one (ps_ret (pe_cal G_earliest_of (hr.mono (by decide)) rfl (pa_cons (pe_fld (pv 0) rfl) (pa_cons (pe_op op_cat (pe_fld (pv 0) rfl) (pe_lst (pa_cons (pe_tup (pa_cons (pv 1) (pa_cons (pv 2) (pa_cons (pv 3) (pa_cons (pv 3) pa_nil))))) pa_nil))) pa_nil)))))))
theorem bi_Book_fit_with {f : Addr} {fd : FuncData} (F : Fun K "fit_with" "Book.fit_with" s_Book_fit_with f fd) : Binds K fd ["self", "first", "second", "number"] [] := F.binds (ps := ["self", "first", "second", "number"]) fun _ _ _ _ _ _ us hl => match us, hl with | [_, _, _, _], _ => rfl
def n_answer : List Str := ["scene", "question", "said", "first", "second", "numbers", "number"]
def t_answer (K : PySem.W.Frag) (sp_said_of sp_ends_of_papers sp_Scene_book sp_Book_chain sp_Book_span sp_open_numbers sp_Book_fit_with : Sp) : TS :=
  (tSeq (tAsg (tCall sp_said_of [] E0 (tCons (tVar 0) (tCons (tVar 1) tNil))) (gName 2))
  (tSeq (tAsg (tCall sp_ends_of_papers [] E0 (tCons (tVar 0) (tCons (tVar 1) tNil))) (gTup K 2 (gCons (gName 3) (gCons (gName 4) gNil))))
  (tSeq (tIfS (tTest (tOp rNotNone (tVar 2) (tC .non))) (tRet (tTup (tCons (tOp (rWords K (He.ga K "WORDS")) (tC (.ref (He.ga K "WORDS"))) (tVar 2)) (tCons (tVar 1) (tCons (tTup (tCons (tMeth (He.ga K "Book") "chain" sp_Book_chain [] E0 (tProp (He.ga K "Scene") sp_Scene_book [] E0 (tVar 0)) (tCons (tVar 3) (tCons (tVar 4) tNil))) (tCons (tMeth (He.ga K "Book") "chain" sp_Book_chain [] E0 (tProp (He.ga K "Scene") sp_Scene_book [] E0 (tVar 0)) (tCons (tVar 4) (tCons (tVar 3) tNil))) tNil))) tNil))))) tNext)
  (tSeq (tAsg (tCall sp_open_numbers [] E0 (tCons (tVar 0) (tCons (tVar 1) (tCons (tMeth (He.ga K "Book") "span" sp_Book_span [] E0 (tProp (He.ga K "Scene") sp_Scene_book [] E0 (tVar 0)) (tCons (tVar 3) (tCons (tVar 4) tNil))) tNil)))) (gName 5))
  (tRet (tTup (tCons (tC (.str "open")) (tCons (tVar 1) (tCons (tCB (rTupleOf K) (tCons (tLc (iTup K (tVar 5)) (gName 6) tYes (tMeth (He.ga K "Book") "fit_with" sp_Book_fit_with [] E0 (tProp (He.ga K "Scene") sp_Scene_book [] E0 (tVar 0)) (tCons (tVar 3) (tCons (tVar 4) (tCons (tVar 6) tNil)))) [6]) tNil)) tNil)))))))))
theorem sc_answer : FnScope n_answer ["scene", "question"] (defScope s_answer) := ⟨rfl, rfl, rfl, by decide +kernel, rfl, by decide +kernel, by decide +kernel⟩
theorem ok_answer {sp_said_of sp_ends_of_papers sp_Scene_book sp_Book_chain sp_Book_span sp_open_numbers sp_Book_fit_with sp : Sp} (T : Txt K mg) (G_said_of : Cal P w K mg base 11 "said_of" ["scene", "question"] sp_said_of) (G_ends_of_papers : Cal P w K mg base 4 "ends_of_papers" ["scene", "question"] sp_ends_of_papers) (G_Scene_book : PCal P w K mg base 1 (He.ga K "Scene") "book" sp_Scene_book) (G_Book_chain : MCal P w K mg base 8 (He.ga K "Book") "chain" ["self", "first", "second"] sp_Book_chain) (G_Book_span : MCal P w K mg base 8 (He.ga K "Book") "span" ["self", "first", "second"] sp_Book_span) (G_open_numbers : Cal P w K mg base 12 "open_numbers" ["scene", "question", "span"] sp_open_numbers) (G_Book_fit_with : MCal P w K mg base 9 (He.ga K "Book") "fit_with" ["self", "first", "second", "number"] sp_Book_fit_with) {f : Addr} {fd : FuncData} (F : Fun K "answer" "answer" s_answer f fd)
    (len : ∀ vs H Q E, sp vs H Q E → vs.length = 2) (pure : ∀ vs H Q E, sp vs H Q E → t_answer K sp_said_of sp_ends_of_papers sp_Scene_book sp_Book_chain sp_Book_span sp_open_numbers sp_Book_fit_with { nx := fun _ H' => Q .non H', rt := Q } (start n_answer vs) H) :
    FnOk P w K mg base CX0 13 f fd ["scene", "question"] sp := by
  refine F.ok sc_answer len (fun cdv A outer s H vs Q E hr h => ⟨t_answer K sp_said_of sp_ends_of_papers sp_Scene_book sp_Book_chain sp_Book_span sp_open_numbers sp_Book_fit_with, ?_, pure vs H Q E h⟩)
  exact (pss_cons (ps_set (i := 2) sc_answer.nd rfl (Or.inl rfl) (pe_cal G_said_of (hr.mono (by decide)) rfl (pa_cons (pv 0) (pa_cons (pv 1) pa_nil))))
    (pss_cons (ps_asg (pe_cal G_ends_of_papers (hr.mono (by decide)) rfl (pa_cons (pv 0) (pa_cons (pv 1) pa_nil))) (pg_tup rfl (pgs_cons (pg_name (i := 3) sc_answer.nd rfl (Or.inr rfl)) (pgs_cons (pg_name (i := 4) sc_answer.nd rfl (Or.inr rfl)) pgs_nil))))
    (pss_cons (ps_if (pt_cmpR op_notN (pv 2) pe_non (nomark _)) (pss_one (ps_ret (pe_tup (pa_cons (pe_ix (ix_words T.words) (pe_glob rfl T.g_WORDS rfl) (pv 2) (fun _ _ => rfl)) (pa_cons (pv 1) (pa_cons (pe_tup (pa_cons (pe_mcal G_Book_chain (hr.mono (by decide)) (pe_pcal G_Scene_book (hr.mono (by decide)) (pv 0)) (pa_cons (pv 3) (pa_cons (pv 4) pa_nil))) (pa_cons (pe_mcal G_Book_chain (hr.mono (by decide)) (pe_pcal G_Scene_book (hr.mono (by decide)) (pv 0)) (pa_cons (pv 4) (pa_cons (pv 3) pa_nil))) pa_nil))) pa_nil)))))) pss_nil)
    (pss_cons (ps_set (i := 5) sc_answer.nd rfl (Or.inl rfl) (pe_cal G_open_numbers (hr.mono (by decide)) rfl (pa_cons (pv 0) (pa_cons (pv 1) (pa_cons (pe_mcal G_Book_span (hr.mono (by decide)) (pe_pcal G_Scene_book (hr.mono (by decide)) (pv 0)) (pa_cons (pv 3) (pa_cons (pv 4) pa_nil))) pa_nil)))))
    (pss_one (ps_ret (pe_tup (pa_cons pe_str (pa_cons (pv 1) (pa_cons (pe_callTy call_tuple_of (by rfl) T.f_tuple PyProof.Rows.boot_tuple (pa_cons (pe_lc (own := [("number", 6)]) (g := (gName 6)) rfl sc_answer.nd (pi_tup (pv 5)) (blkOk_by (own := [("number", 6)]) (N := n_answer) (sc := defScope s_answer) (by decide +kernel)) (fun _ _ _ _ _ => (pg_name (i := 6) sc_answer.nd rfl (Or.inl rfl))) (fun _ _ _ _ _ => pts_nil) (fun _ _ _ _ _ => (pe_mcal G_Book_fit_with (hr.mono (by decide)) (pe_pcal G_Scene_book (hr.mono (by decide)) (pv 0)) (pa_cons (pv 3) (pa_cons (pv 4) (pa_cons (pv 6) pa_nil)))))) pa_nil)) pa_nil))))))))))
theorem bi_answer {f : Addr} {fd : FuncData} (F : Fun K "answer" "answer" s_answer f fd) : Binds K fd ["scene", "question"] [] := F.binds (ps := ["scene", "question"]) fun _ _ _ _ _ _ us hl => match us, hl with | [_, _], _ => rfl
def n_chain_length : List Str := ["facts", "chain", "first", "second", "here", "length", "number", "ahead", "begin", "end", "least", "most", "step"]
def t_chain_length (K : PySem.W.Frag) (sp_minus sp_plus : Sp) : TS :=
  (tSeq (tAsg (tVar 2) (gName 4))
  (tSeq (tAsg (tC (.ref (He.ga K "NOUGHT_papers"))) (gName 5))
  (tSeq (tFor (iList K (tVar 1)) (gTup K 2 (gCons (gName 6) (gCons (gName 7) gNil))) (tSeq (tIfS (tOr (tTest (tOp (rI0 fun i j => .bl (decide (i < j))) (tVar 6) (tC (.int 0)))) (tTest (tOp (rI0 fun i j => .bl (decide (j ≤ i))) (tVar 6) (tCB (rLenQ K) (tCons (tVar 0) tNil))))) (tRet (tC .non)) tNext)
  (tSeq (tAsg (tOp (rIxL K) (tVar 0) (tVar 6)) (gTup K 4 (gCons (gName 8) (gCons (gName 9) (gCons (gName 10) (gCons (gName 11) gNil))))))
  (tSeq (tAsg (tVar 11) (gName 12))
  (tSeq (tIfS (tNot (tB (tVar 7))) (tSeq (tPar 8 9 (tCons (tVar 9) (tCons (tVar 8) tNil)))
  (tAsg (tCall sp_minus [] E0 (tCons (tC (.ref (He.ga K "NOUGHT_papers"))) (tCons (tVar 10) tNil))) (gName 12))) tNext)
  (tSeq (tIfS (tTest (tOp rNe (tVar 8) (tVar 4))) (tRet (tC .non)) tNext)
  (tSeq (tAsg (tVar 9) (gName 4))
  (tAsg (tCall sp_plus [] E0 (tCons (tVar 5) (tCons (tVar 12) tNil))) (gName 5)))))))))
  (tSeq (tIfS (tTest (tOp rNe (tVar 4) (tVar 3))) (tRet (tC .non)) tNext)
  (tRet (tVar 5))))))
theorem sc_chain_length : FnScope n_chain_length ["facts", "chain", "first", "second"] (defScope s_chain_length) := ⟨rfl, rfl, rfl, by decide +kernel, rfl, by decide +kernel, by decide +kernel⟩
theorem ok_chain_length {sp_minus sp_plus sp : Sp} (T : Txt K mg) (G_minus : Cal P w K mg base 3 "minus" ["first", "second"] sp_minus) (G_plus : Cal P w K mg base 3 "plus" ["first", "second"] sp_plus) {f : Addr} {fd : FuncData} (F : Fun K "chain_length" "chain_length" s_chain_length f fd)
    (len : ∀ vs H Q E, sp vs H Q E → vs.length = 4) (pure : ∀ vs H Q E, sp vs H Q E → t_chain_length K sp_minus sp_plus { nx := fun _ H' => Q .non H', rt := Q } (start n_chain_length vs) H) :
    FnOk P w K mg base CX0 4 f fd ["facts", "chain", "first", "second"] sp := by
  refine F.ok sc_chain_length len (fun cdv A outer s H vs Q E hr h => ⟨t_chain_length K sp_minus sp_plus, ?_, pure vs H Q E h⟩)
  exact (pss_cons (ps_set (i := 4) sc_chain_length.nd rfl (Or.inl rfl) (pv 2))
    (pss_cons (ps_set (i := 5) sc_chain_length.nd rfl (Or.inl rfl) (pe_glob rfl T.g_NOUGHT_papers rfl))
    (pss_cons (ps_for PassesOwn.never rfl (pi_list (pv 1)) (pg_tup rfl (pgs_cons (pg_name (i := 6) sc_chain_length.nd rfl (Or.inl rfl)) (pgs_cons (pg_name (i := 7) sc_chain_length.nd rfl (Or.inl rfl)) pgs_nil))) (pss_cons (ps_if (PW.pt (pw_or (pt_cmpR op_lt (pv 6) pe_int (nomark _)) (pw_or1 (pt_cmpR op_ge (pv 6) (pe_callB call_len_seq (by rfl) T.f_len PySem.boot_len (pa_cons (pv 0) pa_nil)) (nomark _))))) (pss_one (ps_ret pe_non)) pss_nil)
    (pss_cons (ps_asg (pe_ix ix_list (pv 0) (pv 6) (fun _ _ => rfl)) (pg_tup rfl (pgs_cons (pg_name (i := 8) sc_chain_length.nd rfl (Or.inl rfl)) (pgs_cons (pg_name (i := 9) sc_chain_length.nd rfl (Or.inl rfl)) (pgs_cons (pg_name (i := 10) sc_chain_length.nd rfl (Or.inl rfl)) (pgs_cons (pg_name (i := 11) sc_chain_length.nd rfl (Or.inl rfl)) pgs_nil))))))
    (pss_cons (ps_set (i := 12) sc_chain_length.nd rfl (Or.inl rfl) (pv 11))
    (pss_cons (ps_if (pt_not (pt_val (pv 7))) (pss_cons (ps_par (by rfl) sc_chain_length.nd rfl rfl (by decide) rfl rfl (pa_cons (pv 9) (pa_cons (pv 8) pa_nil)) (by rfl))
    (pss_one (ps_set (i := 12) sc_chain_length.nd rfl (Or.inl rfl) (pe_cal G_minus (hr.mono (by decide)) rfl (pa_cons (pe_glob rfl T.g_NOUGHT_papers rfl) (pa_cons (pv 10) pa_nil)))))) pss_nil)
    (pss_cons (ps_if (pt_cmpR op_ne (pv 8) (pv 4) (nomark _)) (pss_one (ps_ret pe_non)) pss_nil)
    (pss_cons (ps_set (i := 4) sc_chain_length.nd rfl (Or.inl rfl) (pv 9))
    (pss_one (ps_set (i := 5) sc_chain_length.nd rfl (Or.inl rfl) (pe_cal G_plus (hr.mono (by decide)) rfl (pa_cons (pv 5) (pa_cons (pv 12) pa_nil))))))))))))
    (pss_cons (ps_if (pt_cmpR op_ne (pv 4) (pv 3) (nomark _)) (pss_one (ps_ret pe_non)) pss_nil)
    (pss_one (ps_ret (pv 5)))))))
theorem bi_chain_length {f : Addr} {fd : FuncData} (F : Fun K "chain_length" "chain_length" s_chain_length f fd) : Binds K fd ["facts", "chain", "first", "second"] [] := F.binds (ps := ["facts", "chain", "first", "second"]) fun _ _ _ _ _ _ us hl => match us, hl with | [_, _, _, _], _ => rfl
def n_Book_facts : List Str := ["self"]
def t_Book_facts (K : PySem.W.Frag) : TS :=
  (tRet (tCB (rListOf K) (tCons (tFld K (tVar 0) "_facts") tNil)))
theorem sc_Book_facts : FnScope n_Book_facts ["self"] (defScope s_Book_facts) := ⟨rfl, rfl, rfl, by decide +kernel, rfl, by decide +kernel, by decide +kernel⟩
theorem ok_Book_facts {sp : Sp} (T : Txt K mg)  {f : Addr} {fd : FuncData} (F : Fun K "facts" "Book.facts" s_Book_facts f fd)
    (len : ∀ vs H Q E, sp vs H Q E → vs.length = 1) (pure : ∀ vs H Q E, sp vs H Q E → t_Book_facts K  { nx := fun _ H' => Q .non H', rt := Q } (start n_Book_facts vs) H) :
    FnOk P w K mg base CX0 1 f fd ["self"] sp := by
  refine F.ok sc_Book_facts len (fun cdv A outer s H vs Q E hr h => ⟨t_Book_facts K , ?_, pure vs H Q E h⟩)
  exact (pss_one (ps_ret (pe_callTy call_list_of (by rfl) T.f_list PyProof.Rows.boot_list (pa_cons (pe_fld (pv 0) rfl) pa_nil))))
theorem bi_Book_facts {f : Addr} {fd : FuncData} (F : Fun K "facts" "Book.facts" s_Book_facts f fd) : Binds K fd ["self"] [] := F.binds (ps := ["self"]) fun _ _ _ _ _ _ us hl => match us, hl with | [_], _ => rfl
def n_holds_surely : List Str := ["scene", "claim", "ends", "word", "question", "ahead", "back", "high", "low", "least", "most", "_", "clip", "prop"]
def t_holds_surely (K : PySem.W.Frag) (sp_Scene_book sp_Book_facts sp_chain_length sp_minus sp_show_of sp_values_between_scenes sp_compare : Sp) : TS :=
  (tSeq (tAsg (tVar 1) (gTup K 3 (gCons (gName 3) (gCons (gName 4) (gCons (gTup K 2 (gCons (gName 5) (gCons (gName 6) gNil))) gNil)))))
  (tSeq (tAsg (tCall sp_chain_length [] E0 (tCons (tProp (He.ga K "Book") sp_Book_facts [] E0 (tProp (He.ga K "Scene") sp_Scene_book [] E0 (tVar 0))) (tCons (tVar 5) (tCons (tOp (rIxT K) (tVar 2) (tC (.int 0))) (tCons (tOp (rIxT K) (tVar 2) (tC (.int 1))) tNil))))) (gName 7))
  (tSeq (tAsg (tCall sp_chain_length [] E0 (tCons (tProp (He.ga K "Book") sp_Book_facts [] E0 (tProp (He.ga K "Scene") sp_Scene_book [] E0 (tVar 0))) (tCons (tVar 6) (tCons (tOp (rIxT K) (tVar 2) (tC (.int 1))) (tCons (tOp (rIxT K) (tVar 2) (tC (.int 0))) tNil))))) (gName 8))
  (tSeq (tIfS (tOr (tTest (tOp rIsNone (tVar 7) (tC .non))) (tTest (tOp rIsNone (tVar 8) (tC .non)))) (tRet (tC (.bl false))) tNext)
  (tSeq (tAsg (tCall sp_minus [] E0 (tCons (tC (.ref (He.ga K "NOUGHT_papers"))) (tCons (tVar 8) tNil))) (gName 8))
  (tSeq (tIfS (tTest (tOp rEq (tOp (rIxT K) (tVar 4) (tC (.int 0))) (tC (.str "span")))) (tPar 9 10 (tCons (tOp (rIxT K) (tOp (rIxT K) (tVar 4) (tC (.int 1))) (tC (.int 2))) (tCons (tOp (rIxT K) (tOp (rIxT K) (tVar 4) (tC (.int 1))) (tC (.int 3))) tNil))) (tSeq (tAsg (tCall sp_show_of [] E0 (tCons (tVar 0) (tCons (tOp (rIxT K) (tVar 4) (tC (.int 1))) tNil))) (gTup K 4 (gCons (gName 11) (gCons (gName 12) (gCons (gName 13) (gCons (gName 11) gNil))))))
  (tSeq (tAsg (tCall sp_values_between_scenes [] E0 (tCons (tVar 12) (tCons (tVar 13) (tCons (tVar 8) (tCons (tVar 7) tNil))))) (gTup K 2 (gCons (gName 8) (gCons (gName 7) gNil))))
  (tPar 9 10 (tCons (tOp (rIxT K) (tVar 4) (tC (.int 3))) (tCons (tOp (rIxT K) (tVar 4) (tC (.int 4))) tNil))))))
  (tSeq (tIfS (tTest (tOp rEq (tVar 3) (tC (.str "always")))) (tRet (tAndV (tOp (rI0 fun i j => .bl (decide (i ≤ j))) (tCall sp_compare [] E0 (tCons (tVar 7) (tCons (tVar 10) tNil))) (tC (.int 0))) (tOp (rI0 fun i j => .bl (decide (i ≤ j))) (tCall sp_compare [] E0 (tCons (tVar 9) (tCons (tVar 8) tNil))) (tC (.int 0))))) tNext)
  (tRet (tOrV (tOp (rI0 fun i j => .bl (decide (i < j))) (tCall sp_compare [] E0 (tCons (tVar 7) (tCons (tVar 9) tNil))) (tC (.int 0))) (tOp (rI0 fun i j => .bl (decide (j < i))) (tCall sp_compare [] E0 (tCons (tVar 8) (tCons (tVar 10) tNil))) (tC (.int 0))))))))))))
theorem sc_holds_surely : FnScope n_holds_surely ["scene", "claim", "ends"] (defScope s_holds_surely) := ⟨rfl, rfl, rfl, by decide +kernel, rfl, by decide +kernel, by decide +kernel⟩
theorem ok_holds_surely {sp_Scene_book sp_Book_facts sp_chain_length sp_minus sp_show_of sp_values_between_scenes sp_compare sp : Sp} (T : Txt K mg) (G_Scene_book : PCal P w K mg base 1 (He.ga K "Scene") "book" sp_Scene_book) (G_Book_facts : PCal P w K mg base 1 (He.ga K "Book") "facts" sp_Book_facts) (G_chain_length : Cal P w K mg base 4 "chain_length" ["facts", "chain", "first", "second"] sp_chain_length) (G_minus : Cal P w K mg base 3 "minus" ["first", "second"] sp_minus) (G_show_of : Cal P w K mg base 3 "show_of" ["scene", "name"] sp_show_of) (G_values_between_scenes : Cal P w K mg base 8 "values_between_scenes" ["clip", "prop", "low", "high"] sp_values_between_scenes) (G_compare : Cal P w K mg base 1 "compare" ["first", "second"] sp_compare) {f : Addr} {fd : FuncData} (F : Fun K "holds_surely" "holds_surely" s_holds_surely f fd)
    (len : ∀ vs H Q E, sp vs H Q E → vs.length = 3) (pure : ∀ vs H Q E, sp vs H Q E → t_holds_surely K sp_Scene_book sp_Book_facts sp_chain_length sp_minus sp_show_of sp_values_between_scenes sp_compare { nx := fun _ H' => Q .non H', rt := Q } (start n_holds_surely vs) H) :
    FnOk P w K mg base CX0 9 f fd ["scene", "claim", "ends"] sp := by
  refine F.ok sc_holds_surely len (fun cdv A outer s H vs Q E hr h => ⟨t_holds_surely K sp_Scene_book sp_Book_facts sp_chain_length sp_minus sp_show_of sp_values_between_scenes sp_compare, ?_, pure vs H Q E h⟩)
  exact (pss_cons (ps_asg (pv 1) (pg_tup rfl (pgs_cons (pg_name (i := 3) sc_holds_surely.nd rfl (Or.inl rfl)) (pgs_cons (pg_name (i := 4) sc_holds_surely.nd rfl (Or.inl rfl)) (pgs_cons (pg_tup rfl (pgs_cons (pg_name (i := 5) sc_holds_surely.nd rfl (Or.inl rfl)) (pgs_cons (pg_name (i := 6) sc_holds_surely.nd rfl (Or.inl rfl)) pgs_nil))) pgs_nil)))))
    (pss_cons (ps_set (i := 7) sc_holds_surely.nd rfl (Or.inl rfl) (pe_cal G_chain_length (hr.mono (by decide)) rfl (pa_cons (pe_pcal G_Book_facts (hr.mono (by decide)) (pe_pcal G_Scene_book (hr.mono (by decide)) (pv 0))) (pa_cons (pv 5) (pa_cons (pe_ix ix_tup (pv 2) pe_int (fun _ _ => rfl)) (pa_cons (pe_ix ix_tup (pv 2) pe_int (fun _ _ => rfl)) pa_nil))))))
    (pss_cons (ps_set (i := 8) sc_holds_surely.nd rfl (Or.inl rfl) (pe_cal G_chain_length (hr.mono (by decide)) rfl (pa_cons (pe_pcal G_Book_facts (hr.mono (by decide)) (pe_pcal G_Scene_book (hr.mono (by decide)) (pv 0))) (pa_cons (pv 6) (pa_cons (pe_ix ix_tup (pv 2) pe_int (fun _ _ => rfl)) (pa_cons (pe_ix ix_tup (pv 2) pe_int (fun _ _ => rfl)) pa_nil))))))
    (pss_cons (ps_if (PW.pt (pw_or (pt_cmpR op_isN (pv 7) pe_non (nomark _)) (pw_or1 (pt_cmpR op_isN (pv 8) pe_non (nomark _))))) (pss_one (ps_ret pe_bl)) pss_nil)
    (pss_cons (ps_set (i := 8) sc_holds_surely.nd rfl (Or.inl rfl) (pe_cal G_minus (hr.mono (by decide)) rfl (pa_cons (pe_glob rfl T.g_NOUGHT_papers rfl) (pa_cons (pv 8) pa_nil))))
    (pss_cons (ps_if (pt_cmpR op_eq (pe_ix ix_tup (pv 4) pe_int (fun _ _ => rfl)) pe_str (nomark _)) (pss_one (ps_par (by rfl) sc_holds_surely.nd rfl rfl (by decide) rfl rfl (pa_cons (pe_ix ix_tup (pe_ix ix_tup (pv 4) pe_int (fun _ _ => rfl)) pe_int (fun _ _ => rfl)) (pa_cons (pe_ix ix_tup (pe_ix ix_tup (pv 4) pe_int (fun _ _ => rfl)) pe_int (fun _ _ => rfl)) pa_nil)) (by rfl))) (pss_cons (ps_asg (pe_cal G_show_of (hr.mono (by decide)) rfl (pa_cons (pv 0) (pa_cons (pe_ix ix_tup (pv 4) pe_int (fun _ _ => rfl)) pa_nil))) (pg_tup rfl (pgs_cons (pg_name (i := 11) sc_holds_surely.nd rfl (Or.inl rfl)) (pgs_cons (pg_name (i := 12) sc_holds_surely.nd rfl (Or.inl rfl)) (pgs_cons (pg_name (i := 13) sc_holds_surely.nd rfl (Or.inl rfl)) (pgs_cons (pg_name (i := 11) sc_holds_surely.nd rfl (Or.inl rfl)) pgs_nil))))))
    (pss_cons (ps_asg (pe_cal G_values_between_scenes (hr.mono (by decide)) rfl (pa_cons (pv 12) (pa_cons (pv 13) (pa_cons (pv 8) (pa_cons (pv 7) pa_nil))))) (pg_tup rfl (pgs_cons (pg_name (i := 8) sc_holds_surely.nd rfl (Or.inl rfl)) (pgs_cons (pg_name (i := 7) sc_holds_surely.nd rfl (Or.inl rfl)) pgs_nil))))
    (pss_one (ps_par (by rfl) sc_holds_surely.nd rfl rfl (by decide) rfl rfl (pa_cons (pe_ix ix_tup (pv 4) pe_int (fun _ _ => rfl)) (pa_cons (pe_ix ix_tup (pv 4) pe_int (fun _ _ => rfl)) pa_nil)) (by rfl))))))
    (pss_cons (ps_if (pt_cmpR op_eq (pv 3) pe_str (nomark _)) (pss_one (ps_ret (pe_and (pe_cmpR op_le (pe_cal G_compare (hr.mono (by decide)) rfl (pa_cons (pv 7) (pa_cons (pv 10) pa_nil))) pe_int (nomark _)) (pe_one (pe_cmpR op_le (pe_cal G_compare (hr.mono (by decide)) rfl (pa_cons (pv 9) (pa_cons (pv 8) pa_nil))) pe_int (nomark _)))))) pss_nil)
    (pss_one (ps_ret (pe_or (pe_cmpR op_lt (pe_cal G_compare (hr.mono (by decide)) rfl (pa_cons (pv 7) (pa_cons (pv 9) pa_nil))) pe_int (nomark _)) (pe_one (pe_cmpR op_gt (pe_cal G_compare (hr.mono (by decide)) rfl (pa_cons (pv 8) (pa_cons (pv 10) pa_nil))) pe_int (nomark _)))))))))))))
theorem bi_holds_surely {f : Addr} {fd : FuncData} (F : Fun K "holds_surely" "holds_surely" s_holds_surely f fd) : Binds K fd ["scene", "claim", "ends"] [] := F.binds (ps := ["scene", "claim", "ends"]) fun _ _ _ _ _ _ us hl => match us, hl with | [_, _, _], _ => rfl
def n_is_true_in : List Str := ["scene", "question", "fit", "first", "second", "least", "most", "times"]
def t_is_true_in (K : PySem.W.Frag) (sp_minus sp_lies_within sp_Scene_value : Sp) : TS :=
  (tSeq (tIfS (tTest (tOp rEq (tOp (rIxT K) (tVar 1) (tC (.int 0))) (tC (.str "span")))) (tSeq (tAsg (tOp (rIxT K) (tVar 1) (tC (.int 1))) (gTup K 4 (gCons (gName 3) (gCons (gName 4) (gCons (gName 5) (gCons (gName 6) gNil))))))
  (tSeq (tAsg (tCB (rDictP K) (tCons (tVar 2) tNil)) (gName 7))
  (tRet (tCall sp_lies_within [] E0 (tCons (tCall sp_minus [] E0 (tCons (tDGet (tVar 7) (tVar 4)) (tCons (tDGet (tVar 7) (tVar 3)) tNil))) (tCons (tVar 5) (tCons (tVar 6) tNil))))))) tNext)
  (tRet (tCall sp_lies_within [] E0 (tCons (tMeth (He.ga K "Scene") "value" sp_Scene_value [] E0 (tVar 0) (tCons (tOp (rIxT K) (tVar 1) (tC (.int 1))) (tCons (tOp (rIxT K) (tVar 1) (tC (.int 2))) (tCons (tVar 2) tNil)))) (tCons (tOp (rIxT K) (tVar 1) (tC (.int 3))) (tCons (tOp (rIxT K) (tVar 1) (tC (.int 4))) tNil))))))
theorem sc_is_true_in : FnScope n_is_true_in ["scene", "question", "fit"] (defScope s_is_true_in) := ⟨rfl, rfl, rfl, by decide +kernel, rfl, by decide +kernel, by decide +kernel⟩
theorem ok_is_true_in {sp_minus sp_lies_within sp_Scene_value sp : Sp} (T : Txt K mg) (G_minus : Cal P w K mg base 3 "minus" ["first", "second"] sp_minus) (G_lies_within : Cal P w K mg base 2 "lies_within" ["number", "low", "high"] sp_lies_within) (G_Scene_value : MCal P w K mg base 7 (He.ga K "Scene") "value" ["self", "name", "moment", "fit"] sp_Scene_value) {f : Addr} {fd : FuncData} (F : Fun K "is_true_in" "is_true_in" s_is_true_in f fd)
    (len : ∀ vs H Q E, sp vs H Q E → vs.length = 3) (pure : ∀ vs H Q E, sp vs H Q E → t_is_true_in K sp_minus sp_lies_within sp_Scene_value { nx := fun _ H' => Q .non H', rt := Q } (start n_is_true_in vs) H) :
    FnOk P w K mg base CX0 8 f fd ["scene", "question", "fit"] sp := by
  refine F.ok sc_is_true_in len (fun cdv A outer s H vs Q E hr h => ⟨t_is_true_in K sp_minus sp_lies_within sp_Scene_value, ?_, pure vs H Q E h⟩)
  exact (pss_cons (ps_if (pt_cmpR op_eq (pe_ix ix_tup (pv 1) pe_int (fun _ _ => rfl)) pe_str (nomark _)) (pss_cons (ps_asg (pe_ix ix_tup (pv 1) pe_int (fun _ _ => rfl)) (pg_tup rfl (pgs_cons (pg_name (i := 3) sc_is_true_in.nd rfl (Or.inl rfl)) (pgs_cons (pg_name (i := 4) sc_is_true_in.nd rfl (Or.inl rfl)) (pgs_cons (pg_name (i := 5) sc_is_true_in.nd rfl (Or.inl rfl)) (pgs_cons (pg_name (i := 6) sc_is_true_in.nd rfl (Or.inl rfl)) pgs_nil))))))
    (pss_cons (ps_set (i := 7) sc_is_true_in.nd rfl (Or.inl rfl) (pe_callTy (call_dictP rfl) (by rfl) T.f_dict PyProof.Rows.boot_dict (pa_cons (pv 2) pa_nil)))
    (pss_one (ps_ret (pe_cal G_lies_within (hr.mono (by decide)) rfl (pa_cons (pe_cal G_minus (hr.mono (by decide)) rfl (pa_cons (pe_dget (hu_of hr) (pv 7) (pv 4) (fun _ _ => rfl)) (pa_cons (pe_dget (hu_of hr) (pv 7) (pv 3) (fun _ _ => rfl)) pa_nil))) (pa_cons (pv 5) (pa_cons (pv 6) pa_nil)))))))) pss_nil)
    (pss_one (ps_ret (pe_cal G_lies_within (hr.mono (by decide)) rfl (pa_cons (pe_mcal G_Scene_value (hr.mono (by decide)) (pv 0) (pa_cons (pe_ix ix_tup (pv 1) pe_int (fun _ _ => rfl)) (pa_cons (pe_ix ix_tup (pv 1) pe_int (fun _ _ => rfl)) (pa_cons (pv 2) pa_nil)))) (pa_cons (pe_ix ix_tup (pv 1) pe_int (fun _ _ => rfl)) (pa_cons (pe_ix ix_tup (pv 1) pe_int (fun _ _ => rfl)) pa_nil)))))))
theorem bi_is_true_in {f : Addr} {fd : FuncData} (F : Fun K "is_true_in" "is_true_in" s_is_true_in f fd) : Binds K fd ["scene", "question", "fit"] [] := F.binds (ps := ["scene", "question", "fit"]) fun _ _ _ _ _ _ us hl => match us, hl with | [_, _, _], _ => rfl
def n_Book_is_fit : List Str := ["self", "fit", "times", "first", "second", "least", "most", "passed", "name", "time"]
def t_Book_is_fit (K : PySem.W.Frag) (sp_minus sp_compare : Sp) : TS :=
  (tSeq (tIfS (tOr (tTest (tOp (rNeD K) (tLc (iList K (tVar 1)) (gTup K 2 (gCons (gName 8) (gCons (gName 9) gNil))) tYes (tVar 8) [8, 9]) (tFld K (tVar 0) "_names"))) (tTest (tOp (rNeD K) (tOp (rIxT K) (tOp (rIxL K) (tVar 1) (tC (.int 0))) (tC (.int 1))) (tC (.ref (He.ga K "NOUGHT_books")))))) (tRet (tC (.bl false))) tNext)
  (tSeq (tAsg (tCB (rDictP K) (tCons (tVar 1) tNil)) (gName 2))
  (tSeq (tFor (iList K (tFld K (tVar 0) "_facts")) (gTup K 4 (gCons (gName 3) (gCons (gName 4) (gCons (gName 5) (gCons (gName 6) gNil))))) (tSeq (tAsg (tCall sp_minus [] E0 (tCons (tDGet (tVar 2) (tVar 4)) (tCons (tDGet (tVar 2) (tVar 3)) tNil))) (gName 7))
  (tIfS (tOr (tTest (tOp (rI0 fun i j => .bl (decide (i < j))) (tCall sp_compare [] E0 (tCons (tVar 7) (tCons (tVar 5) tNil))) (tC (.int 0)))) (tTest (tOp (rI0 fun i j => .bl (decide (j < i))) (tCall sp_compare [] E0 (tCons (tVar 7) (tCons (tVar 6) tNil))) (tC (.int 0))))) (tRet (tC (.bl false))) tNext)))
  (tRet (tC (.bl true))))))
theorem sc_Book_is_fit : FnScope n_Book_is_fit ["self", "fit"] (defScope s_Book_is_fit) := ⟨rfl, rfl, rfl, by decide +kernel, rfl, by decide +kernel, by decide +kernel⟩
theorem ok_Book_is_fit {sp_minus sp_compare sp : Sp} (T : Txt K mg) (G_minus : Cal P w K mg base 3 "minus" ["first", "second"] sp_minus) (G_compare : Cal P w K mg base 1 "compare" ["first", "second"] sp_compare) {f : Addr} {fd : FuncData} (F : Fun K "is_fit" "Book.is_fit" s_Book_is_fit f fd)
    (len : ∀ vs H Q E, sp vs H Q E → vs.length = 2) (pure : ∀ vs H Q E, sp vs H Q E → t_Book_is_fit K sp_minus sp_compare { nx := fun _ H' => Q .non H', rt := Q } (start n_Book_is_fit vs) H) :
    FnOk P w K mg base CX0 4 f fd ["self", "fit"] sp := by
  refine F.ok sc_Book_is_fit len (fun cdv A outer s H vs Q E hr h => ⟨t_Book_is_fit K sp_minus sp_compare, ?_, pure vs H Q E h⟩)
  exact (pss_cons (ps_if (PW.pt (pw_or (pt_cmpR (op_neD hr.units) (pe_lc (own := [("name", 8), ("time", 9)]) (g := (gTup K 2 (gCons (gName 8) (gCons (gName 9) gNil)))) rfl sc_Book_is_fit.nd (pi_list (pv 1)) (blkOk_by (own := [("name", 8), ("time", 9)]) (N := n_Book_is_fit) (sc := defScope s_Book_is_fit) (by decide +kernel)) (fun _ _ _ _ _ => (pg_tup rfl (pgs_cons (pg_name (i := 8) sc_Book_is_fit.nd rfl (Or.inl rfl)) (pgs_cons (pg_name (i := 9) sc_Book_is_fit.nd rfl (Or.inl rfl)) pgs_nil)))) (fun _ _ _ _ _ => pts_nil) (fun _ _ _ _ _ => (pv 8))) (pe_fld (pv 0) rfl) (nomark _)) (pw_or1 (pt_cmpR (op_neD hr.units) (pe_ix ix_tup (pe_ix ix_list (pv 1) pe_int (fun _ _ => rfl)) pe_int (fun _ _ => rfl)) (pe_glob rfl T.g_NOUGHT_books rfl) (nomark _))))) (pss_one (ps_ret pe_bl)) pss_nil)
    (pss_cons (ps_set (i := 2) sc_Book_is_fit.nd rfl (Or.inl rfl) (pe_callTy (call_dictP rfl) (by rfl) T.f_dict PyProof.Rows.boot_dict (pa_cons (pv 1) pa_nil)))
    (pss_cons (ps_for PassesOwn.never rfl (pi_list (pe_fld (pv 0) rfl)) (pg_tup rfl (pgs_cons (pg_name (i := 3) sc_Book_is_fit.nd rfl (Or.inl rfl)) (pgs_cons (pg_name (i := 4) sc_Book_is_fit.nd rfl (Or.inl rfl)) (pgs_cons (pg_name (i := 5) sc_Book_is_fit.nd rfl (Or.inl rfl)) (pgs_cons (pg_name (i := 6) sc_Book_is_fit.nd rfl (Or.inl rfl)) pgs_nil))))) (pss_cons (ps_set (i := 7) sc_Book_is_fit.nd rfl (Or.inl rfl) (pe_cal G_minus (hr.mono (by decide)) rfl (pa_cons (pe_dget (hu_of hr) (pv 2) (pv 4) (fun _ _ => rfl)) (pa_cons (pe_dget (hu_of hr) (pv 2) (pv 3) (fun _ _ => rfl)) pa_nil))))
    (pss_one (ps_if (PW.pt (pw_or (pt_cmpR op_lt (pe_cal G_compare (hr.mono (by decide)) rfl (pa_cons (pv 7) (pa_cons (pv 5) pa_nil))) pe_int (nomark _)) (pw_or1 (pt_cmpR op_gt (pe_cal G_compare (hr.mono (by decide)) rfl (pa_cons (pv 7) (pa_cons (pv 6) pa_nil))) pe_int (nomark _))))) (pss_one (ps_ret pe_bl)) pss_nil))))
    (pss_one (ps_ret pe_bl)))))
theorem bi_Book_is_fit {f : Addr} {fd : FuncData} (F : Fun K "is_fit" "Book.is_fit" s_Book_is_fit f fd) : Binds K fd ["self", "fit"] [] := F.binds (ps := ["self", "fit"]) fun _ _ _ _ _ _ us hl => match us, hl with | [_, _], _ => rfl
def n_judge : List Str := ["scene", "claim", "word", "question", "paper", "ends"]
def t_judge (K : PySem.W.Frag) (sp_ends_of_papers sp_Scene_book sp_Book_contains sp_holds_surely sp_Book_is_fit sp_is_true_in : Sp) : TS :=
  (tSeq (tAsg (tVar 1) (gTup K 3 (gCons (gName 2) (gCons (gName 3) (gCons (gName 4) gNil)))))
  (tSeq (tAsg (tCall sp_ends_of_papers [] E0 (tCons (tVar 0) (tCons (tVar 3) tNil))) (gName 5))
  (tSeq (tIfS (tOr (tTest (tOp rIsNone (tVar 5) (tC .non))) (tOr (tTest (tOp (rHas (He.ga K "Book") sp_Book_contains true) (tOp (rIxT K) (tVar 5) (tC (.int 0))) (tProp (He.ga K "Scene") sp_Scene_book [] E0 (tVar 0)))) (tTest (tOp (rHas (He.ga K "Book") sp_Book_contains true) (tOp (rIxT K) (tVar 5) (tC (.int 1))) (tProp (He.ga K "Scene") sp_Scene_book [] E0 (tVar 0)))))) (tRet (tC (.bl false))) tNext)
  (tSeq (tIfS (tTest (tOp rNe (tVar 2) (tC (.str "open")))) (tRet (tCall sp_holds_surely [] E0 (tCons (tVar 0) (tCons (tVar 1) (tCons (tVar 5) tNil))))) tNext)
  (tSeq (tIfS (tOr (tNot (tB (tMeth (He.ga K "Book") "is_fit" sp_Book_is_fit [] E0 (tProp (He.ga K "Scene") sp_Scene_book [] E0 (tVar 0)) (tCons (tOp (rIxT K) (tVar 4) (tC (.int 0))) tNil)))) (tNot (tB (tMeth (He.ga K "Book") "is_fit" sp_Book_is_fit [] E0 (tProp (He.ga K "Scene") sp_Scene_book [] E0 (tVar 0)) (tCons (tOp (rIxT K) (tVar 4) (tC (.int 1))) tNil))))) (tRet (tC (.bl false))) tNext)
  (tRet (tAndV (tCall sp_is_true_in [] E0 (tCons (tVar 0) (tCons (tVar 3) (tCons (tOp (rIxT K) (tVar 4) (tC (.int 0))) tNil)))) (tNotV (tCall sp_is_true_in [] E0 (tCons (tVar 0) (tCons (tVar 3) (tCons (tOp (rIxT K) (tVar 4) (tC (.int 1))) tNil))))))))))))
theorem sc_judge : FnScope n_judge ["scene", "claim"] (defScope s_judge) := ⟨rfl, rfl, rfl, by decide +kernel, rfl, by decide +kernel, by decide +kernel⟩
theorem ok_judge {sp_ends_of_papers sp_Scene_book sp_Book_contains sp_holds_surely sp_Book_is_fit sp_is_true_in sp : Sp} (T : Txt K mg) (G_ends_of_papers : Cal P w K mg base 4 "ends_of_papers" ["scene", "question"] sp_ends_of_papers) (G_Scene_book : PCal P w K mg base 1 (He.ga K "Scene") "book" sp_Scene_book) (G_Book_contains : MCal P w K mg base 1 (He.ga K "Book") "__contains__" ["self", "name"] sp_Book_contains) (G_holds_surely : Cal P w K mg base 9 "holds_surely" ["scene", "claim", "ends"] sp_holds_surely) (G_Book_is_fit : MCal P w K mg base 4 (He.ga K "Book") "is_fit" ["self", "fit"] sp_Book_is_fit) (G_is_true_in : Cal P w K mg base 8 "is_true_in" ["scene", "question", "fit"] sp_is_true_in) {f : Addr} {fd : FuncData} (F : Fun K "judge" "judge" s_judge f fd)
    (len : ∀ vs H Q E, sp vs H Q E → vs.length = 2) (pure : ∀ vs H Q E, sp vs H Q E → t_judge K sp_ends_of_papers sp_Scene_book sp_Book_contains sp_holds_surely sp_Book_is_fit sp_is_true_in { nx := fun _ H' => Q .non H', rt := Q } (start n_judge vs) H) :
    FnOk P w K mg base CX0 10 f fd ["scene", "claim"] sp := by
  refine F.ok sc_judge len (fun cdv A outer s H vs Q E hr h => ⟨t_judge K sp_ends_of_papers sp_Scene_book sp_Book_contains sp_holds_surely sp_Book_is_fit sp_is_true_in, ?_, pure vs H Q E h⟩)
  exact (pss_cons (ps_asg (pv 1) (pg_tup rfl (pgs_cons (pg_name (i := 2) sc_judge.nd rfl (Or.inl rfl)) (pgs_cons (pg_name (i := 3) sc_judge.nd rfl (Or.inl rfl)) (pgs_cons (pg_name (i := 4) sc_judge.nd rfl (Or.inl rfl)) pgs_nil)))))
    (pss_cons (ps_set (i := 5) sc_judge.nd rfl (Or.inl rfl) (pe_cal G_ends_of_papers (hr.mono (by decide)) rfl (pa_cons (pv 0) (pa_cons (pv 3) pa_nil))))
    (pss_cons (ps_if (PW.pt (pw_or (pt_cmpR op_isN (pv 5) pe_non (nomark _)) (pw_or (pt_cmpR (op_hasNot G_Book_contains (hr.mono (by decide))) (pe_ix ix_tup (pv 5) pe_int (fun _ _ => rfl)) (pe_pcal G_Scene_book (hr.mono (by decide)) (pv 0)) (by rfl)) (pw_or1 (pt_cmpR (op_hasNot G_Book_contains (hr.mono (by decide))) (pe_ix ix_tup (pv 5) pe_int (fun _ _ => rfl)) (pe_pcal G_Scene_book (hr.mono (by decide)) (pv 0)) (by rfl)))))) (pss_one (ps_ret pe_bl)) pss_nil)
    (pss_cons (ps_if (pt_cmpR op_ne (pv 2) pe_str (nomark _)) (pss_one (ps_ret (pe_cal G_holds_surely (hr.mono (by decide)) rfl (pa_cons (pv 0) (pa_cons (pv 1) (pa_cons (pv 5) pa_nil)))))) pss_nil)
    (pss_cons (ps_if (PW.pt (pw_or (pt_not (pt_val (pe_mcal G_Book_is_fit (hr.mono (by decide)) (pe_pcal G_Scene_book (hr.mono (by decide)) (pv 0)) (pa_cons (pe_ix ix_tup (pv 4) pe_int (fun _ _ => rfl)) pa_nil)))) (pw_or1 (pt_not (pt_val (pe_mcal G_Book_is_fit (hr.mono (by decide)) (pe_pcal G_Scene_book (hr.mono (by decide)) (pv 0)) (pa_cons (pe_ix ix_tup (pv 4) pe_int (fun _ _ => rfl)) pa_nil))))))) (pss_one (ps_ret pe_bl)) pss_nil)
    (pss_one (ps_ret (pe_and (pe_cal G_is_true_in (hr.mono (by decide)) rfl (pa_cons (pv 0) (pa_cons (pv 3) (pa_cons (pe_ix ix_tup (pv 4) pe_int (fun _ _ => rfl)) pa_nil)))) (pe_one (pe_not (pe_cal G_is_true_in (hr.mono (by decide)) rfl (pa_cons (pv 0) (pa_cons (pv 3) (pa_cons (pe_ix ix_tup (pv 4) pe_int (fun _ _ => rfl)) pa_nil))))))))))))))
theorem bi_judge {f : Addr} {fd : FuncData} (F : Fun K "judge" "judge" s_judge f fd) : Binds K fd ["scene", "claim"] [] := F.binds (ps := ["scene", "claim"]) fun _ _ _ _ _ _ us hl => match us, hl with | [_, _], _ => rfl
def n_is_too_great : List Str := ["number"]
def t_is_too_great (K : PySem.W.Frag) (sp_compare : Sp) : TS :=
  (tSeq (tIfS (tTest (tOp (rI0 fun i j => .bl (decide (j < i))) (tOp (rIxT K) (tVar 0) (tC (.int 1))) (tC (.int 1000)))) (tRet (tC (.bl true))) tNext)
  (tRet (tOrV (tOp (rI0 fun i j => .bl (decide (i < j))) (tCall sp_compare [] E0 (tCons (tVar 0) (tCons (tTup (tCons (tUn (rU fun i => .int (-i)) (tC (.int 1000))) (tCons (tC (.int 1)) tNil))) tNil))) (tC (.int 0))) (tOp (rI0 fun i j => .bl (decide (j < i))) (tCall sp_compare [] E0 (tCons (tVar 0) (tCons (tTup (tCons (tC (.int 1000)) (tCons (tC (.int 1)) tNil))) tNil))) (tC (.int 0))))))
theorem sc_is_too_great : FnScope n_is_too_great ["number"] (defScope s_is_too_great) := ⟨rfl, rfl, rfl, by decide +kernel, rfl, by decide +kernel, by decide +kernel⟩
theorem ok_is_too_great {sp_compare sp : Sp} (T : Txt K mg) (G_compare : Cal P w K mg base 1 "compare" ["first", "second"] sp_compare) {f : Addr} {fd : FuncData} (F : Fun K "is_too_great" "is_too_great" s_is_too_great f fd)
    (len : ∀ vs H Q E, sp vs H Q E → vs.length = 1) (pure : ∀ vs H Q E, sp vs H Q E → t_is_too_great K sp_compare { nx := fun _ H' => Q .non H', rt := Q } (start n_is_too_great vs) H) :
    FnOk P w K mg base CX0 2 f fd ["number"] sp := by
  refine F.ok sc_is_too_great len (fun cdv A outer s H vs Q E hr h => ⟨t_is_too_great K sp_compare, ?_, pure vs H Q E h⟩)
  exact (pss_cons (ps_if (pt_cmpR op_gt (pe_ix ix_tup (pv 0) pe_int (fun _ _ => rfl)) (pe_globI rfl T.i_GREAT) (nomark _)) (pss_one (ps_ret pe_bl)) pss_nil)
    (pss_one (ps_ret (pe_or (pe_cmpR op_lt (pe_cal G_compare (hr.mono (by decide)) rfl (pa_cons (pv 0) (pa_cons (pe_tup (pa_cons (pe_un un_neg (pe_globI rfl T.i_GREAT)) (pa_cons pe_int pa_nil))) pa_nil))) pe_int (nomark _)) (pe_one (pe_cmpR op_gt (pe_cal G_compare (hr.mono (by decide)) rfl (pa_cons (pv 0) (pa_cons (pe_tup (pa_cons (pe_globI rfl T.i_GREAT) (pa_cons pe_int pa_nil))) pa_nil))) pe_int (nomark _)))))))
theorem bi_is_too_great {f : Addr} {fd : FuncData} (F : Fun K "is_too_great" "is_too_great" s_is_too_great f fd) : Binds K fd ["number"] [] := F.binds (ps := ["number"]) fun _ _ _ _ _ _ us hl => match us, hl with | [_], _ => rfl
def n_Book_init : List Str := ["self"]
def t_Book_init (K : PySem.W.Frag) : TS :=
  (tSeq (sFld K (tVar 0) (tLst (tCons (tC (.str "start")) tNil)) "_names")
  (tSeq (sFld K (tVar 0) (tLst tNil) "_facts")
  (sFld K (tVar 0) (tLst tNil) "_past")))
theorem sc_Book_init : FnScope n_Book_init ["self"] (defScope s_Book_init) := ⟨rfl, rfl, rfl, by decide +kernel, rfl, by decide +kernel, by decide +kernel⟩
theorem ok_Book_init {sp : Sp} (T : Txt K mg)  {f : Addr} {fd : FuncData} (F : Fun K "__init__" "Book.__init__" s_Book_init f fd)
    (len : ∀ vs H Q E, sp vs H Q E → vs.length = 1) (pure : ∀ vs H Q E, sp vs H Q E → t_Book_init K  { nx := fun _ H' => Q .non H', rt := Q } (start n_Book_init vs) H) :
    FnOk P w K mg base CX0 1 f fd ["self"] sp := by
  refine F.ok sc_Book_init len (fun cdv A outer s H vs Q E hr h => ⟨t_Book_init K , ?_, pure vs H Q E h⟩)
  exact (pss_cons (ps_fld (pv 0) (pe_lst (pa_cons pe_str pa_nil)) rfl)
    (pss_cons (ps_fld (pv 0) (pe_lst pa_nil) rfl)
    (pss_one (ps_fld (pv 0) (pe_lst pa_nil) rfl))))
theorem bi_Book_init {f : Addr} {fd : FuncData} (F : Fun K "__init__" "Book.__init__" s_Book_init f fd) : Binds K fd ["self"] [] := F.binds (ps := ["self"]) fun _ _ _ _ _ _ us hl => match us, hl with | [_], _ => rfl
def n_Book_check_numbers : List Str := ["self", "least", "most"]
def t_Book_check_numbers (K : PySem.W.Frag) (sp_compare sp_is_too_great : Sp) : TS :=
  (tSeq (tIfS (tTest (tOp (rI0 fun i j => .bl (decide (j < i))) (tCall sp_compare [] E0 (tCons (tVar 1) (tCons (tVar 2) tNil))) (tC (.int 0)))) tNever tNext)
  (tIfS (tOr (tB (tCall sp_is_too_great [] E0 (tCons (tVar 1) tNil))) (tB (tCall sp_is_too_great [] E0 (tCons (tVar 2) tNil)))) tNever tNext))
theorem sc_Book_check_numbers : FnScope n_Book_check_numbers ["self", "least", "most"] (defScope s_Book_check_numbers) := ⟨rfl, rfl, rfl, by decide +kernel, rfl, by decide +kernel, by decide +kernel⟩
theorem ok_Book_check_numbers {sp_compare sp_is_too_great sp : Sp} (T : Txt K mg) (G_compare : Cal P w K mg base 1 "compare" ["first", "second"] sp_compare) (G_is_too_great : Cal P w K mg base 2 "is_too_great" ["number"] sp_is_too_great) {f : Addr} {fd : FuncData} (F : Fun K "check_numbers" "Book.check_numbers" s_Book_check_numbers f fd)
    (len : ∀ vs H Q E, sp vs H Q E → vs.length = 3) (pure : ∀ vs H Q E, sp vs H Q E → t_Book_check_numbers K sp_compare sp_is_too_great { nx := fun _ H' => Q .non H', rt := Q } (start n_Book_check_numbers vs) H) :
    FnOk P w K mg base CX0 3 f fd ["self", "least", "most"] sp := by
  refine F.ok sc_Book_check_numbers len (fun cdv A outer s H vs Q E hr h => ⟨t_Book_check_numbers K sp_compare sp_is_too_great, ?_, pure vs H Q E h⟩)
  exact (pss_cons (ps_if (pt_cmpR op_gt (pe_cal G_compare (hr.mono (by decide)) rfl (pa_cons (pv 1) (pa_cons (pv 2) pa_nil))) pe_int (nomark _)) (pss_one ps_never) pss_nil)
    (pss_one (ps_if (PW.pt (pw_or (pt_val (pe_cal G_is_too_great (hr.mono (by decide)) rfl (pa_cons (pv 1) pa_nil))) (pw_or1 (pt_val (pe_cal G_is_too_great (hr.mono (by decide)) rfl (pa_cons (pv 2) pa_nil)))))) (pss_one ps_never) pss_nil)))
theorem bi_Book_check_numbers {f : Addr} {fd : FuncData} (F : Fun K "check_numbers" "Book.check_numbers" s_Book_check_numbers f fd) : Binds K fd ["self", "least", "most"] [] := F.binds (ps := ["self", "least", "most"]) fun _ _ _ _ _ _ us hl => match us, hl with | [_, _, _], _ => rfl
end
end Sc

/-! KWalk3 -/
set_option Elab.async false
set_option linter.all false
set_option maxRecDepth 100000
set_option maxHeartbeats 4000000
namespace Sc
open PySem PySem.Spec PyProof.Rows L2
section
variable {P : Program} {w : World} {K : PySem.W.Frag} {mg : Str → Option Value} {base : Heap}
def n_Book_check_room : List Str := ["self"]
def t_Book_check_room (K : PySem.W.Frag) : TS :=
  (tIfS (tTest (tOp (rI0 fun i j => .bl (decide (j ≤ i))) (tCB (rLenQ K) (tCons (tFld K (tVar 0) "_facts") tNil)) (tC (.int 40)))) tNever tNext)
theorem sc_Book_check_room : FnScope n_Book_check_room ["self"] (defScope s_Book_check_room) := ⟨rfl, rfl, rfl, by decide +kernel, rfl, by decide +kernel, by decide +kernel⟩
theorem ok_Book_check_room {sp : Sp} (T : Txt K mg)  {f : Addr} {fd : FuncData} (F : Fun K "check_room" "Book.check_room" s_Book_check_room f fd)
    (len : ∀ vs H Q E, sp vs H Q E → vs.length = 1) (pure : ∀ vs H Q E, sp vs H Q E → t_Book_check_room K  { nx := fun _ H' => Q .non H', rt := Q } (start n_Book_check_room vs) H) :
    FnOk P w K mg base CX0 1 f fd ["self"] sp := by
  refine F.ok sc_Book_check_room len (fun cdv A outer s H vs Q E hr h => ⟨t_Book_check_room K , ?_, pure vs H Q E h⟩)
  exact (pss_one (ps_if (pt_cmpR op_ge (pe_callB call_len_seq (by rfl) T.f_len PySem.boot_len (pa_cons (pe_fld (pv 0) rfl) pa_nil)) (pe_globI rfl T.i_FACTS) (nomark _)) (pss_one ps_never) pss_nil))
theorem bi_Book_check_room {f : Addr} {fd : FuncData} (F : Fun K "check_room" "Book.check_room" s_Book_check_room f fd) : Binds K fd ["self"] [] := F.binds (ps := ["self"]) fun _ _ _ _ _ _ us hl => match us, hl with | [_], _ => rfl
def n_Book_remember : List Str := ["self", "name"]
def t_Book_remember (K : PySem.W.Frag) : TS :=
  (tDrop (tBM K "list" rAppend (tFld K (tVar 0) "_past") (tCons (tTup (tCons (tVar 1) (tCons (tCB (rListOf K) (tCons (tFld K (tVar 0) "_names") tNil)) (tCons (tCB (rListOf K) (tCons (tFld K (tVar 0) "_facts") tNil)) tNil)))) tNil)))
theorem sc_Book_remember : FnScope n_Book_remember ["self", "name"] (defScope s_Book_remember) := ⟨rfl, rfl, rfl, by decide +kernel, rfl, by decide +kernel, by decide +kernel⟩
theorem ok_Book_remember {sp : Sp} (T : Txt K mg)  {f : Addr} {fd : FuncData} (F : Fun K "remember" "Book.remember" s_Book_remember f fd)
    (len : ∀ vs H Q E, sp vs H Q E → vs.length = 2) (pure : ∀ vs H Q E, sp vs H Q E → t_Book_remember K  { nx := fun _ H' => Q .non H', rt := Q } (start n_Book_remember vs) H) :
    FnOk P w K mg base CX0 1 f fd ["self", "name"] sp := by
  refine F.ok sc_Book_remember len (fun cdv A outer s H vs Q E hr h => ⟨t_Book_remember K , ?_, pure vs H Q E h⟩)
  exact (pss_one (ps_expr (pe_bm PySem.F.plainAttrs_list PySem.F.slot_list_append PySem.F.type_list_append mt_append (pe_fld (pv 0) rfl) (pa_cons (pe_tup (pa_cons (pv 1) (pa_cons (pe_callTy call_list_of (by rfl) T.f_list PyProof.Rows.boot_list (pa_cons (pe_fld (pv 0) rfl) pa_nil)) (pa_cons (pe_callTy call_list_of (by rfl) T.f_list PyProof.Rows.boot_list (pa_cons (pe_fld (pv 0) rfl) pa_nil)) pa_nil)))) pa_nil))))
theorem bi_Book_remember {f : Addr} {fd : FuncData} (F : Fun K "remember" "Book.remember" s_Book_remember f fd) : Binds K fd ["self", "name"] [] := F.binds (ps := ["self", "name"]) fun _ _ _ _ _ _ us hl => match us, hl with | [_, _], _ => rfl
def n_Book_add : List Str := ["self", "name", "least", "most"]
def t_Book_add (K : PySem.W.Frag) (sp_Book_check_numbers sp_Book_check_room sp_Book_remember : Sp) : TS :=
  (tSeq (tIfS (tTest (tOp (rIn K false) (tVar 1) (tFld K (tVar 0) "_names"))) tNever tNext)
  (tSeq (tDrop (tMeth (He.ga K "Book") "check_numbers" sp_Book_check_numbers [] E0 (tVar 0) (tCons (tVar 2) (tCons (tVar 3) tNil))))
  (tSeq (tIfS (tTest (tOp (rI0 fun i j => .bl (decide (j < i))) (tCB (rLenQ K) (tCons (tFld K (tVar 0) "_names") tNil)) (tC (.int 8)))) tNever tNext)
  (tSeq (tDrop (tMeth (He.ga K "Book") "check_room" sp_Book_check_room [] E0 (tVar 0) tNil))
  (tSeq (tDrop (tMeth (He.ga K "Book") "remember" sp_Book_remember [] E0 (tVar 0) (tCons (tC (.str "add")) tNil)))
  (tSeq (tDrop (tBM K "list" rAppend (tFld K (tVar 0) "_names") (tCons (tVar 1) tNil)))
  (tSeq (tDrop (tBM K "list" rAppend (tFld K (tVar 0) "_facts") (tCons (tTup (tCons (tC (.str "start")) (tCons (tVar 1) (tCons (tVar 2) (tCons (tVar 3) tNil))))) tNil)))
  (tRet (tOp (rI0 fun i j => .int (i - j)) (tCB (rLenQ K) (tCons (tFld K (tVar 0) "_facts") tNil)) (tC (.int 1)))))))))))
theorem sc_Book_add : FnScope n_Book_add ["self", "name", "least", "most"] (defScope s_Book_add) := ⟨rfl, rfl, rfl, by decide +kernel, rfl, by decide +kernel, by decide +kernel⟩
theorem ok_Book_add {sp_Book_check_numbers sp_Book_check_room sp_Book_remember sp : Sp} (T : Txt K mg) (G_Book_check_numbers : MCal P w K mg base 3 (He.ga K "Book") "check_numbers" ["self", "least", "most"] sp_Book_check_numbers) (G_Book_check_room : MCal P w K mg base 1 (He.ga K "Book") "check_room" ["self"] sp_Book_check_room) (G_Book_remember : MCal P w K mg base 1 (He.ga K "Book") "remember" ["self", "name"] sp_Book_remember) {f : Addr} {fd : FuncData} (F : Fun K "add" "Book.add" s_Book_add f fd)
    (len : ∀ vs H Q E, sp vs H Q E → vs.length = 4) (pure : ∀ vs H Q E, sp vs H Q E → t_Book_add K sp_Book_check_numbers sp_Book_check_room sp_Book_remember { nx := fun _ H' => Q .non H', rt := Q } (start n_Book_add vs) H) :
    FnOk P w K mg base CX0 4 f fd ["self", "name", "least", "most"] sp := by
  refine F.ok sc_Book_add len (fun cdv A outer s H vs Q E hr h => ⟨t_Book_add K sp_Book_check_numbers sp_Book_check_room sp_Book_remember, ?_, pure vs H Q E h⟩)
  exact (pss_cons (ps_if (pt_cmpR op_in_seq (pv 1) (pe_fld (pv 0) rfl) (by rfl)) (pss_one ps_never) pss_nil)
    (pss_cons (ps_expr (pe_mcal G_Book_check_numbers (hr.mono (by decide)) (pv 0) (pa_cons (pv 2) (pa_cons (pv 3) pa_nil))))
    (pss_cons (ps_if (pt_cmpR op_gt (pe_callB call_len_seq (by rfl) T.f_len PySem.boot_len (pa_cons (pe_fld (pv 0) rfl) pa_nil)) (pe_globI rfl T.i_MOMENTS) (nomark _)) (pss_one ps_never) pss_nil)
    (pss_cons (ps_expr (pe_mcal0 G_Book_check_room (hr.mono (by decide)) (pv 0)))
    (pss_cons (ps_expr (pe_mcal G_Book_remember (hr.mono (by decide)) (pv 0) (pa_cons pe_str pa_nil)))
    (pss_cons (ps_expr (pe_bm PySem.F.plainAttrs_list PySem.F.slot_list_append PySem.F.type_list_append mt_append (pe_fld (pv 0) rfl) (pa_cons (pv 1) pa_nil)))
    (pss_cons (ps_expr (pe_bm PySem.F.plainAttrs_list PySem.F.slot_list_append PySem.F.type_list_append mt_append (pe_fld (pv 0) rfl) (pa_cons (pe_tup (pa_cons pe_str (pa_cons (pv 1) (pa_cons (pv 2) (pa_cons (pv 3) pa_nil))))) pa_nil)))
    (pss_one (ps_ret (pe_op op_sub (pe_callB call_len_seq (by rfl) T.f_len PySem.boot_len (pa_cons (pe_fld (pv 0) rfl) pa_nil)) pe_int))))))))))
theorem bi_Book_add {f : Addr} {fd : FuncData} (F : Fun K "add" "Book.add" s_Book_add f fd) : Binds K fd ["self", "name", "least", "most"] [] := F.binds (ps := ["self", "name", "least", "most"]) fun _ _ _ _ _ _ us hl => match us, hl with | [_, _, _, _], _ => rfl
def n_Book_tell : List Str := ["self", "first", "second", "least", "most", "low", "high"]
def t_Book_tell (K : PySem.W.Frag) (sp_Book_check_moments sp_Book_check_numbers sp_Book_check_room sp_Book_span sp_compare sp_Book_remember : Sp) : TS :=
  (tSeq (tDrop (tMeth (He.ga K "Book") "check_moments" sp_Book_check_moments [] E0 (tVar 0) (tCons (tVar 1) (tCons (tVar 2) tNil))))
  (tSeq (tIfS (tTest (tOp rEq (tVar 1) (tVar 2))) tNever tNext)
  (tSeq (tDrop (tMeth (He.ga K "Book") "check_numbers" sp_Book_check_numbers [] E0 (tVar 0) (tCons (tVar 3) (tCons (tVar 4) tNil))))
  (tSeq (tDrop (tMeth (He.ga K "Book") "check_room" sp_Book_check_room [] E0 (tVar 0) tNil))
  (tSeq (tAsg (tMeth (He.ga K "Book") "span" sp_Book_span [] E0 (tVar 0) (tCons (tVar 1) (tCons (tVar 2) tNil))) (gTup K 2 (gCons (gName 5) (gCons (gName 6) gNil))))
  (tSeq (tIfS (tTest (tOp (rI0 fun i j => .bl (decide (i < j))) (tCall sp_compare [] E0 (tCons (tVar 6) (tCons (tVar 3) tNil))) (tC (.int 0)))) tNever tNext)
  (tSeq (tIfS (tTest (tOp (rI0 fun i j => .bl (decide (j < i))) (tCall sp_compare [] E0 (tCons (tVar 5) (tCons (tVar 4) tNil))) (tC (.int 0)))) tNever tNext)
  (tSeq (tDrop (tMeth (He.ga K "Book") "remember" sp_Book_remember [] E0 (tVar 0) (tCons (tC (.str "tell")) tNil)))
  (tSeq (tDrop (tBM K "list" rAppend (tFld K (tVar 0) "_facts") (tCons (tTup (tCons (tVar 1) (tCons (tVar 2) (tCons (tVar 3) (tCons (tVar 4) tNil))))) tNil)))
  (tRet (tOp (rI0 fun i j => .int (i - j)) (tCB (rLenQ K) (tCons (tFld K (tVar 0) "_facts") tNil)) (tC (.int 1)))))))))))))
theorem sc_Book_tell : FnScope n_Book_tell ["self", "first", "second", "least", "most"] (defScope s_Book_tell) := ⟨rfl, rfl, rfl, by decide +kernel, rfl, by decide +kernel, by decide +kernel⟩
theorem ok_Book_tell {sp_Book_check_moments sp_Book_check_numbers sp_Book_check_room sp_Book_span sp_compare sp_Book_remember sp : Sp} (T : Txt K mg) (G_Book_check_moments : MCal P w K mg base 1 (He.ga K "Book") "check_moments" ["self", "first", "second"] sp_Book_check_moments) (G_Book_check_numbers : MCal P w K mg base 3 (He.ga K "Book") "check_numbers" ["self", "least", "most"] sp_Book_check_numbers) (G_Book_check_room : MCal P w K mg base 1 (He.ga K "Book") "check_room" ["self"] sp_Book_check_room) (G_Book_span : MCal P w K mg base 8 (He.ga K "Book") "span" ["self", "first", "second"] sp_Book_span) (G_compare : Cal P w K mg base 1 "compare" ["first", "second"] sp_compare) (G_Book_remember : MCal P w K mg base 1 (He.ga K "Book") "remember" ["self", "name"] sp_Book_remember) {f : Addr} {fd : FuncData} (F : Fun K "tell" "Book.tell" s_Book_tell f fd)
    (len : ∀ vs H Q E, sp vs H Q E → vs.length = 5) (pure : ∀ vs H Q E, sp vs H Q E → t_Book_tell K sp_Book_check_moments sp_Book_check_numbers sp_Book_check_room sp_Book_span sp_compare sp_Book_remember { nx := fun _ H' => Q .non H', rt := Q } (start n_Book_tell vs) H) :
    FnOk P w K mg base CX0 9 f fd ["self", "first", "second", "least", "most"] sp := by
  refine F.ok sc_Book_tell len (fun cdv A outer s H vs Q E hr h => ⟨t_Book_tell K sp_Book_check_moments sp_Book_check_numbers sp_Book_check_room sp_Book_span sp_compare sp_Book_remember, ?_, pure vs H Q E h⟩)
  exact (pss_cons (ps_expr (pe_mcal G_Book_check_moments (hr.mono (by decide)) (pv 0) (pa_cons (pv 1) (pa_cons (pv 2) pa_nil))))
    (pss_cons (ps_if (pt_cmpR op_eq (pv 1) (pv 2) (nomark _)) (pss_one ps_never) pss_nil)
    (pss_cons (ps_expr (pe_mcal G_Book_check_numbers (hr.mono (by decide)) (pv 0) (pa_cons (pv 3) (pa_cons (pv 4) pa_nil))))
    (pss_cons (ps_expr (pe_mcal0 G_Book_check_room (hr.mono (by decide)) (pv 0)))
    (pss_cons (ps_asg (pe_mcal G_Book_span (hr.mono (by decide)) (pv 0) (pa_cons (pv 1) (pa_cons (pv 2) pa_nil))) (pg_tup rfl (pgs_cons (pg_name (i := 5) sc_Book_tell.nd rfl (Or.inl rfl)) (pgs_cons (pg_name (i := 6) sc_Book_tell.nd rfl (Or.inl rfl)) pgs_nil))))
    (pss_cons (ps_if (pt_cmpR op_lt (pe_cal G_compare (hr.mono (by decide)) rfl (pa_cons (pv 6) (pa_cons (pv 3) pa_nil))) pe_int (nomark _)) (pss_one ps_never) pss_nil)
    (pss_cons (ps_if (pt_cmpR op_gt (pe_cal G_compare (hr.mono (by decide)) rfl (pa_cons (pv 5) (pa_cons (pv 4) pa_nil))) pe_int (nomark _)) (pss_one ps_never) pss_nil)
    (pss_cons (ps_expr (pe_mcal G_Book_remember (hr.mono (by decide)) (pv 0) (pa_cons pe_str pa_nil)))
    (pss_cons (ps_expr (pe_bm PySem.F.plainAttrs_list PySem.F.slot_list_append PySem.F.type_list_append mt_append (pe_fld (pv 0) rfl) (pa_cons (pe_tup (pa_cons (pv 1) (pa_cons (pv 2) (pa_cons (pv 3) (pa_cons (pv 4) pa_nil))))) pa_nil)))
    (pss_one (ps_ret (pe_op op_sub (pe_callB call_len_seq (by rfl) T.f_len PySem.boot_len (pa_cons (pe_fld (pv 0) rfl) pa_nil)) pe_int))))))))))))
theorem bi_Book_tell {f : Addr} {fd : FuncData} (F : Fun K "tell" "Book.tell" s_Book_tell f fd) : Binds K fd ["self", "first", "second", "least", "most"] [] := F.binds (ps := ["self", "first", "second", "least", "most"]) fun _ _ _ _ _ _ us hl => match us, hl with | [_, _, _, _, _], _ => rfl
def n_Book_earliest : List Str := ["self"]
def t_Book_earliest (K : PySem.W.Frag) (sp_earliest_of : Sp) : TS :=
  (tRet (tCall sp_earliest_of [] E0 (tCons (tFld K (tVar 0) "_names") (tCons (tFld K (tVar 0) "_facts") tNil))))
theorem sc_Book_earliest : FnScope n_Book_earliest ["self"] (defScope s_Book_earliest) := ⟨rfl, rfl, rfl, by decide +kernel, rfl, by decide +kernel, by decide +kernel⟩
theorem ok_Book_earliest {sp_earliest_of sp : Sp} (T : Txt K mg) (G_earliest_of : Cal P w K mg base 7 "earliest_of" ["names", "facts"] sp_earliest_of) {f : Addr} {fd : FuncData} (F : Fun K "earliest" "Book.earliest" s_Book_earliest f fd)
    (len : ∀ vs H Q E, sp vs H Q E → vs.length = 1) (pure : ∀ vs H Q E, sp vs H Q E → t_Book_earliest K sp_earliest_of { nx := fun _ H' => Q .non H', rt := Q } (start n_Book_earliest vs) H) :
    FnOk P w K mg base CX0 8 f fd ["self"] sp := by
  refine F.ok sc_Book_earliest len (fun cdv A outer s H vs Q E hr h => ⟨t_Book_earliest K sp_earliest_of, ?_, pure vs H Q E h⟩)
  exact (pss_one (ps_ret (pe_cal G_earliest_of (hr.mono (by decide)) rfl (pa_cons (pe_fld (pv 0) rfl) (pa_cons (pe_fld (pv 0) rfl) pa_nil)))))
theorem bi_Book_earliest {f : Addr} {fd : FuncData} (F : Fun K "earliest" "Book.earliest" s_Book_earliest f fd) : Binds K fd ["self"] [] := F.binds (ps := ["self"]) fun _ _ _ _ _ _ us hl => match us, hl with | [_], _ => rfl
def n_Book_latest : List Str := ["self", "best", "name"]
def t_Book_latest (K : PySem.W.Frag) (sp_best_chains : Sp) : TS :=
  (tSeq (tAsg (tCall sp_best_chains [] E0 (tCons (tFld K (tVar 0) "_facts") (tCons (tCB (rLenQ K) (tCons (tFld K (tVar 0) "_names") tNil)) (tCons (tC (.str "start")) tNil)))) (gName 1))
  (tRet (tLc (iList K (tFld K (tVar 0) "_names")) (gName 2) tYes (tTup (tCons (tVar 2) (tCons (tOp (rIxT K) (tDGet (tVar 1) (tVar 2)) (tC (.int 0))) tNil))) [2])))
theorem sc_Book_latest : FnScope n_Book_latest ["self"] (defScope s_Book_latest) := ⟨rfl, rfl, rfl, by decide +kernel, rfl, by decide +kernel, by decide +kernel⟩
theorem ok_Book_latest {sp_best_chains sp : Sp} (T : Txt K mg) (G_best_chains : Cal P w K mg base 6 "best_chains" ["facts", "many", "first"] sp_best_chains) {f : Addr} {fd : FuncData} (F : Fun K "latest" "Book.latest" s_Book_latest f fd)
    (len : ∀ vs H Q E, sp vs H Q E → vs.length = 1) (pure : ∀ vs H Q E, sp vs H Q E → t_Book_latest K sp_best_chains { nx := fun _ H' => Q .non H', rt := Q } (start n_Book_latest vs) H) :
    FnOk P w K mg base CX0 7 f fd ["self"] sp := by
  refine F.ok sc_Book_latest len (fun cdv A outer s H vs Q E hr h => ⟨t_Book_latest K sp_best_chains, ?_, pure vs H Q E h⟩)
  exact (pss_cons (ps_set (i := 1) sc_Book_latest.nd rfl (Or.inr rfl) (pe_cal G_best_chains (hr.mono (by decide)) rfl (pa_cons (pe_fld (pv 0) rfl) (pa_cons (pe_callB call_len_seq (by rfl) T.f_len PySem.boot_len (pa_cons (pe_fld (pv 0) rfl) pa_nil)) (pa_cons pe_str pa_nil)))))
    (pss_one (ps_ret (pe_lc (own := [("name", 2)]) (g := (gName 2)) rfl sc_Book_latest.nd (pi_list (pe_fld (pv 0) rfl)) (blkOk_by (own := [("name", 2)]) (N := n_Book_latest) (sc := defScope s_Book_latest) (by decide +kernel)) (fun _ _ _ _ _ => (pg_name (i := 2) sc_Book_latest.nd rfl (Or.inl rfl))) (fun _ _ _ _ _ => pts_nil) (fun _ _ _ _ _ => (pe_tup (pa_cons (pv 2) (pa_cons (pe_ix ix_tup (pe_dget (hu_of hr) (pv 1) (pv 2) (fun _ _ => rfl)) pe_int (fun _ _ => rfl)) pa_nil))))))))
theorem bi_Book_latest {f : Addr} {fd : FuncData} (F : Fun K "latest" "Book.latest" s_Book_latest f fd) : Binds K fd ["self"] [] := F.binds (ps := ["self"]) fun _ _ _ _ _ _ us hl => match us, hl with | [_], _ => rfl
def n__law_cell : List Str := ["_law_script", "_law_k"]
def t__law_cell (K : PySem.W.Frag) : TS :=
  (tSeq (tIfS (tTest (tOp (rI0 fun i j => .bl (decide (i < j))) (tVar 1) (tCB (rLenQ K) (tCons (tVar 0) tNil)))) (tRet (tOp (rIxL K) (tVar 0) (tVar 1))) tNext)
  (tRet (tC (.int 0))))
theorem sc__law_cell : FnScope n__law_cell ["_law_script", "_law_k"] (defScope s__law_cell) := ⟨rfl, rfl, rfl, by decide +kernel, rfl, by decide +kernel, by decide +kernel⟩
theorem ok__law_cell {sp : Sp} (T : Txt K mg)  {f : Addr} {fd : FuncData} (F : Fun K "_law_cell" "_law_cell" s__law_cell f fd)
    (len : ∀ vs H Q E, sp vs H Q E → vs.length = 2) (pure : ∀ vs H Q E, sp vs H Q E → t__law_cell K  { nx := fun _ H' => Q .non H', rt := Q } (start n__law_cell vs) H) :
    FnOk P w K mg base CX0 1 f fd ["_law_script", "_law_k"] sp := by
  refine F.ok sc__law_cell len (fun cdv A outer s H vs Q E hr h => ⟨t__law_cell K , ?_, pure vs H Q E h⟩)
  exact (pss_cons (ps_if (pt_cmpR op_lt (pv 1) (pe_callB call_len_seq (by rfl) T.f_len PySem.boot_len (pa_cons (pv 0) pa_nil)) (nomark _)) (pss_one (ps_ret (pe_ix ix_list (pv 0) (pv 1) (fun _ _ => rfl)))) pss_nil)
    (pss_one (ps_ret pe_int)))
theorem bi__law_cell {f : Addr} {fd : FuncData} (F : Fun K "_law_cell" "_law_cell" s__law_cell f fd) : Binds K fd ["_law_script", "_law_k"] [] := F.binds (ps := ["_law_script", "_law_k"]) fun _ _ _ _ _ _ us hl => match us, hl with | [_, _], _ => rfl
def n__law_draw : List Str := ["_law_script", "_law_k", "_law_sizes", "_law_cell_here", "_law_drawn", "_law_size", "_law_mixed", "_law_j"]
def t__law_draw (K : PySem.W.Frag) (sp__law_cell : Sp) : TS :=
  (tSeq (tAsg (tCall sp__law_cell [] E0 (tCons (tVar 0) (tCons (tVar 1) tNil))) (gName 3))
  (tSeq (tIfS (tTest (tOp (rI0 fun i j => .bl (decide (i < j))) (tVar 3) (tC (.int 0)))) (tAsg (tUn (rU fun i => .int (-i)) (tVar 3)) (gName 3)) tNext)
  (tSeq (tAsg (tLst tNil) (gName 4))
  (tSeq (tIfS (tTest (tOp (rI0 fun i j => .bl (decide (j ≤ i))) (tVar 3) (tOp (rI CPow fun i j => .int (i ^ j.toNat)) (tC (.int 10)) (tC (.int 18))))) (tSeq (tAsg (tOp (rI0 fun i j => .int (i - j)) (tVar 3) (tOp (rI CPow fun i j => .int (i ^ j.toNat)) (tC (.int 10)) (tC (.int 18)))) (gName 3))
  (tSeq (tFor (iList K (tVar 2)) (gName 5) (tSeq (tDrop (tBM K "list" rAppend (tVar 4) (tCons (tOp (rI (fun _ j => 0 < j) fun i j => .int (i % j)) (tVar 3) (tVar 5)) tNil)))
  (tAsg (tOp (rI CDivW fun i j => .int (i / j)) (tVar 3) (tVar 5)) (gName 3))))
  (tRet (tVar 4)))) tNext)
  (tSeq (tAsg (tOp (rI (fun _ j => 0 < j) fun i j => .int (i % j)) (tOp (rI0 fun i j => .int (i + j)) (tOp (rI0 fun i j => .int (i + j)) (tVar 3) (tC (.int 1))) (tOp (rI CMulW fun i j => .int (i * j)) (tC (.int 31)) (tVar 1))) (tC (.int 2147483647))) (gName 6))
  (tSeq (tFor (iRng1 (tCons (tCB (rLenQ K) (tCons (tVar 2) tNil)) tNil)) (gName 7) (tSeq (tAsg (tOp (rI (fun _ j => 0 < j) fun i j => .int (i % j)) (tOp (rI0 fun i j => .int (i + j)) (tOp (rI0 fun i j => .int (i + j)) (tOp (rI CMulW fun i j => .int (i * j)) (tVar 6) (tC (.int 48271))) (tC (.int 11))) (tVar 7)) (tC (.int 2147483647))) (gName 6))
  (tSeq (tAsg (tOp (rI (fun _ j => 0 < j) fun i j => .int (i % j)) (tOp (rI0 fun i j => .int (i + j)) (tOp (rI CMulW fun i j => .int (i * j)) (tVar 6) (tC (.int 69621))) (tC (.int 3))) (tC (.int 2147483647))) (gName 6))
  (tDrop (tBM K "list" rAppend (tVar 4) (tCons (tOp (rI (fun _ j => 0 < j) fun i j => .int (i % j)) (tOp (rI CDivW fun i j => .int (i / j)) (tVar 6) (tC (.int 7))) (tOp (rIxL K) (tVar 2) (tVar 7))) tNil))))))
  (tRet (tVar 4))))))))
theorem sc__law_draw : FnScope n__law_draw ["_law_script", "_law_k", "_law_sizes"] (defScope s__law_draw) := ⟨rfl, rfl, rfl, by decide +kernel, rfl, by decide +kernel, by decide +kernel⟩
theorem ok__law_draw {sp__law_cell sp : Sp} (T : Txt K mg) (G__law_cell : Cal P w K mg base 1 "_law_cell" ["_law_script", "_law_k"] sp__law_cell) {f : Addr} {fd : FuncData} (F : Fun K "_law_draw" "_law_draw" s__law_draw f fd)
    (len : ∀ vs H Q E, sp vs H Q E → vs.length = 3) (pure : ∀ vs H Q E, sp vs H Q E → t__law_draw K sp__law_cell { nx := fun _ H' => Q .non H', rt := Q } (start n__law_draw vs) H) :
    FnOk P w K mg base CX0 2 f fd ["_law_script", "_law_k", "_law_sizes"] sp := by
  refine F.ok sc__law_draw len (fun cdv A outer s H vs Q E hr h => ⟨t__law_draw K sp__law_cell, ?_, pure vs H Q E h⟩)
  exact (pss_cons (ps_set (i := 3) sc__law_draw.nd rfl (Or.inl rfl) (pe_cal G__law_cell (hr.mono (by decide)) rfl (pa_cons (pv 0) (pa_cons (pv 1) pa_nil))))
    (pss_cons (ps_if (pt_cmpR op_lt (pv 3) pe_int (nomark _)) (pss_one (ps_set (i := 3) sc__law_draw.nd rfl (Or.inl rfl) (pe_un un_neg (pv 3)))) pss_nil)
    (pss_cons (ps_set (i := 4) sc__law_draw.nd rfl (Or.inl rfl) (pe_lst pa_nil))
    (pss_cons (ps_if (pt_cmpR op_ge (pv 3) (pe_op op_pow pe_int pe_int) (nomark _)) (pss_cons (ps_set (i := 3) sc__law_draw.nd rfl (Or.inl rfl) (pe_op op_sub (pv 3) (pe_op op_pow pe_int pe_int)))
    (pss_cons (ps_for PassesOwn.never rfl (pi_list (pv 2)) (pg_name (i := 5) sc__law_draw.nd rfl (Or.inl rfl)) (pss_cons (ps_expr (pe_bm PySem.F.plainAttrs_list PySem.F.slot_list_append PySem.F.type_list_append mt_append (pv 4) (pa_cons (pe_op op_mod (pv 3) (pv 5)) pa_nil)))
    (pss_one (ps_set (i := 3) sc__law_draw.nd rfl (Or.inl rfl) (pe_op op_fdivW (pv 3) (pv 5))))))
    (pss_one (ps_ret (pv 4))))) pss_nil)
    (pss_cons (ps_set (i := 6) sc__law_draw.nd rfl (Or.inl rfl) (pe_op op_mod (pe_op op_add (pe_op op_add (pv 3) pe_int) (pe_op op_mulW pe_int (pv 1))) pe_int))
    (pss_cons (ps_for PassesOwn.never rfl (pi_range1 (by rfl) T.f_range (pa_cons (pe_callB call_len_seq (by rfl) T.f_len PySem.boot_len (pa_cons (pv 2) pa_nil)) pa_nil)) (pg_name (i := 7) sc__law_draw.nd rfl (Or.inl rfl)) (pss_cons (ps_set (i := 6) sc__law_draw.nd rfl (Or.inl rfl) (pe_op op_mod (pe_op op_add (pe_op op_add (pe_op op_mulW (pv 6) pe_int) pe_int) (pv 7)) pe_int))
    (pss_cons (ps_set (i := 6) sc__law_draw.nd rfl (Or.inl rfl) (pe_op op_mod (pe_op op_add (pe_op op_mulW (pv 6) pe_int) pe_int) pe_int))
    (pss_one (ps_expr (pe_bm PySem.F.plainAttrs_list PySem.F.slot_list_append PySem.F.type_list_append mt_append (pv 4) (pa_cons (pe_op op_mod (pe_op op_fdivW (pv 6) pe_int) (pe_ix ix_list (pv 2) (pv 7) (fun _ _ => rfl))) pa_nil)))))))
    (pss_one (ps_ret (pv 4)))))))))
theorem bi__law_draw {f : Addr} {fd : FuncData} (F : Fun K "_law_draw" "_law_draw" s__law_draw f fd) : Binds K fd ["_law_script", "_law_k", "_law_sizes"] [] := F.binds (ps := ["_law_script", "_law_k", "_law_sizes"]) fun _ _ _ _ _ _ us hl => match us, hl with | [_, _, _], _ => rfl
def n__law_six : List Str := ["_law_value", "_law_top", "_law_bottom"]
def t__law_six (K : PySem.W.Frag) : TS :=
  (tSeq (tAsg (tCB rAbs (tCons (tVar 0) tNil)) (gName 1))
  (tSeq (tAsg (tC (.int 6)) (gName 2))
  (tSeq (tWhile (tTest (tOp rNe (tVar 2) (tC (.int 0)))) (tPar 1 2 (tCons (tVar 2) (tCons (tOp (rI (fun _ j => 0 < j) fun i j => .int (i % j)) (tVar 1) (tVar 2)) tNil))))
  (tRet (tTup (tCons (tOp (rI CDivW fun i j => .int (i / j)) (tVar 0) (tVar 1)) (tCons (tOp (rI CDivW fun i j => .int (i / j)) (tC (.int 6)) (tVar 1)) tNil)))))))
theorem sc__law_six : FnScope n__law_six ["_law_value"] (defScope s__law_six) := ⟨rfl, rfl, rfl, by decide +kernel, rfl, by decide +kernel, by decide +kernel⟩
theorem ok__law_six {sp : Sp} (T : Txt K mg)  {f : Addr} {fd : FuncData} (F : Fun K "_law_six" "_law_six" s__law_six f fd)
    (len : ∀ vs H Q E, sp vs H Q E → vs.length = 1) (pure : ∀ vs H Q E, sp vs H Q E → t__law_six K  { nx := fun _ H' => Q .non H', rt := Q } (start n__law_six vs) H) :
    FnOk P w K mg base CX0 1 f fd ["_law_value"] sp := by
  refine F.ok sc__law_six len (fun cdv A outer s H vs Q E hr h => ⟨t__law_six K , ?_, pure vs H Q E h⟩)
  exact (pss_cons (ps_set (i := 1) sc__law_six.nd rfl (Or.inl rfl) (pe_callB call_abs (by rfl) T.f_abs PyProof.Rows.boot_abs (pa_cons (pv 0) pa_nil)))
    (pss_cons (ps_set (i := 2) sc__law_six.nd rfl (Or.inl rfl) pe_int)
    (pss_cons (ps_while PassesOwn.never (pt_cmpR op_ne (pv 2) pe_int (nomark _)) (pss_one (ps_par (by rfl) sc__law_six.nd rfl rfl (by decide) rfl rfl (pa_cons (pv 2) (pa_cons (pe_op op_mod (pv 1) (pv 2)) pa_nil)) (by rfl))))
    (pss_one (ps_ret (pe_tup (pa_cons (pe_op op_fdivW (pv 0) (pv 1)) (pa_cons (pe_op op_fdivW pe_int (pv 1)) pa_nil))))))))
theorem bi__law_six {f : Addr} {fd : FuncData} (F : Fun K "_law_six" "_law_six" s__law_six f fd) : Binds K fd ["_law_value"] [] := F.binds (ps := ["_law_value"]) fun _ _ _ _ _ _ us hl => match us, hl with | [_], _ => rfl
def n__law_story : List Str := ["_law_script", "_law_at", "_law_most", "_law_head", "_law_names", "_law_hidden", "_law_k", "_law_digits"]
def t__law_story (K : PySem.W.Frag) (sp__law_draw : Sp) : TS :=
  (tSeq (tAsg (tCall sp__law_draw [] E0 (tCons (tVar 0) (tCons (tVar 1) (tCons (tLst (tCons (tVar 2) (tCons (tC (.int 7)) tNil))) tNil)))) (gName 3))
  (tSeq (tAsg (tLst (tCons (tC (.str "start")) tNil)) (gName 4))
  (tSeq (tAsg (tLst (tCons (tC (.int 0)) tNil)) (gName 5))
  (tSeq (tFor (iRng1 (tCons (tOp (rI0 fun i j => .int (i + j)) (tC (.int 1)) (tOp (rIxL K) (tVar 3) (tC (.int 0)))) tNil)) (gName 6) (tSeq (tAsg (tCall sp__law_draw [] E0 (tCons (tVar 0) (tCons (tOp (rI0 fun i j => .int (i + j)) (tOp (rI0 fun i j => .int (i + j)) (tVar 1) (tC (.int 1))) (tOp (rI (fun _ j => 0 < j) fun i j => .int (i % j)) (tVar 6) (tC (.int 5)))) (tCons (tLst (tCons (tC (.int 9)) (tCons (tC (.int 90)) (tCons (tC (.int 7)) tNil)))) tNil)))) (gName 7))
  (tSeq (tDrop (tBM K "list" rAppend (tVar 4) (tCons (tOp (rIxL K) (tLst (tCons (tC (.str "a")) (tCons (tC (.str "dawn")) (tCons (tC (.str "b2")) (tCons (tC (.str "x_1")) (tCons (tC (.str "end")) (tCons (tC (.str "q")) (tCons (tC (.str "noon")) (tCons (tC (.str "zz")) tNil))))))))) (tVar 6)) tNil)))
  (tDrop (tBM K "list" rAppend (tVar 5) (tCons (tOp (rI0 fun i j => .int (i + j)) (tOp (rI0 fun i j => .int (i - j)) (tOp (rIxL K) (tVar 7) (tC (.int 1))) (tC (.int 30))) (tOp (rI CMulW fun i j => .int (i * j)) (tC (.int 5)) (tVar 6))) tNil))))))
  (tRet (tTup (tCons (tVar 4) (tCons (tVar 5) tNil))))))))
theorem sc__law_story : FnScope n__law_story ["_law_script", "_law_at", "_law_most"] (defScope s__law_story) := ⟨rfl, rfl, rfl, by decide +kernel, rfl, by decide +kernel, by decide +kernel⟩
theorem ok__law_story {sp__law_draw sp : Sp} (T : Txt K mg) (G__law_draw : Cal P w K mg base 2 "_law_draw" ["_law_script", "_law_k", "_law_sizes"] sp__law_draw) {f : Addr} {fd : FuncData} (F : Fun K "_law_story" "_law_story" s__law_story f fd)
    (len : ∀ vs H Q E, sp vs H Q E → vs.length = 3) (pure : ∀ vs H Q E, sp vs H Q E → t__law_story K sp__law_draw { nx := fun _ H' => Q .non H', rt := Q } (start n__law_story vs) H) :
    FnOk P w K mg base CX0 3 f fd ["_law_script", "_law_at", "_law_most"] sp := by
  refine F.ok sc__law_story len (fun cdv A outer s H vs Q E hr h => ⟨t__law_story K sp__law_draw, ?_, pure vs H Q E h⟩)
  exact (pss_cons (ps_set (i := 3) sc__law_story.nd rfl (Or.inl rfl) (pe_cal G__law_draw (hr.mono (by decide)) rfl (pa_cons (pv 0) (pa_cons (pv 1) (pa_cons (pe_lst (pa_cons (pv 2) (pa_cons pe_int pa_nil))) pa_nil)))))
    (pss_cons (ps_set (i := 4) sc__law_story.nd rfl (Or.inl rfl) (pe_lst (pa_cons pe_str pa_nil)))
    (pss_cons (ps_set (i := 5) sc__law_story.nd rfl (Or.inl rfl) (pe_lst (pa_cons pe_int pa_nil)))
    (pss_cons (ps_for PassesOwn.never rfl (pi_range1 (by rfl) T.f_range (pa_cons (pe_op op_add pe_int (pe_ix ix_list (pv 3) pe_int (fun _ _ => rfl))) pa_nil)) (pg_name (i := 6) sc__law_story.nd rfl (Or.inl rfl)) (pss_cons (ps_set (i := 7) sc__law_story.nd rfl (Or.inl rfl) (pe_cal G__law_draw (hr.mono (by decide)) rfl (pa_cons (pv 0) (pa_cons (pe_op op_add (pe_op op_add (pv 1) pe_int) (pe_op op_mod (pv 6) pe_int)) (pa_cons (pe_lst (pa_cons pe_int (pa_cons pe_int (pa_cons pe_int pa_nil)))) pa_nil)))))
    (pss_cons (ps_expr (pe_bm PySem.F.plainAttrs_list PySem.F.slot_list_append PySem.F.type_list_append mt_append (pv 4) (pa_cons (pe_ix ix_list (pe_lst (pa_cons pe_str (pa_cons pe_str (pa_cons pe_str (pa_cons pe_str (pa_cons pe_str (pa_cons pe_str (pa_cons pe_str (pa_cons pe_str pa_nil))))))))) (pv 6) (fun _ _ => rfl)) pa_nil)))
    (pss_one (ps_expr (pe_bm PySem.F.plainAttrs_list PySem.F.slot_list_append PySem.F.type_list_append mt_append (pv 5) (pa_cons (pe_op op_add (pe_op op_sub (pe_ix ix_list (pv 7) pe_int (fun _ _ => rfl)) pe_int) (pe_op op_mulW pe_int (pv 6))) pa_nil)))))))
    (pss_one (ps_ret (pe_tup (pa_cons (pv 4) (pa_cons (pv 5) pa_nil)))))))))
theorem bi__law_story {f : Addr} {fd : FuncData} (F : Fun K "_law_story" "_law_story" s__law_story f fd) : Binds K fd ["_law_script", "_law_at", "_law_most"] [] := F.binds (ps := ["_law_script", "_law_at", "_law_most"]) fun _ _ _ _ _ _ us hl => match us, hl with | [_, _, _], _ => rfl
def n__law_facts : List Str := ["_law_script", "_law_at", "_law_names", "_law_hidden", "_law_many", "_law_facts_here", "_law_k", "_law_digits", "_law_j", "_law_first", "_law_second", "_law_low", "_law_high"]
def t__law_facts (K : PySem.W.Frag) (sp__law_draw : Sp) : TS :=
  (tSeq (tAsg (tLst tNil) (gName 5))
  (tSeq (tFor (iRng2 (tCons (tC (.int 1)) (tCons (tCB (rLenQ K) (tCons (tVar 2) tNil)) tNil))) (gName 6) (tSeq (tAsg (tCall sp__law_draw [] E0 (tCons (tVar 0) (tCons (tOp (rI0 fun i j => .int (i + j)) (tVar 1) (tOp (rI (fun _ j => 0 < j) fun i j => .int (i % j)) (tVar 6) (tC (.int 5)))) (tCons (tLst (tCons (tC (.int 40)) (tCons (tC (.int 40)) (tCons (tC (.int 4)) tNil)))) tNil)))) (gName 7))
  (tDrop (tBM K "list" rAppend (tVar 5) (tCons (tTup (tCons (tC (.int 0)) (tCons (tVar 6) (tCons (tOp (rI0 fun i j => .int (i - j)) (tOp (rIxL K) (tVar 3) (tVar 6)) (tOp (rIxL K) (tVar 7) (tC (.int 0)))) (tCons (tOp (rI0 fun i j => .int (i + j)) (tOp (rIxL K) (tVar 3) (tVar 6)) (tOp (rIxL K) (tVar 7) (tC (.int 1)))) tNil))))) tNil)))))
  (tSeq (tFor (iRng1 (tCons (tVar 4) tNil)) (gName 8) (tSeq (tAsg (tCall sp__law_draw [] E0 (tCons (tVar 0) (tCons (tOp (rI0 fun i j => .int (i + j)) (tVar 1) (tOp (rI (fun _ j => 0 < j) fun i j => .int (i % j)) (tVar 8) (tC (.int 6)))) (tCons (tLst (tCons (tC (.int 9)) (tCons (tC (.int 9)) (tCons (tC (.int 20)) (tCons (tC (.int 20)) (tCons (tC (.int 4)) (tCons (tC (.int 9)) tNil))))))) tNil)))) (gName 7))
  (tSeq (tAsg (tOp (rI (fun _ j => 0 < j) fun i j => .int (i % j)) (tOp (rI0 fun i j => .int (i + j)) (tOp (rIxL K) (tVar 7) (tC (.int 0))) (tVar 8)) (tCB (rLenQ K) (tCons (tVar 2) tNil))) (gName 9))
  (tSeq (tAsg (tOp (rI (fun _ j => 0 < j) fun i j => .int (i % j)) (tOp (rI0 fun i j => .int (i + j)) (tOp (rI0 fun i j => .int (i + j)) (tOp (rIxL K) (tVar 7) (tC (.int 1))) (tOp (rI CMulW fun i j => .int (i * j)) (tC (.int 2)) (tVar 8))) (tC (.int 1))) (tCB (rLenQ K) (tCons (tVar 2) tNil))) (gName 10))
  (tIfS (tTest (tOp rNe (tVar 9) (tVar 10))) (tSeq (tAsg (tOp (rI0 fun i j => .int (i - j)) (tOp (rI0 fun i j => .int (i - j)) (tOp (rIxL K) (tVar 3) (tVar 10)) (tOp (rIxL K) (tVar 3) (tVar 9))) (tOp (rI CMulW fun i j => .int (i * j)) (tOp (rIxL K) (tVar 7) (tC (.int 2))) (tCB rMin2 (tCons (tC (.int 1)) (tCons (tOp (rIxL K) (tVar 7) (tC (.int 4))) tNil))))) (gName 11))
  (tSeq (tAsg (tOp (rI0 fun i j => .int (i + j)) (tOp (rI0 fun i j => .int (i - j)) (tOp (rIxL K) (tVar 3) (tVar 10)) (tOp (rIxL K) (tVar 3) (tVar 9))) (tOp (rI CMulW fun i j => .int (i * j)) (tOp (rIxL K) (tVar 7) (tC (.int 3))) (tCB rMin2 (tCons (tC (.int 1)) (tCons (tOp (rI CDivW fun i j => .int (i / j)) (tOp (rIxL K) (tVar 7) (tC (.int 4))) (tC (.int 2))) tNil))))) (gName 12))
  (tDrop (tBM K "list" rAppend (tVar 5) (tCons (tTup (tCons (tVar 9) (tCons (tVar 10) (tCons (tVar 11) (tCons (tVar 12) tNil))))) tNil))))) tNext)))))
  (tRet (tVar 5)))))
theorem sc__law_facts : FnScope n__law_facts ["_law_script", "_law_at", "_law_names", "_law_hidden", "_law_many"] (defScope s__law_facts) := ⟨rfl, rfl, rfl, by decide +kernel, rfl, by decide +kernel, by decide +kernel⟩
theorem ok__law_facts {sp__law_draw sp : Sp} (T : Txt K mg) (G__law_draw : Cal P w K mg base 2 "_law_draw" ["_law_script", "_law_k", "_law_sizes"] sp__law_draw) {f : Addr} {fd : FuncData} (F : Fun K "_law_facts" "_law_facts" s__law_facts f fd)
    (len : ∀ vs H Q E, sp vs H Q E → vs.length = 5) (pure : ∀ vs H Q E, sp vs H Q E → t__law_facts K sp__law_draw { nx := fun _ H' => Q .non H', rt := Q } (start n__law_facts vs) H) :
    FnOk P w K mg base CX0 3 f fd ["_law_script", "_law_at", "_law_names", "_law_hidden", "_law_many"] sp := by
  refine F.ok sc__law_facts len (fun cdv A outer s H vs Q E hr h => ⟨t__law_facts K sp__law_draw, ?_, pure vs H Q E h⟩)
  exact (pss_cons (ps_set (i := 5) sc__law_facts.nd rfl (Or.inl rfl) (pe_lst pa_nil))
    (pss_cons (ps_for PassesOwn.never rfl (pi_range2 (by rfl) T.f_range (pa_cons pe_int (pa_cons (pe_callB call_len_seq (by rfl) T.f_len PySem.boot_len (pa_cons (pv 2) pa_nil)) pa_nil))) (pg_name (i := 6) sc__law_facts.nd rfl (Or.inl rfl)) (pss_cons (ps_set (i := 7) sc__law_facts.nd rfl (Or.inl rfl) (pe_cal G__law_draw (hr.mono (by decide)) rfl (pa_cons (pv 0) (pa_cons (pe_op op_add (pv 1) (pe_op op_mod (pv 6) pe_int)) (pa_cons (pe_lst (pa_cons pe_int (pa_cons pe_int (pa_cons pe_int pa_nil)))) pa_nil)))))
    (pss_one (ps_expr (pe_bm PySem.F.plainAttrs_list PySem.F.slot_list_append PySem.F.type_list_append mt_append (pv 5) (pa_cons (pe_tup (pa_cons pe_int (pa_cons (pv 6) (pa_cons (pe_op op_sub (pe_ix ix_list (pv 3) (pv 6) (fun _ _ => rfl)) (pe_ix ix_list (pv 7) pe_int (fun _ _ => rfl))) (pa_cons (pe_op op_add (pe_ix ix_list (pv 3) (pv 6) (fun _ _ => rfl)) (pe_ix ix_list (pv 7) pe_int (fun _ _ => rfl))) pa_nil))))) pa_nil))))))
    (pss_cons (ps_for PassesOwn.never rfl (pi_range1 (by rfl) T.f_range (pa_cons (pv 4) pa_nil)) (pg_name (i := 8) sc__law_facts.nd rfl (Or.inl rfl)) (pss_cons (ps_set (i := 7) sc__law_facts.nd rfl (Or.inl rfl) (pe_cal G__law_draw (hr.mono (by decide)) rfl (pa_cons (pv 0) (pa_cons (pe_op op_add (pv 1) (pe_op op_mod (pv 8) pe_int)) (pa_cons (pe_lst (pa_cons pe_int (pa_cons pe_int (pa_cons pe_int (pa_cons pe_int (pa_cons pe_int (pa_cons pe_int pa_nil))))))) pa_nil)))))
    (pss_cons (ps_set (i := 9) sc__law_facts.nd rfl (Or.inl rfl) (pe_op op_mod (pe_op op_add (pe_ix ix_list (pv 7) pe_int (fun _ _ => rfl)) (pv 8)) (pe_callB call_len_seq (by rfl) T.f_len PySem.boot_len (pa_cons (pv 2) pa_nil))))
    (pss_cons (ps_set (i := 10) sc__law_facts.nd rfl (Or.inl rfl) (pe_op op_mod (pe_op op_add (pe_op op_add (pe_ix ix_list (pv 7) pe_int (fun _ _ => rfl)) (pe_op op_mulW pe_int (pv 8))) pe_int) (pe_callB call_len_seq (by rfl) T.f_len PySem.boot_len (pa_cons (pv 2) pa_nil))))
    (pss_one (ps_if (pt_cmpR op_ne (pv 9) (pv 10) (nomark _)) (pss_cons (ps_set (i := 11) sc__law_facts.nd rfl (Or.inl rfl) (pe_op op_sub (pe_op op_sub (pe_ix ix_list (pv 3) (pv 10) (fun _ _ => rfl)) (pe_ix ix_list (pv 3) (pv 9) (fun _ _ => rfl))) (pe_op op_mulW (pe_ix ix_list (pv 7) pe_int (fun _ _ => rfl)) (pe_callB (call_min2 rfl) (by rfl) T.f_min PyProof.Rows.boot_min (pa_cons pe_int (pa_cons (pe_ix ix_list (pv 7) pe_int (fun _ _ => rfl)) pa_nil))))))
    (pss_cons (ps_set (i := 12) sc__law_facts.nd rfl (Or.inl rfl) (pe_op op_add (pe_op op_sub (pe_ix ix_list (pv 3) (pv 10) (fun _ _ => rfl)) (pe_ix ix_list (pv 3) (pv 9) (fun _ _ => rfl))) (pe_op op_mulW (pe_ix ix_list (pv 7) pe_int (fun _ _ => rfl)) (pe_callB (call_min2 rfl) (by rfl) T.f_min PyProof.Rows.boot_min (pa_cons pe_int (pa_cons (pe_op op_fdivW (pe_ix ix_list (pv 7) pe_int (fun _ _ => rfl)) pe_int) pa_nil))))))
    (pss_one (ps_expr (pe_bm PySem.F.plainAttrs_list PySem.F.slot_list_append PySem.F.type_list_append mt_append (pv 5) (pa_cons (pe_tup (pa_cons (pv 9) (pa_cons (pv 10) (pa_cons (pv 11) (pa_cons (pv 12) pa_nil))))) pa_nil)))))) pss_nil))))))
    (pss_one (ps_ret (pv 5))))))
theorem bi__law_facts {f : Addr} {fd : FuncData} (F : Fun K "_law_facts" "_law_facts" s__law_facts f fd) : Binds K fd ["_law_script", "_law_at", "_law_names", "_law_hidden", "_law_many"] [] := F.binds (ps := ["_law_script", "_law_at", "_law_names", "_law_hidden", "_law_many"]) fun _ _ _ _ _ _ us hl => match us, hl with | [_, _, _, _, _], _ => rfl
def n__law_book : List Str := ["_law_names", "_law_facts_here", "_law_book_here", "_law_k", "_law_fact", "_law_first", "_law_second", "_law_low", "_law_high"]
def t__law_book (K : PySem.W.Frag) (sp_Book_init sp__law_six sp_Book_add sp_Book_tell : Sp) : TS :=
  (tSeq (tAsg (tMake (He.ga K "Book") sp_Book_init [] E0 tNil) (gName 2))
  (tSeq (tFor (iRng2 (tCons (tC (.int 1)) (tCons (tCB (rLenQ K) (tCons (tVar 0) tNil)) tNil))) (gName 3) (tFor (iList K (tSl (rSlL K) (tVar 1) tNoPart (tPart (tOp (rI0 fun i j => .int (i - j)) (tCB (rLenQ K) (tCons (tVar 0) tNil)) (tC (.int 1)))))) (gName 4) (tIfS (tTest (tOp rEq (tOp (rIxT K) (tVar 4) (tC (.int 1))) (tVar 3))) (tDrop (tMeth (He.ga K "Book") "add" sp_Book_add [] E0 (tVar 2) (tCons (tOp (rIxL K) (tVar 0) (tVar 3)) (tCons (tCall sp__law_six [] E0 (tCons (tOp (rIxT K) (tVar 4) (tC (.int 2))) tNil)) (tCons (tCall sp__law_six [] E0 (tCons (tOp (rIxT K) (tVar 4) (tC (.int 3))) tNil)) tNil))))) tNext)))
  (tSeq (tFor (iList K (tSl (rSlL K) (tVar 1) (tPart (tOp (rI0 fun i j => .int (i - j)) (tCB (rLenQ K) (tCons (tVar 0) tNil)) (tC (.int 1)))) tNoPart)) (gTup K 4 (gCons (gName 5) (gCons (gName 6) (gCons (gName 7) (gCons (gName 8) gNil))))) (tDrop (tMeth (He.ga K "Book") "tell" sp_Book_tell [] E0 (tVar 2) (tCons (tOp (rIxL K) (tVar 0) (tVar 5)) (tCons (tOp (rIxL K) (tVar 0) (tVar 6)) (tCons (tCall sp__law_six [] E0 (tCons (tVar 7) tNil)) (tCons (tCall sp__law_six [] E0 (tCons (tVar 8) tNil)) tNil)))))))
  (tRet (tVar 2)))))
theorem sc__law_book : FnScope n__law_book ["_law_names", "_law_facts_here"] (defScope s__law_book) := ⟨rfl, rfl, rfl, by decide +kernel, rfl, by decide +kernel, by decide +kernel⟩
theorem ok__law_book {sp_Book_init sp__law_six sp_Book_add sp_Book_tell sp : Sp} (T : Txt K mg) (G_Book_init : NCal P w K mg base 1 (He.ga K "Book") "Book" ["self"] sp_Book_init) (G__law_six : Cal P w K mg base 1 "_law_six" ["_law_value"] sp__law_six) (G_Book_add : MCal P w K mg base 4 (He.ga K "Book") "add" ["self", "name", "least", "most"] sp_Book_add) (G_Book_tell : MCal P w K mg base 9 (He.ga K "Book") "tell" ["self", "first", "second", "least", "most"] sp_Book_tell) {f : Addr} {fd : FuncData} (F : Fun K "_law_book" "_law_book" s__law_book f fd)
    (len : ∀ vs H Q E, sp vs H Q E → vs.length = 2) (pure : ∀ vs H Q E, sp vs H Q E → t__law_book K sp_Book_init sp__law_six sp_Book_add sp_Book_tell { nx := fun _ H' => Q .non H', rt := Q } (start n__law_book vs) H) :
    FnOk P w K mg base CX0 10 f fd ["_law_names", "_law_facts_here"] sp := by
  refine F.ok sc__law_book len (fun cdv A outer s H vs Q E hr h => ⟨t__law_book K sp_Book_init sp__law_six sp_Book_add sp_Book_tell, ?_, pure vs H Q E h⟩)
  exact (pss_cons (ps_set (i := 2) sc__law_book.nd rfl (Or.inl rfl) (pe_ncal0 G_Book_init (hr.mono (by decide)) rfl))
    (pss_cons (ps_for PassesOwn.never rfl (pi_range2 (by rfl) T.f_range (pa_cons pe_int (pa_cons (pe_callB call_len_seq (by rfl) T.f_len PySem.boot_len (pa_cons (pv 0) pa_nil)) pa_nil))) (pg_name (i := 3) sc__law_book.nd rfl (Or.inl rfl)) (pss_one (ps_for PassesOwn.never rfl (pi_list (pe_slice sl_list (pv 1) po_none (po_some (pe_op op_sub (pe_callB call_len_seq (by rfl) T.f_len PySem.boot_len (pa_cons (pv 0) pa_nil)) pe_int)))) (pg_name (i := 4) sc__law_book.nd rfl (Or.inl rfl)) (pss_one (ps_if (pt_cmpR op_eq (pe_ix ix_tup (pv 4) pe_int (fun _ _ => rfl)) (pv 3) (nomark _)) (pss_one (ps_expr (pe_mcal G_Book_add (hr.mono (by decide)) (pv 2) (pa_cons (pe_ix ix_list (pv 0) (pv 3) (fun _ _ => rfl)) (pa_cons (pe_cal G__law_six (hr.mono (by decide)) rfl (pa_cons (pe_ix ix_tup (pv 4) pe_int (fun _ _ => rfl)) pa_nil)) (pa_cons (pe_cal G__law_six (hr.mono (by decide)) rfl (pa_cons (pe_ix ix_tup (pv 4) pe_int (fun _ _ => rfl)) pa_nil)) pa_nil)))))) pss_nil)))))
    (pss_cons (ps_for PassesOwn.never rfl (pi_list (pe_slice sl_list (pv 1) (po_some (pe_op op_sub (pe_callB call_len_seq (by rfl) T.f_len PySem.boot_len (pa_cons (pv 0) pa_nil)) pe_int)) po_none)) (pg_tup rfl (pgs_cons (pg_name (i := 5) sc__law_book.nd rfl (Or.inl rfl)) (pgs_cons (pg_name (i := 6) sc__law_book.nd rfl (Or.inl rfl)) (pgs_cons (pg_name (i := 7) sc__law_book.nd rfl (Or.inl rfl)) (pgs_cons (pg_name (i := 8) sc__law_book.nd rfl (Or.inl rfl)) pgs_nil))))) (pss_one (ps_expr (pe_mcal G_Book_tell (hr.mono (by decide)) (pv 2) (pa_cons (pe_ix ix_list (pv 0) (pv 5) (fun _ _ => rfl)) (pa_cons (pe_ix ix_list (pv 0) (pv 6) (fun _ _ => rfl)) (pa_cons (pe_cal G__law_six (hr.mono (by decide)) rfl (pa_cons (pv 7) pa_nil)) (pa_cons (pe_cal G__law_six (hr.mono (by decide)) rfl (pa_cons (pv 8) pa_nil)) pa_nil))))))))
    (pss_one (ps_ret (pv 2))))))
theorem bi__law_book {f : Addr} {fd : FuncData} (F : Fun K "_law_book" "_law_book" s__law_book f fd) : Binds K fd ["_law_names", "_law_facts_here"] [] := F.binds (ps := ["_law_names", "_law_facts_here"]) fun _ _ _ _ _ _ us hl => match us, hl with | [_, _], _ => rfl
def n__law_far : List Str := ["_law_many", "_law_facts_here", "_law_far_here", "_law_k", "_law_first", "_law_second", "_law_low", "_law_high", "_law_middle"]
def t__law_far (K : PySem.W.Frag) : TS :=
  (tSeq (tAsg (tLc (iRng1 (tCons (tVar 0) tNil)) (gName 3) tYes (tOp rRep (tLst (tCons (tOp (rI CPow fun i j => .int (i ^ j.toNat)) (tC (.int 10)) (tC (.int 9))) tNil)) (tVar 0)) [3]) (gName 2))
  (tSeq (tFor (iRng1 (tCons (tVar 0) tNil)) (gName 3) (tAsg (tC (.int 0)) (gSub (tOp (rIxL K) (tVar 2) (tVar 3)) (tVar 3) rSetL)))
  (tSeq (tFor (iList K (tVar 1)) (gTup K 4 (gCons (gName 4) (gCons (gName 5) (gCons (gName 6) (gCons (gName 7) gNil))))) (tSeq (tAsg (tCB rMin2 (tCons (tOp (rIxL K) (tOp (rIxL K) (tVar 2) (tVar 4)) (tVar 5)) (tCons (tVar 7) tNil))) (gSub (tOp (rIxL K) (tVar 2) (tVar 4)) (tVar 5) rSetL))
  (tAsg (tCB rMin2 (tCons (tOp (rIxL K) (tOp (rIxL K) (tVar 2) (tVar 5)) (tVar 4)) (tCons (tOp (rI0 fun i j => .int (i - j)) (tC (.int 0)) (tVar 6)) tNil))) (gSub (tOp (rIxL K) (tVar 2) (tVar 5)) (tVar 4) rSetL))))
  (tSeq (tFor (iRng1 (tCons (tVar 0) tNil)) (gName 8) (tFor (iRng1 (tCons (tVar 0) tNil)) (gName 4) (tFor (iRng1 (tCons (tVar 0) tNil)) (gName 5) (tAsg (tCB rMin2 (tCons (tOp (rIxL K) (tOp (rIxL K) (tVar 2) (tVar 4)) (tVar 5)) (tCons (tOp (rI0 fun i j => .int (i + j)) (tOp (rIxL K) (tOp (rIxL K) (tVar 2) (tVar 4)) (tVar 8)) (tOp (rIxL K) (tOp (rIxL K) (tVar 2) (tVar 8)) (tVar 5))) tNil))) (gSub (tOp (rIxL K) (tVar 2) (tVar 4)) (tVar 5) rSetL)))))
  (tRet (tVar 2))))))
theorem sc__law_far : FnScope n__law_far ["_law_many", "_law_facts_here"] (defScope s__law_far) := ⟨rfl, rfl, rfl, by decide +kernel, rfl, by decide +kernel, by decide +kernel⟩
theorem ok__law_far {sp : Sp} (T : Txt K mg)  {f : Addr} {fd : FuncData} (F : Fun K "_law_far" "_law_far" s__law_far f fd)
    (len : ∀ vs H Q E, sp vs H Q E → vs.length = 2) (pure : ∀ vs H Q E, sp vs H Q E → t__law_far K  { nx := fun _ H' => Q .non H', rt := Q } (start n__law_far vs) H) :
    FnOk P w K mg base CX0 1 f fd ["_law_many", "_law_facts_here"] sp := by
  refine F.ok sc__law_far len (fun cdv A outer s H vs Q E hr h => ⟨t__law_far K , ?_, pure vs H Q E h⟩)
  exact (pss_cons (ps_setLc (i := 2) (own := [("_law_k", 3)]) (g := (gName 3)) rfl sc__law_far.nd rfl rfl (sw_true rfl rfl rfl (by decide +kernel)) (pi_range1 (by rfl) T.f_range (pa_cons (pv 0) pa_nil)) (blkOk_by (own := [("_law_k", 3)]) (N := n__law_far) (sc := defScope s__law_far) (by decide +kernel)) (fun _ _ _ _ _ => (pg_name (i := 3) sc__law_far.nd rfl (Or.inl rfl))) (fun _ _ _ _ _ => pts_nil) (fun _ _ _ _ _ => (pe_op op_rep (pe_lst (pa_cons (pe_op op_pow pe_int pe_int) pa_nil)) (pv 0))))
    (pss_cons (ps_for PassesOwn.never rfl (pi_range1 (by rfl) T.f_range (pa_cons (pv 0) pa_nil)) (pg_name (i := 3) sc__law_far.nd rfl (Or.inl rfl)) (pss_one (ps_asg pe_int (pg_sub (pe_ix ix_list (pv 2) (pv 3) (fun _ _ => rfl)) (pv 3) set_list))))
    (pss_cons (ps_for PassesOwn.never rfl (pi_list (pv 1)) (pg_tup rfl (pgs_cons (pg_name (i := 4) sc__law_far.nd rfl (Or.inl rfl)) (pgs_cons (pg_name (i := 5) sc__law_far.nd rfl (Or.inl rfl)) (pgs_cons (pg_name (i := 6) sc__law_far.nd rfl (Or.inl rfl)) (pgs_cons (pg_name (i := 7) sc__law_far.nd rfl (Or.inl rfl)) pgs_nil))))) (pss_cons (ps_asg (pe_callB (call_min2 rfl) (by rfl) T.f_min PyProof.Rows.boot_min (pa_cons (pe_ix ix_list (pe_ix ix_list (pv 2) (pv 4) (fun _ _ => rfl)) (pv 5) (fun _ _ => rfl)) (pa_cons (pv 7) pa_nil))) (pg_sub (pe_ix ix_list (pv 2) (pv 4) (fun _ _ => rfl)) (pv 5) set_list))
    (pss_one (ps_asg (pe_callB (call_min2 rfl) (by rfl) T.f_min PyProof.Rows.boot_min (pa_cons (pe_ix ix_list (pe_ix ix_list (pv 2) (pv 5) (fun _ _ => rfl)) (pv 4) (fun _ _ => rfl)) (pa_cons (pe_op op_sub pe_int (pv 6)) pa_nil))) (pg_sub (pe_ix ix_list (pv 2) (pv 5) (fun _ _ => rfl)) (pv 4) set_list)))))
    (pss_cons (ps_for PassesOwn.never rfl (pi_range1 (by rfl) T.f_range (pa_cons (pv 0) pa_nil)) (pg_name (i := 8) sc__law_far.nd rfl (Or.inl rfl)) (pss_one (ps_for PassesOwn.never rfl (pi_range1 (by rfl) T.f_range (pa_cons (pv 0) pa_nil)) (pg_name (i := 4) sc__law_far.nd rfl (Or.inl rfl)) (pss_one (ps_for PassesOwn.never rfl (pi_range1 (by rfl) T.f_range (pa_cons (pv 0) pa_nil)) (pg_name (i := 5) sc__law_far.nd rfl (Or.inl rfl)) (pss_one (ps_asg (pe_callB (call_min2 rfl) (by rfl) T.f_min PyProof.Rows.boot_min (pa_cons (pe_ix ix_list (pe_ix ix_list (pv 2) (pv 4) (fun _ _ => rfl)) (pv 5) (fun _ _ => rfl)) (pa_cons (pe_op op_add (pe_ix ix_list (pe_ix ix_list (pv 2) (pv 4) (fun _ _ => rfl)) (pv 8) (fun _ _ => rfl)) (pe_ix ix_list (pe_ix ix_list (pv 2) (pv 8) (fun _ _ => rfl)) (pv 5) (fun _ _ => rfl))) pa_nil))) (pg_sub (pe_ix ix_list (pv 2) (pv 4) (fun _ _ => rfl)) (pv 5) set_list))))))))
    (pss_one (ps_ret (pv 2)))))))
theorem bi__law_far {f : Addr} {fd : FuncData} (F : Fun K "_law_far" "_law_far" s__law_far f fd) : Binds K fd ["_law_many", "_law_facts_here"] [] := F.binds (ps := ["_law_many", "_law_facts_here"]) fun _ _ _ _ _ _ us hl => match us, hl with | [_, _], _ => rfl
def n__law_num : List Str := ["_law_top", "_law_bottom", "_law_one", "_law_other"]
def t__law_num (K : PySem.W.Frag) : TS :=
  (tSeq (tIfS (tTest (tOp (rI0 fun i j => .bl (decide (i < j))) (tVar 1) (tC (.int 0)))) (tSeq (tAsg (tOp (rI0 fun i j => .int (i - j)) (tC (.int 0)) (tVar 0)) (gName 0))
  (tAsg (tOp (rI0 fun i j => .int (i - j)) (tC (.int 0)) (tVar 1)) (gName 1))) tNext)
  (tSeq (tAsg (tCB rAbs (tCons (tVar 0) tNil)) (gName 2))
  (tSeq (tAsg (tVar 1) (gName 3))
  (tSeq (tWhile (tTest (tOp rNe (tVar 3) (tC (.int 0)))) (tPar 2 3 (tCons (tVar 3) (tCons (tOp (rI (fun _ j => 0 < j) fun i j => .int (i % j)) (tVar 2) (tVar 3)) tNil))))
  (tRet (tTup (tCons (tOp (rI CDivW fun i j => .int (i / j)) (tVar 0) (tVar 2)) (tCons (tOp (rI CDivW fun i j => .int (i / j)) (tVar 1) (tVar 2)) tNil))))))))
theorem sc__law_num : FnScope n__law_num ["_law_top", "_law_bottom"] (defScope s__law_num) := ⟨rfl, rfl, rfl, by decide +kernel, rfl, by decide +kernel, by decide +kernel⟩
theorem ok__law_num {sp : Sp} (T : Txt K mg)  {f : Addr} {fd : FuncData} (F : Fun K "_law_num" "_law_num" s__law_num f fd)
    (len : ∀ vs H Q E, sp vs H Q E → vs.length = 2) (pure : ∀ vs H Q E, sp vs H Q E → t__law_num K  { nx := fun _ H' => Q .non H', rt := Q } (start n__law_num vs) H) :
    FnOk P w K mg base CX0 1 f fd ["_law_top", "_law_bottom"] sp := by
  refine F.ok sc__law_num len (fun cdv A outer s H vs Q E hr h => ⟨t__law_num K , ?_, pure vs H Q E h⟩)
  exact (pss_cons (ps_if (pt_cmpR op_lt (pv 1) pe_int (nomark _)) (pss_cons (ps_set (i := 0) sc__law_num.nd rfl (Or.inl rfl) (pe_op op_sub pe_int (pv 0)))
    (pss_one (ps_set (i := 1) sc__law_num.nd rfl (Or.inl rfl) (pe_op op_sub pe_int (pv 1))))) pss_nil)
    (pss_cons (ps_set (i := 2) sc__law_num.nd rfl (Or.inl rfl) (pe_callB call_abs (by rfl) T.f_abs PyProof.Rows.boot_abs (pa_cons (pv 0) pa_nil)))
    (pss_cons (ps_set (i := 3) sc__law_num.nd rfl (Or.inl rfl) (pv 1))
    (pss_cons (ps_while PassesOwn.never (pt_cmpR op_ne (pv 3) pe_int (nomark _)) (pss_one (ps_par (by rfl) sc__law_num.nd rfl rfl (by decide) rfl rfl (pa_cons (pv 3) (pa_cons (pe_op op_mod (pv 2) (pv 3)) pa_nil)) (by rfl))))
    (pss_one (ps_ret (pe_tup (pa_cons (pe_op op_fdivW (pv 0) (pv 2)) (pa_cons (pe_op op_fdivW (pv 1) (pv 2)) pa_nil)))))))))
theorem bi__law_num {f : Addr} {fd : FuncData} (F : Fun K "_law_num" "_law_num" s__law_num f fd) : Binds K fd ["_law_top", "_law_bottom"] [] := F.binds (ps := ["_law_top", "_law_bottom"]) fun _ _ _ _ _ _ us hl => match us, hl with | [_, _], _ => rfl
def n__law_add : List Str := ["_law_one", "_law_other"]
def t__law_add (K : PySem.W.Frag) (sp__law_num : Sp) : TS :=
  (tRet (tCall sp__law_num [] E0 (tCons (tOp (rI0 fun i j => .int (i + j)) (tOp (rI CMulW fun i j => .int (i * j)) (tOp (rIxT K) (tVar 0) (tC (.int 0))) (tOp (rIxT K) (tVar 1) (tC (.int 1)))) (tOp (rI CMulW fun i j => .int (i * j)) (tOp (rIxT K) (tVar 1) (tC (.int 0))) (tOp (rIxT K) (tVar 0) (tC (.int 1))))) (tCons (tOp (rI CMulW fun i j => .int (i * j)) (tOp (rIxT K) (tVar 0) (tC (.int 1))) (tOp (rIxT K) (tVar 1) (tC (.int 1)))) tNil))))
theorem sc__law_add : FnScope n__law_add ["_law_one", "_law_other"] (defScope s__law_add) := ⟨rfl, rfl, rfl, by decide +kernel, rfl, by decide +kernel, by decide +kernel⟩
theorem ok__law_add {sp__law_num sp : Sp} (T : Txt K mg) (G__law_num : Cal P w K mg base 1 "_law_num" ["_law_top", "_law_bottom"] sp__law_num) {f : Addr} {fd : FuncData} (F : Fun K "_law_add" "_law_add" s__law_add f fd)
    (len : ∀ vs H Q E, sp vs H Q E → vs.length = 2) (pure : ∀ vs H Q E, sp vs H Q E → t__law_add K sp__law_num { nx := fun _ H' => Q .non H', rt := Q } (start n__law_add vs) H) :
    FnOk P w K mg base CX0 2 f fd ["_law_one", "_law_other"] sp := by
  refine F.ok sc__law_add len (fun cdv A outer s H vs Q E hr h => ⟨t__law_add K sp__law_num, ?_, pure vs H Q E h⟩)
  exact (pss_one (ps_ret (pe_cal G__law_num (hr.mono (by decide)) rfl (pa_cons (pe_op op_add (pe_op op_mulW (pe_ix ix_tup (pv 0) pe_int (fun _ _ => rfl)) (pe_ix ix_tup (pv 1) pe_int (fun _ _ => rfl))) (pe_op op_mulW (pe_ix ix_tup (pv 1) pe_int (fun _ _ => rfl)) (pe_ix ix_tup (pv 0) pe_int (fun _ _ => rfl)))) (pa_cons (pe_op op_mulW (pe_ix ix_tup (pv 0) pe_int (fun _ _ => rfl)) (pe_ix ix_tup (pv 1) pe_int (fun _ _ => rfl))) pa_nil)))))
theorem bi__law_add {f : Addr} {fd : FuncData} (F : Fun K "_law_add" "_law_add" s__law_add f fd) : Binds K fd ["_law_one", "_law_other"] [] := F.binds (ps := ["_law_one", "_law_other"]) fun _ _ _ _ _ _ us hl => match us, hl with | [_, _], _ => rfl
def n__law_mul : List Str := ["_law_one", "_law_other"]
def t__law_mul (K : PySem.W.Frag) (sp__law_num : Sp) : TS :=
  (tRet (tCall sp__law_num [] E0 (tCons (tOp (rI CMulW fun i j => .int (i * j)) (tOp (rIxT K) (tVar 0) (tC (.int 0))) (tOp (rIxT K) (tVar 1) (tC (.int 0)))) (tCons (tOp (rI CMulW fun i j => .int (i * j)) (tOp (rIxT K) (tVar 0) (tC (.int 1))) (tOp (rIxT K) (tVar 1) (tC (.int 1)))) tNil))))
theorem sc__law_mul : FnScope n__law_mul ["_law_one", "_law_other"] (defScope s__law_mul) := ⟨rfl, rfl, rfl, by decide +kernel, rfl, by decide +kernel, by decide +kernel⟩
theorem ok__law_mul {sp__law_num sp : Sp} (T : Txt K mg) (G__law_num : Cal P w K mg base 1 "_law_num" ["_law_top", "_law_bottom"] sp__law_num) {f : Addr} {fd : FuncData} (F : Fun K "_law_mul" "_law_mul" s__law_mul f fd)
    (len : ∀ vs H Q E, sp vs H Q E → vs.length = 2) (pure : ∀ vs H Q E, sp vs H Q E → t__law_mul K sp__law_num { nx := fun _ H' => Q .non H', rt := Q } (start n__law_mul vs) H) :
    FnOk P w K mg base CX0 2 f fd ["_law_one", "_law_other"] sp := by
  refine F.ok sc__law_mul len (fun cdv A outer s H vs Q E hr h => ⟨t__law_mul K sp__law_num, ?_, pure vs H Q E h⟩)
  exact (pss_one (ps_ret (pe_cal G__law_num (hr.mono (by decide)) rfl (pa_cons (pe_op op_mulW (pe_ix ix_tup (pv 0) pe_int (fun _ _ => rfl)) (pe_ix ix_tup (pv 1) pe_int (fun _ _ => rfl))) (pa_cons (pe_op op_mulW (pe_ix ix_tup (pv 0) pe_int (fun _ _ => rfl)) (pe_ix ix_tup (pv 1) pe_int (fun _ _ => rfl))) pa_nil)))))
theorem bi__law_mul {f : Addr} {fd : FuncData} (F : Fun K "_law_mul" "_law_mul" s__law_mul f fd) : Binds K fd ["_law_one", "_law_other"] [] := F.binds (ps := ["_law_one", "_law_other"]) fun _ _ _ _ _ _ us hl => match us, hl with | [_, _], _ => rfl
def n__law_less : List Str := ["_law_one", "_law_other"]
def t__law_less (K : PySem.W.Frag) : TS :=
  (tRet (tOp (rI0 fun i j => .bl (decide (i < j))) (tOp (rI CMulW fun i j => .int (i * j)) (tOp (rIxT K) (tVar 0) (tC (.int 0))) (tOp (rIxT K) (tVar 1) (tC (.int 1)))) (tOp (rI CMulW fun i j => .int (i * j)) (tOp (rIxT K) (tVar 1) (tC (.int 0))) (tOp (rIxT K) (tVar 0) (tC (.int 1))))))
theorem sc__law_less : FnScope n__law_less ["_law_one", "_law_other"] (defScope s__law_less) := ⟨rfl, rfl, rfl, by decide +kernel, rfl, by decide +kernel, by decide +kernel⟩
theorem ok__law_less {sp : Sp} (T : Txt K mg)  {f : Addr} {fd : FuncData} (F : Fun K "_law_less" "_law_less" s__law_less f fd)
    (len : ∀ vs H Q E, sp vs H Q E → vs.length = 2) (pure : ∀ vs H Q E, sp vs H Q E → t__law_less K  { nx := fun _ H' => Q .non H', rt := Q } (start n__law_less vs) H) :
    FnOk P w K mg base CX0 1 f fd ["_law_one", "_law_other"] sp := by
  refine F.ok sc__law_less len (fun cdv A outer s H vs Q E hr h => ⟨t__law_less K , ?_, pure vs H Q E h⟩)
  exact (pss_one (ps_ret (pe_cmpR op_lt (pe_op op_mulW (pe_ix ix_tup (pv 0) pe_int (fun _ _ => rfl)) (pe_ix ix_tup (pv 1) pe_int (fun _ _ => rfl))) (pe_op op_mulW (pe_ix ix_tup (pv 1) pe_int (fun _ _ => rfl)) (pe_ix ix_tup (pv 0) pe_int (fun _ _ => rfl))) (nomark _))))
theorem bi__law_less {f : Addr} {fd : FuncData} (F : Fun K "_law_less" "_law_less" s__law_less f fd) : Binds K fd ["_law_one", "_law_other"] [] := F.binds (ps := ["_law_one", "_law_other"]) fun _ _ _ _ _ _ us hl => match us, hl with | [_, _], _ => rfl
def n__law_clip : List Str := ["_law_script", "_law_at", "_law_head", "_law_pieces", "_law_total", "_law_value", "_law_k", "_law_digits", "_law_length", "_law_slope", "_law_bend", "_law_other"]
def t__law_clip (K : PySem.W.Frag) (sp__law_draw sp__law_num sp__law_mul sp__law_add : Sp) : TS :=
  (tSeq (tAsg (tCall sp__law_draw [] E0 (tCons (tVar 0) (tCons (tVar 1) (tCons (tLst (tCons (tC (.int 5)) (tCons (tC (.int 9)) tNil))) tNil)))) (gName 2))
  (tSeq (tAsg (tLst tNil) (gName 3))
  (tSeq (tAsg (tTup (tCons (tC (.int 0)) (tCons (tC (.int 1)) tNil))) (gName 4))
  (tSeq (tAsg (tTup (tCons (tOp (rI0 fun i j => .int (i - j)) (tOp (rIxL K) (tVar 2) (tC (.int 1))) (tC (.int 4))) (tCons (tC (.int 1)) tNil))) (gName 5))
  (tSeq (tFor (iRng1 (tCons (tOp (rI0 fun i j => .int (i + j)) (tC (.int 1)) (tOp (rIxL K) (tVar 2) (tC (.int 0)))) tNil)) (gName 6) (tSeq (tAsg (tCall sp__law_draw [] E0 (tCons (tVar 0) (tCons (tOp (rI0 fun i j => .int (i + j)) (tOp (rI0 fun i j => .int (i + j)) (tVar 1) (tC (.int 1))) (tOp (rI (fun _ j => 0 < j) fun i j => .int (i % j)) (tVar 6) (tC (.int 3)))) (tCons (tLst (tCons (tC (.int 6)) (tCons (tC (.int 3)) (tCons (tC (.int 9)) (tCons (tC (.int 9)) (tCons (tC (.int 3)) tNil)))))) tNil)))) (gName 7))
  (tSeq (tAsg (tCall sp__law_num [] E0 (tCons (tOp (rI0 fun i j => .int (i + j)) (tC (.int 1)) (tOp (rI (fun _ j => 0 < j) fun i j => .int (i % j)) (tOp (rI0 fun i j => .int (i + j)) (tOp (rIxL K) (tVar 7) (tC (.int 0))) (tVar 6)) (tC (.int 6)))) (tCons (tOp (rI0 fun i j => .int (i + j)) (tC (.int 1)) (tOp (rIxL K) (tVar 7) (tC (.int 1)))) tNil))) (gName 8))
  (tSeq (tAsg (tCall sp__law_num [] E0 (tCons (tOp (rI0 fun i j => .int (i + j)) (tOp (rI0 fun i j => .int (i - j)) (tOp (rIxL K) (tVar 7) (tC (.int 2))) (tC (.int 4))) (tOp (rI (fun _ j => 0 < j) fun i j => .int (i % j)) (tVar 6) (tC (.int 2)))) (tCons (tOp (rI0 fun i j => .int (i + j)) (tC (.int 1)) (tOp (rI CDivW fun i j => .int (i / j)) (tOp (rIxL K) (tVar 7) (tC (.int 4))) (tC (.int 2)))) tNil))) (gName 9))
  (tSeq (tAsg (tCall sp__law_num [] E0 (tCons (tOp (rI0 fun i j => .int (i - j)) (tOp (rI (fun _ j => 0 < j) fun i j => .int (i % j)) (tOp (rI0 fun i j => .int (i + j)) (tOp (rIxL K) (tVar 7) (tC (.int 3))) (tVar 6)) (tC (.int 9))) (tC (.int 4))) (tCons (tC (.int 2)) tNil))) (gName 10))
  (tSeq (tIfS (tTest (tOp rEq (tOp (rI (fun _ j => 0 < j) fun i j => .int (i % j)) (tOp (rI0 fun i j => .int (i + j)) (tOp (rIxL K) (tVar 7) (tC (.int 4))) (tVar 6)) (tC (.int 3))) (tC (.int 0)))) (tAsg (tTup (tCons (tC (.int 0)) (tCons (tC (.int 1)) tNil))) (gName 10)) tNext)
  (tSeq (tDrop (tBM K "list" rAppend (tVar 3) (tCons (tTup (tCons (tVar 8) (tCons (tTup (tCons (tVar 5) (tCons (tVar 9) (tCons (tVar 10) tNil)))) tNil))) tNil)))
  (tSeq (tAsg (tCall sp__law_add [] E0 (tCons (tVar 5) (tCons (tCall sp__law_mul [] E0 (tCons (tVar 8) (tCons (tCall sp__law_add [] E0 (tCons (tVar 9) (tCons (tCall sp__law_mul [] E0 (tCons (tVar 10) (tCons (tVar 8) tNil))) tNil))) tNil))) tNil))) (gName 5))
  (tAsg (tCall sp__law_add [] E0 (tCons (tVar 4) (tCons (tVar 8) tNil))) (gName 4))))))))))
  (tSeq (tAsg (tTup (tCons (tTup (tCons (tVar 4) (tCons (tTup (tCons (tTup (tCons (tC (.int 7)) (tCons (tC (.int 1)) tNil))) (tCons (tTup (tCons (tC (.int 0)) (tCons (tC (.int 1)) tNil))) (tCons (tTup (tCons (tC (.int 0)) (tCons (tC (.int 1)) tNil))) tNil)))) tNil))) tNil)) (gName 11))
  (tRet (tTup (tCons (tVar 4) (tCons (tTup (tCons (tTup (tCons (tC (.str "hue")) (tCons (tVar 11) tNil))) (tCons (tTup (tCons (tC (.str "lamp")) (tCons (tCB (rTupleOf K) (tCons (tVar 3) tNil)) tNil))) tNil))) (tCons (tTup tNil) tNil)))))))))))
theorem sc__law_clip : FnScope n__law_clip ["_law_script", "_law_at"] (defScope s__law_clip) := ⟨rfl, rfl, rfl, by decide +kernel, rfl, by decide +kernel, by decide +kernel⟩
theorem ok__law_clip {sp__law_draw sp__law_num sp__law_mul sp__law_add sp : Sp} (T : Txt K mg) (G__law_draw : Cal P w K mg base 2 "_law_draw" ["_law_script", "_law_k", "_law_sizes"] sp__law_draw) (G__law_num : Cal P w K mg base 1 "_law_num" ["_law_top", "_law_bottom"] sp__law_num) (G__law_mul : Cal P w K mg base 2 "_law_mul" ["_law_one", "_law_other"] sp__law_mul) (G__law_add : Cal P w K mg base 2 "_law_add" ["_law_one", "_law_other"] sp__law_add) {f : Addr} {fd : FuncData} (F : Fun K "_law_clip" "_law_clip" s__law_clip f fd)
    (len : ∀ vs H Q E, sp vs H Q E → vs.length = 2) (pure : ∀ vs H Q E, sp vs H Q E → t__law_clip K sp__law_draw sp__law_num sp__law_mul sp__law_add { nx := fun _ H' => Q .non H', rt := Q } (start n__law_clip vs) H) :
    FnOk P w K mg base CX0 3 f fd ["_law_script", "_law_at"] sp := by
  refine F.ok sc__law_clip len (fun cdv A outer s H vs Q E hr h => ⟨t__law_clip K sp__law_draw sp__law_num sp__law_mul sp__law_add, ?_, pure vs H Q E h⟩)
  exact (pss_cons (ps_set (i := 2) sc__law_clip.nd rfl (Or.inl rfl) (pe_cal G__law_draw (hr.mono (by decide)) rfl (pa_cons (pv 0) (pa_cons (pv 1) (pa_cons (pe_lst (pa_cons pe_int (pa_cons pe_int pa_nil))) pa_nil)))))
    (pss_cons (ps_set (i := 3) sc__law_clip.nd rfl (Or.inl rfl) (pe_lst pa_nil))
    (pss_cons (ps_set (i := 4) sc__law_clip.nd rfl (Or.inl rfl) (pe_tup (pa_cons pe_int (pa_cons pe_int pa_nil))))
    (pss_cons (ps_set (i := 5) sc__law_clip.nd rfl (Or.inl rfl) (pe_tup (pa_cons (pe_op op_sub (pe_ix ix_list (pv 2) pe_int (fun _ _ => rfl)) pe_int) (pa_cons pe_int pa_nil))))
    (pss_cons (ps_for PassesOwn.never rfl (pi_range1 (by rfl) T.f_range (pa_cons (pe_op op_add pe_int (pe_ix ix_list (pv 2) pe_int (fun _ _ => rfl))) pa_nil)) (pg_name (i := 6) sc__law_clip.nd rfl (Or.inl rfl)) (pss_cons (ps_set (i := 7) sc__law_clip.nd rfl (Or.inl rfl) (pe_cal G__law_draw (hr.mono (by decide)) rfl (pa_cons (pv 0) (pa_cons (pe_op op_add (pe_op op_add (pv 1) pe_int) (pe_op op_mod (pv 6) pe_int)) (pa_cons (pe_lst (pa_cons pe_int (pa_cons pe_int (pa_cons pe_int (pa_cons pe_int (pa_cons pe_int pa_nil)))))) pa_nil)))))
    (pss_cons (ps_set (i := 8) sc__law_clip.nd rfl (Or.inl rfl) (pe_cal G__law_num (hr.mono (by decide)) rfl (pa_cons (pe_op op_add pe_int (pe_op op_mod (pe_op op_add (pe_ix ix_list (pv 7) pe_int (fun _ _ => rfl)) (pv 6)) pe_int)) (pa_cons (pe_op op_add pe_int (pe_ix ix_list (pv 7) pe_int (fun _ _ => rfl))) pa_nil))))
    (pss_cons (ps_set (i := 9) sc__law_clip.nd rfl (Or.inl rfl) (pe_cal G__law_num (hr.mono (by decide)) rfl (pa_cons (pe_op op_add (pe_op op_sub (pe_ix ix_list (pv 7) pe_int (fun _ _ => rfl)) pe_int) (pe_op op_mod (pv 6) pe_int)) (pa_cons (pe_op op_add pe_int (pe_op op_fdivW (pe_ix ix_list (pv 7) pe_int (fun _ _ => rfl)) pe_int)) pa_nil))))
    (pss_cons (ps_set (i := 10) sc__law_clip.nd rfl (Or.inl rfl) (pe_cal G__law_num (hr.mono (by decide)) rfl (pa_cons (pe_op op_sub (pe_op op_mod (pe_op op_add (pe_ix ix_list (pv 7) pe_int (fun _ _ => rfl)) (pv 6)) pe_int) pe_int) (pa_cons pe_int pa_nil))))
    (pss_cons (ps_if (pt_cmpR op_eq (pe_op op_mod (pe_op op_add (pe_ix ix_list (pv 7) pe_int (fun _ _ => rfl)) (pv 6)) pe_int) pe_int (nomark _)) (pss_one (ps_set (i := 10) sc__law_clip.nd rfl (Or.inl rfl) (pe_tup (pa_cons pe_int (pa_cons pe_int pa_nil))))) pss_nil)
    (pss_cons (ps_expr (pe_bm PySem.F.plainAttrs_list PySem.F.slot_list_append PySem.F.type_list_append mt_append (pv 3) (pa_cons (pe_tup (pa_cons (pv 8) (pa_cons (pe_tup (pa_cons (pv 5) (pa_cons (pv 9) (pa_cons (pv 10) pa_nil)))) pa_nil))) pa_nil)))
    (pss_cons (ps_set (i := 5) sc__law_clip.nd rfl (Or.inl rfl) (pe_cal G__law_add (hr.mono (by decide)) rfl (pa_cons (pv 5) (pa_cons (pe_cal G__law_mul (hr.mono (by decide)) rfl (pa_cons (pv 8) (pa_cons (pe_cal G__law_add (hr.mono (by decide)) rfl (pa_cons (pv 9) (pa_cons (pe_cal G__law_mul (hr.mono (by decide)) rfl (pa_cons (pv 10) (pa_cons (pv 8) pa_nil))) pa_nil))) pa_nil))) pa_nil))))
    (pss_one (ps_set (i := 4) sc__law_clip.nd rfl (Or.inl rfl) (pe_cal G__law_add (hr.mono (by decide)) rfl (pa_cons (pv 4) (pa_cons (pv 8) pa_nil)))))))))))))
    (pss_cons (ps_set (i := 11) sc__law_clip.nd rfl (Or.inl rfl) (pe_tup (pa_cons (pe_tup (pa_cons (pv 4) (pa_cons (pe_tup (pa_cons (pe_tup (pa_cons pe_int (pa_cons pe_int pa_nil))) (pa_cons (pe_tup (pa_cons pe_int (pa_cons pe_int pa_nil))) (pa_cons (pe_tup (pa_cons pe_int (pa_cons pe_int pa_nil))) pa_nil)))) pa_nil))) pa_nil)))
    (pss_one (ps_ret (pe_tup (pa_cons (pv 4) (pa_cons (pe_tup (pa_cons (pe_tup (pa_cons pe_str (pa_cons (pv 11) pa_nil))) (pa_cons (pe_tup (pa_cons pe_str (pa_cons (pe_callTy call_tuple_of (by rfl) T.f_tuple PyProof.Rows.boot_tuple (pa_cons (pv 3) pa_nil)) pa_nil))) pa_nil))) (pa_cons (pe_tup pa_nil) pa_nil))))))))))))
theorem bi__law_clip {f : Addr} {fd : FuncData} (F : Fun K "_law_clip" "_law_clip" s__law_clip f fd) : Binds K fd ["_law_script", "_law_at"] [] := F.binds (ps := ["_law_script", "_law_at"]) fun _ _ _ _ _ _ us hl => match us, hl with | [_, _], _ => rfl
def n__law_scene : List Str := ["_law_script", "_law_at", "_law_names", "_law_hidden", "_law_facts_here", "_law_book_here", "_law_scene_here", "_law_clips", "_law_digits", "_law_cues"]
def t__law_scene (K : PySem.W.Frag) (sp__law_story sp__law_facts sp__law_book sp_Scene_init sp__law_clip sp__law_draw sp_Scene_show : Sp) : TS :=
  (tSeq (tAsg (tCall sp__law_story [] E0 (tCons (tVar 0) (tCons (tVar 1) (tCons (tC (.int 4)) tNil)))) (gTup K 2 (gCons (gName 2) (gCons (gName 3) gNil))))
  (tSeq (tAsg (tCall sp__law_facts [] E0 (tCons (tVar 0) (tCons (tOp (rI0 fun i j => .int (i + j)) (tVar 1) (tC (.int 6))) (tCons (tVar 2) (tCons (tVar 3) (tCons (tC (.int 4)) tNil)))))) (gName 4))
  (tSeq (tAsg (tCall sp__law_book [] E0 (tCons (tVar 2) (tCons (tVar 4) tNil))) (gName 5))
  (tSeq (tAsg (tMake (He.ga K "Scene") sp_Scene_init [] E0 (tCons (tVar 5) tNil)) (gName 6))
  (tSeq (tAsg (tLst (tCons (tCall sp__law_clip [] E0 (tCons (tVar 0) (tCons (tOp (rI0 fun i j => .int (i + j)) (tVar 1) (tC (.int 3))) tNil))) (tCons (tCall sp__law_clip [] E0 (tCons (tVar 0) (tCons (tOp (rI0 fun i j => .int (i + j)) (tVar 1) (tC (.int 8))) tNil))) tNil))) (gName 7))
  (tSeq (tAsg (tCall sp__law_draw [] E0 (tCons (tVar 0) (tCons (tOp (rI0 fun i j => .int (i + j)) (tVar 1) (tC (.int 12))) (tCons (tLst (tCons (tC (.int 9)) (tCons (tC (.int 9)) tNil))) tNil)))) (gName 8))
  (tSeq (tAsg (tLst (tCons (tOp (rI (fun _ j => 0 < j) fun i j => .int (i % j)) (tOp (rIxL K) (tVar 8) (tC (.int 0))) (tCB (rLenQ K) (tCons (tVar 2) tNil))) (tCons (tOp (rI (fun _ j => 0 < j) fun i j => .int (i % j)) (tOp (rIxL K) (tVar 8) (tC (.int 1))) (tCB (rLenQ K) (tCons (tVar 2) tNil))) tNil))) (gName 9))
  (tSeq (tDrop (tMeth (He.ga K "Scene") "show" sp_Scene_show [] E0 (tVar 6) (tCons (tC (.str "up")) (tCons (tOp (rIxL K) (tVar 7) (tC (.int 0))) (tCons (tC (.str "lamp")) (tCons (tOp (rIxL K) (tVar 2) (tOp (rIxL K) (tVar 9) (tC (.int 0)))) tNil))))))
  (tSeq (tDrop (tMeth (He.ga K "Scene") "show" sp_Scene_show [] E0 (tVar 6) (tCons (tC (.str "side")) (tCons (tOp (rIxL K) (tVar 7) (tC (.int 1))) (tCons (tC (.str "lamp")) (tCons (tOp (rIxL K) (tVar 2) (tOp (rIxL K) (tVar 9) (tC (.int 1)))) tNil))))))
  (tRet (tTup (tCons (tVar 2) (tCons (tVar 3) (tCons (tVar 4) (tCons (tVar 6) (tCons (tVar 7) (tCons (tVar 9) tNil)))))))))))))))))
theorem sc__law_scene : FnScope n__law_scene ["_law_script", "_law_at"] (defScope s__law_scene) := ⟨rfl, rfl, rfl, by decide +kernel, rfl, by decide +kernel, by decide +kernel⟩
theorem ok__law_scene {sp__law_story sp__law_facts sp__law_book sp_Scene_init sp__law_clip sp__law_draw sp_Scene_show sp : Sp} (T : Txt K mg) (G__law_story : Cal P w K mg base 3 "_law_story" ["_law_script", "_law_at", "_law_most"] sp__law_story) (G__law_facts : Cal P w K mg base 3 "_law_facts" ["_law_script", "_law_at", "_law_names", "_law_hidden", "_law_many"] sp__law_facts) (G__law_book : Cal P w K mg base 10 "_law_book" ["_law_names", "_law_facts_here"] sp__law_book) (G_Scene_init : NCal P w K mg base 1 (He.ga K "Scene") "Scene" ["self", "book"] sp_Scene_init) (G__law_clip : Cal P w K mg base 3 "_law_clip" ["_law_script", "_law_at"] sp__law_clip) (G__law_draw : Cal P w K mg base 2 "_law_draw" ["_law_script", "_law_k", "_law_sizes"] sp__law_draw) (G_Scene_show : MCal P w K mg base 2 (He.ga K "Scene") "show" ["self", "name", "clip", "prop", "cue"] sp_Scene_show) {f : Addr} {fd : FuncData} (F : Fun K "_law_scene" "_law_scene" s__law_scene f fd)
    (len : ∀ vs H Q E, sp vs H Q E → vs.length = 2) (pure : ∀ vs H Q E, sp vs H Q E → t__law_scene K sp__law_story sp__law_facts sp__law_book sp_Scene_init sp__law_clip sp__law_draw sp_Scene_show { nx := fun _ H' => Q .non H', rt := Q } (start n__law_scene vs) H) :
    FnOk P w K mg base CX0 11 f fd ["_law_script", "_law_at"] sp := by
  refine F.ok sc__law_scene len (fun cdv A outer s H vs Q E hr h => ⟨t__law_scene K sp__law_story sp__law_facts sp__law_book sp_Scene_init sp__law_clip sp__law_draw sp_Scene_show, ?_, pure vs H Q E h⟩)
  exact (pss_cons (ps_asg (pe_cal G__law_story (hr.mono (by decide)) rfl (pa_cons (pv 0) (pa_cons (pv 1) (pa_cons pe_int pa_nil)))) (pg_tup rfl (pgs_cons (pg_name (i := 2) sc__law_scene.nd rfl (Or.inl rfl)) (pgs_cons (pg_name (i := 3) sc__law_scene.nd rfl (Or.inl rfl)) pgs_nil))))
    (pss_cons (ps_set (i := 4) sc__law_scene.nd rfl (Or.inl rfl) (pe_cal G__law_facts (hr.mono (by decide)) rfl (pa_cons (pv 0) (pa_cons (pe_op op_add (pv 1) pe_int) (pa_cons (pv 2) (pa_cons (pv 3) (pa_cons pe_int pa_nil)))))))
    (pss_cons (ps_set (i := 5) sc__law_scene.nd rfl (Or.inl rfl) (pe_cal G__law_book (hr.mono (by decide)) rfl (pa_cons (pv 2) (pa_cons (pv 4) pa_nil))))
    (pss_cons (ps_set (i := 6) sc__law_scene.nd rfl (Or.inl rfl) (pe_ncal G_Scene_init (hr.mono (by decide)) rfl (pa_cons (pv 5) pa_nil)))
    (pss_cons (ps_set (i := 7) sc__law_scene.nd rfl (Or.inl rfl) (pe_lst (pa_cons (pe_cal G__law_clip (hr.mono (by decide)) rfl (pa_cons (pv 0) (pa_cons (pe_op op_add (pv 1) pe_int) pa_nil))) (pa_cons (pe_cal G__law_clip (hr.mono (by decide)) rfl (pa_cons (pv 0) (pa_cons (pe_op op_add (pv 1) pe_int) pa_nil))) pa_nil))))
    (pss_cons (ps_set (i := 8) sc__law_scene.nd rfl (Or.inl rfl) (pe_cal G__law_draw (hr.mono (by decide)) rfl (pa_cons (pv 0) (pa_cons (pe_op op_add (pv 1) pe_int) (pa_cons (pe_lst (pa_cons pe_int (pa_cons pe_int pa_nil))) pa_nil)))))
    (pss_cons (ps_set (i := 9) sc__law_scene.nd rfl (Or.inl rfl) (pe_lst (pa_cons (pe_op op_mod (pe_ix ix_list (pv 8) pe_int (fun _ _ => rfl)) (pe_callB call_len_seq (by rfl) T.f_len PySem.boot_len (pa_cons (pv 2) pa_nil))) (pa_cons (pe_op op_mod (pe_ix ix_list (pv 8) pe_int (fun _ _ => rfl)) (pe_callB call_len_seq (by rfl) T.f_len PySem.boot_len (pa_cons (pv 2) pa_nil))) pa_nil))))
    (pss_cons (ps_expr (pe_mcal G_Scene_show (hr.mono (by decide)) (pv 6) (pa_cons pe_str (pa_cons (pe_ix ix_list (pv 7) pe_int (fun _ _ => rfl)) (pa_cons pe_str (pa_cons (pe_ix ix_list (pv 2) (pe_ix ix_list (pv 9) pe_int (fun _ _ => rfl)) (fun _ _ => rfl)) pa_nil))))))
    (pss_cons (ps_expr (pe_mcal G_Scene_show (hr.mono (by decide)) (pv 6) (pa_cons pe_str (pa_cons (pe_ix ix_list (pv 7) pe_int (fun _ _ => rfl)) (pa_cons pe_str (pa_cons (pe_ix ix_list (pv 2) (pe_ix ix_list (pv 9) pe_int (fun _ _ => rfl)) (fun _ _ => rfl)) pa_nil))))))
    (pss_one (ps_ret (pe_tup (pa_cons (pv 2) (pa_cons (pv 3) (pa_cons (pv 4) (pa_cons (pv 6) (pa_cons (pv 7) (pa_cons (pv 9) pa_nil))))))))))))))))))
theorem bi__law_scene {f : Addr} {fd : FuncData} (F : Fun K "_law_scene" "_law_scene" s__law_scene f fd) : Binds K fd ["_law_script", "_law_at"] [] := F.binds (ps := ["_law_script", "_law_at"]) fun _ _ _ _ _ _ us hl => match us, hl with | [_, _], _ => rfl
def n__law_holds : List Str := ["_law_value", "_law_low", "_law_high"]
def t__law_holds (K : PySem.W.Frag) (sp__law_less : Sp) : TS :=
  (tRet (tAndV (tNotV (tCall sp__law_less [] E0 (tCons (tVar 0) (tCons (tVar 1) tNil)))) (tNotV (tCall sp__law_less [] E0 (tCons (tVar 2) (tCons (tVar 0) tNil))))))
theorem sc__law_holds : FnScope n__law_holds ["_law_value", "_law_low", "_law_high"] (defScope s__law_holds) := ⟨rfl, rfl, rfl, by decide +kernel, rfl, by decide +kernel, by decide +kernel⟩
theorem ok__law_holds {sp__law_less sp : Sp} (T : Txt K mg) (G__law_less : Cal P w K mg base 1 "_law_less" ["_law_one", "_law_other"] sp__law_less) {f : Addr} {fd : FuncData} (F : Fun K "_law_holds" "_law_holds" s__law_holds f fd)
    (len : ∀ vs H Q E, sp vs H Q E → vs.length = 3) (pure : ∀ vs H Q E, sp vs H Q E → t__law_holds K sp__law_less { nx := fun _ H' => Q .non H', rt := Q } (start n__law_holds vs) H) :
    FnOk P w K mg base CX0 2 f fd ["_law_value", "_law_low", "_law_high"] sp := by
  refine F.ok sc__law_holds len (fun cdv A outer s H vs Q E hr h => ⟨t__law_holds K sp__law_less, ?_, pure vs H Q E h⟩)
  exact (pss_one (ps_ret (pe_and (pe_not (pe_cal G__law_less (hr.mono (by decide)) rfl (pa_cons (pv 0) (pa_cons (pv 1) pa_nil)))) (pe_one (pe_not (pe_cal G__law_less (hr.mono (by decide)) rfl (pa_cons (pv 2) (pa_cons (pv 0) pa_nil))))))))
theorem bi__law_holds {f : Addr} {fd : FuncData} (F : Fun K "_law_holds" "_law_holds" s__law_holds f fd) : Binds K fd ["_law_value", "_law_low", "_law_high"] [] := F.binds (ps := ["_law_value", "_law_low", "_law_high"]) fun _ _ _ _ _ _ us hl => match us, hl with | [_, _, _], _ => rfl
def n__law_so : List Str := ["_law_scene_here", "_law_question", "_law_fit", "_law_times", "_law_name", "_law_time", "_law_first", "_law_second", "_law_low", "_law_high", "_law_gone"]
def t__law_so (K : PySem.W.Frag) (sp__law_add sp__law_holds sp_Scene_value : Sp) : TS :=
  (tSeq (tIfS (tTest (tOp rEq (tOp (rIxT K) (tVar 1) (tC (.int 0))) (tC (.str "span")))) (tSeq (tAsg tDNewK (gName 3))
  (tSeq (tFor (iList K (tVar 2)) (gTup K 2 (gCons (gName 4) (gCons (gName 5) gNil))) (sDPut (tVar 3) (tVar 4) (tVar 5)))
  (tSeq (tAsg (tOp (rIxT K) (tVar 1) (tC (.int 1))) (gTup K 4 (gCons (gName 6) (gCons (gName 7) (gCons (gName 8) (gCons (gName 9) gNil))))))
  (tSeq (tAsg (tCall sp__law_add [] E0 (tCons (tDGet (tVar 3) (tVar 7)) (tCons (tTup (tCons (tOp (rI0 fun i j => .int (i - j)) (tC (.int 0)) (tOp (rIxT K) (tDGet (tVar 3) (tVar 6)) (tC (.int 0)))) (tCons (tOp (rIxT K) (tDGet (tVar 3) (tVar 6)) (tC (.int 1))) tNil))) tNil))) (gName 10))
  (tRet (tCall sp__law_holds [] E0 (tCons (tVar 10) (tCons (tVar 8) (tCons (tVar 9) tNil))))))))) tNext)
  (tRet (tCall sp__law_holds [] E0 (tCons (tMeth (He.ga K "Scene") "value" sp_Scene_value [] E0 (tVar 0) (tCons (tOp (rIxT K) (tVar 1) (tC (.int 1))) (tCons (tOp (rIxT K) (tVar 1) (tC (.int 2))) (tCons (tVar 2) tNil)))) (tCons (tOp (rIxT K) (tVar 1) (tC (.int 3))) (tCons (tOp (rIxT K) (tVar 1) (tC (.int 4))) tNil))))))
theorem sc__law_so : FnScope n__law_so ["_law_scene_here", "_law_question", "_law_fit"] (defScope s__law_so) := ⟨rfl, rfl, rfl, by decide +kernel, rfl, by decide +kernel, by decide +kernel⟩
theorem ok__law_so {sp__law_add sp__law_holds sp_Scene_value sp : Sp} (T : Txt K mg) (G__law_add : Cal P w K mg base 2 "_law_add" ["_law_one", "_law_other"] sp__law_add) (G__law_holds : Cal P w K mg base 2 "_law_holds" ["_law_value", "_law_low", "_law_high"] sp__law_holds) (G_Scene_value : MCal P w K mg base 7 (He.ga K "Scene") "value" ["self", "name", "moment", "fit"] sp_Scene_value) {f : Addr} {fd : FuncData} (F : Fun K "_law_so" "_law_so" s__law_so f fd)
    (len : ∀ vs H Q E, sp vs H Q E → vs.length = 3) (pure : ∀ vs H Q E, sp vs H Q E → t__law_so K sp__law_add sp__law_holds sp_Scene_value { nx := fun _ H' => Q .non H', rt := Q } (start n__law_so vs) H) :
    FnOk P w K mg base CX0 8 f fd ["_law_scene_here", "_law_question", "_law_fit"] sp := by
  refine F.ok sc__law_so len (fun cdv A outer s H vs Q E hr h => ⟨t__law_so K sp__law_add sp__law_holds sp_Scene_value, ?_, pure vs H Q E h⟩)
  exact (pss_cons (ps_if (pt_cmpR op_eq (pe_ix ix_tup (pv 1) pe_int (fun _ _ => rfl)) pe_str (nomark _)) (pss_cons (ps_set (i := 3) sc__law_so.nd rfl (Or.inl rfl) pe_dnewK)
    (pss_cons (ps_for PassesOwn.never rfl (pi_list (pv 2)) (pg_tup rfl (pgs_cons (pg_name (i := 4) sc__law_so.nd rfl (Or.inl rfl)) (pgs_cons (pg_name (i := 5) sc__law_so.nd rfl (Or.inl rfl)) pgs_nil))) (pss_one (ps_dput (hu_of hr) (pv 3) (pv 4) (pv 5) rfl)))
    (pss_cons (ps_asg (pe_ix ix_tup (pv 1) pe_int (fun _ _ => rfl)) (pg_tup rfl (pgs_cons (pg_name (i := 6) sc__law_so.nd rfl (Or.inl rfl)) (pgs_cons (pg_name (i := 7) sc__law_so.nd rfl (Or.inl rfl)) (pgs_cons (pg_name (i := 8) sc__law_so.nd rfl (Or.inl rfl)) (pgs_cons (pg_name (i := 9) sc__law_so.nd rfl (Or.inl rfl)) pgs_nil))))))
    (pss_cons (ps_set (i := 10) sc__law_so.nd rfl (Or.inl rfl) (pe_cal G__law_add (hr.mono (by decide)) rfl (pa_cons (pe_dget (hu_of hr) (pv 3) (pv 7) (fun _ _ => rfl)) (pa_cons (pe_tup (pa_cons (pe_op op_sub pe_int (pe_ix ix_tup (pe_dget (hu_of hr) (pv 3) (pv 6) (fun _ _ => rfl)) pe_int (fun _ _ => rfl))) (pa_cons (pe_ix ix_tup (pe_dget (hu_of hr) (pv 3) (pv 6) (fun _ _ => rfl)) pe_int (fun _ _ => rfl)) pa_nil))) pa_nil))))
    (pss_one (ps_ret (pe_cal G__law_holds (hr.mono (by decide)) rfl (pa_cons (pv 10) (pa_cons (pv 8) (pa_cons (pv 9) pa_nil)))))))))) pss_nil)
    (pss_one (ps_ret (pe_cal G__law_holds (hr.mono (by decide)) rfl (pa_cons (pe_mcal G_Scene_value (hr.mono (by decide)) (pv 0) (pa_cons (pe_ix ix_tup (pv 1) pe_int (fun _ _ => rfl)) (pa_cons (pe_ix ix_tup (pv 1) pe_int (fun _ _ => rfl)) (pa_cons (pv 2) pa_nil)))) (pa_cons (pe_ix ix_tup (pv 1) pe_int (fun _ _ => rfl)) (pa_cons (pe_ix ix_tup (pv 1) pe_int (fun _ _ => rfl)) pa_nil)))))))
theorem bi__law_so {f : Addr} {fd : FuncData} (F : Fun K "_law_so" "_law_so" s__law_so f fd) : Binds K fd ["_law_scene_here", "_law_question", "_law_fit"] [] := F.binds (ps := ["_law_scene_here", "_law_question", "_law_fit"]) fun _ _ _ _ _ _ us hl => match us, hl with | [_, _, _], _ => rfl
def n_law : List Str := ["_law_script", "_law_names", "_law_hidden", "_law_facts_here", "_law_scene_here", "_law_clips", "_law_cues", "_law_book_here", "_law_far_here", "_law_claims", "_law_fits", "_law_j", "_law_digits", "_law_first", "_law_second", "_law_passed", "_law_low", "_law_name", "_law_least", "_law_greatest", "_law_limit", "_law_word", "_law_question", "_law_paper", "_law_fit", "_law_so_here", "_law_high", "_law_due", "_law_k"]
def t_law (K : PySem.W.Frag) (sp__law_scene sp_Scene_book sp__law_far sp__law_six sp_Book_latest sp_Book_earliest sp__law_draw sp_Book_fit_with sp_answer sp_Scene_bounds sp__law_num sp__law_add sp__law_so sp__law_facts sp_Book_tell sp_Book_is_fit sp_judge : Sp) : TS :=
  (tSeq (tAsg (tCall sp__law_scene [] E0 (tCons (tVar 0) (tCons (tC (.int 0)) tNil))) (gTup K 6 (gCons (gName 1) (gCons (gName 2) (gCons (gName 3) (gCons (gName 4) (gCons (gName 5) (gCons (gName 6) gNil))))))))
  (tSeq (tAsg (tProp (He.ga K "Scene") sp_Scene_book [] E0 (tVar 4)) (gName 7))
  (tSeq (tAsg (tCall sp__law_far [] E0 (tCons (tCB (rLenQ K) (tCons (tVar 1) tNil)) (tCons (tVar 3) tNil))) (gName 8))
  (tSeq (tAsg (tLst tNil) (gName 9))
  (tSeq (tAsg (tLst (tCons (tMeth (He.ga K "Book") "earliest" sp_Book_earliest [] E0 (tVar 7) tNil) (tCons (tMeth (He.ga K "Book") "latest" sp_Book_latest [] E0 (tVar 7) tNil) (tCons (tLc (iRng1 (tCons (tCB (rLenQ K) (tCons (tVar 1) tNil)) tNil)) (gName 28) tYes (tTup (tCons (tOp (rIxL K) (tVar 1) (tVar 28)) (tCons (tCall sp__law_six [] E0 (tCons (tOp (rIxL K) (tVar 2) (tVar 28)) tNil)) tNil))) [28]) tNil)))) (gName 10))
  (tSeq (tFor (iRng1 (tCons (tC (.int 4)) tNil)) (gName 11) (tSeq (tAsg (tCall sp__law_draw [] E0 (tCons (tVar 0) (tCons (tOp (rI0 fun i j => .int (i + j)) (tC (.int 13)) (tVar 11)) (tCons (tLst (tCons (tC (.int 9)) (tCons (tC (.int 9)) (tCons (tC (.int 60)) (tCons (tC (.int 9)) (tCons (tC (.int 9)) (tCons (tC (.int 9)) (tCons (tC (.int 2)) tNil)))))))) tNil)))) (gName 12))
  (tSeq (tAsg (tOp (rI (fun _ j => 0 < j) fun i j => .int (i % j)) (tOp (rIxL K) (tVar 12) (tC (.int 0))) (tCB (rLenQ K) (tCons (tVar 1) tNil))) (gName 13))
  (tSeq (tAsg (tOp (rI (fun _ j => 0 < j) fun i j => .int (i % j)) (tOp (rI0 fun i j => .int (i + j)) (tOp (rI0 fun i j => .int (i + j)) (tVar 13) (tC (.int 1))) (tOp (rI (fun _ j => 0 < j) fun i j => .int (i % j)) (tOp (rIxL K) (tVar 12) (tC (.int 1))) (tOp (rI0 fun i j => .int (i - j)) (tCB (rLenQ K) (tCons (tVar 1) tNil)) (tC (.int 1))))) (tCB (rLenQ K) (tCons (tVar 1) tNil))) (gName 14))
  (tSeq (tAsg (tOp (rI0 fun i j => .int (i - j)) (tOp (rI (fun _ j => 0 < j) fun i j => .int (i % j)) (tOp (rIxL K) (tVar 12) (tC (.int 2))) (tOp (rI0 fun i j => .int (i + j)) (tOp (rI0 fun i j => .int (i + j)) (tOp (rIxL K) (tOp (rIxL K) (tVar 8) (tVar 13)) (tVar 14)) (tOp (rIxL K) (tOp (rIxL K) (tVar 8) (tVar 14)) (tVar 13))) (tC (.int 1)))) (tOp (rIxL K) (tOp (rIxL K) (tVar 8) (tVar 14)) (tVar 13))) (gName 15))
  (tSeq (tDrop (tBM K "list" rAppend (tVar 10) (tCons (tMeth (He.ga K "Book") "fit_with" sp_Book_fit_with [] E0 (tVar 7) (tCons (tOp (rIxL K) (tVar 1) (tVar 13)) (tCons (tOp (rIxL K) (tVar 1) (tVar 14)) (tCons (tCall sp__law_six [] E0 (tCons (tVar 15) tNil)) tNil)))) tNil)))
  (tSeq (tAsg (tOp (rI0 fun i j => .int (i - j)) (tOp (rI0 fun i j => .int (i + j)) (tOp (rIxL K) (tLst (tCons (tOp (rI0 fun i j => .int (i - j)) (tC (.int 0)) (tOp (rIxL K) (tOp (rIxL K) (tVar 8) (tVar 14)) (tVar 13))) (tCons (tOp (rIxL K) (tOp (rIxL K) (tVar 8) (tVar 13)) (tVar 14)) tNil))) (tOp (rI (fun _ j => 0 < j) fun i j => .int (i % j)) (tOp (rIxL K) (tVar 12) (tC (.int 3))) (tC (.int 2)))) (tOp (rIxL K) (tVar 12) (tC (.int 4)))) (tC (.int 4))) (gName 16))
  (tSeq (tDrop (tBM K "list" rAppend (tVar 9) (tCons (tCall sp_answer [] E0 (tCons (tVar 4) (tCons (tTup (tCons (tC (.str "span")) (tCons (tTup (tCons (tOp (rIxL K) (tVar 1) (tVar 13)) (tCons (tOp (rIxL K) (tVar 1) (tVar 14)) (tCons (tCall sp__law_six [] E0 (tCons (tVar 16) tNil)) (tCons (tCall sp__law_six [] E0 (tCons (tOp (rI0 fun i j => .int (i + j)) (tVar 16) (tOp (rI CMulW fun i j => .int (i * j)) (tC (.int 4)) (tOp (rIxL K) (tVar 12) (tC (.int 5))))) tNil)) tNil))))) tNil))) tNil))) tNil)))
  (tSeq (tAsg (tOp (rIxL K) (tLst (tCons (tC (.str "up")) (tCons (tC (.str "side")) tNil))) (tOp (rIxL K) (tVar 12) (tC (.int 6)))) (gName 17))
  (tSeq (tAsg (tMeth (He.ga K "Scene") "bounds" sp_Scene_bounds [] E0 (tVar 4) (tCons (tVar 17) (tCons (tOp (rIxL K) (tVar 1) (tVar 14)) tNil))) (gTup K 2 (gCons (gName 18) (gCons (gName 19) gNil))))
  (tSeq (tAsg (tCall sp__law_add [] E0 (tCons (tOp (rIxL K) (tLst (tCons (tVar 18) (tCons (tVar 19) tNil))) (tOp (rI (fun _ j => 0 < j) fun i j => .int (i % j)) (tOp (rIxL K) (tVar 12) (tC (.int 4))) (tC (.int 2)))) (tCons (tCall sp__law_num [] E0 (tCons (tOp (rI0 fun i j => .int (i - j)) (tOp (rIxL K) (tVar 12) (tC (.int 3))) (tC (.int 4))) (tCons (tC (.int 4)) tNil))) tNil))) (gName 20))
  (tDrop (tBM K "list" rAppend (tVar 9) (tCons (tCall sp_answer [] E0 (tCons (tVar 4) (tCons (tTup (tCons (tC (.str "value")) (tCons (tVar 17) (tCons (tOp (rIxL K) (tVar 1) (tVar 14)) (tCons (tVar 20) (tCons (tCall sp__law_add [] E0 (tCons (tVar 20) (tCons (tCall sp__law_num [] E0 (tCons (tOp (rI0 fun i j => .int (i + j)) (tC (.int 1)) (tOp (rI CMulW fun i j => .int (i * j)) (tOp (rIxL K) (tVar 12) (tC (.int 5))) (tOp (rIxL K) (tVar 12) (tC (.int 5))))) (tCons (tC (.int 3)) tNil))) tNil))) tNil)))))) tNil))) tNil))))))))))))))
  (tSeq (tFor (iList K (tVar 9)) (gTup K 3 (gCons (gName 21) (gCons (gName 22) (gCons (gName 23) gNil)))) (tFor (iList K (tVar 10)) (gName 24) (tSeq (tAsg (tCall sp__law_so [] E0 (tCons (tVar 4) (tCons (tVar 22) (tCons (tVar 24) tNil)))) (gName 25))
  (tIfS (tOr (tAnd (tTest (tOp rEq (tVar 21) (tC (.str "always")))) (tNot (tB (tVar 25)))) (tAnd (tTest (tOp rEq (tVar 21) (tC (.str "never")))) (tB (tVar 25)))) (tRet (tC (.bl false))) tNext))))
  (tSeq (tFor (iList K (tSl (rSlL K) (tCall sp__law_facts [] E0 (tCons (tVar 0) (tCons (tC (.int 17)) (tCons (tVar 1) (tCons (tVar 2) (tCons (tC (.int 3)) tNil)))))) (tPart (tOp (rI0 fun i j => .int (i - j)) (tCB (rLenQ K) (tCons (tVar 1) tNil)) (tC (.int 1)))) tNoPart)) (gTup K 4 (gCons (gName 13) (gCons (gName 14) (gCons (gName 16) (gCons (gName 26) gNil))))) (tSeq (tDrop (tMeth (He.ga K "Book") "tell" sp_Book_tell [] E0 (tVar 7) (tCons (tOp (rIxL K) (tVar 1) (tVar 13)) (tCons (tOp (rIxL K) (tVar 1) (tVar 14)) (tCons (tCall sp__law_six [] E0 (tCons (tVar 16) tNil)) (tCons (tCall sp__law_six [] E0 (tCons (tVar 26) tNil)) tNil))))))
  (tFor (iList K (tVar 9)) (gTup K 3 (gCons (gName 21) (gCons (gName 22) (gCons (gName 23) gNil)))) (tSeq (tAsg (tC (.bl true)) (gName 27))
  (tSeq (tIfS (tTest (tOp rEq (tVar 21) (tC (.str "open")))) (tAsg (tAndV (tMeth (He.ga K "Book") "is_fit" sp_Book_is_fit [] E0 (tVar 7) (tCons (tOp (rIxT K) (tVar 23) (tC (.int 0))) tNil)) (tMeth (He.ga K "Book") "is_fit" sp_Book_is_fit [] E0 (tVar 7) (tCons (tOp (rIxT K) (tVar 23) (tC (.int 1))) tNil))) (gName 27)) tNext)
  (tIfS (tTest (tOp rNe (tCall sp_judge [] E0 (tCons (tVar 4) (tCons (tTup (tCons (tVar 21) (tCons (tVar 22) (tCons (tVar 23) tNil)))) tNil))) (tVar 27))) (tRet (tC (.bl false))) tNext))))))
  (tRet (tC (.bl true)))))))))))
theorem sc_law : FnScope n_law ["_law_script"] (defScope s_law) := ⟨rfl, rfl, rfl, by decide +kernel, rfl, by decide +kernel, by decide +kernel⟩
theorem ok_law {sp__law_scene sp_Scene_book sp__law_far sp__law_six sp_Book_latest sp_Book_earliest sp__law_draw sp_Book_fit_with sp_answer sp_Scene_bounds sp__law_num sp__law_add sp__law_so sp__law_facts sp_Book_tell sp_Book_is_fit sp_judge sp : Sp} (T : Txt K mg) (G__law_scene : Cal P w K mg base 11 "_law_scene" ["_law_script", "_law_at"] sp__law_scene) (G_Scene_book : PCal P w K mg base 1 (He.ga K "Scene") "book" sp_Scene_book) (G__law_far : Cal P w K mg base 1 "_law_far" ["_law_many", "_law_facts_here"] sp__law_far) (G__law_six : Cal P w K mg base 1 "_law_six" ["_law_value"] sp__law_six) (G_Book_latest : MCal P w K mg base 7 (He.ga K "Book") "latest" ["self"] sp_Book_latest) (G_Book_earliest : MCal P w K mg base 8 (He.ga K "Book") "earliest" ["self"] sp_Book_earliest) (G__law_draw : Cal P w K mg base 2 "_law_draw" ["_law_script", "_law_k", "_law_sizes"] sp__law_draw) (G_Book_fit_with : MCal P w K mg base 9 (He.ga K "Book") "fit_with" ["self", "first", "second", "number"] sp_Book_fit_with) (G_answer : Cal P w K mg base 13 "answer" ["scene", "question"] sp_answer) (G_Scene_bounds : MCal P w K mg base 9 (He.ga K "Scene") "bounds" ["self", "name", "moment"] sp_Scene_bounds) (G__law_num : Cal P w K mg base 1 "_law_num" ["_law_top", "_law_bottom"] sp__law_num) (G__law_add : Cal P w K mg base 2 "_law_add" ["_law_one", "_law_other"] sp__law_add) (G__law_so : Cal P w K mg base 8 "_law_so" ["_law_scene_here", "_law_question", "_law_fit"] sp__law_so) (G__law_facts : Cal P w K mg base 3 "_law_facts" ["_law_script", "_law_at", "_law_names", "_law_hidden", "_law_many"] sp__law_facts) (G_Book_tell : MCal P w K mg base 9 (He.ga K "Book") "tell" ["self", "first", "second", "least", "most"] sp_Book_tell) (G_Book_is_fit : MCal P w K mg base 4 (He.ga K "Book") "is_fit" ["self", "fit"] sp_Book_is_fit) (G_judge : Cal P w K mg base 10 "judge" ["scene", "claim"] sp_judge) {f : Addr} {fd : FuncData} (F : Fun K "law" "law" s_law f fd)
    (len : ∀ vs H Q E, sp vs H Q E → vs.length = 1) (pure : ∀ vs H Q E, sp vs H Q E → t_law K sp__law_scene sp_Scene_book sp__law_far sp__law_six sp_Book_latest sp_Book_earliest sp__law_draw sp_Book_fit_with sp_answer sp_Scene_bounds sp__law_num sp__law_add sp__law_so sp__law_facts sp_Book_tell sp_Book_is_fit sp_judge { nx := fun _ H' => Q .non H', rt := Q } (start n_law vs) H) :
    FnOk P w K mg base CX0 14 f fd ["_law_script"] sp := by
  refine F.ok sc_law len (fun cdv A outer s H vs Q E hr h => ⟨t_law K sp__law_scene sp_Scene_book sp__law_far sp__law_six sp_Book_latest sp_Book_earliest sp__law_draw sp_Book_fit_with sp_answer sp_Scene_bounds sp__law_num sp__law_add sp__law_so sp__law_facts sp_Book_tell sp_Book_is_fit sp_judge, ?_, pure vs H Q E h⟩)
  exact (pss_cons (ps_asg (pe_cal G__law_scene (hr.mono (by decide)) rfl (pa_cons (pv 0) (pa_cons pe_int pa_nil))) (pg_tup rfl (pgs_cons (pg_name (i := 1) sc_law.nd rfl (Or.inr rfl)) (pgs_cons (pg_name (i := 2) sc_law.nd rfl (Or.inr rfl)) (pgs_cons (pg_name (i := 3) sc_law.nd rfl (Or.inl rfl)) (pgs_cons (pg_name (i := 4) sc_law.nd rfl (Or.inl rfl)) (pgs_cons (pg_name (i := 5) sc_law.nd rfl (Or.inl rfl)) (pgs_cons (pg_name (i := 6) sc_law.nd rfl (Or.inl rfl)) pgs_nil))))))))
    (pss_cons (ps_set (i := 7) sc_law.nd rfl (Or.inl rfl) (pe_pcal G_Scene_book (hr.mono (by decide)) (pv 4)))
    (pss_cons (ps_set (i := 8) sc_law.nd rfl (Or.inl rfl) (pe_cal G__law_far (hr.mono (by decide)) rfl (pa_cons (pe_callB call_len_seq (by rfl) T.f_len PySem.boot_len (pa_cons (pv 1) pa_nil)) (pa_cons (pv 3) pa_nil))))
    (pss_cons (ps_set (i := 9) sc_law.nd rfl (Or.inl rfl) (pe_lst pa_nil))
    (pss_cons (ps_set (i := 10) sc_law.nd rfl (Or.inl rfl) (pe_lst (pa_cons (pe_mcal0 G_Book_earliest (hr.mono (by decide)) (pv 7)) (pa_cons (pe_mcal0 G_Book_latest (hr.mono (by decide)) (pv 7)) (pa_cons (pe_lc (own := [("_law_k", 28)]) (g := (gName 28)) rfl sc_law.nd (pi_range1 (by rfl) T.f_range (pa_cons (pe_callB call_len_seq (by rfl) T.f_len PySem.boot_len (pa_cons (pv 1) pa_nil)) pa_nil)) (blkOk_by (own := [("_law_k", 28)]) (N := n_law) (sc := defScope s_law) (by decide +kernel)) (fun _ _ _ _ _ => (pg_name (i := 28) sc_law.nd rfl (Or.inl rfl))) (fun _ _ _ _ _ => pts_nil) (fun _ _ _ _ _ => (pe_tup (pa_cons (pe_ix ix_list (pv 1) (pv 28) (fun _ _ => rfl)) (pa_cons (pe_cal G__law_six (hr.mono (by decide)) rfl (pa_cons (pe_ix ix_list (pv 2) (pv 28) (fun _ _ => rfl)) pa_nil)) pa_nil))))) pa_nil)))))
    (pss_cons (ps_for PassesOwn.never rfl (pi_range1 (by rfl) T.f_range (pa_cons pe_int pa_nil)) (pg_name (i := 11) sc_law.nd rfl (Or.inl rfl)) (pss_cons (ps_set (i := 12) sc_law.nd rfl (Or.inl rfl) (pe_cal G__law_draw (hr.mono (by decide)) rfl (pa_cons (pv 0) (pa_cons (pe_op op_add pe_int (pv 11)) (pa_cons (pe_lst (pa_cons pe_int (pa_cons pe_int (pa_cons pe_int (pa_cons pe_int (pa_cons pe_int (pa_cons pe_int (pa_cons pe_int pa_nil)))))))) pa_nil)))))
    (pss_cons (ps_set (i := 13) sc_law.nd rfl (Or.inl rfl) (pe_op op_mod (pe_ix ix_list (pv 12) pe_int (fun _ _ => rfl)) (pe_callB call_len_seq (by rfl) T.f_len PySem.boot_len (pa_cons (pv 1) pa_nil))))
    (pss_cons (ps_set (i := 14) sc_law.nd rfl (Or.inl rfl) (pe_op op_mod (pe_op op_add (pe_op op_add (pv 13) pe_int) (pe_op op_mod (pe_ix ix_list (pv 12) pe_int (fun _ _ => rfl)) (pe_op op_sub (pe_callB call_len_seq (by rfl) T.f_len PySem.boot_len (pa_cons (pv 1) pa_nil)) pe_int))) (pe_callB call_len_seq (by rfl) T.f_len PySem.boot_len (pa_cons (pv 1) pa_nil))))
    (pss_cons (ps_set (i := 15) sc_law.nd rfl (Or.inl rfl) (pe_op op_sub (pe_op op_mod (pe_ix ix_list (pv 12) pe_int (fun _ _ => rfl)) (pe_op op_add (pe_op op_add (pe_ix ix_list (pe_ix ix_list (pv 8) (pv 13) (fun _ _ => rfl)) (pv 14) (fun _ _ => rfl)) (pe_ix ix_list (pe_ix ix_list (pv 8) (pv 14) (fun _ _ => rfl)) (pv 13) (fun _ _ => rfl))) pe_int)) (pe_ix ix_list (pe_ix ix_list (pv 8) (pv 14) (fun _ _ => rfl)) (pv 13) (fun _ _ => rfl))))
    (pss_cons (ps_expr (pe_bm PySem.F.plainAttrs_list PySem.F.slot_list_append PySem.F.type_list_append mt_append (pv 10) (pa_cons (pe_mcal G_Book_fit_with (hr.mono (by decide)) (pv 7) (pa_cons (pe_ix ix_list (pv 1) (pv 13) (fun _ _ => rfl)) (pa_cons (pe_ix ix_list (pv 1) (pv 14) (fun _ _ => rfl)) (pa_cons (pe_cal G__law_six (hr.mono (by decide)) rfl (pa_cons (pv 15) pa_nil)) pa_nil)))) pa_nil)))
    (pss_cons (ps_set (i := 16) sc_law.nd rfl (Or.inl rfl) (pe_op op_sub (pe_op op_add (pe_ix ix_list (pe_lst (pa_cons (pe_op op_sub pe_int (pe_ix ix_list (pe_ix ix_list (pv 8) (pv 14) (fun _ _ => rfl)) (pv 13) (fun _ _ => rfl))) (pa_cons (pe_ix ix_list (pe_ix ix_list (pv 8) (pv 13) (fun _ _ => rfl)) (pv 14) (fun _ _ => rfl)) pa_nil))) (pe_op op_mod (pe_ix ix_list (pv 12) pe_int (fun _ _ => rfl)) pe_int) (fun _ _ => rfl)) (pe_ix ix_list (pv 12) pe_int (fun _ _ => rfl))) pe_int))
    (pss_cons (ps_expr (pe_bm PySem.F.plainAttrs_list PySem.F.slot_list_append PySem.F.type_list_append mt_append (pv 9) (pa_cons (pe_cal G_answer (hr.mono (by decide)) rfl (pa_cons (pv 4) (pa_cons (pe_tup (pa_cons pe_str (pa_cons (pe_tup (pa_cons (pe_ix ix_list (pv 1) (pv 13) (fun _ _ => rfl)) (pa_cons (pe_ix ix_list (pv 1) (pv 14) (fun _ _ => rfl)) (pa_cons (pe_cal G__law_six (hr.mono (by decide)) rfl (pa_cons (pv 16) pa_nil)) (pa_cons (pe_cal G__law_six (hr.mono (by decide)) rfl (pa_cons (pe_op op_add (pv 16) (pe_op op_mulW pe_int (pe_ix ix_list (pv 12) pe_int (fun _ _ => rfl)))) pa_nil)) pa_nil))))) pa_nil))) pa_nil))) pa_nil)))
    (pss_cons (ps_set (i := 17) sc_law.nd rfl (Or.inl rfl) (pe_ix ix_list (pe_lst (pa_cons pe_str (pa_cons pe_str pa_nil))) (pe_ix ix_list (pv 12) pe_int (fun _ _ => rfl)) (fun _ _ => rfl)))
    (pss_cons (ps_asg (pe_mcal G_Scene_bounds (hr.mono (by decide)) (pv 4) (pa_cons (pv 17) (pa_cons (pe_ix ix_list (pv 1) (pv 14) (fun _ _ => rfl)) pa_nil))) (pg_tup rfl (pgs_cons (pg_name (i := 18) sc_law.nd rfl (Or.inl rfl)) (pgs_cons (pg_name (i := 19) sc_law.nd rfl (Or.inl rfl)) pgs_nil))))
    (pss_cons (ps_set (i := 20) sc_law.nd rfl (Or.inl rfl) (pe_cal G__law_add (hr.mono (by decide)) rfl (pa_cons (pe_ix ix_list (pe_lst (pa_cons (pv 18) (pa_cons (pv 19) pa_nil))) (pe_op op_mod (pe_ix ix_list (pv 12) pe_int (fun _ _ => rfl)) pe_int) (fun _ _ => rfl)) (pa_cons (pe_cal G__law_num (hr.mono (by decide)) rfl (pa_cons (pe_op op_sub (pe_ix ix_list (pv 12) pe_int (fun _ _ => rfl)) pe_int) (pa_cons pe_int pa_nil))) pa_nil))))
    (pss_one (ps_expr (pe_bm PySem.F.plainAttrs_list PySem.F.slot_list_append PySem.F.type_list_append mt_append (pv 9) (pa_cons (pe_cal G_answer (hr.mono (by decide)) rfl (pa_cons (pv 4) (pa_cons (pe_tup (pa_cons pe_str (pa_cons (pv 17) (pa_cons (pe_ix ix_list (pv 1) (pv 14) (fun _ _ => rfl)) (pa_cons (pv 20) (pa_cons (pe_cal G__law_add (hr.mono (by decide)) rfl (pa_cons (pv 20) (pa_cons (pe_cal G__law_num (hr.mono (by decide)) rfl (pa_cons (pe_op op_add pe_int (pe_op op_mulW (pe_ix ix_list (pv 12) pe_int (fun _ _ => rfl)) (pe_ix ix_list (pv 12) pe_int (fun _ _ => rfl)))) (pa_cons pe_int pa_nil))) pa_nil))) pa_nil)))))) pa_nil))) pa_nil)))))))))))))))
    (pss_cons (ps_for PassesOwn.never rfl (pi_list (pv 9)) (pg_tup rfl (pgs_cons (pg_name (i := 21) sc_law.nd rfl (Or.inl rfl)) (pgs_cons (pg_name (i := 22) sc_law.nd rfl (Or.inl rfl)) (pgs_cons (pg_name (i := 23) sc_law.nd rfl (Or.inl rfl)) pgs_nil)))) (pss_one (ps_for PassesOwn.never rfl (pi_list (pv 10)) (pg_name (i := 24) sc_law.nd rfl (Or.inl rfl)) (pss_cons (ps_set (i := 25) sc_law.nd rfl (Or.inl rfl) (pe_cal G__law_so (hr.mono (by decide)) rfl (pa_cons (pv 4) (pa_cons (pv 22) (pa_cons (pv 24) pa_nil)))))
    (pss_one (ps_if (PW.pt (pw_or (PW.pt (pw_and (pt_cmpR op_eq (pv 21) pe_str (nomark _)) (pw_and1 (pt_not (pt_val (pv 25)))))) (pw_or1 (PW.pt (pw_and (pt_cmpR op_eq (pv 21) pe_str (nomark _)) (pw_and1 (pt_val (pv 25)))))))) (pss_one (ps_ret pe_bl)) pss_nil))))))
    (pss_cons (ps_for PassesOwn.never rfl (pi_list (pe_slice sl_list (pe_cal G__law_facts (hr.mono (by decide)) rfl (pa_cons (pv 0) (pa_cons pe_int (pa_cons (pv 1) (pa_cons (pv 2) (pa_cons pe_int pa_nil)))))) (po_some (pe_op op_sub (pe_callB call_len_seq (by rfl) T.f_len PySem.boot_len (pa_cons (pv 1) pa_nil)) pe_int)) po_none)) (pg_tup rfl (pgs_cons (pg_name (i := 13) sc_law.nd rfl (Or.inl rfl)) (pgs_cons (pg_name (i := 14) sc_law.nd rfl (Or.inl rfl)) (pgs_cons (pg_name (i := 16) sc_law.nd rfl (Or.inl rfl)) (pgs_cons (pg_name (i := 26) sc_law.nd rfl (Or.inl rfl)) pgs_nil))))) (pss_cons (ps_expr (pe_mcal G_Book_tell (hr.mono (by decide)) (pv 7) (pa_cons (pe_ix ix_list (pv 1) (pv 13) (fun _ _ => rfl)) (pa_cons (pe_ix ix_list (pv 1) (pv 14) (fun _ _ => rfl)) (pa_cons (pe_cal G__law_six (hr.mono (by decide)) rfl (pa_cons (pv 16) pa_nil)) (pa_cons (pe_cal G__law_six (hr.mono (by decide)) rfl (pa_cons (pv 26) pa_nil)) pa_nil))))))
    (pss_one (ps_for PassesOwn.never rfl (pi_list (pv 9)) (pg_tup rfl (pgs_cons (pg_name (i := 21) sc_law.nd rfl (Or.inl rfl)) (pgs_cons (pg_name (i := 22) sc_law.nd rfl (Or.inl rfl)) (pgs_cons (pg_name (i := 23) sc_law.nd rfl (Or.inl rfl)) pgs_nil)))) (pss_cons (ps_set (i := 27) sc_law.nd rfl (Or.inl rfl) pe_bl)
    (pss_cons (ps_if (pt_cmpR op_eq (pv 21) pe_str (nomark _)) (pss_one (ps_set (i := 27) sc_law.nd rfl (Or.inl rfl) (pe_and (pe_mcal G_Book_is_fit (hr.mono (by decide)) (pv 7) (pa_cons (pe_ix ix_tup (pv 23) pe_int (fun _ _ => rfl)) pa_nil)) (pe_one (pe_mcal G_Book_is_fit (hr.mono (by decide)) (pv 7) (pa_cons (pe_ix ix_tup (pv 23) pe_int (fun _ _ => rfl)) pa_nil)))))) pss_nil)
    (pss_one (ps_if (pt_cmpR op_ne (pe_cal G_judge (hr.mono (by decide)) rfl (pa_cons (pv 4) (pa_cons (pe_tup (pa_cons (pv 21) (pa_cons (pv 22) (pa_cons (pv 23) pa_nil)))) pa_nil))) (pv 27) (nomark _)) (pss_one (ps_ret pe_bl)) pss_nil))))))))
    (pss_one (ps_ret pe_bl))))))))))
theorem bi_law {f : Addr} {fd : FuncData} (F : Fun K "law" "law" s_law f fd) : Binds K fd ["_law_script"] [] := F.binds (ps := ["_law_script"]) fun _ _ _ _ _ _ us hl => match us, hl with | [_], _ => rfl
end
end Sc

/-! KNum -/
set_option linter.all false
set_option maxRecDepth 10000
/-! Numbers: pairs in lowest terms are rationals. Plain Lean. -/
namespace Sc

/-! ### bits -/
structure Bd (n : Nat) (q : Rat) : Prop where
  num : q.num.natAbs < 2 ^ n
  den : q.den < 2 ^ n
theorem Bd.mono {n m : Nat} {q : Rat} (h : Bd n q) (l : n ≤ m) : Bd m q :=
  ⟨Nat.lt_of_lt_of_le h.num (Nat.pow_le_pow_right (by decide) l), Nat.lt_of_lt_of_le h.den (Nat.pow_le_pow_right (by decide) l)⟩
theorem natAbs_ediv_le (a : Int) (g : Nat) : (a / (g : Int)).natAbs ≤ a.natAbs := Int.natAbs_ediv_le_natAbs a g
/-- a fraction, not in lowest terms -/
theorem bd_divInt {n : Nat} {a b : Int} (ha : a.natAbs < 2 ^ n) (hb : b.natAbs < 2 ^ n) (h : 0 < n) : Bd n (Rat.divInt a b) := by
  have h1 : 1 < 2 ^ n := Nat.one_lt_two_pow (by omega)
  constructor
  · rw [Rat.num_divInt]
    refine Nat.lt_of_le_of_lt (natAbs_ediv_le _ _) ?_
    rw [Int.natAbs_mul]
    by_cases z : b = 0
    · subst z; simp; omega
    · rw [Int.natAbs_sign_of_ne_zero z, Nat.one_mul]; exact ha
  · rw [Rat.den_divInt]
    split
    · exact h1
    · exact Nat.lt_of_le_of_lt (Nat.div_le_self _ _) hb
theorem two_pow_mul_lt {a b n m : Nat} (h1 : a < 2 ^ n) (h2 : b < 2 ^ m) : a * b < 2 ^ (n + m) := by
  rw [Nat.pow_add]; exact Nat.mul_lt_mul'' h1 h2
theorem bd_pos {n : Nat} {q : Rat} (h : Bd n q) : 0 < n := by
  have := q.den_pos
  have := h.den
  cases n with
  | zero => simp at this; omega
  | succ n => omega
theorem bd_mkRat {n : Nat} {a : Int} {b : Nat} (ha : a.natAbs < 2 ^ n) (hb : b < 2 ^ n) (h : 0 < n) : Bd n (mkRat a b) := by
  rw [← Rat.divInt_ofNat]; exact bd_divInt ha (by simpa using hb) h
theorem add_num_lt {n m : Nat} {a b : Rat} (ha : Bd n a) (hb : Bd m b) : (a.num * b.den).natAbs + (b.num * a.den).natAbs < 2 ^ (n + m + 1) := by
  rw [Int.natAbs_mul, Int.natAbs_mul, Int.natAbs_natCast, Int.natAbs_natCast]
  have h1 := two_pow_mul_lt ha.num hb.den
  have h2 := two_pow_mul_lt hb.num ha.den
  have e : m + n = n + m := Nat.add_comm _ _
  rw [e] at h2
  have e2 : 2 ^ (n + m + 1) = 2 ^ (n + m) * 2 := Nat.pow_succ ..
  omega
theorem den_lt {n m : Nat} {a b : Rat} (ha : Bd n a) (hb : Bd m b) : a.den * b.den < 2 ^ (n + m) := two_pow_mul_lt ha.den hb.den
theorem lt_succ_pow {a n : Nat} (h : a < 2 ^ n) : a < 2 ^ (n + 1) := by
  rw [Nat.pow_succ]; omega
theorem bd_add {n m k : Nat} {a b : Rat} (ha : Bd n a) (hb : Bd m b) (h : n + m + 1 ≤ k) : Bd k (a + b) := by
  refine Bd.mono ?_ h
  rw [Rat.add_def']
  exact bd_mkRat (Nat.lt_of_le_of_lt (Int.natAbs_add_le _ _) (add_num_lt ha hb)) (lt_succ_pow (den_lt ha hb)) (by omega)
theorem bd_sub {n m k : Nat} {a b : Rat} (ha : Bd n a) (hb : Bd m b) (h : n + m + 1 ≤ k) : Bd k (a - b) := by
  refine Bd.mono ?_ h
  rw [Rat.sub_def']
  exact bd_mkRat (Nat.lt_of_le_of_lt (Int.natAbs_sub_le _ _) (add_num_lt ha hb)) (lt_succ_pow (den_lt ha hb)) (by omega)
theorem bd_mul {n m k : Nat} {a b : Rat} (ha : Bd n a) (hb : Bd m b) (h : n + m ≤ k) : Bd k (a * b) := by
  refine Bd.mono ?_ h
  rw [Rat.mul_def']
  refine bd_mkRat ?_ (den_lt ha hb) (by have := bd_pos ha; omega)
  rw [Int.natAbs_mul]
  exact two_pow_mul_lt ha.num hb.num
theorem bd_neg {n : Nat} {a : Rat} (ha : Bd n a) : Bd n (-a) := ⟨by rw [Rat.neg_num, Int.natAbs_neg]; exact ha.num, ha.den⟩
theorem bd_inv {n : Nat} {a : Rat} (ha : Bd n a) : Bd n a⁻¹ := by
  rw [Rat.inv_def]
  exact bd_divInt (by simpa using ha.den) ha.num (bd_pos ha)
theorem bd_div {n m k : Nat} {a b : Rat} (ha : Bd n a) (hb : Bd m b) (h : n + m ≤ k) : Bd k (a / b) := by
  rw [Rat.div_def]; exact bd_mul ha (bd_inv hb) h

/-! ### what number() gives -/
theorem divInt_pos_num {a b : Int} (hb : 0 < b) : (Rat.divInt a b).num = a / (Int.gcd a b : Int) := by
  rw [Rat.num_divInt, Int.sign_eq_one_of_pos hb, Int.one_mul, Int.gcd_comm]
theorem divInt_pos_den {a b : Int} (hb : 0 < b) : ((Rat.divInt a b).den : Int) = b / (Int.gcd a b : Int) := by
  rw [Rat.den_divInt, if_neg (by omega), Int.gcd_comm, Int.natCast_ediv]
  congr 1
  omega
theorem plus_eq (a b : Rat) : Rat.divInt (a.num * b.den + b.num * a.den) ((a.den : Int) * b.den) = a + b := by
  rw [← Int.natCast_mul, Rat.divInt_ofNat, Rat.add_def']
theorem minus_eq (a b : Rat) : Rat.divInt (a.num * b.den - b.num * a.den) ((a.den : Int) * b.den) = a - b := by
  rw [← Int.natCast_mul, Rat.divInt_ofNat, Rat.sub_def']
theorem times_eq (a b : Rat) : Rat.divInt (a.num * b.num) ((a.den : Int) * b.den) = a * b := by
  rw [← Int.natCast_mul, Rat.divInt_ofNat, Rat.mul_def']
theorem over_eq (a b : Rat) : Rat.divInt (a.num * b.den) ((a.den : Int) * b.num) = a / b := by
  rw [Rat.div_def, Rat.inv_def, ← Rat.divInt_mul_divInt, Rat.num_divInt_den]
theorem den_pos_int (a : Rat) : 0 < (a.den : Int) := by have := a.den_pos; omega
theorem num_ne {b : Rat} (h : b ≠ 0) : b.num ≠ 0 := fun z => h (Rat.num_eq_zero.mp z)

/-! ### the loop of the greatest common divisor -/
theorem gcd_step {a b : Int} (ha : 0 ≤ a) (hb : 0 < b) : Int.gcd a b = Int.gcd b (a % b) := by
  have h : 0 ≤ a % b := Int.emod_nonneg _ (by omega)
  rw [Int.gcd_comm a b]
  unfold Int.gcd
  rw [Int.natAbs_emod_of_nonneg ha]
  exact (Nat.gcd_rec _ _).trans (by rw [Nat.gcd_comm])
theorem gcd_pos_int {a b : Int} (hb : b ≠ 0) : 0 < (Int.gcd a b : Int) := by
  have := Int.gcd_pos_of_ne_zero_right a hb
  omega
theorem gcd_le_nat {a b : Int} (hb : 0 < b) : Int.gcd a b ≤ b.natAbs := Nat.le_of_dvd (by omega) (Int.gcd_dvd_natAbs_right a b)

/-! ### comparing -/
def cmpQ (a b : Rat) : Int := if a < b then -1 else if b < a then 1 else 0
theorem lt_iff_q (a b : Rat) : a < b ↔ a.num * b.den < b.num * a.den := Rat.lt_iff a b
theorem cmpQ_lt {a b : Rat} : cmpQ a b < 0 ↔ a < b := by
  unfold cmpQ
  split
  · simp [*]
  · split <;> simp [*]
theorem cmpQ_le {a b : Rat} : cmpQ a b ≤ 0 ↔ a ≤ b := by
  unfold cmpQ
  split
  · rename_i h
    simp [Rat.le_of_lt h]
  · split
    · rename_i h1 h
      simp [Rat.not_le.mpr h]
    · rename_i h1 h2
      simp [Rat.not_lt.mp h2]
theorem cmpQ_gt {a b : Rat} : 0 < cmpQ a b ↔ b < a := by
  unfold cmpQ
  split
  · rename_i h
    simp
    exact Rat.not_lt.mpr (Rat.le_of_lt h)
  · split
    · simp [*]
    · simp [*]
theorem cmpQ_ge {a b : Rat} : 0 ≤ cmpQ a b ↔ b ≤ a := by
  rw [← Int.not_lt, cmpQ_lt, Rat.not_lt]
theorem cmpQ_ne {a b : Rat} : cmpQ a b ≠ 0 ↔ a ≠ b := by
  unfold cmpQ
  split
  · rename_i h; simp [Rat.ne_of_lt h]
  · split
    · rename_i h; simp [Rat.ne_of_gt h]
    · rename_i h1 h2
      simp
      exact Rat.le_antisymm (Rat.not_lt.mp h2) (Rat.not_lt.mp h1)
end Sc

/-! KBase -/
set_option Elab.async false
set_option linter.all false
set_option maxRecDepth 100000
set_option maxHeartbeats 1000000
/-! Readings step by step; numbers on the heap. -/
namespace Sc
open PySem PySem.Spec PyProof.Rows L2
abbrev Sl := L2.St
abbrev Fg := PySem.W.Frag

/-! ### what stays -/
/-- the tuples stay -/
def Tx (K : Fg) (H H' : Hp) : Prop := ∀ a xs, SqT K H a xs → SqT K H' a xs
theorem Tx.refl {K : Fg} (H : Hp) : Tx K H H := fun _ _ h => h
theorem Tx.trans {K : Fg} {H H1 H2 : Hp} (a : Tx K H H1) (b : Tx K H1 H2) : Tx K H H2 := fun x o h => b x o (a x o h)
theorem _root_.L2.Same.tx {K : Fg} {H H' : Hp} (s : Same H H') : Tx K H H' := fun a xs h => by
  rcases h with (h | ⟨o, h⟩) | h
  · exact .inl (.inl (s _ _ h))
  · exact .inl (.inr ⟨o, s _ _ h⟩)
  · exact .inr h
theorem Tx.step {K : Fg} {H H1 H2 : Hp} (a : Tx K H H1) (s : Same H1 H2) : Tx K H H2 := a.trans (Same.tx s)
/-- all but what stands at l is as it was -/
def But (l : Addr) (H H' : Hp) : Prop := ∀ b, b ≠ l → H' b = H b
theorem But.tx {K : Fg} {l : Addr} {H H' : Hp} {o : HO} (b : But l H H') (h : H l = some o) (no : ∀ xs, o ≠ .tup xs) (nf : ∀ ob u, o ≠ .frz ob u) : Tx K H H' := fun a xs ha => by
  rcases ha with (ha | ⟨ob, ha⟩) | ha
  · refine .inl (.inl ?_)
    rw [b a (fun e => by subst e; rw [h] at ha; exact no _ (Option.some.inj ha))]; exact ha
  · refine .inl (.inr ⟨ob, ?_⟩)
    rw [b a (fun e => by subst e; rw [h] at ha; exact nf _ _ (Option.some.inj ha))]; exact ha
  · exact .inr ha
theorem But.same {l : Addr} {H0 H H' : Hp} (b : But l H H') (s : Same H0 H) (n : H0 l = none) : Same H0 H' := fun a o h => by
  rw [b a (ne_of_none h n)]; exact s a o h
theorem But.upd {l : Addr} {H : Hp} {o : HO} : But l H (upd H l o) := fun b h => upd_ne h
theorem But.trans {l : Addr} {H H1 H2 : Hp} (a : But l H H1) (b : But l H1 H2) : But l H H2 := fun x h => (b x h).trans (a x h)
theorem _root_.L2.Same.new {H : Hp} {p : Addr} {o : HO} (h : H p = none) : Same H (upd H p o) := fun b u e => by
  rw [upd_ne (ne_of_none e h)]; exact e
theorem _root_.L2.Same.none_of {H H' : Hp} {p : Addr} (s : Same H H') (h : H' p = none) : H p = none := s.free h

/-! ### steps -/
section
variable {K : Fg} {D : Ends} {σ : Sl} {H : Hp} {Q : VK} {ta tb te tc : TE} {t u : TS} {x y v w : V} {xs ys : List V} {a b l : Addr}
theorem w_seq (h : t { D with nx := u D } σ H) : tSeq t u D σ H := h
theorem w_asg {g : TG} (h : te σ H (fun x H1 => g x σ H1 D.nx)) : tAsg te g D σ H := h
theorem w_par {i j : Nat} {ts : TA} (h : ts σ H (fun vs H1 => ∃ v w, vs = [v, w] ∧ D.nx ((σ.set i (some v)).set j (some w)) H1)) : tPar i j ts D σ H := h
theorem w_two {P : V → V → Prop} (h : P v w) : ∃ v' w', [v, w] = [v', w'] ∧ P v' w' := ⟨v, w, rfl, h⟩
theorem w_aug {i : Nat} {ip : TIp} (hx : σ[i]? = some (some x)) (h : te σ H fun y H1 => ip x y H1 fun z H2 => D.nx (σ.set i (some z)) H2) : tAug i te ip D σ H := ⟨x, hx, h⟩
theorem w_ipI {f : Int → Int → Int} {i j : Int} (h : Q (.int (f i j)) H) : ipI f (.int i) (.int j) H Q := ⟨i, j, rfl, rfl, h⟩
theorem w_drop (h : te σ H (fun _ H1 => D.nx σ H1)) : tDrop te D σ H := h
theorem w_ret (h : te σ H D.rt) : tRet te D σ H := h
theorem w_next (h : D.nx σ H) : tNext D σ H := h
theorem w_if {c : TT} (h : c σ H fun b H1 => if b = true then t D σ H1 else u D σ H1) : tIfS c t u D σ H := h
theorem w_ite {p : Prop} [Decidable p] {A B : Prop} (h1 : p → A) (h2 : ¬ p → B) : if decide p = true then A else B := by
  by_cases h : p
  · rw [if_pos (decide_eq_true h)]; exact h1 h
  · rw [if_neg (by simp [h])]; exact h2 h
theorem w_itn {p : Prop} [Decidable p] {A B : Prop} (h1 : ¬ p → A) (h2 : p → B) : if (!decide p) = true then A else B := by
  by_cases h : p
  · rw [if_neg (by simp [h])]; exact h2 h
  · rw [if_pos (by simp [h])]; exact h1 h
theorem w_itb {b : Bool} {A B : Prop} (h1 : b = true → A) (h2 : b = false → B) : if b = true then A else B := by
  cases b
  · exact h2 rfl
  · exact h1 rfl
theorem w_gname {i : Nat} {R : Sl → Hp → Prop} (h : R (σ.set i (some v)) H) : gName i v σ H R := h
theorem w_gnil {R : Sl → Hp → Prop} (h : R σ H) : gNil [] σ H R := ⟨rfl, h⟩
theorem w_gcons {g : TG} {gs : TGs} {r : List V} {R : Sl → Hp → Prop} (h : g v σ H fun σ' H' => gs r σ' H' R) : gCons g gs (v :: r) σ H R := ⟨v, r, rfl, h⟩
theorem w_gtup {n : Nat} {gs : TGs} {R : Sl → Hp → Prop} (h : SqT K H a xs) (hl : xs.length = n) (q : gs xs σ H R) : gTup K n gs (.ref a) σ H R := ⟨a, xs, rfl, h, hl, q⟩
theorem w_var {i : Nat} (h : σ[i]? = some (some v)) (q : Q v H) : tVar i σ H Q := ⟨v, h, q⟩
theorem w_c (q : Q v H) : tC v σ H Q := q
theorem w_op {r : R2} (h : ta σ H fun x H1 => tb σ H1 fun y H2 => r x y H2 Q) : tOp r ta tb σ H Q := h
theorem w_un {r : V → Hp → VK → Prop} (h : ta σ H fun x H1 => r x H1 Q) : tUn r ta σ H Q := h
theorem w_rU {g : Int → V} {i : Int} (q : Q (g i) H) : rU g (.int i) H Q := ⟨i, rfl, q⟩
theorem w_rI0 {g : Int → Int → V} {i j : Int} (q : Q (g i j) H) : rI0 g (.int i) (.int j) H Q := ⟨i, j, rfl, rfl, q⟩
theorem w_rI {C : Int → Int → Prop} {g : Int → Int → V} {i j : Int} (c : C i j) (q : Q (g i j) H) : rI C g (.int i) (.int j) H Q := ⟨i, j, rfl, rfl, c, q⟩
theorem w_ixT {i : Int} (h : SqT K H a xs) (e : atI xs i = some v) (q : Q v H) : rIxT K (.ref a) (.int i) H Q := ⟨a, xs, i, v, rfl, rfl, h, e, q⟩
theorem w_ixL {i : Int} (h : SqL K H a xs) (e : atI xs i = some v) (q : Q v H) : rIxL K (.ref a) (.int i) H Q := ⟨a, xs, i, v, rfl, rfl, h, e, q⟩
theorem w_eq (h : scal x y = true) (q : Q (.bl (decide (x = y))) H) : rEq x y H Q := ⟨h, q⟩
theorem w_ne (h : scal x y = true) (q : Q (.bl (!decide (x = y))) H) : rNe x y H Q := ⟨h, q⟩
theorem w_isN (q : Q (.bl (decide (x = .non))) H) : rIsNone x .non H Q := ⟨rfl, q⟩
theorem w_notN (q : Q (.bl (!decide (x = .non))) H) : rNotNone x .non H Q := ⟨rfl, q⟩
theorem w_test {R : Bool → Hp → Prop} (h : te σ H fun x H' => ∃ k, x = .bl k ∧ R k H') : tTest te σ H R := h
theorem w_tB {R : Bool → Hp → Prop} (h : te σ H fun x H' => ∃ k, x = .bl k ∧ R k H') : tB te σ H R := h
theorem w_bl {k : Bool} {R : Bool → Prop} (h : R k) : ∃ k', V.bl k = V.bl k' ∧ R k' := ⟨k, rfl, h⟩
theorem w_and {c c' : TT} {R : Bool → Hp → Prop} (h : c σ H fun k H1 => if k = true then c' σ H1 R else R false H1) : tAnd c c' σ H R := h
theorem w_or {c c' : TT} {R : Bool → Hp → Prop} (h : c σ H fun k H1 => if k = true then R true H1 else c' σ H1 R) : tOr c c' σ H R := h
theorem w_not {c : TT} {R : Bool → Hp → Prop} (h : c σ H fun k H1 => R (!k) H1) : tNot c σ H R := h
theorem w_andV (h : ta σ H fun x H1 => ∃ c, x = .bl c ∧ if c = true then tb σ H1 Q else Q (.bl false) H1) : tAndV ta tb σ H Q := h
theorem w_orV (h : ta σ H fun x H1 => ∃ c, x = .bl c ∧ if c = true then Q (.bl true) H1 else tb σ H1 Q) : tOrV ta tb σ H Q := h
theorem w_notV (h : ta σ H fun x H1 => ∃ c, x = .bl c ∧ Q (.bl (!c)) H1) : tNotV ta σ H Q := h
theorem w_cons {ts : TA} {R : List V → Hp → Prop} (h : te σ H fun x H1 => ts σ H1 fun xs H2 => R (x :: xs) H2) : tCons te ts σ H R := h
theorem w_nil {R : List V → Hp → Prop} (h : R [] H) : tNil σ H R := h
theorem w_call {sp : Sp} {E : XK} {ts : TA} (h : ts σ H fun vs H1 => sp vs H1 Q E) : tCall sp [] E ts σ H Q := by
  have e : (fun vs H1 => sp (vs ++ []) H1 Q E) = fun vs H1 => sp vs H1 Q E := by funext vs H1; rw [List.append_nil]
  show ts σ H (fun vs H1 => sp (vs ++ []) H1 Q E)
  rw [e]; exact h
theorem w_meth {C : Addr} {m : Str} {sp : Sp} {E : XK} {ts : TA} (h : te σ H fun x H1 => ∃ a dx fs, x = .ref a ∧ H1 a = some (.ins C dx fs) ∧ fs.lookup m = none ∧ ts σ H1 fun vs H2 => sp (x :: vs) H2 Q E) : tMeth C m sp [] E te ts σ H Q := by
  have e : (fun x H1 => ∃ a dx fs, x = V.ref a ∧ H1 a = some (HO.ins C dx fs) ∧ fs.lookup m = none ∧ ts σ H1 fun vs H2 => sp (x :: (vs ++ [])) H2 Q E) = fun x H1 => ∃ a dx fs, x = V.ref a ∧ H1 a = some (.ins C dx fs) ∧ fs.lookup m = none ∧ ts σ H1 fun vs H2 => sp (x :: vs) H2 Q E := by
    funext x H1
    have e : (fun vs H2 => sp (x :: (vs ++ [])) H2 Q E) = fun vs H2 => sp (x :: vs) H2 Q E := by funext vs H2; rw [List.append_nil]
    rw [e]
  show te σ H (fun x H1 => ∃ a dx fs, x = V.ref a ∧ H1 a = some (HO.ins C dx fs) ∧ fs.lookup m = none ∧ ts σ H1 fun vs H2 => sp (x :: (vs ++ [])) H2 Q E)
  rw [e]; exact h
theorem w_mk {C : Addr} {m : Str} {dx : Addr} {fs : List (Str × V)} {P : Prop} (h : H a = some (.ins C dx fs)) (n : fs.lookup m = none) (q : P) : ∃ a' dx' fs', V.ref a = V.ref a' ∧ H a' = some (HO.ins C dx' fs') ∧ fs'.lookup m = none ∧ P := ⟨a, dx, fs, rfl, h, n, q⟩
theorem w_fld {C dx : Addr} {fs : List (Str × V)} {f : Str} (h : H a = some (.ins C dx fs)) (c : Cls K C) (n : NoAttr K C f) (e : fs.lookup f = some v) (q : Q v H) :
    ∃ a' C' dx' fs' v', V.ref a = V.ref a' ∧ H a' = some (.ins C' dx' fs') ∧ Cls K C' ∧ NoAttr K C' f ∧ fs'.lookup f = some v' ∧ Q v' H := ⟨a, C, dx, fs, v, rfl, h, c, n, e, q⟩
theorem w_tFld {f : Str} (h : te σ H fun x H1 => ∃ a C dx fs v, x = .ref a ∧ H1 a = some (.ins C dx fs) ∧ Cls K C ∧ NoAttr K C f ∧ fs.lookup f = some v ∧ Q v H1) : tFld K te f σ H Q := h
theorem w_tProp {C : Addr} {sp : Sp} {E : XK} (h : te σ H fun x H1 => ∃ a dx fs, x = .ref a ∧ H1 a = some (.ins C dx fs) ∧ sp [.ref a] H1 Q E) : tProp C sp [] E te σ H Q := h
theorem w_pk {C : Addr} {dx : Addr} {fs : List (Str × V)} {sp : Sp} {E : XK} (h : H a = some (.ins C dx fs)) (q : sp [.ref a] H Q E) : ∃ a' dx' fs', V.ref a = V.ref a' ∧ H a' = some (HO.ins C dx' fs') ∧ sp [.ref a'] H Q E := ⟨a, dx, fs, rfl, h, q⟩
def NewT (xs : List V) (H : Hp) (Q : VK) : Prop := xs.length ≤ sizeLine ∧ ∀ p, H p = none → Q (.ref p) (upd H p (.tup xs))
def NewL (xs : List V) (H : Hp) (Q : VK) : Prop := xs.length ≤ sizeLine ∧ ∀ p, H p = none → Q (.ref p) (upd H p (.lst xs))
theorem w_tup {ts : TA} (h : ts σ H fun xs H1 => NewT xs H1 Q) : tTup ts σ H Q := h
theorem w_lst {ts : TA} (h : ts σ H fun xs H1 => NewL xs H1 Q) : tLst ts σ H Q := h
theorem sz_le {n : Nat} (h : n ≤ 100000) : n ≤ sizeLine := Nat.le_trans h (by decide)
theorem sz_lt {n : Nat} (h : n < 100000) : n < sizeLine := Nat.lt_of_lt_of_le h (by decide)
theorem w_newT (hl : xs.length ≤ 100000) (k : ∀ p H', H p = none → Same H H' → SqT K H' p xs → But p H H' → H' p = some (.tup xs) → Q (.ref p) H') : NewT xs H Q :=
  ⟨sz_le hl, fun p hp => k p _ hp (Same.new hp) (SqT.of upd_same) But.upd upd_same⟩
theorem w_newL (hl : xs.length ≤ 100000) (k : ∀ p H', H p = none → Same H H' → H' p = some (.lst xs) → But p H H' → Q (.ref p) H') : NewL xs H Q :=
  ⟨sz_le hl, fun p hp => k p _ hp (Same.new hp) upd_same But.upd⟩
theorem w_newl {P : V → Hp → Prop} (k : ∀ p H', H p = none → Same H H' → H' p = some (.lst xs) → But p H H' → P (.ref p) H') : ∀ p, H p = none → P (.ref p) (upd H p (.lst xs)) :=
  fun p hp => k p _ hp (Same.new hp) upd_same But.upd
theorem w_newt {P : V → Hp → Prop} (k : ∀ p H', H p = none → Same H H' → SqT K H' p xs → But p H H' → H' p = some (.tup xs) → P (.ref p) H') : ∀ p, H p = none → P (.ref p) (upd H p (.tup xs)) :=
  fun p hp => k p _ hp (Same.new hp) (SqT.of upd_same) But.upd upd_same
theorem w_tSl {r : V → Option Int → Option Int → Hp → VK → Prop} {tl th : TO} (h : te σ H fun x H1 => tl σ H1 fun l H2 => th σ H2 fun u H3 => r x l u H3 Q) : tSl r te tl th σ H Q := h
theorem w_noPart {R : Option Int → Hp → Prop} (h : R none H) : tNoPart σ H R := h
theorem w_part {R : Option Int → Hp → Prop} (h : te σ H fun x H1 => ∃ i, x = .int i ∧ R (some i) H1) : tPart te σ H R := h
theorem w_int {i : Int} {R : Int → Prop} (h : R i) : ∃ j, V.int i = V.int j ∧ R j := ⟨i, rfl, h⟩
theorem w_tCB {r : List V → Hp → VK → Prop} {ts : TA} (h : ts σ H fun vs H1 => r vs H1 Q) : tCB r ts σ H Q := h
theorem w_lenL (h : SqL K H a xs) (q : Q (.int (xs.length : Int)) H) : rLenQ K [.ref a] H Q := ⟨a, xs, rfl, .inl h, q⟩
theorem w_lenT (h : SqT K H a xs) (q : Q (.int (xs.length : Int)) H) : rLenQ K [.ref a] H Q := ⟨a, xs, rfl, .inr h, q⟩
theorem w_abs {i : Int} (q : Q (.int (i.natAbs : Int)) H) : rAbs [.int i] H Q := ⟨i, rfl, by
  have e : (if i < 0 then -i else i) = (i.natAbs : Int) := by split <;> omega
  rw [e]; exact q⟩
theorem w_min {i j : Int} (q : Q (.int (min i j)) H) : rMin2 [.int i, .int j] H Q := ⟨i, j, rfl, by
  have e : (if j < i then j else i) = min i j := by split <;> omega
  rw [e]; exact q⟩
theorem w_tBM {T : String} {r : V → List V → Hp → VK → Prop} {ts : TA} (h : te σ H fun x H1 => tyV K T x H1 ∧ ts σ H1 fun xs H2 => r x xs H2 Q) : tBM K T r te ts σ H Q := h
theorem w_tyL {P : Prop} (h : SqL K H l xs) (q : P) : tyV K "list" (.ref l) H ∧ P := ⟨.inl ⟨rfl, xs, h⟩, q⟩
theorem w_append {P : V → Hp → Prop} (h : H l = some (.lst xs)) (z : xs.length < 100000) (k : ∀ H', H' l = some (.lst (xs ++ [v])) → But l H H' → Tx K H H' → P .non H') : rAppend (.ref l) [v] H P :=
  ⟨l, xs, v, rfl, rfl, h, sz_lt z, k _ upd_same But.upd (But.upd.tx h (fun _ e => nomatch e) fun _ _ e => nomatch e)⟩
theorem w_setL {i : Int} {j : Nat} {R : Hp → Prop} (h : H l = some (.lst xs)) (e : ixN xs.length i = some j) (k : ∀ H', H' l = some (.lst (xs.set j v)) → But l H H' → Tx K H H' → R H') : rSetL (.ref l) (.int i) v H R :=
  ⟨l, xs, i, j, rfl, rfl, h, e, k _ upd_same But.upd (But.upd.tx h (fun _ e => nomatch e) fun _ _ e => nomatch e)⟩
theorem w_gSub {to ti : TE} {ts : TSet} {R : Sl → Hp → Prop} (h : to σ H fun o H1 => ti σ H1 fun i H2 => ts o i v H2 fun H3 => R σ H3) : gSub to ti ts v σ H R := h
theorem w_slL {lo hi : Option Int} (h : SqL K H a xs) (k : ∀ p H', H p = none → Same H H' → H' p = some (.lst (cutV xs lo hi)) → But p H H' → Q (.ref p) H') : rSlL K (.ref a) lo hi H Q :=
  ⟨a, xs, rfl, h, fun p hp => k p _ hp (Same.new hp) upd_same But.upd⟩
theorem w_listOf (h : SqL K H a xs) (k : ∀ p H', H p = none → Same H H' → H' p = some (.lst xs) → But p H H' → Q (.ref p) H') : rListOf K [.ref a] H Q :=
  ⟨a, xs, rfl, .inl h, fun p hp => k p _ hp (Same.new hp) upd_same But.upd⟩
theorem w_tupleOf (h : SqL K H a xs) (k : ∀ p H', H p = none → Same H H' → SqT K H' p xs → But p H H' → H' p = some (.tup xs) → Q (.ref p) H') : rTupleOf K [.ref a] H Q :=
  ⟨a, xs, rfl, .inl ⟨h, fun p hp => k p _ hp (Same.new hp) (SqT.of upd_same) But.upd upd_same⟩⟩
theorem w_cat {zs : List V} (h : H l = some (.lst xs)) (h2 : H b = some (.lst zs)) (z : xs.length + zs.length ≤ 100000) (k : ∀ p H', H p = none → Same H H' → H' p = some (.lst (xs ++ zs)) → But p H H' → Q (.ref p) H') : rCat (.ref l) (.ref b) H Q :=
  ⟨l, b, xs, zs, rfl, rfl, h, h2, sz_le z, fun p hp => k p _ hp (Same.new hp) upd_same But.upd⟩
theorem _root_.L2.SqL.same {H' : Hp} (s : Same H H') (h : SqL K H a xs) : SqL K H' a xs := s.seq h
end

/-! ### numbers -/
def Num (K : Fg) (H : Hp) (v : V) (q : Rat) : Prop := ∃ p, v = .ref p ∧ SqT K H p [.int q.num, .int (q.den : Int)]
theorem Num.tx {K : Fg} {H H' : Hp} {v : V} {q : Rat} (h : Num K H v q) (t : Tx K H H') : Num K H' v q := by
  obtain ⟨p, e, s⟩ := h
  exact ⟨p, e, t _ _ s⟩
theorem Num.of {K : Fg} {H : Hp} {p : Addr} {q : Rat} (h : SqT K H p [.int q.num, .int (q.den : Int)]) : Num K H (.ref p) q := ⟨p, rfl, h⟩
theorem _root_.L2.SqT.tx {K : Fg} {H H' : Hp} {p : Addr} {xs : List V} (h : SqT K H p xs) (t : Tx K H H') : SqT K H' p xs := t _ _ h
/-- a new value, all that was tracked as it was -/
def Ret (P : V → Hp → Prop) (H : Hp) (Q : VK) : Prop := ∀ v H', Same H H' → P v H' → Q v H'
end Sc

/-! KLoop -/
set_option Elab.async false
set_option linter.all false
set_option maxRecDepth 100000
set_option maxHeartbeats 1000000
/-! Loops and comprehensions told by a word; lists of things on the heap. -/
namespace Sc
open PySem PySem.Spec PyProof.Rows L2

/-! ### lists told item by item -/
def All2 {α β : Type} (R : α → β → Prop) : List α → List β → Prop
  | [], [] => True
  | v :: vs, x :: xs => R v x ∧ All2 R vs xs
  | _, _ => False
section
variable {α β : Type} {R R' : α → β → Prop}
theorem All2.nil : All2 R [] [] := trivial
theorem All2.cons {v : α} {x : β} {vs : List α} {xs : List β} (h : R v x) (t : All2 R vs xs) : All2 R (v :: vs) (x :: xs) := ⟨h, t⟩
theorem All2.len : ∀ {vs : List α} {xs : List β}, All2 R vs xs → vs.length = xs.length
  | [], [], _ => rfl
  | _ :: _, _ :: _, h => congrArg (· + 1) (All2.len h.2)
  | [], _ :: _, h => h.elim
  | _ :: _, [], h => h.elim
theorem All2.mono (m : ∀ v x, R v x → R' v x) : ∀ {vs : List α} {xs : List β}, All2 R vs xs → All2 R' vs xs
  | [], [], _ => trivial
  | _ :: _, _ :: _, h => ⟨m _ _ h.1, All2.mono m h.2⟩
  | [], _ :: _, h => h.elim
  | _ :: _, [], h => h.elim
theorem All2.get : ∀ {vs : List α} {xs : List β} {i : Nat} {v : α}, All2 R vs xs → vs[i]? = some v → ∃ x, xs[i]? = some x ∧ R v x
  | [], _, i, v, _, e => by simp at e
  | _ :: _, _ :: _, 0, v, h, e => ⟨_, rfl, by simp at e; subst e; exact h.1⟩
  | _ :: _, _ :: _, i + 1, v, h, e => by
    obtain ⟨x, e1, r⟩ := All2.get (i := i) h.2 (by simpa using e)
    exact ⟨x, by simpa using e1, r⟩
  | _ :: _, [], _, _, h, _ => h.elim
theorem All2.get' : ∀ {vs : List α} {xs : List β} {i : Nat} {x : β}, All2 R vs xs → xs[i]? = some x → ∃ v, vs[i]? = some v ∧ R v x
  | [], [], i, x, _, e => by simp at e
  | _ :: _, _ :: _, 0, x, h, e => ⟨_, rfl, by simp at e; subst e; exact h.1⟩
  | _ :: _, _ :: _, i + 1, x, h, e => by
    obtain ⟨v, e1, r⟩ := All2.get' (i := i) h.2 (by simpa using e)
    exact ⟨v, by simpa using e1, r⟩
  | [], _ :: _, _, _, h, _ => h.elim
  | _ :: _, [], _, _, h, _ => h.elim
theorem All2.append : ∀ {vs : List α} {xs : List β} {ws : List α} {ys : List β}, All2 R vs xs → All2 R ws ys → All2 R (vs ++ ws) (xs ++ ys)
  | [], [], _, _, _, h => h
  | _ :: _, _ :: _, _, _, h, k => ⟨h.1, All2.append h.2 k⟩
  | [], _ :: _, _, _, h, _ => h.elim
  | _ :: _, [], _, _, h, _ => h.elim
theorem All2.snoc {vs : List α} {xs : List β} {v : α} {x : β} (h : All2 R vs xs) (r : R v x) : All2 R (vs ++ [v]) (xs ++ [x]) := h.append ⟨r, trivial⟩
theorem All2.take : ∀ {vs : List α} {xs : List β} (n : Nat), All2 R vs xs → All2 R (vs.take n) (xs.take n)
  | _, _, 0, _ => trivial
  | [], [], _ + 1, _ => trivial
  | _ :: _, _ :: _, n + 1, h => ⟨h.1, All2.take n h.2⟩
  | [], _ :: _, _ + 1, h => h.elim
  | _ :: _, [], _ + 1, h => h.elim
theorem All2.drop : ∀ {vs : List α} {xs : List β} (n : Nat), All2 R vs xs → All2 R (vs.drop n) (xs.drop n)
  | _, _, 0, h => h
  | [], [], _ + 1, _ => trivial
  | _ :: _, _ :: _, n + 1, h => All2.drop n h.2
  | [], _ :: _, _ + 1, h => h.elim
  | _ :: _, [], _ + 1, h => h.elim
theorem All2.set : ∀ {vs : List α} {xs : List β} {v : α} {x : β} (n : Nat), All2 R vs xs → R v x → All2 R (vs.set n v) (xs.set n x)
  | [], [], _, _, _, _, _ => trivial
  | _ :: _, _ :: _, _, _, 0, h, r => ⟨r, h.2⟩
  | _ :: _, _ :: _, _, _, n + 1, h, r => ⟨h.1, All2.set n h.2 r⟩
  | [], _ :: _, _, _, _, h, _ => h.elim
  | _ :: _, [], _, _, _, h, _ => h.elim
end
theorem take_snoc {α : Type} {xs : List α} {i : Nat} {x : α} (h : xs[i]? = some x) : xs.take (i + 1) = xs.take i ++ [x] := by
  rw [List.take_succ, h]; rfl
theorem cutV_one (xs : List V) (h : 1 ≤ xs.length) : cutV xs (some 1) none = xs.drop 1 := by
  unfold cutV
  rw [HT.sIx_none, show (1 : Int) = ((1 : Nat) : Int) from rfl, HT.sIx_nat, Nat.min_eq_left h]
  apply List.take_of_length_le
  rw [List.length_drop]
  exact Nat.le_refl _
theorem cutV_nat_to (xs : List V) (n : Nat) (h : n ≤ xs.length) : cutV xs none (some (n : Int)) = xs.take n := by
  unfold cutV
  rw [HT.sIx_none, HT.sIx_nat, Nat.min_eq_left h]
  simp
theorem cutV_nat_from (xs : List V) (n : Nat) (h : n ≤ xs.length) : cutV xs (some (n : Int)) none = xs.drop n := by
  unfold cutV
  rw [HT.sIx_none, HT.sIx_nat, Nat.min_eq_left h]
  apply List.take_of_length_le
  rw [List.length_drop]
  exact Nat.le_refl _

/-! ### for -/
section
variable {K : Fg} {D : Ends} {σ : Sl} {H : Hp} {Q : VK} {te : TE} {tb : TS} {g : TG} {a : Addr} {xs : List V}
def LoopL (K : Fg) (a : Addr) (xs : List V) (g : TG) (tb : TS) (D : Ends) (σ : Sl) (H : Hp) : Prop := ∃ Pv : Nat → Sl → Hp → Prop, Pv 0 σ H ∧ (∀ i σ H, i ≤ xs.length → Pv i σ H → SqL K H a xs) ∧
  (∀ i x σ H, xs[i]? = some x → Pv i σ H → g x σ H fun σ2 H2 => tb { D with nx := Pv (i + 1), ct := Pv (i + 1), bk := D.nx } σ2 H2) ∧ (∀ σ H, Pv xs.length σ H → D.nx σ H)
theorem w_forL (h : te σ H fun x H1 => ∃ a xs, x = .ref a ∧ SqL K H1 a xs ∧ LoopL K a xs g tb D σ H1) (mono : ∀ Q Q' : VK, (∀ v H', Q v H' → Q' v H') → te σ H Q → te σ H Q') : tFor (iList K te) g tb D σ H := by
  refine mono _ _ (fun v H1 h1 => ?_) h
  obtain ⟨a, xs, rfl, hs, Pv, h0, hl, ht, hd⟩ := h1
  exact ⟨a, rfl, ⟨xs, hs⟩, for_list Pv h0 hl ht hd⟩
theorem w_forT (h : te σ H fun x H1 => ∃ a xs, x = .ref a ∧ SqT K H1 a xs ∧ ∃ Pv : Nat → Sl → Hp → Prop, Pv 0 σ H1 ∧ (∀ i σ H, i ≤ xs.length → Pv i σ H → SqT K H a xs) ∧
  (∀ i x σ H, xs[i]? = some x → Pv i σ H → g x σ H fun σ2 H2 => tb { D with nx := Pv (i + 1), ct := Pv (i + 1), bk := D.nx } σ2 H2) ∧ (∀ σ H, Pv xs.length σ H → D.nx σ H)) (mono : ∀ Q Q' : VK, (∀ v H', Q v H' → Q' v H') → te σ H Q → te σ H Q') : tFor (iTup K te) g tb D σ H := by
  refine mono _ _ (fun v H1 h1 => ?_) h
  obtain ⟨a, xs, rfl, hs, Pv, h0, hl, ht, hd⟩ := h1
  exact ⟨a, rfl, ⟨xs, hs⟩, for_tup Pv h0 hl ht hd⟩
theorem mono_var {i : Nat} (Q Q' : VK) (m : ∀ v H', Q v H' → Q' v H') (h : tVar i σ H Q) : tVar i σ H Q' := by
  obtain ⟨v, e, q⟩ := h
  exact ⟨v, e, m _ _ q⟩
/-- for x in NAME, a list | a tuple -/
theorem w_forLv {i : Nat} (e : σ[i]? = some (some (.ref a))) (hs : SqL K H a xs) (h : LoopL K a xs g tb D σ H) : tFor (iList K (tVar i)) g tb D σ H :=
  w_forL (te := tVar i) ⟨_, e, a, xs, rfl, hs, h⟩ fun Q Q' m h => mono_var Q Q' m h
/-- for x in EXPR, a list: the reading of EXPR -/
theorem w_forLx (h : te σ H fun x H1 => ∃ a, x = .ref a ∧ (∃ xs, SqL K H1 a xs) ∧ ∃ W : Nat → Nat → Sl → Hp → Prop, (∃ m, W 0 m σ H1) ∧ ∀ i m σ H, W i m σ H →
      ((Itl K a).stop i H ∧ D.nx σ H) ∨ ((Itl K a).go i H ∧ ∃ N : Sl → Hp → Prop, (∀ σ' H', N σ' H' → ∃ m', m' < m ∧ W (i + 1) m' σ' H') ∧ ∀ x H', (Itl K a).yld i H x H' → g x σ H' fun σ2 H2 => tb { D with nx := N, ct := N, bk := D.nx } σ2 H2)) : tFor (iList K te) g tb D σ H := h
theorem w_forLy (hs : SqL K H a xs) (h : LoopL K a xs g tb D σ H) : ∃ a', V.ref a = V.ref a' ∧ (∃ xs, SqL K H a' xs) ∧ ∃ W : Nat → Nat → Sl → Hp → Prop, (∃ m, W 0 m σ H) ∧ ∀ i m σ H, W i m σ H →
      ((Itl K a').stop i H ∧ D.nx σ H) ∨ ((Itl K a').go i H ∧ ∃ N : Sl → Hp → Prop, (∀ σ' H', N σ' H' → ∃ m', m' < m ∧ W (i + 1) m' σ' H') ∧ ∀ x H', (Itl K a').yld i H x H' → g x σ H' fun σ2 H2 => tb { D with nx := N, ct := N, bk := D.nx } σ2 H2) := by
  obtain ⟨Pv, h0, hl, ht, hd⟩ := h
  exact ⟨a, rfl, ⟨xs, hs⟩, for_list Pv h0 hl ht hd⟩
def LoopT (K : Fg) (a : Addr) (xs : List V) (g : TG) (tb : TS) (D : Ends) (σ : Sl) (H : Hp) : Prop := ∃ Pv : Nat → Sl → Hp → Prop, Pv 0 σ H ∧ (∀ i σ H, i ≤ xs.length → Pv i σ H → SqT K H a xs) ∧
  (∀ i x σ H, xs[i]? = some x → Pv i σ H → g x σ H fun σ2 H2 => tb { D with nx := Pv (i + 1), ct := Pv (i + 1), bk := D.nx } σ2 H2) ∧ (∀ σ H, Pv xs.length σ H → D.nx σ H)
theorem w_forTx (h : te σ H fun x H1 => ∃ a, x = .ref a ∧ (∃ xs, SqT K H1 a xs) ∧ ∃ W : Nat → Nat → Sl → Hp → Prop, (∃ m, W 0 m σ H1) ∧ ∀ i m σ H, W i m σ H →
      ((Itt K a).stop i H ∧ D.nx σ H) ∨ ((Itt K a).go i H ∧ ∃ N : Sl → Hp → Prop, (∀ σ' H', N σ' H' → ∃ m', m' < m ∧ W (i + 1) m' σ' H') ∧ ∀ x H', (Itt K a).yld i H x H' → g x σ H' fun σ2 H2 => tb { D with nx := N, ct := N, bk := D.nx } σ2 H2)) : tFor (iTup K te) g tb D σ H := h
theorem w_forTy (hs : SqT K H a xs) (h : LoopT K a xs g tb D σ H) : ∃ a', V.ref a = V.ref a' ∧ (∃ xs, SqT K H a' xs) ∧ ∃ W : Nat → Nat → Sl → Hp → Prop, (∃ m, W 0 m σ H) ∧ ∀ i m σ H, W i m σ H →
      ((Itt K a').stop i H ∧ D.nx σ H) ∨ ((Itt K a').go i H ∧ ∃ N : Sl → Hp → Prop, (∀ σ' H', N σ' H' → ∃ m', m' < m ∧ W (i + 1) m' σ' H') ∧ ∀ x H', (Itt K a').yld i H x H' → g x σ H' fun σ2 H2 => tb { D with nx := N, ct := N, bk := D.nx } σ2 H2) := by
  obtain ⟨Pv, h0, hl, ht, hd⟩ := h
  exact ⟨a, rfl, ⟨xs, hs⟩, for_tup Pv h0 hl ht hd⟩
def LoopR (lo : Int) (n : Nat) (g : TG) (tb : TS) (D : Ends) (σ : Sl) (H : Hp) : Prop := ∃ Pv : Nat → Sl → Hp → Prop, Pv 0 σ H ∧
  (∀ i σ H, i < n → Pv i σ H → g (.int (lo + i)) σ H fun σ2 H2 => tb { D with nx := Pv (i + 1), ct := Pv (i + 1), bk := D.nx } σ2 H2) ∧ (∀ σ H, Pv n σ H → D.nx σ H)
theorem w_forR1 {ts : TA} (h : ts σ H fun vs H1 => ∃ j : Int, vs = [.int j] ∧ -(2 ^ 62) ≤ j ∧ j < 2 ^ 62 ∧ ∃ W : Nat → Nat → Sl → Hp → Prop, (∃ m, W 0 m σ H1) ∧ ∀ i m σ H, W i m σ H →
      ((Itr 0 j.toNat).stop i H ∧ D.nx σ H) ∨ ((Itr 0 j.toNat).go i H ∧ ∃ N : Sl → Hp → Prop, (∀ σ' H', N σ' H' → ∃ m', m' < m ∧ W (i + 1) m' σ' H') ∧ ∀ x H', (Itr 0 j.toNat).yld i H x H' → g x σ H' fun σ2 H2 => tb { D with nx := N, ct := N, bk := D.nx } σ2 H2)) : tFor (iRng1 ts) g tb D σ H := h
theorem w_forR1y {n : Nat} (hn : n ≤ 100000) (h : LoopR 0 n g tb D σ H) : ∃ j : Int, [V.int (n : Int)] = [V.int j] ∧ -(2 ^ 62) ≤ j ∧ j < 2 ^ 62 ∧ ∃ W : Nat → Nat → Sl → Hp → Prop, (∃ m, W 0 m σ H) ∧ ∀ i m σ H, W i m σ H →
      ((Itr 0 j.toNat).stop i H ∧ D.nx σ H) ∨ ((Itr 0 j.toNat).go i H ∧ ∃ N : Sl → Hp → Prop, (∀ σ' H', N σ' H' → ∃ m', m' < m ∧ W (i + 1) m' σ' H') ∧ ∀ x H', (Itr 0 j.toNat).yld i H x H' → g x σ H' fun σ2 H2 => tb { D with nx := N, ct := N, bk := D.nx } σ2 H2) := by
  obtain ⟨Pv, h0, ht, hd⟩ := h
  refine ⟨(n : Int), rfl, by omega, by omega, ?_⟩
  rw [Int.toNat_natCast]
  exact for_range Pv h0 ht hd
theorem w_forR2 {ts : TA} (h : ts σ H fun vs H1 => ∃ i j : Int, vs = [.int i, .int j] ∧ (-(2 ^ 62) ≤ i ∧ i < 2 ^ 62 ∧ -(2 ^ 62) ≤ j ∧ j < 2 ^ 62) ∧ ∃ W : Nat → Nat → Sl → Hp → Prop, (∃ m, W 0 m σ H1) ∧ ∀ i' m σ H, W i' m σ H →
      ((Itr i (j - i).toNat).stop i' H ∧ D.nx σ H) ∨ ((Itr i (j - i).toNat).go i' H ∧ ∃ N : Sl → Hp → Prop, (∀ σ' H', N σ' H' → ∃ m', m' < m ∧ W (i' + 1) m' σ' H') ∧ ∀ x H', (Itr i (j - i).toNat).yld i' H x H' → g x σ H' fun σ2 H2 => tb { D with nx := N, ct := N, bk := D.nx } σ2 H2)) : tFor (iRng2 ts) g tb D σ H := h
theorem w_forR2y {lo hi : Int} {n : Nat} (e : hi = lo + n) (h1 : 0 ≤ lo) (h2 : hi ≤ 100000) (h : LoopR lo n g tb D σ H) : ∃ i j : Int, [V.int lo, V.int hi] = [V.int i, V.int j] ∧ (-(2 ^ 62) ≤ i ∧ i < 2 ^ 62 ∧ -(2 ^ 62) ≤ j ∧ j < 2 ^ 62) ∧ ∃ W : Nat → Nat → Sl → Hp → Prop, (∃ m, W 0 m σ H) ∧ ∀ i' m σ H, W i' m σ H →
      ((Itr i (j - i).toNat).stop i' H ∧ D.nx σ H) ∨ ((Itr i (j - i).toNat).go i' H ∧ ∃ N : Sl → Hp → Prop, (∀ σ' H', N σ' H' → ∃ m', m' < m ∧ W (i' + 1) m' σ' H') ∧ ∀ x H', (Itr i (j - i).toNat).yld i' H x H' → g x σ H' fun σ2 H2 => tb { D with nx := N, ct := N, bk := D.nx } σ2 H2) := by
  obtain ⟨Pv, h0, ht, hd⟩ := h
  refine ⟨lo, hi, rfl, by omega, ?_⟩
  have e2 : (hi - lo).toNat = n := by omega
  rw [e2]
  exact for_range Pv h0 ht hd
end

/-! ### comprehensions -/
section
variable {K : Fg} {σ : Sl} {H : Hp} {Q : VK} {te tx : TE} {tt : TT} {g : TG} {a : Addr} {xs : List V} {vs : List Nat}
/-- a turn's new item is put behind -/
def LcNx (D : Addr) (y : V) (H : Hp) (N : Hp → Prop) : Prop := ∃ acc, H D = some (.lst acc) ∧ acc.length < sizeLine ∧ N (upd H D (.lst (acc ++ [y])))
theorem w_lcapp {D : Addr} {acc : List V} {y : V} {P : Hp → Prop} (h : H D = some (.lst acc)) (z : acc.length < 100000) (k : ∀ H', H' D = some (.lst (acc ++ [y])) → But D H H' → Tx K H H' → P H') :
    LcNx D y H P := ⟨acc, h, sz_lt z, k _ upd_same But.upd (But.upd.tx h (fun _ e => nomatch e) fun _ _ e => nomatch e)⟩
/-- [te for x in ..]: the wish at the source's list at a -/
def LcG (wi : It) (g : TG) (tt : TT) (te : TE) (vs : List Nat) (σ : Sl) (H : Hp) (Q : VK) : Prop := ∀ D, H D = none → ∃ W : Nat → Nat → Hp → Prop, (∃ m, W 0 m (upd H D (.lst []))) ∧ ∀ i m H, W i m H →
  (wi.stop i H ∧ Q (.ref D) H) ∨ (wi.go i H ∧ ∃ Nx : Hp → Prop, (∀ H', Nx H' → ∃ m', m' < m ∧ W (i + 1) m' H') ∧ ∀ x H', wi.yld i H x H' → g x (wipe σ vs) H' fun σ2 H2 => wipe σ2 vs = wipe σ vs ∧ tt σ2 H2 fun b H3 =>
    if b = true then te σ2 H3 fun y H4 => ∃ acc, H4 D = some (.lst acc) ∧ acc.length < sizeLine ∧ Nx (upd H4 D (.lst (acc ++ [y]))) else Nx H3)
theorem w_lcL (h : te σ H fun x H1 => ∃ a, x = .ref a ∧ (∃ xs, SqL K H1 a xs) ∧ LcG (Itl K a) g tt tx vs σ H1 Q) : tLc (iList K te) g tt tx vs σ H Q := h
theorem w_lcT (h : te σ H fun x H1 => ∃ a, x = .ref a ∧ (∃ xs, SqT K H1 a xs) ∧ LcG (Itt K a) g tt tx vs σ H1 Q) : tLc (iTup K te) g tt tx vs σ H Q := h
theorem w_lcR1 {ts : TA} (h : ts σ H fun ws H1 => ∃ j : Int, ws = [.int j] ∧ -(2 ^ 62) ≤ j ∧ j < 2 ^ 62 ∧ LcG (Itr 0 j.toNat) g tt tx vs σ H1 Q) : tLc (iRng1 ts) g tt tx vs σ H Q := h
theorem w_lcLy (hs : SqL K H a xs) (h : ∀ D, H D = none → ∃ Pv : Nat → Hp → Prop, (∀ H', H' D = some (.lst []) → Same H H' → But D H H' → Pv 0 H') ∧ (∀ i H', i ≤ xs.length → Pv i H' → SqL K H' a xs) ∧
      (∀ i x H', xs[i]? = some x → Pv i H' → g x (wipe σ vs) H' fun σ2 H2 => wipe σ2 vs = wipe σ vs ∧ tt σ2 H2 fun b H3 => if b = true then tx σ2 H3 fun y H4 => LcNx D y H4 (Pv (i + 1)) else Pv (i + 1) H3) ∧
      (∀ H', Pv xs.length H' → Q (.ref D) H')) : ∃ a', V.ref a = V.ref a' ∧ (∃ xs, SqL K H a' xs) ∧ LcG (Itl K a') g tt tx vs σ H Q :=
  ⟨a, rfl, ⟨xs, hs⟩, fun D hD => by
    obtain ⟨Pv, h0, hl, ht, hd⟩ := h D hD
    exact lc_list Pv (h0 _ upd_same (Same.new hD) But.upd) hl ht hd⟩
theorem w_lcTy (hs : SqT K H a xs) (h : ∀ D, H D = none → ∃ Pv : Nat → Hp → Prop, (∀ H', H' D = some (.lst []) → Same H H' → But D H H' → Pv 0 H') ∧ (∀ i H', i ≤ xs.length → Pv i H' → SqT K H' a xs) ∧
      (∀ i x H', xs[i]? = some x → Pv i H' → g x (wipe σ vs) H' fun σ2 H2 => wipe σ2 vs = wipe σ vs ∧ tt σ2 H2 fun b H3 => if b = true then tx σ2 H3 fun y H4 => LcNx D y H4 (Pv (i + 1)) else Pv (i + 1) H3) ∧
      (∀ H', Pv xs.length H' → Q (.ref D) H')) : ∃ a', V.ref a = V.ref a' ∧ (∃ xs, SqT K H a' xs) ∧ LcG (Itt K a') g tt tx vs σ H Q :=
  ⟨a, rfl, ⟨xs, hs⟩, fun D hD => by
    obtain ⟨Pv, h0, hl, ht, hd⟩ := h D hD
    exact lc_tup Pv (h0 _ upd_same (Same.new hD) But.upd) hl ht hd⟩
theorem w_lcRy {n : Nat} (hn : n ≤ 100000) (h : ∀ D, H D = none → ∃ Pv : Nat → Hp → Prop, (∀ H', H' D = some (.lst []) → Same H H' → But D H H' → Pv 0 H') ∧
      (∀ i H', i < n → Pv i H' → g (.int (0 + i)) (wipe σ vs) H' fun σ2 H2 => wipe σ2 vs = wipe σ vs ∧ tt σ2 H2 fun b H3 => if b = true then tx σ2 H3 fun y H4 => LcNx D y H4 (Pv (i + 1)) else Pv (i + 1) H3) ∧
      (∀ H', Pv n H' → Q (.ref D) H')) : ∃ j : Int, [V.int (n : Int)] = [V.int j] ∧ -(2 ^ 62) ≤ j ∧ j < 2 ^ 62 ∧ LcG (Itr 0 j.toNat) g tt tx vs σ H Q :=
  ⟨(n : Int), rfl, by omega, by omega, fun D hD => by
    obtain ⟨Pv, h0, ht, hd⟩ := h D hD
    rw [Int.toNat_natCast]
    exact lc_range Pv (h0 _ upd_same (Same.new hD) But.upd) ht hd⟩
theorem w_yes {R : Bool → Hp → Prop} (h : R true H) : tYes σ H R := h
theorem w_wy {A B : Prop} {P : Prop} (e : P) (h : A) : P ∧ A := ⟨e, h⟩
theorem w_itrue {A B : Prop} (h : A) : if true = true then A else B := by rw [if_pos rfl]; exact h

/-- a comprehension over a list that leaves all but its own list as it was, item by item: p keeps, f makes -/
theorem lc_by {α β : Type} {R : Hp → V → β → Prop} {p : α → Bool} {f : α → β} {zs : List α} (mono : ∀ H H' v y, Tx K H H' → R H v y → R H' v y) (hs : SqL K H a xs) (hz : zs.length = xs.length) (hlen : xs.length ≤ 90000)
    (turn : ∀ (i : Nat) (x : V) (z : α) (H' : Hp) (D : Addr) (acc : List V) (Nx : Hp → Prop), xs[i]? = some x → zs[i]? = some z → Same H H' → H D = none → H' D = some (.lst acc) → acc.length < 100000 →
      (p z = false → ∀ H'', Same H' H'' → Nx H'') → (p z = true → ∀ y H'' H5, Same H' H'' → R H'' y (f z) → H5 D = some (.lst (acc ++ [y])) → But D H'' H5 → Tx K H'' H5 → Nx H5) →
      g x (wipe σ vs) H' fun σ2 H2 => wipe σ2 vs = wipe σ vs ∧ tt σ2 H2 fun b H3 => if b = true then tx σ2 H3 fun y H4 => LcNx D y H4 Nx else Nx H3)
    (k : ∀ D H' ys, H D = none → Same H H' → H' D = some (.lst ys) → All2 (R H') ys ((zs.filter p).map f) → Q (.ref D) H') : ∃ a', V.ref a = V.ref a' ∧ (∃ xs, SqL K H a' xs) ∧ LcG (Itl K a') g tt tx vs σ H Q := by
  refine w_lcLy hs fun D hD => ⟨fun i H' => Same H H' ∧ ∃ acc, H' D = some (.lst acc) ∧ acc.length ≤ i ∧ All2 (R H') acc (((zs.take i).filter p).map f), fun H' h0 s b => ⟨s, [], h0, Nat.le_refl _, by simp [All2]⟩, fun i H' _ ⟨s, _⟩ => s.seq hs, ?_, ?_⟩
  · rintro i x H' hx ⟨s, acc, hD', hl, ha⟩
    have hi : i < xs.length := (List.getElem?_eq_some_iff.mp hx).1
    obtain ⟨z, hz'⟩ : ∃ z, zs[i]? = some z := ⟨zs[i], List.getElem?_eq_getElem (by omega)⟩
    refine turn i x z H' D acc _ hx hz' s hD hD' (by omega) (fun hp H'' s' => ?_) (fun hp y H'' H5 s' hr h5 b5 t5 => ?_)
    · refine ⟨s.trans s', acc, s' _ _ hD', by omega, ?_⟩
      rw [take_snoc hz', List.filter_append, List.map_append]
      simp only [List.filter_cons, hp, Bool.false_eq_true, if_false, List.filter_nil, List.map_nil, List.append_nil]
      exact All2.mono (fun v y h => mono _ _ _ _ (Same.tx s') h) ha
    · refine ⟨b5.same (s.trans s') hD, _, h5, by simp; omega, ?_⟩
      rw [take_snoc hz', List.filter_append, List.map_append]
      simp only [List.filter_cons, hp, if_true, List.filter_nil, List.map_cons, List.map_nil]
      exact All2.snoc (All2.mono (fun v y h => mono _ _ _ _ ((Same.tx s').trans t5) h) ha) (mono _ _ _ _ t5 hr)
  · rintro H' ⟨s, acc, hD', hl, ha⟩
    rw [← hz, List.take_length] at ha
    exact k D H' acc hD s hD' ha
end
end Sc

/-! KNumW -/
namespace Sc
open PySem PySem.Spec PyProof.Rows L2
local macro_rules | `(tactic| walk_at "w1") => `(tactic| first
  | with_reducible refine w_seq ?_
  | with_reducible refine w_asg ?_
  | with_reducible refine w_ret ?_
  | with_reducible refine w_if ?_
  | with_reducible refine w_gname ?_
  | ((with_reducible refine' w_var ?hh ?_); (case hh => rfl))
  | with_reducible refine w_c ?_
  | with_reducible refine w_op ?_
  | with_reducible refine w_un ?_
  | with_reducible refine w_rU ?_
  | with_reducible refine w_rI0 ?_
  | with_reducible refine w_test ?_
  | with_reducible refine w_tB ?_
  | with_reducible refine w_bl ?_
  | with_reducible refine w_cons ?_
  | with_reducible refine w_nil ?_
  | with_reducible refine w_call ?_
  | with_reducible refine w_tup ?_
  | with_reducible refine w_lst ?_
  | with_reducible refine w_tCB ?_
  | with_reducible refine w_next ?_
  | with_reducible refine w_and ?_
  | with_reducible refine w_or ?_
  | with_reducible refine w_not ?_
  | with_reducible refine w_andV ?_
  | with_reducible refine w_orV ?_
  | with_reducible refine w_notV ?_
  | with_reducible refine w_tSl ?_
  | with_reducible refine w_noPart ?_
  | with_reducible refine w_part ?_
  | with_reducible refine w_int ?_
  | with_reducible refine w_tBM ?_
  | with_reducible refine w_gSub ?_
  | with_reducible refine w_drop ?_
  | with_reducible refine w_tFld ?_
  | with_reducible refine w_tProp ?_
  | with_reducible refine w_meth ?_
  | with_reducible refine w_gnil ?_
  | with_reducible refine w_gcons ?_
  | with_reducible refine w_isN ?_
  | with_reducible refine w_notN ?_
  | with_reducible refine w_par ?_
  | with_reducible refine w_min ?_
  | with_reducible refine w_abs ?_
  | with_reducible refine w_forR1 ?_
  | with_reducible refine w_forR2 ?_
  | ((with_reducible refine w_eq ?hh ?_); (case hh => rfl))
  | ((with_reducible refine w_ne ?hh ?_); (case hh => rfl)))
local macro_rules | `(tactic| walk_at "w") => `(tactic| repeat walk_at "w1")
local macro_rules | `(tactic| walk_at "tx") => `(tactic| (repeat (first | exact Tx.refl _ | assumption | refine Tx.step ?_ (by assumption) | refine Tx.trans ?_ (by assumption))))
local macro_rules | `(tactic| walk_at "num") => `(tactic| (first | assumption | (refine' Num.tx (by assumption) ?_; walk_at "tx")))
local macro_rules | `(tactic| walk_at "t") => `(tactic| (first | assumption | (refine' SqT.tx (by assumption) ?_; walk_at "tx")))
local macro_rules | `(tactic| walk_at "ix") => `(tactic| (refine' w_ixT ?hh ?ii ?_; (case hh => walk_at "t"); (case ii => rfl)))
local macro_rules | `(tactic| walk_at "same") => `(tactic| (repeat (first | exact Same.refl _ | assumption | refine Same.trans ?_ (by assumption))))
local macro_rules | `(tactic| walk_at "bd") => `(tactic| (first | assumption | exact Bd.mono (by assumption) (by decide) | exact bd_add (by walk_at "bd0") (by walk_at "bd0") (by decide) | exact bd_sub (by walk_at "bd0") (by walk_at "bd0") (by decide) | exact bd_mul (by walk_at "bd0") (by walk_at "bd0") (by decide) | exact bd_div (by walk_at "bd0") (by walk_at "bd0") (by decide) | exact bd_neg (by walk_at "bd")))
local macro_rules | `(tactic| walk_at "bd0") => `(tactic| (first | assumption | exact bd_add (by walk_at "bd0") (by walk_at "bd0") (Nat.le_refl _) | exact bd_sub (by walk_at "bd0") (by walk_at "bd0") (Nat.le_refl _) | exact bd_mul (by walk_at "bd0") (by walk_at "bd0") (Nat.le_refl _) | exact bd_div (by walk_at "bd0") (by walk_at "bd0") (Nat.le_refl _) | exact bd_neg (by walk_at "bd0")))
local macro_rules | `(tactic| walk_at "op2") => `(tactic| (refine' ⟨_, _, _, _, rfl, ?n1, ?n2, ?b1, ?b2, True.intro, ?kk⟩; (case n1 => walk_at "num"); (case n2 => walk_at "num"); (case b1 => walk_at "bd"); (case b2 => walk_at "bd")))
local macro_rules | `(tactic| walk_at "cmp") => `(tactic| (refine' ⟨_, _, _, _, rfl, ?n1, ?n2, ?b1, ?b2, ?k⟩; (case n1 => walk_at "num"); (case n2 => walk_at "num"); (case b1 => walk_at "bd"); (case b2 => walk_at "bd")))
local macro_rules | `(tactic| walk_at "ixl") => `(tactic| (refine' w_ixL ?hh ?ii ?_; (case hh => walk_at "l"); (case ii => rfl)))
local macro_rules | `(tactic| walk_at "l") => `(tactic| (first | assumption | exact SqL.of (by assumption) | (refine' SqL.same ?_ (by assumption); walk_at "same")))
local macro_rules | `(tactic| walk_at "sl") => `(tactic| simp (config := { proj := false }) only [List.set_cons_zero, List.set_cons_succ])
set_option Elab.async false
set_option linter.all false
set_option maxRecDepth 100000
set_option maxHeartbeats 1000000

/-! ### common_divisor -/
def sp_common_divisor : Sp := fun vs H Q _ => ∃ a b : Int, vs = [.int a, .int b] ∧ 0 ≤ a ∧ 0 ≤ b ∧ Q (.int (Int.gcd a b : Int)) H
theorem len_common_divisor (vs : List V) (H : Hp) (Q : VK) (E : XK) (h : sp_common_divisor vs H Q E) : vs.length = 2 := by
  obtain ⟨a, b, rfl, _⟩ := h; rfl
theorem pure_common_divisor {K : Fg} (vs : List V) (H : Hp) (Q : VK) (E : XK) (h : sp_common_divisor vs H Q E) : t_common_divisor K { nx := fun _ H' => Q .non H', rt := Q } (start n_common_divisor vs) H := by
  obtain ⟨a, b, rfl, ha, hb, q⟩ := h
  unfold t_common_divisor
  walk_at "w"
  refine ⟨fun m σ H' => H' = H ∧ ∃ c d : Int, σ = [some (.int c), some (.int d)] ∧ 0 ≤ c ∧ 0 ≤ d ∧ Int.gcd c d = Int.gcd a b ∧ m = d.toNat, ⟨_, rfl, a, b, rfl, ha, hb, rfl, rfl⟩, ?_⟩
  rintro m σ H' ⟨rfl, c, d, rfl, hc, hd, hg, rfl⟩
  walk_at "w"
  refine w_itn (fun n => ?_) (fun n => ?_)
  · have hd' : 0 < d := by
      rcases Int.lt_or_eq_of_le hd with h | h
      · exact h
      · exact absurd (by rw [← h]) n
    refine ⟨_, fun _ _ z => z, ?_⟩
    walk_at "w"
    refine w_rI hd' ?_
    walk_at "w"
    refine w_two ⟨_, ?_, rfl, _, _, rfl, hd, Int.emod_nonneg _ (by omega), ?_, rfl⟩
    · have := Int.emod_lt_of_pos c hd'
      omega
    · rw [← gcd_step hc hd', hg]
  · injection n with n
    subst n
    walk_at "w"
    have e : c = (Int.gcd a b : Int) := by
      rw [← hg]; unfold Int.gcd; simp; omega
    rw [e]; exact q
/-! ### number -/
def sp_number (K : Fg) : Sp := fun vs H Q _ => ∃ a b : Int, vs = [.int a, .int b] ∧ b ≠ 0 ∧ b.natAbs < 2 ^ 8900 ∧ Ret (fun r H' => Num K H' r (Rat.divInt a b)) H Q
theorem len_number {K : Fg} (vs : List V) (H : Hp) (Q : VK) (E : XK) (h : sp_number K vs H Q E) : vs.length = 2 := by
  obtain ⟨a, b, rfl, _⟩ := h; rfl
theorem pure_number {K : Fg} (vs : List V) (H : Hp) (Q : VK) (E : XK) (h : sp_number K vs H Q E) : t_number K sp_common_divisor { nx := fun _ H' => Q .non H', rt := Q } (start n_number vs) H := by
  obtain ⟨a, b, rfl, hb, hz, k⟩ := h
  have main : ∀ (a b : Int) (σ : Sl), σ = [some (.int a), some (.int b), none] → 0 < b → b.natAbs < 2 ^ 8900 → Ret (fun r H' => Num K H' r (Rat.divInt a b)) H Q →
      sp_common_divisor [.int (a.natAbs : Int), .int b] H (fun x H1 => gName 2 x σ H1 (tRet (tTup (tCons (tOp (rI CDivW fun i j => .int (i / j)) (tVar 0) (tVar 2)) (tCons (tOp (rI CDivW fun i j => .int (i / j)) (tVar 1) (tVar 2)) tNil))) { nx := fun _ H' => Q .non H', rt := Q })) E0 := by
    intro a b σ hσ hb hz k
    subst hσ
    refine ⟨_, _, rfl, Int.natCast_nonneg _, Int.le_of_lt hb, ?_⟩
    walk_at "w"
    have hg : Int.gcd (a.natAbs : Int) b = Int.gcd a b := by unfold Int.gcd; simp
    rw [hg]
    have g0 : 0 < (Int.gcd a b : Int) := gcd_pos_int (by omega)
    have hl : CDivW a (Int.gcd a b : Int) := wide_div g0 (b := 8900) (by have := gcd_le_nat (a := a) hb; simp only [Int.natAbs_natCast]; omega) (by decide) (by decide)
    refine w_rI hl ?_
    walk_at "w"
    refine w_rI (show CDivW b (Int.gcd a b : Int) from hl) ?_
    walk_at "w"
    refine w_newT (K := K) (by simp) fun p H' hp s ht bt _ => ?_
    refine k _ _ s ⟨p, rfl, ?_⟩
    rw [divInt_pos_num hb, divInt_pos_den hb]
    exact ht
  unfold t_number
  walk_at "w"
  refine w_ite (fun n => absurd (V.int.inj n) hb) (fun _ => ?_)
  walk_at "w"
  refine w_ite (fun n => ?_) (fun n => ?_)
  · walk_at "w"
    exact main (-a) (-b) _ rfl (by omega) (by rw [Int.natAbs_neg]; exact hz) (fun v H' s h => k v H' s (by rw [Rat.neg_divInt_neg] at h; exact h))
  · walk_at "w"
    exact main a b _ rfl (by omega) hz k

/-! ### plus, minus, times, over -/
def Op2 (K : Fg) (C : Rat → Rat → Prop) (f : Rat → Rat → Rat) : Sp := fun vs H Q _ => ∃ v w a b, vs = [v, w] ∧ Num K H v a ∧ Num K H w b ∧ Bd 4400 a ∧ Bd 4400 b ∧ C a b ∧ Ret (fun r H' => Num K H' r (f a b)) H Q
def sp_plus (K : Fg) : Sp := Op2 K (fun _ _ => True) HAdd.hAdd
def sp_minus (K : Fg) : Sp := Op2 K (fun _ _ => True) HSub.hSub
def sp_times (K : Fg) : Sp := Op2 K (fun _ _ => True) HMul.hMul
def sp_over (K : Fg) : Sp := Op2 K (fun _ b => b ≠ 0) HDiv.hDiv
theorem len_op2 {K : Fg} {C : Rat → Rat → Prop} {f : Rat → Rat → Rat} (vs : List V) (H : Hp) (Q : VK) (E : XK) (h : Op2 K C f vs H Q E) : vs.length = 2 := by
  obtain ⟨v, w, a, b, rfl, _⟩ := h; rfl
theorem cmulW {n m : Nat} {a b : Int} (ha : a.natAbs < 2 ^ n) (hb : b.natAbs < 2 ^ m) (h0 : 0 < n := by decide) (h1 : 0 < m := by decide) (h : n + m ≤ 1000000 := by decide) : CMulW a b := wide_mul ha hb h0 h1 h
theorem bdn {a : Rat} (h : Bd 4400 a) : a.num.natAbs < 2 ^ 4400 := h.num
theorem bdd {a : Rat} (h : Bd 4400 a) : ((a.den : Int)).natAbs < 2 ^ 4400 := by simpa using h.den
theorem dd_lt {a b : Rat} (ha : Bd 4400 a) (hb : Bd 4400 b) : ((a.den : Int) * (b.den : Int)).natAbs < 2 ^ 8900 :=
  Nat.lt_of_lt_of_le (wide_lt (bdd ha) (bdd hb)) (Nat.pow_le_pow_right (by decide) (by decide))
theorem dd_ne (a b : Rat) : (a.den : Int) * (b.den : Int) ≠ 0 := Int.ne_of_gt (Int.mul_pos (den_pos_int a) (den_pos_int b))
theorem pure_plus {K : Fg} (vs : List V) (H : Hp) (Q : VK) (E : XK) (h : sp_plus K vs H Q E) : t_plus K (sp_number K) { nx := fun _ H' => Q .non H', rt := Q } (start n_plus vs) H := by
  obtain ⟨v, w, a, b, rfl, ⟨p, rfl, hp⟩, ⟨q, rfl, hq⟩, ba, bb, _, k⟩ := h
  unfold t_plus
  walk_at "w"; walk_at "ix"
  walk_at "w"; walk_at "ix"
  refine w_rI (cmulW (bdn ba) (bdd bb)) ?_
  walk_at "w"; walk_at "ix"
  walk_at "w"; walk_at "ix"
  refine w_rI (cmulW (bdn bb) (bdd ba)) ?_
  walk_at "w"; walk_at "ix"
  walk_at "w"; walk_at "ix"
  refine w_rI (cmulW (bdd ba) (bdd bb)) ?_
  walk_at "w"
  refine ⟨_, _, rfl, dd_ne _ _, dd_lt ba bb, fun r H' s h => k r H' s ?_⟩
  rw [plus_eq] at h; exact h
theorem pure_minus {K : Fg} (vs : List V) (H : Hp) (Q : VK) (E : XK) (h : sp_minus K vs H Q E) : t_minus K (sp_number K) { nx := fun _ H' => Q .non H', rt := Q } (start n_minus vs) H := by
  obtain ⟨v, w, a, b, rfl, ⟨p, rfl, hp⟩, ⟨q, rfl, hq⟩, ba, bb, _, k⟩ := h
  unfold t_minus
  walk_at "w"; walk_at "ix"
  walk_at "w"; walk_at "ix"
  refine w_rI (cmulW (bdn ba) (bdd bb)) ?_
  walk_at "w"; walk_at "ix"
  walk_at "w"; walk_at "ix"
  refine w_rI (cmulW (bdn bb) (bdd ba)) ?_
  walk_at "w"; walk_at "ix"
  walk_at "w"; walk_at "ix"
  refine w_rI (cmulW (bdd ba) (bdd bb)) ?_
  walk_at "w"
  refine ⟨_, _, rfl, dd_ne _ _, dd_lt ba bb, fun r H' s h => k r H' s ?_⟩
  rw [minus_eq] at h; exact h
theorem pure_times {K : Fg} (vs : List V) (H : Hp) (Q : VK) (E : XK) (h : sp_times K vs H Q E) : t_times K (sp_number K) { nx := fun _ H' => Q .non H', rt := Q } (start n_times vs) H := by
  obtain ⟨v, w, a, b, rfl, ⟨p, rfl, hp⟩, ⟨q, rfl, hq⟩, ba, bb, _, k⟩ := h
  unfold t_times
  walk_at "w"; walk_at "ix"
  walk_at "w"; walk_at "ix"
  refine w_rI (cmulW (bdn ba) (bdn bb)) ?_
  walk_at "w"; walk_at "ix"
  walk_at "w"; walk_at "ix"
  refine w_rI (cmulW (bdd ba) (bdd bb)) ?_
  walk_at "w"
  refine ⟨_, _, rfl, dd_ne _ _, dd_lt ba bb, fun r H' s h => k r H' s ?_⟩
  rw [times_eq] at h; exact h
theorem pure_over {K : Fg} (vs : List V) (H : Hp) (Q : VK) (E : XK) (h : sp_over K vs H Q E) : t_over K (sp_number K) { nx := fun _ H' => Q .non H', rt := Q } (start n_over vs) H := by
  obtain ⟨v, w, a, b, rfl, ⟨p, rfl, hp⟩, ⟨q, rfl, hq⟩, ba, bb, hb, k⟩ := h
  unfold t_over
  walk_at "w"; walk_at "ix"
  walk_at "w"; walk_at "ix"
  refine w_rI (cmulW (bdn ba) (bdd bb)) ?_
  walk_at "w"; walk_at "ix"
  walk_at "w"; walk_at "ix"
  refine w_rI (cmulW (bdd ba) (bdn bb)) ?_
  walk_at "w"
  refine ⟨_, _, rfl, Int.mul_ne_zero (Int.ne_of_gt (den_pos_int a)) (num_ne hb), Nat.lt_of_lt_of_le (wide_lt (bdd ba) (bdn bb)) (Nat.pow_le_pow_right (by decide) (by decide)), fun r H' s h => k r H' s ?_⟩
  rw [over_eq] at h; exact h
/-! ### compare, is_less -/
def sp_compare (K : Fg) : Sp := fun vs H Q _ => ∃ v w a b, vs = [v, w] ∧ Num K H v a ∧ Num K H w b ∧ Bd 4400 a ∧ Bd 4400 b ∧ Q (.int (cmpQ a b)) H
theorem len_compare {K : Fg} (vs : List V) (H : Hp) (Q : VK) (E : XK) (h : sp_compare K vs H Q E) : vs.length = 2 := by
  obtain ⟨v, w, a, b, rfl, _⟩ := h; rfl
theorem pure_compare {K : Fg} (vs : List V) (H : Hp) (Q : VK) (E : XK) (h : sp_compare K vs H Q E) : t_compare K { nx := fun _ H' => Q .non H', rt := Q } (start n_compare vs) H := by
  obtain ⟨v, w, a, b, rfl, ⟨p, rfl, hp⟩, ⟨q, rfl, hq⟩, ba, bb, k⟩ := h
  unfold t_compare
  walk_at "w"; walk_at "ix"
  walk_at "w"; walk_at "ix"
  refine w_rI (cmulW (bdn ba) (bdd bb)) ?_
  walk_at "w"; walk_at "ix"
  walk_at "w"; walk_at "ix"
  refine w_rI (cmulW (bdn bb) (bdd ba)) ?_
  walk_at "w"
  unfold cmpQ at k
  refine w_ite (fun h => ?_) (fun h => ?_)
  · walk_at "w"
    rw [if_pos ((lt_iff_q a b).mpr h)] at k; exact k
  · walk_at "w"
    rw [if_neg (fun z => h ((lt_iff_q a b).mp z))] at k
    refine w_ite (fun h => ?_) (fun h => ?_)
    · walk_at "w"
      rw [if_pos ((lt_iff_q b a).mpr h)] at k; exact k
    · walk_at "w"
      rw [if_neg (fun z => h ((lt_iff_q b a).mp z))] at k; exact k
def sp_is_less (K : Fg) : Sp := fun vs H Q _ => ∃ v w a b, vs = [v, w] ∧ Num K H v a ∧ Num K H w b ∧ Bd 4400 a ∧ Bd 4400 b ∧ Q (.bl (decide (a < b))) H
theorem len_is_less {K : Fg} (vs : List V) (H : Hp) (Q : VK) (E : XK) (h : sp_is_less K vs H Q E) : vs.length = 2 := by
  obtain ⟨v, w, a, b, rfl, _⟩ := h; rfl
theorem pure_is_less {K : Fg} (vs : List V) (H : Hp) (Q : VK) (E : XK) (h : sp_is_less K vs H Q E) : t_is_less K (sp_compare K) { nx := fun _ H' => Q .non H', rt := Q } (start n_is_less vs) H := by
  obtain ⟨v, w, a, b, rfl, hp, hq, ba, bb, k⟩ := h
  unfold t_is_less
  walk_at "w"
  refine ⟨_, _, _, _, rfl, hp, hq, ba, bb, ?_⟩
  walk_at "w"
  have e : decide (cmpQ a b < 0) = decide (a < b) := by simp only [cmpQ_lt]
  rw [e]; exact k

/-! KClip -/
set_option linter.all false
set_option maxRecDepth 10000
set_option maxHeartbeats 400000
/-! Motions: pieces, tracks, where they turn. Plain Lean. -/

/-! ### a function that goes one way -/
def Up (f : Rat → Rat) (x y : Rat) : Prop := ∀ t u, x ≤ t → t ≤ u → u ≤ y → f t ≤ f u
def Dn (f : Rat → Rat) (x y : Rat) : Prop := ∀ t u, x ≤ t → t ≤ u → u ≤ y → f u ≤ f t
def Mono (f : Rat → Rat) (x y : Rat) : Prop := Up f x y ∨ Dn f x y
theorem Mono.congr {f g : Rat → Rat} {x y : Rat} (h : Mono f x y) (e : ∀ t, x ≤ t → t ≤ y → g t = f t) : Mono g x y := by
  rcases h with h | h
  · refine .inl fun t u h1 h2 h3 => ?_
    rw [e t h1 (Rat.le_trans h2 h3), e u (Rat.le_trans h1 h2) h3]; exact h t u h1 h2 h3
  · refine .inr fun t u h1 h2 h3 => ?_
    rw [e t h1 (Rat.le_trans h2 h3), e u (Rat.le_trans h1 h2) h3]; exact h t u h1 h2 h3
theorem Mono.between {f : Rat → Rat} {x y t : Rat} (h : Mono f x y) (h1 : x ≤ t) (h2 : t ≤ y) : (f x ≤ f t ∧ f t ≤ f y) ∨ (f y ≤ f t ∧ f t ≤ f x) := by
  rcases h with h | h
  · exact .inl ⟨h x t (Rat.le_refl) h1 h2, h t y h1 h2 Rat.le_refl⟩
  · exact .inr ⟨h t y h1 h2 Rat.le_refl, h x t Rat.le_refl h1 h2⟩

/-! ### pieces -/
structure Pc where
  len : Rat
  a : Rat
  b : Rat
  c : Rat
def Pc.at (p : Pc) (y : Rat) : Rat := p.a + y * (p.b + p.c * y)
def Pc.slope (p : Pc) (y : Rat) : Rat := p.b + 2 * (p.c * y)
/-- where it turns, inside -/
def Pc.turn (p : Pc) : Option Rat := if p.c = 0 then none else if 0 < (0 - p.b) / (2 * p.c) ∧ (0 - p.b) / (2 * p.c) < p.len then some ((0 - p.b) / (2 * p.c)) else none
theorem mul_nn {a b : Rat} (h1 : 0 ≤ a) (h2 : 0 ≤ b) : 0 ≤ a * b := Rat.mul_nonneg h1 h2
theorem at_diff (p : Pc) (t u : Rat) : p.at u - p.at t = (u - t) * (p.b + p.c * (t + u)) := by unfold Pc.at; grind
theorem mono_quad (p : Pc) {x y : Rat} (h : p.c = 0 ∨ (0 - p.b) / (2 * p.c) ≤ x ∨ y ≤ (0 - p.b) / (2 * p.c)) : Mono p.at x y := by
  have key : ∀ t u, t ≤ u → (0 ≤ p.b + p.c * (t + u) → p.at t ≤ p.at u) ∧ (p.b + p.c * (t + u) ≤ 0 → p.at u ≤ p.at t) := by
    intro t u h
    have e := at_diff p t u
    constructor
    · intro k
      have := mul_nn (show 0 ≤ u - t by grind) k
      grind
    · intro k
      have := mul_nn (show 0 ≤ u - t by grind) (show 0 ≤ -(p.b + p.c * (t + u)) by grind)
      have e2 : (u - t) * -(p.b + p.c * (t + u)) = -((u - t) * (p.b + p.c * (t + u))) := by grind
      grind
  by_cases hc : p.c = 0
  · rcases Rat.le_total (a := 0) (b := p.b) with hb | hb
    · exact .inl fun t u _ h2 _ => (key t u h2).1 (by rw [hc]; grind)
    · exact .inr fun t u _ h2 _ => (key t u h2).2 (by rw [hc]; grind)
  · have hv : p.b = -(p.c * (2 * ((0 - p.b) / (2 * p.c)))) := by grind
    generalize hV : (0 - p.b) / (2 * p.c) = V at h hv
    have id : ∀ t u, p.b + p.c * (t + u) = p.c * ((t - V) + (u - V)) := by intro t u; grind
    have idn : ∀ t u, p.b + p.c * (t + u) = -(p.c * ((V - t) + (V - u))) := by intro t u; grind
    have idn2 : ∀ t u, p.b + p.c * (t + u) = -((-p.c) * ((t - V) + (u - V))) := by intro t u; grind
    have idp2 : ∀ t u, p.b + p.c * (t + u) = ((-p.c) * ((V - t) + (V - u))) := by intro t u; grind
    rcases h with h | h | h
    · exact absurd h hc
    · rcases Rat.le_total (a := 0) (b := p.c) with k | k
      · exact .inl fun t u h1 h2 _ => (key t u h2).1 (by rw [id]; exact mul_nn k (by grind))
      · refine .inr fun t u h1 h2 _ => (key t u h2).2 ?_
        have := mul_nn (show 0 ≤ -p.c by grind) (show 0 ≤ (t - V) + (u - V) by grind)
        rw [idn2]; grind
    · rcases Rat.le_total (a := 0) (b := p.c) with k | k
      · refine .inr fun t u h1 h2 h3 => (key t u h2).2 ?_
        have := mul_nn k (show 0 ≤ (V - t) + (V - u) by grind)
        rw [idn]; grind
      · refine .inl fun t u h1 h2 h3 => (key t u h2).1 ?_
        rw [idp2]
        exact mul_nn (show 0 ≤ -p.c by grind) (by grind)
theorem Mono.shift {f : Rat → Rat} {x y s : Rat} (h : Mono f (x - s) (y - s)) : Mono (fun t => f (t - s)) x y := by
  rcases h with h | h
  · exact .inl fun t u h1 h2 h3 => h _ _ (by grind) (by grind) (by grind)
  · exact .inr fun t u h1 h2 h3 => h _ _ (by grind) (by grind) (by grind)

/-! ### tracks -/
abbrev Trk := List Pc
def total : Trk → Rat
  | [] => 0
  | p :: r => p.len + total r
/-- the value at x of a track that begins at s -/
def valF : Rat → Trk → Rat → Rat
  | _, [], _ => 0
  | s, [p], x => p.at (x - s)
  | s, p :: q :: r, x => if x < s + p.len then p.at (x - s) else valF (s + p.len) (q :: r) x
def Cont : Trk → Prop
  | p :: q :: r => q.a = p.at p.len ∧ Cont (q :: r)
  | _ => True
def Pos (tr : Trk) : Prop := ∀ p ∈ tr, 0 < p.len
/-- where pieces meet or turn, behind s -/
def brk : Rat → Trk → List Rat
  | _, [] => []
  | s, p :: r => (match p.turn with | some y => [s + y] | none => []) ++ (s + p.len) :: brk (s + p.len) r
theorem total_nn : ∀ {tr : Trk}, Pos tr → 0 ≤ total tr
  | [], _ => Rat.le_refl
  | p :: r, h => by
    have h1 := h p (by simp)
    have h2 := total_nn (tr := r) fun q hq => h q (by simp [hq])
    unfold total; grind
theorem valF_start {s : Rat} {p : Pc} {r : Trk} (h : 0 < p.len) : valF s (p :: r) s = p.a := by
  cases r with
  | nil => unfold valF Pc.at; grind
  | cons q r =>
    unfold valF
    rw [if_pos (by grind)]
    unfold Pc.at; grind
theorem piece_mono {s x y : Rat} {p : Pc} (h1 : s ≤ x) (h2 : y ≤ s + p.len) (h : ∀ v, p.turn = some v → ¬ (x < s + v ∧ s + v < y)) : Mono (fun t => p.at (t - s)) x y := by
  apply Mono.shift
  apply mono_quad
  by_cases hc : p.c = 0
  · exact .inl hc
  · refine .inr ?_
    generalize hV : (0 - p.b) / (2 * p.c) = V
    have ht : p.turn = if 0 < V ∧ V < p.len then some V else none := by
      unfold Pc.turn; rw [if_neg hc, hV]
    by_cases hin : 0 < V ∧ V < p.len
    · rw [if_pos hin] at ht
      have := h V ht
      rcases Rat.le_total (a := V) (b := x - s) with k | k
      · exact .inl k
      · by_cases e : V = x - s
        · exact .inl (by rw [e]; exact Rat.le_refl)
        · by_cases e2 : y - s ≤ V
          · exact .inr e2
          · exact absurd ⟨by grind, by grind⟩ this
    · rcases Rat.le_total (a := V) (b := 0) with k | k
      · exact .inl (by grind)
      · by_cases e : V = 0
        · exact .inl (by grind)
        · have : ¬ V < p.len := fun z => hin ⟨by grind, z⟩
          exact .inr (by grind)

/-- f goes one way wherever no point of S lies strictly inside -/
def MOff (f : Rat → Rat) (S : List Rat) (lo hi : Rat) : Prop := ∀ x y, lo ≤ x → x ≤ y → y ≤ hi → (∀ z ∈ S, ¬ (x < z ∧ z < y)) → Mono f x y
theorem valF_mono : ∀ (tr : Trk) (s : Rat), Pos tr → Cont tr → MOff (valF s tr) (brk s tr) s (s + total tr)
  | [], s, _, _ => fun x y _ _ _ _ => .inl fun t u _ _ _ => by unfold valF; exact Rat.le_refl
  | [p], s, hp, _ => fun x y h1 h2 h3 hb => by
    have hl := hp p (by simp)
    refine (piece_mono (s := s) (p := p) h1 (by unfold total total at h3; grind) fun v hv => hb _ ?_).congr fun t _ _ => by unfold valF; rfl
    unfold brk; rw [hv]; simp
  | p :: q :: r, s, hp, hc => fun x y h1 h2 h3 hb => by
    have hl := hp p (by simp)
    have hq := hp q (by simp)
    have ht : total (p :: q :: r) = p.len + total (q :: r) := rfl
    have low : ∀ t, s ≤ t → t ≤ s + p.len → valF s (p :: q :: r) t = p.at (t - s) := by
      intro t h4 h5
      unfold valF
      split
      · rfl
      · have e : t = s + p.len := by grind
        rw [e, valF_start hq, hc.1]
        congr 1; grind
    have high : ∀ t, s + p.len ≤ t → valF s (p :: q :: r) t = valF (s + p.len) (q :: r) t := by
      intro t h4
      have h5 : ¬ t < s + p.len := by grind
      rw [valF]; simp only [if_neg h5]
    by_cases c1 : y ≤ s + p.len
    · refine (piece_mono (s := s) (p := p) h1 c1 fun v hv => hb _ ?_).congr fun t h4 h5 => low t (Rat.le_trans h1 h4) (Rat.le_trans h5 c1)
      unfold brk; rw [hv]; simp
    · by_cases c2 : s + p.len ≤ x
      · refine (valF_mono (q :: r) (s + p.len) (fun z hz => hp z (by simp at hz ⊢; exact .inr hz)) hc.2 x y c2 h2 (by rw [ht] at h3; grind) fun z hz => hb z ?_).congr fun t h4 _ => high t (Rat.le_trans c2 h4)
        unfold brk; simp; exact .inr (.inr hz)
      · exfalso
        refine hb (s + p.len) ?_ ⟨by grind, by grind⟩
        unfold brk; simp

/-! ### points between: a chain on whose links f goes one way -/
def Chn (f : Rat → Rat) : List Rat → Prop
  | x :: y :: r => x ≤ y ∧ Mono f x y ∧ Chn f (y :: r)
  | _ => True
def Asc : List Rat → Prop
  | x :: y :: r => x ≤ y ∧ Asc (y :: r)
  | _ => True
theorem Asc.le : ∀ {x : Rat} {r : List Rat}, Asc (x :: r) → ∀ z ∈ r, x ≤ z
  | _, [], _, z, h => by simp at h
  | x, y :: r, h, z, hz => by
    rcases List.mem_cons.mp hz with e | e
    · subst e; exact h.1
    · exact Rat.le_trans h.1 (Asc.le h.2 z e)
theorem Asc.tail : ∀ {x : Rat} {r : List Rat}, Asc (x :: r) → Asc r
  | _, [], _ => trivial
  | _, _ :: _, h => h.2
theorem Asc.cons : ∀ {x : Rat} {r : List Rat}, Asc r → (∀ z ∈ r, x ≤ z) → Asc (x :: r)
  | _, [], _, _ => trivial
  | _, y :: _, h, k => ⟨k y (by simp), h⟩
theorem Asc.filter {p : Rat → Bool} : ∀ {r : List Rat}, Asc r → Asc (r.filter p)
  | [], _ => trivial
  | x :: r, h => by
    rw [List.filter_cons]
    split
    · exact Asc.cons (Asc.filter h.tail) fun z hz => h.le z (List.mem_filter.mp hz).1
    · exact Asc.filter h.tail
theorem Asc.append : ∀ {l r : List Rat}, Asc l → Asc r → (∀ x ∈ l, ∀ y ∈ r, x ≤ y) → Asc (l ++ r)
  | [], _, _, h, _ => h
  | x :: l, r, h, k, b => Asc.cons (Asc.append h.tail k fun z hz y hy => b z (by simp [hz]) y hy) fun z hz => by
    rcases List.mem_append.mp hz with e | e
    · exact h.le z e
    · exact b x (by simp) z e
theorem chn_of {f : Rat → Rat} {high : Rat} : ∀ (L : List Rat) (low : Rat), low ≤ high → Asc L → (∀ z ∈ L, low ≤ z ∧ z ≤ high) → MOff f L low high → Chn f (low :: (L ++ [high]))
  | [], low, h, _, _, m => ⟨h, m low high Rat.le_refl h Rat.le_refl (by simp), trivial⟩
  | z :: L, low, h, a, b, m => by
    have bz := b z (by simp)
    refine ⟨bz.1, m low z Rat.le_refl bz.1 bz.2 fun w hw k => ?_, chn_of L z bz.2 a.tail (fun w hw => ⟨a.le w hw, (b w (by simp [hw])).2⟩) fun x y h1 h2 h3 h4 => m x y (Rat.le_trans bz.1 h1) h2 h3 fun w hw k => ?_⟩
    · rcases List.mem_cons.mp hw with e | e
      · subst e; exact Rat.lt_irrefl k.2
      · have := a.le w e; grind
    · rcases List.mem_cons.mp hw with e | e
      · subst e; grind
      · exact h4 w e k
/-- the points strictly between, with both ends -/
theorem chn_pts {f : Rat → Rat} {S : List Rat} {lo hi low high : Rat} (h0 : lo ≤ low) (h1 : low ≤ high) (h2 : high ≤ hi) (a : Asc S) (m : MOff f S lo hi) :
    Chn f (low :: (S.filter (fun z => decide (low < z ∧ z < high)) ++ [high])) := by
  refine chn_of _ low h1 a.filter (fun z hz => ?_) fun x y k1 k2 k3 k4 => m x y (Rat.le_trans h0 k1) k2 (Rat.le_trans k3 h2) fun z hz k => k4 z ?_ k
  · have := (List.mem_filter.mp hz).2
    simp at this
    exact ⟨Rat.le_of_lt this.1, Rat.le_of_lt this.2⟩
  · refine List.mem_filter.mpr ⟨hz, ?_⟩
    simp; grind
/-- what lies between the first and the last of a chain lies on a link -/
theorem Chn.link {f : Rat → Rat} : ∀ {r : List Rat} {x t : Rat}, Chn f (x :: r) → x ≤ t → t ≤ (x :: r).getLast (by simp) → r = [] ∨ ∃ u v, u ∈ x :: r ∧ v ∈ x :: r ∧ u ≤ t ∧ t ≤ v ∧ Mono f u v
  | [], _, _, _, _, _ => .inl rfl
  | y :: r, x, t, h, h1, h2 => by
    refine .inr ?_
    rcases Rat.le_total (a := t) (b := y) with k | k
    · exact ⟨x, y, by simp, by simp, h1, k, h.2.1⟩
    · rcases Chn.link h.2.2 k (by simpa using h2) with e | ⟨u, v, hu, hv, z⟩
      · subst e
        simp at h2
        exact ⟨x, y, by simp, by simp, h1, h2, h.2.1⟩
      · exact ⟨u, v, by simp at hu ⊢; exact .inr hu, by simp at hv ⊢; exact .inr hv, z⟩
/-- a value lies between the values at two points of the chain -/
theorem Chn.bounds {f : Rat → Rat} {r : List Rat} {x t : Rat} (h : Chn f (x :: r)) (h1 : x ≤ t) (h2 : t ≤ (x :: r).getLast (by simp)) : (∃ u ∈ x :: r, f u ≤ f t) ∧ (∃ v ∈ x :: r, f t ≤ f v) := by
  rcases h.link h1 h2 with e | ⟨u, v, hu, hv, k1, k2, m⟩
  · subst e
    simp at h2
    have e : t = x := Rat.le_antisymm h2 h1
    subst e
    exact ⟨⟨t, by simp, Rat.le_refl⟩, ⟨t, by simp, Rat.le_refl⟩⟩
  · rcases m.between k1 k2 with z | z
    · exact ⟨⟨u, hu, z.1⟩, ⟨v, hv, z.2⟩⟩
    · exact ⟨⟨v, hv, z.1⟩, ⟨u, hu, z.2⟩⟩

/-! ### least and greatest -/
def IsLeast (f : Rat → Rat) (low high r : Rat) : Prop := (∃ t, low ≤ t ∧ t ≤ high ∧ f t = r) ∧ ∀ t, low ≤ t → t ≤ high → r ≤ f t
def IsGreat (f : Rat → Rat) (low high r : Rat) : Prop := (∃ t, low ≤ t ∧ t ≤ high ∧ f t = r) ∧ ∀ t, low ≤ t → t ≤ high → f t ≤ r
theorem IsLeast.uniq {f : Rat → Rat} {low high r r' : Rat} (h : IsLeast f low high r) (h' : IsLeast f low high r') : r = r' := by
  obtain ⟨⟨t, a, b, e⟩, k⟩ := h
  obtain ⟨⟨t', a', b', e'⟩, k'⟩ := h'
  have := k t' a' b'
  have := k' t a b
  grind
theorem IsGreat.uniq {f : Rat → Rat} {low high r r' : Rat} (h : IsGreat f low high r) (h' : IsGreat f low high r') : r = r' := by
  obtain ⟨⟨t, a, b, e⟩, k⟩ := h
  obtain ⟨⟨t', a', b', e'⟩, k'⟩ := h'
  have := k t' a' b'
  have := k' t a b
  grind

/-! KClip2 -/
set_option linter.all false
set_option maxRecDepth 10000
set_option maxHeartbeats 400000
/-! Turning points, the normal form, how fast a motion is. Plain Lean. -/
theorem turn_in {p : Pc} {v : Rat} (h : p.turn = some v) : 0 < v ∧ v < p.len := by
  unfold Pc.turn at h
  split at h
  · cases h
  · split at h
    · cases h; assumption
    · cases h
theorem brk_gt : ∀ {tr : Trk} {s : Rat}, Pos tr → ∀ z ∈ brk s tr, s < z
  | [], s, _, z, h => by unfold brk at h; simp at h
  | p :: r, s, hp, z, h => by
    have hl := hp p (by simp)
    unfold brk at h
    rcases List.mem_append.mp h with h | h
    · cases ht : p.turn with
      | none => rw [ht] at h; simp at h
      | some v => rw [ht] at h; simp at h; have := turn_in ht; grind
    · rcases List.mem_cons.mp h with h | h
      · grind
      · have := brk_gt (fun q hq => hp q (by simp [hq])) z h; grind
theorem brk_le : ∀ {tr : Trk} {s : Rat}, Pos tr → ∀ z ∈ brk s tr, z ≤ s + total tr
  | [], s, _, z, h => by unfold brk at h; simp at h
  | p :: r, s, hp, z, h => by
    have hl := hp p (by simp)
    have hr := total_nn (tr := r) fun q hq => hp q (by simp [hq])
    have et : total (p :: r) = p.len + total r := rfl
    unfold brk at h
    rcases List.mem_append.mp h with h | h
    · cases ht : p.turn with
      | none => rw [ht] at h; simp at h
      | some v => rw [ht] at h; simp at h; have := turn_in ht; grind
    · rcases List.mem_cons.mp h with h | h
      · grind
      · have := brk_le (fun q hq => hp q (by simp [hq])) z h; grind
theorem brk_asc : ∀ {tr : Trk} {s : Rat}, Pos tr → Asc (brk s tr)
  | [], s, _ => trivial
  | p :: r, s, hp => by
    have hl := hp p (by simp)
    have hp' : Pos r := fun q hq => hp q (by simp [hq])
    unfold brk
    refine Asc.append ?_ (Asc.cons (brk_asc hp') fun z hz => Rat.le_of_lt (brk_gt hp' z hz)) ?_
    · cases p.turn with
      | none => trivial
      | some v => trivial
    · intro x hx y hy
      cases ht : p.turn with
      | none => rw [ht] at hx; simp at hx
      | some v =>
        rw [ht] at hx; simp at hx
        have := turn_in ht
        rcases List.mem_cons.mp hy with h | h
        · grind
        · have := brk_gt hp' y h; grind
theorem brk_last : ∀ {tr : Trk} {s : Rat}, tr ≠ [] → s + total tr ∈ brk s tr
  | [], _, h => absurd rfl h
  | [p], s, _ => by
    unfold brk total total
    refine List.mem_append.mpr (.inr ?_)
    have e : s + (p.len + 0) = s + p.len := by grind
    rw [e]; simp
  | p :: q :: r, s, _ => by
    have ih := brk_last (tr := q :: r) (s := s + p.len) (by simp)
    have et : total (p :: q :: r) = p.len + total (q :: r) := rfl
    unfold brk
    refine List.mem_append.mpr (.inr (List.mem_cons.mpr (.inr ?_)))
    have e : s + total (p :: q :: r) = s + p.len + total (q :: r) := by rw [et]; grind
    rw [e]; exact ih

/-- turning_points: as the program makes them -/
def tpt : Rat → Trk → List Rat
  | _, [] => []
  | s, p :: r => (if s = 0 then [] else [s]) ++ ((match p.turn with | some y => [s + y] | none => []) ++ tpt (s + p.len) r)
theorem tpt_ge : ∀ {tr : Trk} {s : Rat}, Pos tr → ∀ z ∈ tpt s tr, s ≤ z
  | [], s, _, z, h => by unfold tpt at h; simp at h
  | p :: r, s, hp, z, h => by
    have hl := hp p (by simp)
    unfold tpt at h
    rcases List.mem_append.mp h with h | h
    · split at h
      · simp at h
      · simp at h; grind
    · rcases List.mem_append.mp h with h | h
      · cases ht : p.turn with
        | none => rw [ht] at h; simp at h
        | some v => rw [ht] at h; simp at h; have := turn_in ht; grind
      · have := tpt_ge (fun q hq => hp q (by simp [hq])) z h; grind
theorem tpt_asc : ∀ {tr : Trk} {s : Rat}, Pos tr → Asc (tpt s tr)
  | [], s, _ => trivial
  | p :: r, s, hp => by
    have hl := hp p (by simp)
    have hp' : Pos r := fun q hq => hp q (by simp [hq])
    unfold tpt
    refine Asc.append ?_ (Asc.append ?_ (tpt_asc hp') ?_) ?_
    · split <;> trivial
    · cases p.turn <;> trivial
    · intro x hx y hy
      cases ht : p.turn with
      | none => rw [ht] at hx; simp at hx
      | some v =>
        rw [ht] at hx; simp at hx
        have := turn_in ht
        have := tpt_ge hp' y hy
        grind
    · intro x hx y hy
      split at hx
      · simp at hx
      · simp at hx
        subst hx
        rcases List.mem_append.mp hy with h | h
        · cases ht : p.turn with
          | none => rw [ht] at h; simp at h
          | some v => rw [ht] at h; simp at h; have := turn_in ht; grind
        · have := tpt_ge hp' y h; grind
theorem brk_tpt : ∀ {tr : Trk} {s : Rat}, Pos tr → 0 ≤ s → ∀ z ∈ brk s tr, z ∈ tpt s tr ∨ z = s + total tr
  | [], s, _, _, z, h => by unfold brk at h; simp at h
  | p :: r, s, hp, hs, z, h => by
    have hl := hp p (by simp)
    have hp' : Pos r := fun q hq => hp q (by simp [hq])
    have et : total (p :: r) = p.len + total r := rfl
    unfold brk at h
    unfold tpt
    rcases List.mem_append.mp h with h | h
    · exact .inl (List.mem_append.mpr (.inr (List.mem_append.mpr (.inl h))))
    · have tail : ∀ w, w ∈ tpt (s + p.len) r → w ∈ (if s = 0 then [] else [s]) ++ ((match p.turn with | some y => [s + y] | none => []) ++ tpt (s + p.len) r) := fun w hw => List.mem_append.mpr (.inr (List.mem_append.mpr (.inr hw)))
      rcases List.mem_cons.mp h with e | h
      · cases r with
        | nil => refine .inr ?_; rw [e, et]; unfold total; grind
        | cons q r =>
          refine .inl (tail _ ?_)
          unfold tpt
          rw [if_neg (by grind)]
          rw [e]; simp
      · rcases brk_tpt hp' (by grind) z h with k | k
        · exact .inl (tail _ k)
        · exact .inr (by rw [k, et]; grind)
theorem valF_mono_t {tr : Trk} (hp : Pos tr) (hc : Cont tr) : MOff (valF 0 tr) (tpt 0 tr) 0 (total tr) := fun x y h1 h2 h3 h4 =>
  valF_mono tr 0 hp hc x y h1 h2 (by grind) fun z hz k => by
    rcases brk_tpt hp Rat.le_refl z hz with h | h
    · exact h4 z h k
    · rw [h] at k; grind

/-! ### what a show has: the place is kept within the clip -/
def clampQ (T x : Rat) : Rat := if x < 0 then 0 else if T < x then T else x
def shownF (tr : Trk) (x : Rat) : Rat := valF 0 tr (clampQ (total tr) x)
theorem clamp_in {T x : Rat} (h : 0 ≤ T) : 0 ≤ clampQ T x ∧ clampQ T x ≤ T := by unfold clampQ; grind
theorem clamp_mono {T x y : Rat} (hT : 0 ≤ T) (h : x ≤ y) : clampQ T x ≤ clampQ T y := by unfold clampQ; grind
theorem clamp_id {T x : Rat} (h : 0 ≤ x) (h2 : x ≤ T) : clampQ T x = x := by unfold clampQ; grind
theorem shown_mono {tr : Trk} (hn : tr ≠ []) (hp : Pos tr) (hc : Cont tr) (lo hi : Rat) : MOff (shownF tr) (0 :: brk 0 tr) lo hi := fun x y _ h2 _ h4 => by
  have hT := total_nn hp
  have h0 := h4 0 (by simp)
  have hl := h4 (total tr) (by
    have := brk_last (s := 0) hn
    rw [Rat.zero_add] at this
    simp [this])
  by_cases c1 : y ≤ 0
  · refine .inl fun t u k1 k2 k3 => ?_
    have e : clampQ (total tr) t = clampQ (total tr) u := by unfold clampQ; grind
    unfold shownF; rw [e]; exact Rat.le_refl
  · by_cases c2 : total tr ≤ x
    · refine .inl fun t u k1 k2 k3 => ?_
      have e : clampQ (total tr) t = clampQ (total tr) u := by unfold clampQ; grind
      unfold shownF; rw [e]; exact Rat.le_refl
    · have k1 : 0 ≤ x := by grind
      have k2 : y ≤ total tr := by grind
      refine (valF_mono tr 0 hp hc x y k1 h2 (by grind) fun z hz k => h4 z (by simp [hz]) k).congr fun t m1 m2 => ?_
      unfold shownF
      rw [clamp_id (Rat.le_trans k1 m1) (Rat.le_trans m2 k2)]

/-! ### the normal form -/
def laterIs (l p : Pc) : Prop := l.at l.len = p.a ∧ l.slope l.len = p.b ∧ l.c = p.c
instance (l p : Pc) : Decidable (laterIs l p) := by unfold laterIs; infer_instance
def nrm : Pc → Trk → Trk
  | l, [] => [l]
  | l, p :: r => if laterIs l p then nrm ⟨l.len + p.len, l.a, l.b, l.c⟩ r else l :: nrm p r
theorem later_at {l p : Pc} (h : laterIs l p) (y : Rat) : p.at y = l.at (l.len + y) := by
  obtain ⟨h1, h2, h3⟩ := h
  unfold Pc.at Pc.slope at *
  grind
theorem nrm_ne (l : Pc) : ∀ (r : Trk), nrm l r ≠ []
  | [] => by unfold nrm; simp
  | p :: r => by
    unfold nrm
    split
    · exact nrm_ne _ r
    · simp
theorem nrm_head : ∀ (r : Trk) (l : Pc), ∃ q t, nrm l r = q :: t ∧ q.a = l.a
  | [], l => ⟨l, [], rfl, rfl⟩
  | p :: r, l => by
    unfold nrm
    split
    · obtain ⟨q, t, e, h⟩ := nrm_head r ⟨l.len + p.len, l.a, l.b, l.c⟩
      exact ⟨q, t, e, h⟩
    · exact ⟨l, _, rfl, rfl⟩
theorem nrm_total : ∀ (r : Trk) (l : Pc), total (nrm l r) = l.len + total r
  | [], l => rfl
  | p :: r, l => by
    unfold nrm
    split
    · rw [nrm_total r]; show l.len + p.len + total r = l.len + (p.len + total r); grind
    · show l.len + total (nrm p r) = l.len + total (p :: r)
      rw [nrm_total r]; rfl
theorem nrm_all {P : Pc → Prop} (hm : ∀ l p : Pc, P l → P p → P ⟨l.len + p.len, l.a, l.b, l.c⟩) : ∀ (r : Trk) (l : Pc), P l → (∀ p ∈ r, P p) → ∀ p ∈ nrm l r, P p
  | [], l, h, _, p, hp => by unfold nrm at hp; simp at hp; subst hp; exact h
  | q :: r, l, h, hr, p, hp => by
    unfold nrm at hp
    split at hp
    · exact nrm_all hm r _ (hm _ _ h (hr q (by simp))) (fun z hz => hr z (by simp [hz])) p hp
    · rcases List.mem_cons.mp hp with e | e
      · subst e; exact h
      · exact nrm_all hm r q (hr q (by simp)) (fun z hz => hr z (by simp [hz])) p e
theorem valF_merge {s : Rat} {l p : Pc} {r : Trk} (h : laterIs l p) (hl : 0 < l.len) (hp : 0 < p.len) (x : Rat) : valF s (⟨l.len + p.len, l.a, l.b, l.c⟩ :: r) x = valF s (l :: p :: r) x := by
  have e : ∀ y, (⟨l.len + p.len, l.a, l.b, l.c⟩ : Pc).at y = l.at y := fun y => rfl
  have e2 : p.at (x - (s + l.len)) = l.at (x - s) := by rw [later_at h]; congr 1; grind
  cases r with
  | nil =>
    have h1 : valF s [⟨l.len + p.len, l.a, l.b, l.c⟩] x = l.at (x - s) := rfl
    have h2 : valF s [l, p] x = if x < s + l.len then l.at (x - s) else p.at (x - (s + l.len)) := rfl
    rw [h1, h2, e2]; split <;> rfl
  | cons q r =>
    have h1 : valF s (⟨l.len + p.len, l.a, l.b, l.c⟩ :: q :: r) x = if x < s + (l.len + p.len) then l.at (x - s) else valF (s + (l.len + p.len)) (q :: r) x := rfl
    have h2 : valF s (l :: p :: q :: r) x = if x < s + l.len then l.at (x - s) else if x < s + l.len + p.len then p.at (x - (s + l.len)) else valF (s + l.len + p.len) (q :: r) x := rfl
    rw [h1, h2, e2]
    have e3 : s + (l.len + p.len) = s + l.len + p.len := by grind
    rw [e3]
    by_cases c1 : x < s + l.len
    · rw [if_pos c1, if_pos (by grind)]
    · rw [if_neg c1]
theorem valF_tail {s : Rat} {l : Pc} {r r' : Trk} (hn : r ≠ []) (hn' : r' ≠ []) (e : ∀ x, valF (s + l.len) r x = valF (s + l.len) r' x) (x : Rat) : valF s (l :: r) x = valF s (l :: r') x := by
  cases r with
  | nil => exact absurd rfl hn
  | cons p r =>
    cases r' with
    | nil => exact absurd rfl hn'
    | cons p' r' =>
      show (if x < s + l.len then _ else valF (s + l.len) (p :: r) x) = (if x < s + l.len then _ else valF (s + l.len) (p' :: r') x)
      rw [e]
theorem nrm_val : ∀ (r : Trk) (l : Pc) (s : Rat), 0 < l.len → Pos r → ∀ x, valF s (nrm l r) x = valF s (l :: r) x
  | [], l, s, _, _, x => rfl
  | p :: r, l, s, hl, hr, x => by
    have hp := hr p (by simp)
    have hr' : Pos r := fun q hq => hr q (by simp [hq])
    unfold nrm
    split
    · rename_i h
      rw [nrm_val r _ s (by show 0 < l.len + p.len; grind) hr', valF_merge h hl hp]
    · exact valF_tail (nrm_ne _ _) (by simp) (fun x => nrm_val r p _ hp hr' x) x
theorem cont_cons {l : Pc} {q : Pc} {t : Trk} (h : q.a = l.at l.len) (k : Cont (q :: t)) : Cont (l :: q :: t) := ⟨h, k⟩
theorem nrm_cont : ∀ (r : Trk) (l : Pc), Cont (l :: r) → Cont (nrm l r)
  | [], l, _ => trivial
  | p :: r, l, h => by
    unfold nrm
    split
    · rename_i k
      refine nrm_cont r _ ?_
      cases r with
      | nil => trivial
      | cons q r =>
        refine cont_cons ?_ h.2.2
        rw [h.2.1, later_at k]; rfl
    · obtain ⟨q, t, e, ha⟩ := nrm_head r p
      have ih := nrm_cont r p h.2
      rw [e] at ih ⊢
      exact cont_cons (by rw [ha, h.1]) ih
theorem nrm_pos (r : Trk) (l : Pc) (hl : 0 < l.len) (hr : Pos r) : Pos (nrm l r) := nrm_all (P := fun p => 0 < p.len) (fun l p h1 h2 => by show 0 < l.len + p.len; grind) r l hl hr

/-! ### how fast -/
def Lip (f : Rat → Rat) (L x y : Rat) : Prop := ∀ t u, x ≤ t → t ≤ u → u ≤ y → f u - f t ≤ L * (u - t) ∧ f t - f u ≤ L * (u - t)
theorem lip_piece {p : Pc} {L : Rat} (hb : -5 ≤ p.b ∧ p.b ≤ 5) (hc : -2 ≤ p.c ∧ p.c ≤ 2) (hl : 0 ≤ p.len ∧ p.len ≤ 30) (hL : L = 125) : Lip p.at L 0 p.len := fun t u h1 h2 h3 => by
  have e := at_diff p t u
  have c1 : p.c * (t + u) ≤ 120 := by
    have := mul_nn (show 0 ≤ 2 - p.c by grind) (show 0 ≤ t + u by grind)
    grind
  have c2 : -120 ≤ p.c * (t + u) := by
    have := mul_nn (show 0 ≤ 2 + p.c by grind) (show 0 ≤ t + u by grind)
    grind
  have d1 := mul_nn (show 0 ≤ u - t by grind) (show 0 ≤ 125 - (p.b + p.c * (t + u)) by grind)
  have d2 := mul_nn (show 0 ≤ u - t by grind) (show 0 ≤ 125 + (p.b + p.c * (t + u)) by grind)
  subst hL
  constructor <;> grind
structure Slow (p : Pc) : Prop where
  b : -5 ≤ p.b ∧ p.b ≤ 5
  c : -2 ≤ p.c ∧ p.c ≤ 2
theorem lip_valF : ∀ (tr : Trk) (s : Rat), Pos tr → Cont tr → (∀ p ∈ tr, Slow p) → total tr ≤ 30 → Lip (valF s tr) 125 s (s + total tr)
  | [], s, _, _, _, _ => fun t u h1 h2 h3 => by unfold valF; grind
  | [p], s, hp, _, hs, ht => fun t u h1 h2 h3 => by
    have hl := hp p (by simp)
    have et : total [p] = p.len + 0 := rfl
    have k := lip_piece (p := p) (hs p (by simp)).b (hs p (by simp)).c ⟨by grind, by grind⟩ rfl (t - s) (u - s) (by grind) (by grind) (by grind)
    have e : ∀ x, valF s [p] x = p.at (x - s) := fun _ => rfl
    rw [e, e]
    grind
  | p :: q :: r, s, hp, hc, hs, ht => fun t u h1 h2 h3 => by
    have hl := hp p (by simp)
    have hq := hp q (by simp)
    have et : total (p :: q :: r) = p.len + total (q :: r) := rfl
    have hp' : Pos (q :: r) := fun z hz => hp z (by simp at hz ⊢; exact .inr hz)
    have hr := total_nn hp'
    have low : ∀ t, s ≤ t → t ≤ s + p.len → valF s (p :: q :: r) t = p.at (t - s) := by
      intro t h4 h5
      unfold valF
      split
      · rfl
      · have e : t = s + p.len := by grind
        rw [e, valF_start hq, hc.1]
        congr 1; grind
    have high : ∀ t, s + p.len ≤ t → valF s (p :: q :: r) t = valF (s + p.len) (q :: r) t := by
      intro t h4
      have h5 : ¬ t < s + p.len := by grind
      rw [valF]; simp only [if_neg h5]
    have ih := lip_valF (q :: r) (s + p.len) hp' hc.2 (fun z hz => hs z (by simp at hz ⊢; exact .inr hz)) (by grind)
    have ip := lip_piece (p := p) (hs p (by simp)).b (hs p (by simp)).c ⟨by grind, by grind⟩ rfl
    by_cases c1 : u ≤ s + p.len
    · rw [low t h1 (by grind), low u (by grind) c1]
      have := ip (t - s) (u - s) (by grind) (by grind) (by grind)
      grind
    · by_cases c2 : s + p.len ≤ t
      · rw [high t c2, high u (by grind)]
        exact ih t u c2 h2 (by grind)
      · have m1 := low t h1 (by grind)
        have m2 := low (s + p.len) (by grind) (by grind)
        have m3 := high (s + p.len) (by grind)
        have m4 := high u (by grind)
        have k1 := ip (t - s) (s + p.len - s) (by grind) (by grind) (by grind)
        have k2 := ih (s + p.len) u (by grind) (by grind) (by grind)
        rw [m1, m4]
        grind
theorem lip_shown {tr : Trk} (hp : Pos tr) (hc : Cont tr) (hs : ∀ p ∈ tr, Slow p) (ht : total tr ≤ 30) (x y : Rat) : Lip (shownF tr) 125 x y := fun t u _ h2 _ => by
  have hT := total_nn hp
  have k := lip_valF tr 0 hp hc hs ht (clampQ (total tr) t) (clampQ (total tr) u) (clamp_in hT).1 (clamp_mono hT h2) (by have := (clamp_in (x := u) hT).2; grind)
  have d : clampQ (total tr) u - clampQ (total tr) t ≤ u - t := by unfold clampQ; grind
  unfold shownF
  grind

/-! KClip3 -/
set_option linter.all false
set_option maxRecDepth 10000
set_option maxHeartbeats 400000
/-! Which tracks are met: bounds. Plain Lean. -/
/-- sixths -/
def Sx (q : Rat) : Prop := ∃ z : Int, q = Rat.divInt z 6
theorem sx_mul {q : Rat} : Sx q ↔ ∃ z : Int, q * 6 = z := by
  constructor
  · rintro ⟨z, rfl⟩
    refine ⟨z, ?_⟩
    rw [Rat.divInt_eq_div]
    grind
  · rintro ⟨z, h⟩
    refine ⟨z, ?_⟩
    rw [Rat.divInt_eq_div]
    grind
theorem Sx.add {a b : Rat} (h : Sx a) (k : Sx b) : Sx (a + b) := by
  obtain ⟨z, hz⟩ := sx_mul.mp h
  obtain ⟨w, hw⟩ := sx_mul.mp k
  refine sx_mul.mpr ⟨z + w, ?_⟩
  rw [Rat.intCast_add]; grind
theorem Sx.neg {a : Rat} (h : Sx a) : Sx (-a) := by
  obtain ⟨z, hz⟩ := sx_mul.mp h
  refine sx_mul.mpr ⟨-z, ?_⟩
  rw [Rat.intCast_neg]; grind
theorem Sx.sub {a b : Rat} (h : Sx a) (k : Sx b) : Sx (a - b) := by
  rw [Rat.sub_eq_add_neg]; exact h.add k.neg
theorem Sx.zero : Sx 0 := ⟨0, rfl⟩
theorem Sx.bd {q : Rat} {M n : Nat} (h : Sx q) (h1 : -(M : Rat) ≤ q) (h2 : q ≤ M) (hn : 6 * M < 2 ^ n) (h6 : 6 < 2 ^ n) (h0 : 0 < n) : Bd n q := by
  obtain ⟨z, hz⟩ := id h
  obtain ⟨w, hw⟩ := sx_mul.mp h
  have e : (z : Rat) = w := by
    rw [hz, Rat.divInt_eq_div] at hw; grind
  have e : z = w := Rat.intCast_inj.mp e
  subst e
  have b1 : ((-(6 * (M : Int)) : Int) : Rat) ≤ (z : Rat) := by
    rw [Rat.intCast_neg, Rat.intCast_mul, ← hw]; push_cast; grind
  have b2 : (z : Rat) ≤ ((6 * (M : Int) : Int) : Rat) := by
    rw [Rat.intCast_mul, ← hw]; push_cast; grind
  have b1 := Rat.intCast_le_intCast.mp b1
  have b2 := Rat.intCast_le_intCast.mp b2
  rw [hz]
  refine bd_divInt ?_ ?_ h0
  · omega
  · simpa using h6
structure PcOk (p : Pc) : Prop where
  sx : Sx p.len
  pos : 0 < p.len
  slow : Slow p
  ba : Bd 300 p.a
  bb : Bd 20 p.b
  bc : Bd 20 p.c
structure TrOk (tr : Trk) : Prop where
  ne : tr ≠ []
  all : ∀ p ∈ tr, PcOk p
  cont : Cont tr
  tot : total tr ≤ 30
  len : tr.length ≤ 12
theorem TrOk.p {tr : Trk} (h : TrOk tr) : Pos tr := fun p hp => (h.all p hp).pos
theorem sx_total : ∀ {tr : Trk}, (∀ p ∈ tr, Sx p.len) → Sx (total tr)
  | [], _ => Sx.zero
  | p :: r, h => (h p (by simp)).add (sx_total fun q hq => h q (by simp [hq]))
theorem total_take : ∀ {tr : Trk} (k : Nat), Pos tr → total (tr.take k) ≤ total tr
  | [], k, _ => by simp
  | p :: r, 0, h => by
    have := total_nn h
    simpa [total] using this
  | p :: r, k + 1, h => by
    have := total_take (tr := r) k fun q hq => h q (by simp [hq])
    show p.len + total (r.take k) ≤ p.len + total r
    grind
theorem total_nn_take {tr : Trk} (k : Nat) (h : Pos tr) : 0 ≤ total (tr.take k) := total_nn fun p hp => h p (List.mem_of_mem_take hp)
theorem TrOk.bd_start {tr : Trk} (h : TrOk tr) (k : Nat) : Bd 10 (total (tr.take k)) := by
  have h1 := total_nn_take k h.p
  have h2 := total_take k h.p
  have h3 := h.tot
  exact Sx.bd (M := 30) (sx_total fun p hp => (h.all p (List.mem_of_mem_take hp)).sx) (by push_cast; grind) (by push_cast; grind) (by decide) (by decide) (by decide)
theorem len_le_total : ∀ {tr : Trk}, Pos tr → ∀ p ∈ tr, p.len ≤ total tr
  | [], _, p, h => by simp at h
  | q :: r, hp, p, h => by
    have hr := total_nn (tr := r) fun z hz => hp z (by simp [hz])
    have hq := hp q (by simp)
    have et : total (q :: r) = q.len + total r := rfl
    rcases List.mem_cons.mp h with e | e
    · subst e; grind
    · have := len_le_total (fun z hz => hp z (by simp [hz])) p e; grind
theorem PcOk.bd_len {p : Pc} (h : PcOk p) (k : p.len ≤ 30) : Bd 10 p.len := by
  have := h.pos
  exact Sx.bd (M := 30) h.sx (by push_cast; grind) (by push_cast; grind) (by decide) (by decide) (by decide)
theorem TrOk.bd_len {tr : Trk} (h : TrOk tr) {p : Pc} (hp : p ∈ tr) : Bd 10 p.len := (h.all p hp).bd_len (Rat.le_trans (len_le_total h.p p hp) h.tot)
theorem TrOk.bd_total {tr : Trk} (h : TrOk tr) : Bd 10 (total tr) := by
  have := h.bd_start tr.length
  rwa [List.take_length] at this
theorem total_snoc : ∀ (l : Trk) (p : Pc), total (l ++ [p]) = total l + p.len
  | [], p => by show p.len + 0 = 0 + p.len; grind
  | q :: l, p => by
    have := total_snoc l p
    show q.len + total (l ++ [p]) = q.len + total l + p.len
    grind
theorem total_append : ∀ (l r : Trk), total (l ++ r) = total l + total r
  | [], r => by show total r = 0 + total r; grind
  | q :: l, r => by
    have := total_append l r
    show q.len + total (l ++ r) = q.len + total l + total r
    grind
theorem bd_at {p : Pc} (h : PcOk p) {y : Rat} (hy : Bd 2011 y) : Bd 4400 (p.at y) := bd_add h.ba (bd_mul hy (bd_add h.bb (bd_mul h.bc hy (Nat.le_refl _)) (Nat.le_refl _)) (Nat.le_refl _)) (by decide)
/-- the value is that of a piece at a place -/
theorem valF_piece : ∀ (tr : Trk) (s x : Rat), tr ≠ [] → ∃ (k : Nat) (p : Pc), tr[k]? = some p ∧ valF s tr x = p.at (x - (s + total (tr.take k)))
  | [], _, _, h => absurd rfl h
  | [p], s, x, _ => ⟨0, p, rfl, by
    show p.at (x - s) = p.at (x - (s + 0))
    congr 1; grind⟩
  | p :: q :: r, s, x, _ => by
    have e : valF s (p :: q :: r) x = if x < s + p.len then p.at (x - s) else valF (s + p.len) (q :: r) x := rfl
    by_cases c : x < s + p.len
    · refine ⟨0, p, rfl, ?_⟩
      rw [e, if_pos c]
      show p.at (x - s) = p.at (x - (s + 0))
      congr 1; grind
    · obtain ⟨k, p', h1, h2⟩ := valF_piece (q :: r) (s + p.len) x (by simp)
      refine ⟨k + 1, p', by rw [List.getElem?_cons_succ]; exact h1, ?_⟩
      rw [e, if_neg c, h2]
      show p'.at (x - (s + p.len + total ((q :: r).take k))) = p'.at (x - (s + (p.len + total ((q :: r).take k))))
      congr 1; grind
theorem TrOk.bd_val {tr : Trk} (h : TrOk tr) {x : Rat} (hx : Bd 2000 x) : Bd 4400 (valF 0 tr x) := by
  obtain ⟨k, p, h1, h2⟩ := valF_piece tr 0 x h.ne
  rw [h2]
  have e : x - (0 + total (tr.take k)) = x - total (tr.take k) := by grind
  rw [e]
  exact bd_at (h.all p (List.mem_of_getElem? h1)) (bd_sub hx (h.bd_start k) (by decide))
theorem bd_zero : Bd 1 (0 : Rat) := ⟨by decide, by decide⟩
theorem bd_clamp {T x : Rat} {n : Nat} (hT : Bd n T) (hx : Bd n x) : Bd n (clampQ T x) := by
  have := bd_pos hx
  unfold clampQ
  split
  · exact bd_zero.mono (by omega)
  · split
    · exact hT
    · exact hx
theorem TrOk.bd_shown {tr : Trk} (h : TrOk tr) {x : Rat} (hx : Bd 2000 x) : Bd 4400 (shownF tr x) := h.bd_val (bd_clamp (h.bd_total.mono (by decide)) hx)
theorem bd_turn {p : Pc} (h : PcOk p) {v : Rat} (ht : p.turn = some v) : Bd 50 v := by
  unfold Pc.turn at ht
  split at ht
  · cases ht
  · split at ht
    · cases ht
      have b2 : Bd 2 (2 : Rat) := ⟨by decide, by decide⟩
      exact bd_div (bd_sub bd_zero h.bb (Nat.le_refl _)) (bd_mul b2 h.bc (Nat.le_refl _)) (by decide)
    · cases ht
theorem nrm_len : ∀ (r : Trk) (l : Pc), (nrm l r).length ≤ r.length + 1
  | [], l => by unfold nrm; simp
  | p :: r, l => by
    unfold nrm
    split
    · have := nrm_len r ⟨l.len + p.len, l.a, l.b, l.c⟩
      simp at this ⊢; omega
    · have := nrm_len r p
      simp at this ⊢; omega
theorem PcOk.merge {l p : Pc} (h : PcOk l) (k : PcOk p) : PcOk ⟨l.len + p.len, l.a, l.b, l.c⟩ :=
  ⟨h.sx.add k.sx, by have := h.pos; have := k.pos; show 0 < l.len + p.len; grind, ⟨h.slow.b, h.slow.c⟩, h.ba, h.bb, h.bc⟩
theorem TrOk.nrm {l : Pc} {r : Trk} (h : TrOk (l :: r)) : TrOk (nrm l r) where
  ne := nrm_ne l r
  all := nrm_all (P := PcOk) (fun l p h k => h.merge k) r l (h.all l (by simp)) fun p hp => h.all p (by simp [hp])
  cont := nrm_cont r l h.cont
  tot := by rw [nrm_total]; exact h.tot
  len := by have := nrm_len r l; have := h.len; simp at this; omega
def nrmT : Trk → Trk
  | [] => []
  | l :: r => nrm l r
theorem TrOk.nrmT {tr : Trk} (h : TrOk tr) : TrOk (nrmT tr) := by
  cases tr with
  | nil => exact absurd rfl h.ne
  | cons l r => exact h.nrm
theorem nrmT_total {tr : Trk} : total (nrmT tr) = total tr := by
  cases tr with
  | nil => rfl
  | cons l r => exact nrm_total r l
theorem nrmT_val {tr : Trk} (h : Pos tr) (x : Rat) : valF 0 (nrmT tr) x = valF 0 tr x := by
  cases tr with
  | nil => rfl
  | cons l r => exact nrm_val r l 0 (h l (by simp)) (fun p hp => h p (by simp [hp])) x
theorem nrmT_shown {tr : Trk} (h : Pos tr) (x : Rat) : shownF (nrmT tr) x = shownF tr x := by
  unfold shownF; rw [nrmT_total, nrmT_val h]
/-- the points of scenes.turning_positions: 0 and where the normal form meets or turns -/
theorem brk_bd {tr : Trk} : ∀ (s : Rat), (∀ p ∈ tr, PcOk p) → (∀ k, Bd 10 (s + total (tr.take k))) → ∀ z ∈ brk s tr, Bd 61 z := by
  induction tr with
  | nil => intro s _ _ z h; unfold brk at h; simp at h
  | cons p r ih =>
    intro s hp hs z h
    have h0 := hs 0
    have h1 := hs 1
    have e0 : s + total (List.take 0 (p :: r)) = s := by show s + 0 = s; grind
    have e1 : s + total (List.take 1 (p :: r)) = s + p.len := by show s + (p.len + 0) = s + p.len; grind
    rw [e0] at h0; rw [e1] at h1
    unfold brk at h
    rcases List.mem_append.mp h with h | h
    · cases ht : p.turn with
      | none => rw [ht] at h; simp at h
      | some v =>
        rw [ht] at h; simp at h
        rw [h]
        exact bd_add h0 (bd_turn (hp p (by simp)) ht) (by decide)
    · rcases List.mem_cons.mp h with h | h
      · rw [h]; exact h1.mono (by decide)
      · refine ih (s + p.len) (fun q hq => hp q (by simp [hq])) (fun k => ?_) z h
        have := hs (k + 1)
        have e : s + total (List.take (k + 1) (p :: r)) = s + p.len + total (List.take k r) := by show s + (p.len + total (List.take k r)) = _; grind
        rw [e] at this; exact this
theorem TrOk.brk_bd {tr : Trk} (h : TrOk tr) : ∀ z ∈ brk 0 tr, Bd 61 z := Sc.brk_bd 0 h.all fun k => by
  have e : 0 + total (tr.take k) = total (tr.take k) := by grind
  rw [e]; exact h.bd_start k
theorem tpt_bd {tr : Trk} : ∀ (s : Rat), (∀ p ∈ tr, PcOk p) → (∀ k, Bd 10 (s + total (tr.take k))) → ∀ z ∈ tpt s tr, Bd 61 z := by
  induction tr with
  | nil => intro s _ _ z h; unfold tpt at h; simp at h
  | cons p r ih =>
    intro s hp hs z h
    have h0 := hs 0
    have e0 : s + total (List.take 0 (p :: r)) = s := by show s + 0 = s; grind
    rw [e0] at h0
    unfold tpt at h
    rcases List.mem_append.mp h with h | h
    · split at h
      · simp at h
      · simp at h; rw [h]; exact h0.mono (by decide)
    · rcases List.mem_append.mp h with h | h
      · cases ht : p.turn with
        | none => rw [ht] at h; simp at h
        | some v =>
          rw [ht] at h; simp at h
          rw [h]
          exact bd_add h0 (bd_turn (hp p (by simp)) ht) (by decide)
      · refine ih (s + p.len) (fun q hq => hp q (by simp [hq])) (fun k => ?_) z h
        have := hs (k + 1)
        have e : s + total (List.take (k + 1) (p :: r)) = s + p.len + total (List.take k r) := by show s + (p.len + total (List.take k r)) = _; grind
        rw [e] at this; exact this
theorem TrOk.tpt_bd {tr : Trk} (h : TrOk tr) : ∀ z ∈ tpt 0 tr, Bd 61 z := Sc.tpt_bd 0 h.all fun k => by
  have e : 0 + total (tr.take k) = total (tr.take k) := by grind
  rw [e]; exact h.bd_start k
theorem tpt_len : ∀ (tr : Trk) (s : Rat), (tpt s tr).length ≤ 2 * tr.length
  | [], _ => by unfold tpt; simp
  | p :: r, s => by
    have := tpt_len r (s + p.len)
    unfold tpt
    cases p.turn <;> by_cases h : s = 0 <;> simp [h] at this ⊢ <;> omega
theorem brk_len : ∀ (tr : Trk) (s : Rat), (brk s tr).length ≤ 2 * tr.length
  | [], _ => by unfold brk; simp
  | p :: r, s => by
    have := brk_len r (s + p.len)
    unfold brk
    cases p.turn <;> simp at this ⊢ <;> omega

/-! KClip4 -/
set_option linter.all false
set_option maxRecDepth 10000
set_option maxHeartbeats 400000
theorem bd_at_n {p : Pc} (h : PcOk p) {y : Rat} {n : Nat} (hy : Bd n y) : Bd (2 * n + 342) (p.at y) :=
  bd_add h.ba (bd_mul hy (bd_add h.bb (bd_mul h.bc hy (Nat.le_refl _)) (Nat.le_refl _)) (Nat.le_refl _)) (by omega)
theorem TrOk.bd_val_n {tr : Trk} (h : TrOk tr) {x : Rat} {n : Nat} (hx : Bd n x) : Bd (2 * n + 364) (valF 0 tr x) := by
  obtain ⟨k, p, h1, h2⟩ := valF_piece tr 0 x h.ne
  rw [h2]
  have e : x - (0 + total (tr.take k)) = x - total (tr.take k) := by grind
  rw [e]
  exact (bd_at_n (h.all p (List.mem_of_getElem? h1)) (bd_sub hx (h.bd_start k) (Nat.le_refl _))).mono (by omega)
theorem TrOk.bd_shown_n {tr : Trk} (h : TrOk tr) {x : Rat} {n : Nat} (hn : 10 ≤ n) (hx : Bd n x) : Bd (2 * n + 364) (shownF tr x) := h.bd_val_n (bd_clamp (h.bd_total.mono hn) hx)
theorem last_cs (x y : Rat) (l : List Rat) (h : x :: (l ++ [y]) ≠ []) : (x :: (l ++ [y])).getLast h = y := by
  rw [List.getLast_cons (by simp)]
  exact List.getLast_concat
/-- the points of clips.values_between -/
def vpts (tr : Trk) (x y : Rat) : List Rat := x :: ((tpt 0 tr).filter (fun z => decide (x < z ∧ z < y)) ++ [y])
theorem vpts_least {tr : Trk} (h : TrOk tr) {x y : Rat} (h0 : 0 ≤ x) (h1 : x ≤ y) (h2 : y ≤ total tr) {qs : List Rat} (hq : ∀ q, q ∈ qs ↔ ∃ p ∈ vpts tr x y, q = valF 0 tr p) :
    (∀ q ∈ qs, (∀ z ∈ qs, q ≤ z) → IsLeast (valF 0 tr) x y q) ∧ (∀ q ∈ qs, (∀ z ∈ qs, z ≤ q) → IsGreat (valF 0 tr) x y q) := by
  have c := chn_pts (f := valF 0 tr) (low := x) (high := y) h0 h1 h2 (tpt_asc h.p) (valF_mono_t h.p h.cont)
  have inn : ∀ p ∈ vpts tr x y, x ≤ p ∧ p ≤ y := by
    intro p hp
    unfold vpts at hp
    rcases List.mem_cons.mp hp with e | e
    · subst e; exact ⟨Rat.le_refl, h1⟩
    · rcases List.mem_append.mp e with e | e
      · have := (List.mem_filter.mp e).2
        simp at this
        exact ⟨Rat.le_of_lt this.1, Rat.le_of_lt this.2⟩
      · simp at e; subst e; exact ⟨h1, Rat.le_refl⟩
  have bounds : ∀ t, x ≤ t → t ≤ y → (∃ u ∈ qs, u ≤ valF 0 tr t) ∧ (∃ v ∈ qs, valF 0 tr t ≤ v) := by
    intro t k1 k2
    obtain ⟨⟨u, hu, e1⟩, v, hv, e2⟩ := c.bounds k1 (by rw [last_cs]; exact k2)
    exact ⟨⟨_, (hq _).mpr ⟨u, hu, rfl⟩, e1⟩, ⟨_, (hq _).mpr ⟨v, hv, rfl⟩, e2⟩⟩
  constructor
  · intro q hq1 hmin
    obtain ⟨p, hp, e⟩ := (hq q).mp hq1
    refine ⟨⟨p, (inn p hp).1, (inn p hp).2, e.symm⟩, fun t k1 k2 => ?_⟩
    obtain ⟨⟨u, hu, e1⟩, _⟩ := bounds t k1 k2
    exact Rat.le_trans (hmin u hu) e1
  · intro q hq1 hmax
    obtain ⟨p, hp, e⟩ := (hq q).mp hq1
    refine ⟨⟨p, (inn p hp).1, (inn p hp).2, e.symm⟩, fun t k1 k2 => ?_⟩
    obtain ⟨_, v, hv, e1⟩ := bounds t k1 k2
    exact Rat.le_trans e1 (hmax v hv)
theorem clamp_pre {T low high t : Rat} (hT : 0 ≤ T) (h : low ≤ high) (h1 : clampQ T low ≤ t) (h2 : t ≤ clampQ T high) : ∃ t', low ≤ t' ∧ t' ≤ high ∧ clampQ T t' = t := by
  by_cases c1 : T < low
  · refine ⟨low, Rat.le_refl, h, ?_⟩
    unfold clampQ at *; grind
  · by_cases c2 : high < 0
    · refine ⟨high, h, Rat.le_refl, ?_⟩
      unfold clampQ at *; grind
    · refine ⟨t, ?_, ?_, ?_⟩ <;> (unfold clampQ at *; grind)
theorem least_shown {tr : Trk} (hT : 0 ≤ total tr) {low high r : Rat} (h : low ≤ high) (k : IsLeast (valF 0 tr) (clampQ (total tr) low) (clampQ (total tr) high) r) : IsLeast (shownF tr) low high r := by
  obtain ⟨⟨t, a, b, e⟩, m⟩ := k
  obtain ⟨t', h1, h2, h3⟩ := clamp_pre hT h a b
  refine ⟨⟨t', h1, h2, by unfold shownF; rw [h3, e]⟩, fun u k1 k2 => ?_⟩
  exact m _ (clamp_mono hT k1) (clamp_mono hT k2)
theorem great_shown {tr : Trk} (hT : 0 ≤ total tr) {low high r : Rat} (h : low ≤ high) (k : IsGreat (valF 0 tr) (clampQ (total tr) low) (clampQ (total tr) high) r) : IsGreat (shownF tr) low high r := by
  obtain ⟨⟨t, a, b, e⟩, m⟩ := k
  obtain ⟨t', h1, h2, h3⟩ := clamp_pre hT h a b
  refine ⟨⟨t', h1, h2, by unfold shownF; rw [h3, e]⟩, fun u k1 k2 => ?_⟩
  exact m _ (clamp_mono hT k1) (clamp_mono hT k2)
/-- the points of scenes.points_between -/
def ptsB (tr : Trk) (low high : Rat) : List Rat := low :: ((0 :: brk 0 (nrmT tr)).filter (fun z => decide (low < z ∧ z < high)) ++ (if low < high then [high] else []))
theorem asc_brk0 {tr : Trk} (h : Pos tr) : Asc (0 :: brk 0 tr) := Asc.cons (brk_asc h) fun z hz => Rat.le_of_lt (brk_gt h z hz)
theorem ptsB_chn {tr : Trk} (h : TrOk tr) {low high : Rat} (hl : low ≤ high) : Chn (shownF tr) (ptsB tr low high) ∧ (ptsB tr low high).getLast (by unfold ptsB; simp) = high := by
  have hN := h.nrmT
  have m : MOff (shownF tr) (0 :: brk 0 (nrmT tr)) low high := fun x y a b c d => (shown_mono hN.ne hN.p hN.cont low high x y a b c d).congr fun t _ _ => (nrmT_shown h.p t).symm
  by_cases c : low < high
  · unfold ptsB
    simp only [if_pos c]
    exact ⟨chn_pts Rat.le_refl hl Rat.le_refl (asc_brk0 hN.p) m, last_cs ..⟩
  · have e : low = high := Rat.le_antisymm hl (Rat.not_lt.mp c)
    subst e
    have ef : (0 :: brk 0 (nrmT tr)).filter (fun z => decide (low < z ∧ z < low)) = [] := by
      apply List.filter_eq_nil_iff.mpr
      intro z _
      simp
      grind
    have e2 : ptsB tr low low = [low] := by
      unfold ptsB
      rw [ef, if_neg Rat.lt_irrefl]; rfl
    constructor
    · rw [e2]; trivial
    · simp only [e2]; rfl
theorem ptsB_in {tr : Trk} {low high : Rat} (hl : low ≤ high) : ∀ z ∈ ptsB tr low high, low ≤ z ∧ z ≤ high := by
  intro z hz
  unfold ptsB at hz
  rcases List.mem_cons.mp hz with e | e
  · subst e; exact ⟨Rat.le_refl, hl⟩
  · rcases List.mem_append.mp e with e | e
    · have := (List.mem_filter.mp e).2
      simp at this
      exact ⟨Rat.le_of_lt this.1, Rat.le_of_lt this.2⟩
    · split at e
      · simp at e; subst e; exact ⟨hl, Rat.le_refl⟩
      · simp at e

/-! KList -/
set_option Elab.async false
set_option linter.all false
set_option maxRecDepth 100000
set_option maxHeartbeats 1000000
/-! ### lists of numbers -/
abbrev Nums (K : Fg) (H : Hp) : List V → List Rat → Prop := All2 (Num K H)
theorem Nums.tx {K : Fg} {H H' : Hp} {vs : List V} {qs : List Rat} (h : Nums K H vs qs) (t : Tx K H H') : Nums K H' vs qs := All2.mono (fun _ _ h => h.tx t) h
theorem drop1_get {α : Type} {xs : List α} {i : Nat} {x : α} (h : (xs.drop 1)[i]? = some x) : xs[i + 1]? = some x := by
  rw [List.getElem?_drop] at h
  rw [Nat.add_comm]; exact h
def sp_ext (K : Fg) (R : Rat → Rat → Prop) : Sp := fun vs H Q _ => ∃ a ws qs, vs = [.ref a] ∧ SqL K H a ws ∧ Nums K H ws qs ∧ qs ≠ [] ∧ (∀ q ∈ qs, Bd 4400 q) ∧ Ret (fun r H' => ∃ q ∈ qs, (∀ z ∈ qs, R q z) ∧ Num K H' r q) H Q
def sp_least_of (K : Fg) : Sp := sp_ext K (fun q z => q ≤ z)
def sp_greatest_of (K : Fg) : Sp := sp_ext K (fun q z => z ≤ q)
theorem len_ext {K : Fg} {R : Rat → Rat → Prop} (vs : List V) (H : Hp) (Q : VK) (E : XK) (h : sp_ext K R vs H Q E) : vs.length = 1 := by
  obtain ⟨a, ws, qs, rfl, _⟩ := h; rfl
theorem pure_least_of {K : Fg} (vs : List V) (H : Hp) (Q : VK) (E : XK) (h : sp_least_of K vs H Q E) : t_least_of K (sp_is_less K) { nx := fun _ H' => Q .non H', rt := Q } (start n_least_of vs) H := by
  obtain ⟨a, ws, qs, rfl, hl, hn, ne, hb, k⟩ := h
  obtain ⟨q0, hq0⟩ : ∃ q0, qs[0]? = some q0 := by
    cases qs with
    | nil => exact absurd rfl ne
    | cons q r => exact ⟨q, rfl⟩
  obtain ⟨w0, hw0, r0⟩ := hn.get' hq0
  have hwl : 1 ≤ ws.length := by have := (List.getElem?_eq_some_iff.mp hw0).1; omega
  unfold t_least_of
  walk_at "w"
  refine w_ixL hl (at_of (j := 0) rfl hw0) ?_
  walk_at "w"
  refine w_forLx ?_
  walk_at "w"
  refine w_slL hl fun p H1 hp s1 hp1 b1 => ?_
  rw [cutV_one ws hwl] at hp1
  refine w_forLy (SqL.of hp1) ⟨fun i σ H' => H' = H1 ∧ ∃ bv q vv, σ = [some (.ref a), some bv, vv] ∧ Num K H1 bv q ∧ q ∈ qs ∧ ∀ j z, j ≤ i → qs[j]? = some z → q ≤ z, ?_, ?_, ?_, ?_⟩
  · refine ⟨rfl, w0, q0, none, rfl, r0.tx s1.tx, List.mem_of_getElem? hq0, fun j z hj hz => ?_⟩
    have : j = 0 := by omega
    subst this
    rw [hq0] at hz; cases hz; exact Rat.le_refl
  · rintro i σ H' _ ⟨rfl, _⟩; exact SqL.of hp1
  · rintro i x σ H' hx ⟨rfl, bv, q, vv, rfl, hbv, hq, hmin⟩
    obtain ⟨z, hz, rz⟩ := hn.get (drop1_get hx)
    have rz := rz.tx s1.tx
    have hbz := hb z (List.mem_of_getElem? hz)
    have hbq := hb q hq
    walk_at "w"
    walk_at "cmp"
    walk_at "w"
    refine w_ite (fun c => ?_) (fun c => ?_)
    · walk_at "w"
      refine ⟨rfl, x, z, _, rfl, rz, List.mem_of_getElem? hz, fun j y hj hy => ?_⟩
      by_cases e : j = i + 1
      · subst e; rw [hz] at hy; cases hy; exact Rat.le_refl
      · exact Rat.le_trans (Rat.le_of_lt c) (hmin j y (by omega) hy)
    · walk_at "w"
      refine ⟨rfl, bv, q, _, rfl, hbv, hq, fun j y hj hy => ?_⟩
      by_cases e : j = i + 1
      · subst e; rw [hz] at hy; cases hy; exact Rat.not_lt.mp c
      · exact hmin j y (by omega) hy
  · rintro σ H' ⟨rfl, bv, q, vv, rfl, hbv, hq, hmin⟩
    walk_at "w"
    refine k _ _ s1 ⟨q, hq, fun z hz => ?_, hbv⟩
    obtain ⟨j, hj⟩ := List.mem_iff_getElem?.mp hz
    refine hmin j z ?_ hj
    have := (List.getElem?_eq_some_iff.mp hj).1
    rw [List.length_drop, hn.len]; omega
theorem pure_greatest_of {K : Fg} (vs : List V) (H : Hp) (Q : VK) (E : XK) (h : sp_greatest_of K vs H Q E) : t_greatest_of K (sp_is_less K) { nx := fun _ H' => Q .non H', rt := Q } (start n_greatest_of vs) H := by
  obtain ⟨a, ws, qs, rfl, hl, hn, ne, hb, k⟩ := h
  obtain ⟨q0, hq0⟩ : ∃ q0, qs[0]? = some q0 := by
    cases qs with
    | nil => exact absurd rfl ne
    | cons q r => exact ⟨q, rfl⟩
  obtain ⟨w0, hw0, r0⟩ := hn.get' hq0
  have hwl : 1 ≤ ws.length := by have := (List.getElem?_eq_some_iff.mp hw0).1; omega
  unfold t_greatest_of
  walk_at "w"
  refine w_ixL hl (at_of (j := 0) rfl hw0) ?_
  walk_at "w"
  refine w_forLx ?_
  walk_at "w"
  refine w_slL hl fun p H1 hp s1 hp1 b1 => ?_
  rw [cutV_one ws hwl] at hp1
  refine w_forLy (SqL.of hp1) ⟨fun i σ H' => H' = H1 ∧ ∃ bv q vv, σ = [some (.ref a), some bv, vv] ∧ Num K H1 bv q ∧ q ∈ qs ∧ ∀ j z, j ≤ i → qs[j]? = some z → z ≤ q, ?_, ?_, ?_, ?_⟩
  · refine ⟨rfl, w0, q0, none, rfl, r0.tx s1.tx, List.mem_of_getElem? hq0, fun j z hj hz => ?_⟩
    have : j = 0 := by omega
    subst this
    rw [hq0] at hz; cases hz; exact Rat.le_refl
  · rintro i σ H' _ ⟨rfl, _⟩; exact SqL.of hp1
  · rintro i x σ H' hx ⟨rfl, bv, q, vv, rfl, hbv, hq, hmin⟩
    obtain ⟨z, hz, rz⟩ := hn.get (drop1_get hx)
    have rz := rz.tx s1.tx
    have hbz := hb z (List.mem_of_getElem? hz)
    have hbq := hb q hq
    walk_at "w"
    walk_at "cmp"
    walk_at "w"
    refine w_ite (fun c => ?_) (fun c => ?_)
    · walk_at "w"
      refine ⟨rfl, x, z, _, rfl, rz, List.mem_of_getElem? hz, fun j y hj hy => ?_⟩
      by_cases e : j = i + 1
      · subst e; rw [hz] at hy; cases hy; exact Rat.le_refl
      · exact Rat.le_trans (hmin j y (by omega) hy) (Rat.le_of_lt c)
    · walk_at "w"
      refine ⟨rfl, bv, q, _, rfl, hbv, hq, fun j y hj hy => ?_⟩
      by_cases e : j = i + 1
      · subst e; rw [hz] at hy; cases hy; exact Rat.not_lt.mp c
      · exact hmin j y (by omega) hy
  · rintro σ H' ⟨rfl, bv, q, vv, rfl, hbv, hq, hmin⟩
    walk_at "w"
    refine k _ _ s1 ⟨q, hq, fun z hz => ?_, hbv⟩
    obtain ⟨j, hj⟩ := List.mem_iff_getElem?.mp hz
    refine hmin j z ?_ hj
    have := (List.getElem?_eq_some_iff.mp hj).1
    rw [List.length_drop, hn.len]; omega

/-! KData -/
set_option Elab.async false
set_option linter.all false
set_option maxRecDepth 100000
set_option maxHeartbeats 1000000
/-! ### data compared: numbers, triples of numbers, lists of names -/
def numD (q : Rat) : PyData := .tuple [.int q.num, .int (q.den : Int)]
theorem numD_lay (q : Rat) : (numD q).canLay0 = true := by simp [numD, PyData.canLay0, PyData.canLayAll0]
theorem numD_depth (q : Rat) : (numD q).depth = 1 := by simp [numD, PyData.depth, PyData.depthAll]
theorem numD_shaped (q : Rat) : SeqAt.shaped (numD q) = true := by
  show ((numD q).canLay0 && decide ((numD q).depth ≤ 64)) = true
  rw [Bool.and_eq_true]
  exact ⟨numD_lay q, decide_eq_true (by rw [numD_depth]; omega)⟩
theorem numD_eqv (a b : Rat) : PyData.eqv (numD a) (numD b) = decide (a = b) := by
  have e : PyData.eqv (numD a) (numD b) = ((a.num == b.num) && (((a.den : Int) == (b.den : Int)) && true)) := by simp only [numD, PyData.eqv, PyData.eqvAll]
  rw [e]
  by_cases h : a = b
  · subst h; simp
  · rw [decide_eq_false h]
    by_cases h1 : a.num = b.num
    · have h2 : ¬ a.den = b.den := fun z => h (Rat.ext h1 z)
      have q : ((a.den : Int) == (b.den : Int)) = false := beq_eq_false_iff_ne.mpr (by omega)
      rw [q]; simp
    · have q : (a.num == b.num) = false := beq_eq_false_iff_ne.mpr h1
      rw [q]; simp
theorem numDs_lay : ∀ zs : List Rat, PyData.canLayAll0 (zs.map numD) = true
  | [] => by simp [PyData.canLayAll0]
  | z :: zs => by simp [PyData.canLayAll0, numD_lay z, numDs_lay zs]
theorem numDs_depth : ∀ zs : List Rat, PyData.depthAll (zs.map numD) ≤ 1
  | [] => by simp [PyData.depthAll]
  | z :: zs => by
    have h1 := numDs_depth zs
    have h2 := numD_depth z
    simp only [List.map_cons, PyData.depthAll]
    omega
theorem numDs_shaped (zs : List Rat) : SeqAt.shaped (.list (zs.map numD)) = true := by
  have h1 := numDs_depth zs
  have h2 : PyData.depth (.list (zs.map numD)) ≤ 64 := by simp only [PyData.depth]; omega
  show (PyData.canLay0 (.list (zs.map numD)) && decide (PyData.depth (.list (zs.map numD)) ≤ 64)) = true
  rw [Bool.and_eq_true]
  exact ⟨by simp only [PyData.canLay0]; exact numDs_lay zs, decide_eq_true h2⟩
theorem numTs_shaped (zs : List Rat) : SeqAt.shaped (.tuple (zs.map numD)) = true := by
  have h1 := numDs_depth zs
  have h2 : PyData.depth (.tuple (zs.map numD)) ≤ 64 := by simp only [PyData.depth]; omega
  show (PyData.canLay0 (.tuple (zs.map numD)) && decide (PyData.depth (.tuple (zs.map numD)) ≤ 64)) = true
  rw [Bool.and_eq_true]
  exact ⟨by simp only [PyData.canLay0]; exact numDs_lay zs, decide_eq_true h2⟩
theorem Num.dp {K : Fg} {H : Hp} {v : V} {q : Rat} (h : Num K H v q) : Dp K H v (numD q) := by
  obtain ⟨p, rfl, s⟩ := h
  exact .tup s (.cons (.int _) (.cons (.int _) .nil))
theorem Nums.dp {K : Fg} {H : Hp} : ∀ {vs : List V} {qs : List Rat}, Nums K H vs qs → DpAll K H vs (qs.map numD)
  | [], [], _ => .nil
  | _ :: _, _ :: _, h => .cons h.1.dp (Nums.dp h.2)
  | [], _ :: _, h => h.elim
  | _ :: _, [], h => h.elim
section
variable {K : Fg} {H : Hp} {Q : VK} {v w : V} {a b : Rat}
theorem w_eqQ (h1 : Num K H v a) (h2 : Num K H w b) (q : Q (.bl (decide (a = b))) H) : rEqD K v w H Q := ⟨_, _, h1.dp, h2.dp, numD_shaped a, numD_shaped b, by rw [numD_eqv]; exact q⟩
theorem w_neQ (h1 : Num K H v a) (h2 : Num K H w b) (q : Q (.bl (!decide (a = b))) H) : rNeD K v w H Q := ⟨_, _, h1.dp, h2.dp, numD_shaped a, numD_shaped b, by rw [numD_eqv]; exact q⟩
theorem eqvAll_nums : ∀ (xs ys : List Rat), PyData.eqvAll (xs.map numD) (ys.map numD) = decide (xs = ys)
  | [], [] => by simp [PyData.eqvAll]
  | [], _ :: _ => by simp [PyData.eqvAll]
  | _ :: _, [] => by simp [PyData.eqvAll]
  | x :: xs, y :: ys => by
    have ih := eqvAll_nums xs ys
    simp only [List.map_cons, PyData.eqvAll, numD_eqv, ih]
    by_cases h1 : x = y <;> by_cases h2 : xs = ys <;> simp [h1, h2]
theorem w_eqT {p r : Addr} {vs ws : List V} {xs ys : List Rat} (h1 : SqT K H p vs) (n1 : Nums K H vs xs) (h2 : SqT K H r ws) (n2 : Nums K H ws ys) (q : Q (.bl (decide (xs = ys))) H) : rEqD K (.ref p) (.ref r) H Q :=
  ⟨_, _, .tup h1 n1.dp, .tup h2 n2.dp, numTs_shaped xs, numTs_shaped ys, by
    have e : PyData.eqv (.tuple (xs.map numD)) (.tuple (ys.map numD)) = decide (xs = ys) := by simp only [PyData.eqv]; exact eqvAll_nums xs ys
    rw [e]; exact q⟩
theorem w_notInQ {p : Addr} {ws : List V} {ys : List Rat} (h1 : Num K H v a) (h2 : SqL K H p ws) (n2 : Nums K H ws ys) (q : Q (.bl (!decide (a ∈ ys))) H) : rNotInD K v (.ref p) H Q :=
  ⟨_, _, h1.dp, .lst h2 n2.dp, numD_shaped a, numDs_shaped ys, by
    have e : ((ys.map numD).any fun z => PyData.eqv z (numD a)) = decide (a ∈ ys) := by
      rw [List.any_map]
      by_cases h : a ∈ ys
      · rw [decide_eq_true h]
        exact List.any_eq_true.mpr ⟨a, h, by simp [numD_eqv]⟩
      · rw [decide_eq_false h]
        rw [List.any_eq_false]
        intro z hz
        simp only [Function.comp, numD_eqv]
        simp
        intro e; subst e; exact h hz
    rw [e]; exact q⟩
end
/-- lists of names -/
theorem strs_dp {K : Fg} {H : Hp} : ∀ xs : List Str, DpAll K H (xs.map V.str) (xs.map PyData.str)
  | [] => .nil
  | _ :: xs => .cons (.str _) (strs_dp xs)
theorem strs_shaped (zs : List Str) (hz : ∀ z ∈ zs, PyData.strOk z = true) : SeqAt.shaped (.list (zs.map PyData.str)) = true := by
  have h1 : ∀ zs : List Str, (∀ z ∈ zs, PyData.strOk z = true) → PyData.canLayAll0 (zs.map PyData.str) = true := by
    intro zs
    induction zs with
    | nil => intro _; simp [PyData.canLayAll0]
    | cons z zs ih => intro h; simp [PyData.canLayAll0, PyData.canLay0, ih (fun w hw => h w (by simp [hw])), h z (by simp)]
  have h2 : ∀ zs : List Str, PyData.depthAll (zs.map PyData.str) = 0 := by
    intro zs
    induction zs with
    | nil => simp [PyData.depthAll]
    | cons z zs ih => simp [PyData.depthAll, PyData.depth, ih]
  show (PyData.canLay0 (.list (zs.map PyData.str)) && decide (PyData.depth (.list (zs.map PyData.str)) ≤ 64)) = true
  rw [Bool.and_eq_true]
  exact ⟨by simp only [PyData.canLay0]; exact h1 zs hz, decide_eq_true (by simp only [PyData.depth, h2]; omega)⟩
theorem eqvAll_strs : ∀ (xs ys : List Str), PyData.eqvAll (xs.map PyData.str) (ys.map PyData.str) = decide (xs = ys)
  | [], [] => by simp [PyData.eqvAll]
  | [], _ :: _ => by simp [PyData.eqvAll]
  | _ :: _, [] => by simp [PyData.eqvAll]
  | x :: xs, y :: ys => by
    have ih := eqvAll_strs xs ys
    simp only [List.map_cons, PyData.eqvAll, PyData.eqv, ih]
    by_cases h1 : x = y <;> by_cases h2 : xs = ys <;> simp [h1, h2]
theorem w_neS {K : Fg} {H : Hp} {Q : VK} {p r : Addr} {xs ys : List Str} (h1 : SqL K H p (xs.map V.str)) (h2 : SqL K H r (ys.map V.str)) (o1 : ∀ z ∈ xs, PyData.strOk z = true) (o2 : ∀ z ∈ ys, PyData.strOk z = true) (q : Q (.bl (!decide (xs = ys))) H) : rNeD K (.ref p) (.ref r) H Q :=
  ⟨_, _, .lst h1 (strs_dp xs), .lst h2 (strs_dp ys), strs_shaped xs o1, strs_shaped ys o2, by
    have e : PyData.eqv (.list (xs.map PyData.str)) (.list (ys.map PyData.str)) = decide (xs = ys) := by simp only [PyData.eqv]; exact eqvAll_strs xs ys
    rw [e]; exact q⟩

/-! ### ascending: the same numbers -/
def sp_ascending (K : Fg) : Sp := fun vs H Q _ => ∃ a ws qs, vs = [.ref a] ∧ SqL K H a ws ∧ Nums K H ws qs ∧ qs.length ≤ 1000 ∧ (∀ q ∈ qs, Bd 4400 q) ∧
  ∀ b H' ws' qs', Same H H' → H b = none → H' b = some (.lst ws') → Nums K H' ws' qs' → (∀ z, z ∈ qs' ↔ z ∈ qs) → qs'.length ≤ qs.length → Q (.ref b) H'
theorem len_ascending {K : Fg} (vs : List V) (H : Hp) (Q : VK) (E : XK) (h : sp_ascending K vs H Q E) : vs.length = 1 := by
  obtain ⟨a, ws, qs, rfl, _⟩ := h; rfl
theorem pure_ascending {K : Fg} (vs : List V) (H : Hp) (Q : VK) (E : XK) (h : sp_ascending K vs H Q E) : t_ascending K (sp_is_less K) { nx := fun _ H' => Q .non H', rt := Q } (start n_ascending vs) H := by
  obtain ⟨a, ws, qs, rfl, hl, hn, hz, hb, k⟩ := h
  unfold t_ascending
  walk_at "w"
  refine w_newL (Nat.zero_le _) fun m H1 hm s1 hm1 b1 => ?_
  walk_at "w"
  refine w_forLv (a := a) rfl (SqL.same s1 hl) ⟨fun i σ H' => Same H H' ∧ ∃ ms xs v1 v2 v3, σ = [some (.ref a), some (.ref m), v1, v2, v3] ∧ H' m = some (.lst ms) ∧ Nums K H' ms xs ∧ (∀ z, z ∈ xs ↔ z ∈ qs.take i) ∧ xs.length ≤ i, ?_, ?_, ?_, ?_⟩
  · exact ⟨s1, [], [], _, _, _, rfl, hm1, trivial, by simp, Nat.le_refl _⟩
  · rintro i σ H' _ ⟨s, _⟩; exact SqL.same s hl
  · rintro i x σ H' hx ⟨s, ms, xs, v1, v2, v3, rfl, hms, hxs, hmem, hlen⟩
    obtain ⟨z, hz', rz⟩ := hn.get hx
    have rz := rz.tx s.tx
    have hi : i < qs.length := (List.getElem?_eq_some_iff.mp hz').1
    have bxs : ∀ q ∈ xs, Bd 4400 q := fun q hq => hb q (List.mem_of_mem_take ((hmem q).mp hq))
    have bz := hb z (List.mem_of_getElem? hz')
    have hmo : m ≠ a ∨ True := .inr trivial
    walk_at "w"
    refine w_notInQ rz (SqL.of hms) hxs ?_
    walk_at "w"
    refine w_itn (fun c => ?_) (fun c => ?_)
    · walk_at "w"
      refine w_lcL ?_
      walk_at "w"
      refine lc_by (R := fun H v q => Num K H v q) (p := fun q => decide (q < z)) (f := fun q => q) (zs := xs) (fun _ _ _ _ t h => h.tx t) (SqL.of hms) hxs.len.symm (by have := hxs.len; omega) ?_ ?_
      · intro j y q H2 D acc Nx hy hq s2 hD hD2 hacc kF kT
        obtain ⟨q', hq', rq⟩ := hxs.get hy
        rw [hq] at hq'; cases hq'
        have rq := rq.tx s2.tx
        have rz2 := rz.tx s2.tx
        have bq := bxs q (List.mem_of_getElem? hq)
        walk_at "w"
        refine ⟨rfl, ?_⟩
        walk_at "w"
        walk_at "cmp"
        walk_at "w"
        refine w_ite (fun c2 => ?_) (fun c2 => kF (by simp [c2]) _ (Same.refl _))
        walk_at "w"
        exact w_lcapp hD2 hacc fun H5 h5 b5 t5 => kT (by simp [c2]) _ _ _ (Same.refl _) rq h5 b5 t5
      · intro D H2 ys hD s2 hD2 hys
        walk_at "w"
        refine w_lenL (SqL.of hD2) ?_
        walk_at "w"
        refine w_tyL (SqL.of (s2 _ _ hms)) ?_
        walk_at "w"
        have hyl : ys.length ≤ ms.length := by
          have e1 := hys.len
          rw [List.length_map] at e1
          have e2 := List.length_filter_le (fun q => decide (q < z)) xs
          have e3 := hxs.len
          omega
        refine ⟨m, ms, _, x, rfl, rfl, s2 _ _ hms, sz_lt (by have := hxs.len; omega), Int.natCast_nonneg _, by have := hxs.len; omega, ?_⟩
        rw [Int.toNat_natCast]
        have hnone : H m = none := hm
        have t2 : Tx K H2 (upd H2 m (.lst (ms.take ys.length ++ [x] ++ ms.drop ys.length))) := But.upd.tx (s2 _ _ hms) (fun _ e => nomatch e) (fun _ _ e => nomatch e)
        have hx2 : Nums K H2 ms xs := hxs.tx s2.tx
        refine ⟨But.upd.same (s.trans s2) hm, _, xs.take ys.length ++ [z] ++ xs.drop ys.length, _, _, _, rfl, upd_same, ?_, ?_, ?_⟩
        · exact (((hx2.take _).append (All2.cons (rz.tx s2.tx) All2.nil)).append (hx2.drop _)).mono (fun v q h => h.tx t2)
        · intro w
          rw [take_snoc hz']
          simp only [List.mem_append, List.mem_singleton]
          rw [← hmem w]
          have hsplit : w ∈ xs ↔ w ∈ xs.take ys.length ∨ w ∈ xs.drop ys.length := by
            rw [← List.mem_append, List.take_append_drop]
          rw [hsplit]
          constructor
          · rintro ((h | h) | h)
            · exact .inl (.inl h)
            · exact .inr h
            · exact .inl (.inr h)
          · rintro ((h | h) | h)
            · exact .inl (.inl h)
            · exact .inr h
            · exact .inl (.inr h)
        · have e := hxs.len
          simp; omega
    · walk_at "w"
      refine ⟨s, ms, xs, _, _, _, rfl, hms, hxs, fun w => ?_, by omega⟩
      rw [take_snoc hz', List.mem_append, ← hmem w, List.mem_singleton]
      constructor
      · exact .inl
      · rintro (h | h)
        · exact h
        · subst h; exact c
  · rintro σ H' ⟨s, ms, xs, v1, v2, v3, rfl, hms, hxs, hmem, hlen⟩
    walk_at "w"
    rw [hn.len, List.take_length] at hmem
    exact k m H' ms xs s hm hms hxs hmem (by have := hn.len; omega)

/-! KClipW -/
set_option Elab.async false
set_option linter.all false
set_option maxRecDepth 100000
set_option maxHeartbeats 1000000
/-! ### pieces, tracks, clips on the heap -/
def PcV (K : Fg) (H : Hp) (v : V) (p : Pc) : Prop := ∃ pa ca lv av bv cv, v = .ref pa ∧ SqT K H pa [lv, .ref ca] ∧ SqT K H ca [av, bv, cv] ∧ Num K H lv p.len ∧ Num K H av p.a ∧ Num K H bv p.b ∧ Num K H cv p.c
theorem PcV.tx {K : Fg} {H H' : Hp} {v : V} {p : Pc} (h : PcV K H v p) (t : Tx K H H') : PcV K H' v p := by
  obtain ⟨pa, ca, lv, av, bv, cv, e, h1, h2, n1, n2, n3, n4⟩ := h
  exact ⟨pa, ca, lv, av, bv, cv, e, h1.tx t, h2.tx t, n1.tx t, n2.tx t, n3.tx t, n4.tx t⟩
def TrV (K : Fg) (H : Hp) (v : V) (tr : Trk) : Prop := ∃ a vs, v = .ref a ∧ SqT K H a vs ∧ All2 (PcV K H) vs tr
theorem TrV.tx {K : Fg} {H H' : Hp} {v : V} {tr : Trk} (h : TrV K H v tr) (t : Tx K H H') : TrV K H' v tr := by
  obtain ⟨a, vs, e, h1, h2⟩ := h
  exact ⟨a, vs, e, h1.tx t, h2.mono fun _ _ k => k.tx t⟩
structure Clip where
  T : Rat
  hue : Trk
  lamp : Trk
def ClV (K : Fg) (H : Hp) (v : V) (c : Clip) : Prop := ∃ a l h1 h2 tv hv pv mv, v = .ref a ∧ SqT K H a [tv, .ref l, mv] ∧ SqT K H l [.ref h1, .ref h2] ∧ SqT K H h1 [.str "hue", hv] ∧ SqT K H h2 [.str "lamp", pv] ∧ Num K H tv c.T ∧ TrV K H hv c.hue ∧ TrV K H pv c.lamp
theorem ClV.tx {K : Fg} {H H' : Hp} {v : V} {c : Clip} (h : ClV K H v c) (t : Tx K H H') : ClV K H' v c := by
  obtain ⟨a, l, h1, h2, tv, hv, pv, mv, e, k1, k2, k3, k4, n, t1, t2⟩ := h
  exact ⟨a, l, h1, h2, tv, hv, pv, mv, e, k1.tx t, k2.tx t, k3.tx t, k4.tx t, n.tx t, t1.tx t, t2.tx t⟩
structure ClOk (c : Clip) : Prop where
  hue : TrOk c.hue
  lamp : TrOk c.lamp
  tot : c.T = total c.lamp
theorem ClOk.bdT {c : Clip} (h : ClOk c) : Bd 10 c.T := by rw [h.tot]; exact h.lamp.bd_total

/-! ### value_in, slope_in -/
def sp_value_in (K : Fg) : Sp := fun vs H Q _ => ∃ v w p y, vs = [v, w] ∧ PcV K H v p ∧ PcOk p ∧ Num K H w y ∧ Bd 2011 y ∧ Ret (fun r H' => Num K H' r (p.at y)) H Q
def sp_slope_in (K : Fg) : Sp := fun vs H Q _ => ∃ v w p y, vs = [v, w] ∧ PcV K H v p ∧ PcOk p ∧ Num K H w y ∧ Bd 2011 y ∧ Ret (fun r H' => Num K H' r (p.slope y)) H Q
theorem len_value_in {K : Fg} (vs : List V) (H : Hp) (Q : VK) (E : XK) (h : sp_value_in K vs H Q E) : vs.length = 2 := by
  obtain ⟨v, w, a, b, rfl, _⟩ := h; rfl
theorem len_slope_in {K : Fg} (vs : List V) (H : Hp) (Q : VK) (E : XK) (h : sp_slope_in K vs H Q E) : vs.length = 2 := by
  obtain ⟨v, w, a, b, rfl, _⟩ := h; rfl
theorem pure_value_in {K : Fg} (vs : List V) (H : Hp) (Q : VK) (E : XK) (h : sp_value_in K vs H Q E) : t_value_in K (sp_times K) (sp_plus K) { nx := fun _ H' => Q .non H', rt := Q } (start n_value_in vs) H := by
  obtain ⟨v, w, p, y, rfl, ⟨pa, ca, lv, av, bv, cv, rfl, h1, h2, n1, n2, n3, n4⟩, ok, ny, by_, k⟩ := h
  have ba := ok.ba; have bb := ok.bb; have bc := ok.bc
  unfold t_value_in
  walk_at "w"; walk_at "ix"
  refine w_gtup h2 rfl ?_
  walk_at "w"
  walk_at "op2"
  intro r1 H1 s1 m1
  walk_at "w"
  walk_at "op2"
  intro r2 H2 s2 m2
  walk_at "w"
  walk_at "op2"
  intro r3 H3 s3 m3
  walk_at "w"
  walk_at "op2"
  intro r4 H4 s4 m4
  exact k r4 H4 (by walk_at "same") m4
theorem pure_slope_in {K : Fg} {mg : Str → Option Value} (T : Txt K mg) (vs : List V) (H : Hp) (Q : VK) (E : XK) (h : sp_slope_in K vs H Q E) : t_slope_in K (sp_times K) (sp_plus K) { nx := fun _ H' => Q .non H', rt := Q } (start n_slope_in vs) H := by
  obtain ⟨v, w, p, y, rfl, ⟨pa, ca, lv, av, bv, cv, rfl, h1, h2, n1, n2, n3, n4⟩, ok, ny, by_, k⟩ := h
  have ba := ok.ba; have bb := ok.bb; have bc := ok.bc
  have nt : Num K H (.ref (He.ga K "TWO")) 2 := ⟨_, rfl, T.t_TWO H⟩
  have b2 : Bd 2 (2 : Rat) := ⟨by decide, by decide⟩
  unfold t_slope_in
  walk_at "w"; walk_at "ix"
  walk_at "w"; walk_at "ix"
  walk_at "w"; walk_at "ix"
  walk_at "w"; walk_at "ix"
  walk_at "w"
  walk_at "op2"
  intro r1 H1 s1 m1
  walk_at "w"
  walk_at "op2"
  intro r2 H2 s2 m2
  walk_at "w"
  walk_at "op2"
  intro r3 H3 s3 m3
  exact k r3 H3 (by walk_at "same") m3
/-! ### track_of -/
def sp_track_of (K : Fg) : Sp := fun vs H Q _ => ∃ v c, vs = [v, .str "lamp"] ∧ ClV K H v c ∧ Ret (fun r H' => TrV K H' r c.lamp) H Q
theorem len_track_of {K : Fg} (vs : List V) (H : Hp) (Q : VK) (E : XK) (h : sp_track_of K vs H Q E) : vs.length = 2 := by
  obtain ⟨v, c, rfl, _⟩ := h; rfl
theorem hue_lamp : ¬ (V.str "hue" = V.str "lamp") := by decide +kernel
theorem pure_track_of_clips {K : Fg} (vs : List V) (H : Hp) (Q : VK) (E : XK) (h : sp_track_of K vs H Q E) : t_track_of_clips K { nx := fun _ H' => Q .non H', rt := Q } (start n_track_of_clips vs) H := by
  obtain ⟨v, c, rfl, ⟨a, l, h1, h2, tv, hv, pv, mv, rfl, k1, k2, k3, k4, n, t1, t2⟩, k⟩ := h
  unfold t_track_of_clips
  walk_at "w"
  refine w_newT (K := K) (Nat.zero_le _) fun e He he s1 _ _ _ => ?_
  walk_at "w"
  refine w_forTx ?_
  walk_at "w"; walk_at "ix"
  have k2' := k2.tx (K := K) s1.tx
  refine w_forTy k2' ⟨fun i σ H' => H' = He ∧ ∃ fv v1 v2, σ = [some (.ref a), some (.str "lamp"), some fv, v1, v2] ∧ (i = 2 → fv = pv), ?_, ?_, ?_, ?_⟩
  · exact ⟨rfl, _, none, none, rfl, fun z => by omega⟩
  · rintro i σ H' _ ⟨rfl, _⟩; exact k2'
  · rintro i x σ H' hx ⟨rfl, fv, v1, v2, rfl, hf⟩
    rcases i with _ | _ | i
    · simp at hx; subst hx
      refine w_gtup (k3.tx s1.tx) rfl ?_
      walk_at "w"
      refine w_ite (fun z => absurd z hue_lamp) (fun _ => ?_)
      walk_at "w"
      exact ⟨rfl, _, _, _, rfl, fun z => by omega⟩
    · simp at hx; subst hx
      refine w_gtup (k4.tx s1.tx) rfl ?_
      walk_at "w"
      refine w_ite (fun _ => ?_) (fun z => absurd rfl z)
      walk_at "w"
      exact ⟨rfl, _, _, _, rfl, fun _ => rfl⟩
    · simp at hx
  · rintro σ H' ⟨rfl, fv, v1, v2, rfl, hf⟩
    walk_at "w"
    rw [hf rfl]
    exact k _ _ s1 (t2.tx s1.tx)
/-! ### piece_at, value_at -/
def sp_piece_at (K : Fg) : Sp := fun vs H Q _ => ∃ v w tr x, vs = [v, w, .bl false] ∧ TrV K H v tr ∧ TrOk tr ∧ Num K H w x ∧ Bd 2000 x ∧
  Ret (fun r H' => ∃ b pv yv p y, r = .ref b ∧ SqT K H' b [pv, yv] ∧ PcV K H' pv p ∧ PcOk p ∧ Num K H' yv y ∧ Bd 2011 y ∧ p.at y = valF 0 tr x) H Q
theorem len_piece_at {K : Fg} (vs : List V) (H : Hp) (Q : VK) (E : XK) (h : sp_piece_at K vs H Q E) : vs.length = 3 := by
  obtain ⟨v, w, tr, x, rfl, _⟩ := h; rfl
theorem valF_here {s x : Rat} {tr : Trk} {i : Nat} {p : Pc} (h : tr[i]? = some p) (hs : x < s + p.len ∨ i + 1 = tr.length) : valF s (tr.drop i) x = p.at (x - s) := by
  have hi := (List.getElem?_eq_some_iff.mp h).1
  rw [List.drop_eq_getElem_cons hi]
  have e : tr[i] = p := (List.getElem?_eq_some_iff.mp h).2
  rw [e]
  cases hd : tr.drop (i + 1) with
  | nil => rfl
  | cons q r =>
    rcases hs with hs | hs
    · show (if x < s + p.len then _ else _) = _
      rw [if_pos hs]
    · have := congrArg List.length hd
      rw [List.length_drop] at this
      simp at this; omega
theorem valF_next {s x : Rat} {tr : Trk} {i : Nat} {p : Pc} (h : tr[i]? = some p) (hs : ¬ x < s + p.len) (hn : i + 1 < tr.length) : valF s (tr.drop i) x = valF (s + p.len) (tr.drop (i + 1)) x := by
  have hi := (List.getElem?_eq_some_iff.mp h).1
  rw [List.drop_eq_getElem_cons hi]
  have e : tr[i] = p := (List.getElem?_eq_some_iff.mp h).2
  rw [e]
  rw [List.drop_eq_getElem_cons hn]
  show (if x < s + p.len then _ else _) = _
  rw [if_neg hs]
theorem pure_piece_at {K : Fg} {mg : Str → Option Value} (T : Txt K mg) (vs : List V) (H : Hp) (Q : VK) (E : XK) (h : sp_piece_at K vs H Q E) : t_piece_at K (sp_plus K) (sp_compare K) (sp_minus K) { nx := fun _ H' => Q .non H', rt := Q } (start n_piece_at vs) H := by
  obtain ⟨v, w, tr, x, rfl, ⟨ta, ws, rfl, ht, hps⟩, ok, nx, bx, k⟩ := h
  unfold t_piece_at
  walk_at "w"
  try with_reducible refine w_forR1 ?_
  walk_at "w"
  refine w_lenT ht ?_
  walk_at "w"
  have hwl := hps.len
  have hl12 := ok.len
  have hne := ok.ne
  have n0 : 0 < tr.length := List.length_pos_iff.mpr hne
  refine w_forR1y (by omega) ⟨fun i σ H' => i < tr.length ∧ Same H H' ∧ ∃ sv v1 v2 v3, σ = [some (.ref ta), some w, some (.bl false), some sv, v1, v2, v3] ∧ Num K H' sv (total (tr.take i)) ∧ valF (total (tr.take i)) (tr.drop i) x = valF 0 tr x, ?_, ?_, ?_⟩
  · refine ⟨n0, Same.refl _, _, none, none, none, rfl, ⟨_, rfl, T.t_ZERO H⟩, ?_⟩
    simp [total]
  · rintro i σ H' _ ⟨hi, s, sv, v1, v2, v3, rfl, ns, ev⟩
    obtain ⟨p, hp⟩ : ∃ p, tr[i]? = some p := ⟨tr[i], List.getElem?_eq_getElem hi⟩
    obtain ⟨pv, hpv, rp⟩ := hps.get' hp
    have pok := ok.all p (List.mem_of_getElem? hp)
    obtain ⟨pa, ca, lv, av, bv, cv, rfl, h1, h2, n1, n2, n3, n4⟩ := rp
    have bs := ok.bd_start i
    have bl := ok.bd_len (List.mem_of_getElem? hp)
    have e0 : (0 : Int) + (i : Int) = (i : Int) := Int.zero_add _
    have at1 : atI ws ((0 : Int) + (i : Int)) = some (.ref pa) := by rw [e0]; exact atI_nat hpv
    have ht' := ht.tx (K := K) s.tx
    walk_at "w"
    refine w_ixT ht' at1 ?_
    walk_at "w"; walk_at "ix"
    walk_at "w"
    walk_at "op2"
    intro ev' H1 s1 m1
    walk_at "w"
    walk_at "cmp"
    have fin : ∀ (σ : Sl), σ[0]? = some (some (.ref ta)) → σ[1]? = some (some w) → σ[3]? = some (some sv) → σ[4]? = some (some (.int ((0 : Int) + (i : Int)))) → (x < total (tr.take i) + p.len ∨ i + 1 = tr.length) →
        tRet (tTup (tCons (tOp (rIxT K) (tVar 0) (tVar 4)) (tCons (tCall (sp_minus K) [] E0 (tCons (tVar 1) (tCons (tVar 3) tNil))) tNil))) { nx := fun _ H' => Q .non H', rt := Q } σ H1 := by
      intro σ e0' e1 e3 e4 c
      walk_at "w"
      refine w_var e0' ?_
      refine w_var e4 ?_
      refine w_ixT (ht'.tx (K := K) s1.tx) at1 ?_
      walk_at "w"
      refine w_var e1 ?_
      walk_at "w"
      refine w_var e3 ?_
      walk_at "w"
      walk_at "op2"
      intro r H2 s2 m2
      walk_at "w"
      refine w_newT (K := K) (by simp) fun b H3 hb s3 hb3 _ _ => ?_
      refine k _ _ (((s.trans s1).trans s2).trans s3) ⟨b, _, _, p, _, rfl, hb3, ?_, pok, m2.tx s3.tx, bd_sub bx bs (by decide), ?_⟩
      · exact PcV.tx ⟨pa, ca, lv, av, bv, cv, rfl, h1, h2, n1, n2, n3, n4⟩ (((s.trans s1).trans s2).trans s3).tx
      · rw [← ev]; exact (valF_here hp c).symm
    walk_at "w"
    refine w_ite (fun c => ?_) (fun c => ?_)
    · refine w_itrue ?_
      exact fin _ rfl rfl rfl rfl (.inl (cmpQ_lt.mp c))
    · walk_at "w"
      refine w_itb (fun z => nomatch z) (fun _ => ?_)
      rw [if_neg Bool.false_ne_true]
      walk_at "w"
      refine w_lenT (ht'.tx s1.tx) ?_
      walk_at "w"
      refine w_ite (fun c2 => ?_) (fun c2 => ?_)
      · exact fin _ rfl rfl rfl rfl (.inr (by injection c2 with c2; omega))
      · walk_at "w"
        have hn : i + 1 < tr.length := by
          rcases Nat.lt_or_ge (i + 1) tr.length with h | h
          · exact h
          · exact absurd (by rw [show ((0 : Int) + (i : Int) + 1) = ((ws.length : Nat) : Int) by omega]) c2
        have c1 : ¬ x < total (tr.take i) + p.len := fun z => c (cmpQ_lt.mpr z)
        have et : total (tr.take (i + 1)) = total (tr.take i) + p.len := by rw [take_snoc hp, total_snoc]
        refine ⟨hn, s.trans s1, _, _, _, _, rfl, ?_, ?_⟩
        · rw [et]; exact m1
        · rw [et, ← valF_next hp c1 hn, ev]
  · rintro σ H' ⟨hi, _⟩
    omega
def sp_value_at (K : Fg) : Sp := fun vs H Q _ => ∃ v w c x, vs = [v, .str "lamp", w] ∧ ClV K H v c ∧ TrOk c.lamp ∧ Num K H w x ∧ Bd 2000 x ∧ Ret (fun r H' => Num K H' r (valF 0 c.lamp x)) H Q
theorem len_value_at {K : Fg} (vs : List V) (H : Hp) (Q : VK) (E : XK) (h : sp_value_at K vs H Q E) : vs.length = 3 := by
  obtain ⟨v, w, tr, x, rfl, _⟩ := h; rfl
theorem pure_value_at {K : Fg} (vs : List V) (H : Hp) (Q : VK) (E : XK) (h : sp_value_at K vs H Q E) : t_value_at K (sp_track_of K) (sp_piece_at K) (sp_value_in K) { nx := fun _ H' => Q .non H', rt := Q } (start n_value_at vs) H := by
  obtain ⟨v, w, c, x, rfl, hc, ok, nx, bx, k⟩ := h
  unfold t_value_at
  walk_at "w"
  refine ⟨_, c, rfl, hc, fun tv H1 s1 htv => ?_⟩
  walk_at "w"
  refine ⟨_, _, _, x, rfl, htv, ok, nx.tx s1.tx, bx, ?_⟩
  rintro r H2 s2 ⟨b, pv, yv, p, y, rfl, hb, hp, pok, ny, by_, e⟩
  refine w_gtup hb rfl ?_
  walk_at "w"
  refine ⟨_, _, p, y, rfl, hp, pok, ny, by_, fun r H3 s3 m3 => ?_⟩
  rw [e] at m3
  exact k _ _ (by walk_at "same") m3

/-! KClipX -/
set_option Elab.async false
set_option linter.all false
set_option maxRecDepth 100000
set_option maxHeartbeats 1000000
theorem num_zero {K : Fg} {mg : Str → Option Value} (T : Txt K mg) (H : Hp) : Num K H (.ref (He.ga K "ZERO")) 0 := ⟨_, rfl, T.t_ZERO H⟩
theorem num_two {K : Fg} {mg : Str → Option Value} (T : Txt K mg) (H : Hp) : Num K H (.ref (He.ga K "TWO")) 2 := ⟨_, rfl, T.t_TWO H⟩
theorem num_ns {K : Fg} {mg : Str → Option Value} (T : Txt K mg) (H : Hp) : Num K H (.ref (He.ga K "NOUGHT_scenes")) 0 := ⟨_, rfl, T.t_NOUGHT_scenes H⟩
theorem num_np {K : Fg} {mg : Str → Option Value} (T : Txt K mg) (H : Hp) : Num K H (.ref (He.ga K "NOUGHT_papers")) 0 := ⟨_, rfl, T.t_NOUGHT_papers H⟩
theorem num_nb {K : Fg} {mg : Str → Option Value} (T : Txt K mg) (H : Hp) : Num K H (.ref (He.ga K "NOUGHT_books")) 0 := ⟨_, rfl, T.t_NOUGHT_books H⟩
theorem bd_two : Bd 2 (2 : Rat) := ⟨by decide, by decide⟩
/-! ### turning_place, twice -/
def sp_turning (K : Fg) : Sp := fun vs H Q _ => ∃ v p, vs = [v] ∧ PcV K H v p ∧ PcOk p ∧ Bd 10 p.len ∧ (p.turn = none → ∀ H', Same H H' → Q .non H') ∧ ∀ y, p.turn = some y → Ret (fun r H' => Num K H' r y) H Q
theorem len_turning {K : Fg} (vs : List V) (H : Hp) (Q : VK) (E : XK) (h : sp_turning K vs H Q E) : vs.length = 1 := by
  obtain ⟨v, p, rfl, _⟩ := h; rfl
theorem turn_c0 {p : Pc} (h : p.c = 0) : p.turn = none := by unfold Pc.turn; rw [if_pos h]
theorem turn_y {p : Pc} (h : ¬ p.c = 0) (k : 0 < (0 - p.b) / (2 * p.c) ∧ (0 - p.b) / (2 * p.c) < p.len) : p.turn = some ((0 - p.b) / (2 * p.c)) := by unfold Pc.turn; rw [if_neg h, if_pos k]
theorem turn_n {p : Pc} (k : ¬ (0 < (0 - p.b) / (2 * p.c) ∧ (0 - p.b) / (2 * p.c) < p.len)) : p.turn = none := by
  unfold Pc.turn
  by_cases h : p.c = 0
  · rw [if_pos h]
  · rw [if_neg h, if_neg k]
theorem two_c {c : Rat} (h : ¬ c = 0) : 2 * c ≠ 0 := by grind
theorem pure_turning_place_clips {K : Fg} {mg : Str → Option Value} (T : Txt K mg) (vs : List V) (H : Hp) (Q : VK) (E : XK) (h : sp_turning K vs H Q E) : t_turning_place_clips K (sp_times K) (sp_minus K) (sp_over K) (sp_is_less K) { nx := fun _ H' => Q .non H', rt := Q } (start n_turning_place_clips vs) H := by
  obtain ⟨v, p, rfl, ⟨pa, ca, lv, av, bv, cv, rfl, h1, h2, n1, n2, n3, n4⟩, ok, bl, kN, kS⟩ := h
  have bb := ok.bb; have bc := ok.bc; have z1 := bd_zero; have b2 := bd_two
  have nz := num_zero T; have nt := num_two T
  unfold t_turning_place_clips
  walk_at "w"; walk_at "ix"
  walk_at "w"; walk_at "ix"
  walk_at "w"
  refine w_eqQ n4 (nz H) ?_
  walk_at "w"
  refine w_ite (fun c => ?_) (fun c => ?_)
  · walk_at "w"
    exact kN (turn_c0 c) _ (Same.refl _)
  · walk_at "w"; walk_at "ix"
    walk_at "w"; walk_at "ix"
    walk_at "w"
    have nzH := nz H
    walk_at "op2"
    intro r1 H1 s1 m1
    walk_at "w"; walk_at "ix"
    walk_at "w"; walk_at "ix"
    walk_at "w"
    have ntH := nt H1
    walk_at "op2"
    intro r2 H2 s2 m2
    walk_at "w"
    refine ⟨_, _, _, _, rfl, by walk_at "num", by walk_at "num", by walk_at "bd", by walk_at "bd", two_c c, ?_⟩
    intro r3 H3 s3 m3
    have bp : Bd 50 ((0 - p.b) / (2 * p.c)) := by walk_at "bd"
    walk_at "w"
    have nzH3 := nz H3
    walk_at "cmp"
    walk_at "w"
    refine w_ite (fun c1 => ?_) (fun c1 => ?_)
    · walk_at "w"; walk_at "ix"
      walk_at "w"
      walk_at "cmp"
      walk_at "w"
      refine w_ite (fun c2 => ?_) (fun c2 => ?_)
      · walk_at "w"
        exact kS _ (turn_y c ⟨c1, c2⟩) _ _ (by walk_at "same") m3
      · walk_at "w"
        exact kN (turn_n fun z => c2 z.2) _ (by walk_at "same")
    · refine w_itb (fun z => nomatch z) (fun _ => ?_)
      walk_at "w"
      exact kN (turn_n fun z => c1 z.1) _ (by walk_at "same")
theorem c_plus {c : Rat} : c + c = 2 * c := by grind
theorem pure_turning_place_scenes {K : Fg} {mg : Str → Option Value} (T : Txt K mg) (vs : List V) (H : Hp) (Q : VK) (E : XK) (h : sp_turning K vs H Q E) : t_turning_place_scenes K (sp_plus K) (sp_minus K) (sp_over K) (sp_compare K) { nx := fun _ H' => Q .non H', rt := Q } (start n_turning_place_scenes vs) H := by
  obtain ⟨v, p, rfl, ⟨pa, ca, lv, av, bv, cv, rfl, h1, h2, n1, n2, n3, n4⟩, ok, bl, kN, kS⟩ := h
  have bb := ok.bb; have bc := ok.bc; have z1 := bd_zero
  have nz := num_ns T
  unfold t_turning_place_scenes
  walk_at "w"
  refine w_gtup h1 rfl ?_
  walk_at "w"
  refine w_gtup h2 rfl ?_
  walk_at "w"
  refine w_eqQ n4 (nz H) ?_
  walk_at "w"
  refine w_ite (fun c => ?_) (fun c => ?_)
  · walk_at "w"
    exact kN (turn_c0 c) _ (Same.refl _)
  · walk_at "w"
    have nzH := nz H
    walk_at "op2"
    intro r1 H1 s1 m1
    walk_at "w"
    walk_at "op2"
    intro r2 H2 s2 m2
    walk_at "w"
    refine ⟨_, _, _, _, rfl, by walk_at "num", by walk_at "num", by walk_at "bd", by walk_at "bd", by show p.c + p.c ≠ 0; rw [c_plus]; exact two_c c, ?_⟩
    intro r3 H3 s3 m3
    rw [c_plus] at m3
    have b2 := bd_two
    have bp : Bd 50 ((0 - p.b) / (2 * p.c)) := by walk_at "bd"
    walk_at "w"
    have nzH3 := nz H3
    walk_at "cmp"
    walk_at "w"
    refine w_ite (fun c1 => ?_) (fun c1 => ?_)
    · refine w_itrue ?_
      walk_at "w"
      exact kN (turn_n fun z => absurd (cmpQ_le.mp c1) (Rat.not_le.mpr z.1)) _ (by walk_at "same")
    · walk_at "w"
      walk_at "cmp"
      walk_at "w"
      refine w_ite (fun c2 => ?_) (fun c2 => ?_)
      · walk_at "w"
        exact kN (turn_n fun z => absurd (cmpQ_ge.mp c2) (Rat.not_le.mpr z.2)) _ (by walk_at "same")
      · walk_at "w"
        refine kS _ (turn_y c ⟨?_, ?_⟩) _ _ (by walk_at "same") m3
        · exact Rat.not_le.mp fun z => c1 (cmpQ_le.mpr z)
        · exact Rat.not_le.mp fun z => c2 (cmpQ_ge.mpr z)
/-! ### turning_points -/
def sp_turning_points (K : Fg) : Sp := fun vs H Q _ => ∃ v tr, vs = [v] ∧ TrV K H v tr ∧ TrOk tr ∧ ∀ b H' ws, Same H H' → H b = none → H' b = some (.lst ws) → Nums K H' ws (tpt 0 tr) → Q (.ref b) H'
theorem len_turning_points {K : Fg} (vs : List V) (H : Hp) (Q : VK) (E : XK) (h : sp_turning_points K vs H Q E) : vs.length = 1 := by
  obtain ⟨v, p, rfl, _⟩ := h; rfl
theorem tpt_split : ∀ (l r : Trk) (s : Rat), tpt s (l ++ r) = tpt s l ++ tpt (s + total l) r
  | [], r, s => by
    have e : s + total [] = s := by show s + 0 = s; grind
    rw [e]; rfl
  | p :: l, r, s => by
    have e : s + total (p :: l) = s + p.len + total l := by show s + (p.len + total l) = _; grind
    show _ ++ (_ ++ tpt (s + p.len) (l ++ r)) = (_ ++ (_ ++ tpt (s + p.len) l)) ++ tpt (s + total (p :: l)) r
    rw [tpt_split l r, e]
    simp
theorem tpt_take {tr : Trk} {i : Nat} {p : Pc} (h : tr[i]? = some p) : tpt 0 (tr.take (i + 1)) = (tpt 0 (tr.take i) ++ (if total (tr.take i) = 0 then [] else [total (tr.take i)])) ++ (match p.turn with | some y => [total (tr.take i) + y] | none => []) := by
  rw [take_snoc h, tpt_split]
  have e : 0 + total (tr.take i) = total (tr.take i) := by grind
  rw [e]
  show _ ++ (_ ++ (_ ++ [])) = _
  simp
  all_goals rfl
theorem pure_turning_points {K : Fg} {mg : Str → Option Value} (T : Txt K mg) (vs : List V) (H : Hp) (Q : VK) (E : XK) (h : sp_turning_points K vs H Q E) : t_turning_points K (sp_turning K) (sp_plus K) { nx := fun _ H' => Q .non H', rt := Q } (start n_turning_points vs) H := by
  obtain ⟨v, tr, rfl, ⟨ta, ws, rfl, ht, hps⟩, ok, k⟩ := h
  have nz := num_zero T
  have hl12 := ok.len
  have hwl := hps.len
  unfold t_turning_points
  walk_at "w"
  refine w_newL (Nat.zero_le _) fun m H1 hm s1 hm1 b1 => ?_
  walk_at "w"
  refine w_forTx ?_
  walk_at "w"
  refine w_forTy (ht.tx (K := K) s1.tx) ⟨fun i σ H' => Same H H' ∧ ∃ ms sv v1 v2, σ = [some (.ref ta), some (.ref m), some sv, v1, v2] ∧ H' m = some (.lst ms) ∧ Nums K H' ms (tpt 0 (tr.take i)) ∧ Num K H' sv (total (tr.take i)), ?_, ?_, ?_, ?_⟩
  · exact ⟨s1, [], _, none, none, rfl, hm1, trivial, nz H1⟩
  · rintro i σ H' _ ⟨s, _⟩; exact ht.tx s.tx
  · rintro i x σ H' hx ⟨s, ms, sv, v1, v2, rfl, hms, hn, ns⟩
    obtain ⟨p, hp, rp⟩ := hps.get hx
    have rp := rp.tx s.tx
    have pok := ok.all p (List.mem_of_getElem? hp)
    have bl := ok.bd_len (List.mem_of_getElem? hp)
    have bs := ok.bd_start i
    have hi : i < tr.length := (List.getElem?_eq_some_iff.mp hp).1
    have hlen : ms.length ≤ 24 := by
      rw [hn.len]
      have := tpt_len (tr.take i) 0
      rw [List.length_take] at this; omega
    -- the rest, behind the first if
    have rest : ∀ (σ : Sl) (H2 : Hp) (ms2 : List V) (D : Ends), (∃ w, σ = [some (.ref ta), some (.ref m), some sv, some x, w]) → Same H H2 → Tx K H' H2 → H2 m = some (.lst ms2) → ms2.length ≤ 25 → Nums K H2 ms2 (tpt 0 (tr.take i) ++ (if total (tr.take i) = 0 then [] else [total (tr.take i)])) →
        (∀ σ' H3, Same H H3 → (∃ ms3 sv3 v1 v2, σ' = [some (.ref ta), some (.ref m), some sv3, v1, v2] ∧ H3 m = some (.lst ms3) ∧ Nums K H3 ms3 (tpt 0 (tr.take (i + 1))) ∧ Num K H3 sv3 (total (tr.take (i + 1)))) → D.nx σ' H3) →
        tSeq (tAsg (tCall (sp_turning K) [] E0 (tCons (tVar 3) tNil)) (gName 4)) (tSeq (tIfS (tTest (tOp rNotNone (tVar 4) (tC .non))) (tDrop (tBM K "list" rAppend (tVar 1) (tCons (tCall (sp_plus K) [] E0 (tCons (tVar 2) (tCons (tVar 4) tNil))) tNil))) tNext) (tAsg (tCall (sp_plus K) [] E0 (tCons (tVar 2) (tCons (tOp (rIxT K) (tVar 3) (tC (.int 0))) tNil))) (gName 2))) D σ H2 := by
      rintro σ H2 ms2 D ⟨w, rfl⟩ s2 t2 hm2 hl2 hn2 kk
      have ns2 := ns.tx t2
      have rp2 := rp.tx t2
      have et : total (tr.take (i + 1)) = total (tr.take i) + p.len := by rw [take_snoc hp, total_snoc]
      -- the last statement
      have last : ∀ (σ : Sl) (H3 : Hp) (ms3 : List V), (∃ w, σ = [some (.ref ta), some (.ref m), some sv, some x, w]) → Same H H3 → Tx K H2 H3 → H3 m = some (.lst ms3) → Nums K H3 ms3 (tpt 0 (tr.take (i + 1))) →
          tAsg (tCall (sp_plus K) [] E0 (tCons (tVar 2) (tCons (tOp (rIxT K) (tVar 3) (tC (.int 0))) tNil))) (gName 2) D σ H3 := by
        rintro σ H3 ms3 ⟨w, rfl⟩ s3 t3 hm3 hn3
        have ns3 := ns2.tx t3
        obtain ⟨pa, ca, lv, av, bv, cv, rfl, h1, h2, n1, n2, n3, n4⟩ := rp2.tx t3
        walk_at "w"; walk_at "ix"
        walk_at "w"
        walk_at "op2"
        intro r H4 s4 m4
        walk_at "w"
        exact kk _ _ (s3.trans s4) ⟨ms3, r, _, _, rfl, s4 _ _ hm3, hn3.tx s4.tx, by rw [et]; exact m4⟩
      walk_at "w"
      refine ⟨_, p, rfl, rp2, pok, bl, fun e0 H3 s3 => ?_, fun y ey r H3 s3 m3 => ?_⟩
      · walk_at "w"
        refine w_itb (fun z => nomatch z) (fun _ => ?_)
        walk_at "w1"
        refine last _ H3 ms2 ⟨_, rfl⟩ (s2.trans s3) s3.tx (s3 _ _ hm2) ?_
        rw [tpt_take hp, e0]
        simpa using hn2.tx s3.tx
      · walk_at "w"
        have hr : decide (r = V.non) = false := by
          obtain ⟨q, e, _⟩ := m3
          rw [e]; rfl
        rw [hr]
        refine w_itb (fun _ => ?_) (fun z => nomatch z)
        walk_at "w"
        refine w_tyL (SqL.of (s3 _ _ hm2)) ?_
        have by50 := bd_turn pok ey
        have ns3 := ns2.tx s3.tx
        walk_at "w"
        walk_at "op2"
        intro r4 H4 s4 m4
        walk_at "w"
        refine w_append (K := K) (s4 _ _ (s3 _ _ hm2)) (by omega) fun H5 h5 b5 t5 => ?_
        refine last _ H5 _ ⟨_, rfl⟩ (b5.same ((s2.trans s3).trans s4) hm) (((s3.trans s4).tx).trans t5) h5 ?_
        rw [tpt_take hp, ey]
        exact All2.snoc (hn2.tx (((s3.trans s4).tx).trans t5)) (m4.tx t5)
    walk_at "w"
    refine w_neQ ns (nz H') ?_
    walk_at "w"
    refine w_itn (fun c => ?_) (fun c => ?_)
    · walk_at "w"
      refine w_tyL (SqL.of hms) ?_
      walk_at "w"
      refine w_append (K := K) hms (by omega) fun H2 h2 b2 t2 => ?_
      refine rest _ H2 _ _ ⟨_, rfl⟩ (b2.same s hm) t2 h2 (by simp; omega) ?_ fun σ' H3 s3 ⟨ms3, sv3, v1, v2, e, a1, a2, a3⟩ => ⟨s3, ms3, sv3, v1, v2, e, a1, a2, a3⟩
      rw [if_neg c]
      exact All2.snoc (hn.tx t2) (ns.tx t2)
    · walk_at "w1"
      refine rest _ H' ms _ ⟨_, rfl⟩ s (Tx.refl _) hms (by omega) ?_ fun σ' H3 s3 ⟨ms3, sv3, v1, v2, e, a1, a2, a3⟩ => ⟨s3, ms3, sv3, v1, v2, e, a1, a2, a3⟩
      rw [if_pos c]
      simpa using hn
  · rintro σ H' ⟨s, ms, sv, v1, v2, rfl, hms, hn, ns⟩
    walk_at "w"
    rw [hwl, List.take_length] at hn
    exact k m H' ms s hm hms hn

/-! KClipY -/
set_option Elab.async false
set_option linter.all false
set_option maxRecDepth 100000
set_option maxHeartbeats 1000000
/-! ### values_between, least_value, greatest_value -/
def sp_vbc (K : Fg) : Sp := fun vs H Q _ => ∃ v w u c x y n, vs = [v, .str "lamp", w, u] ∧ ClV K H v c ∧ TrOk c.lamp ∧ Num K H w x ∧ Num K H u y ∧ Bd n x ∧ Bd n y ∧ 61 ≤ n ∧ n ≤ 2000 ∧ 0 ≤ x ∧ x ≤ y ∧ y ≤ total c.lamp ∧
  ∀ b H' ws qs, Same H H' → H' b = some (.lst ws) → Nums K H' ws qs → qs ≠ [] → (∀ q ∈ qs, Bd (2 * n + 364) q) → (∀ q, q ∈ qs ↔ ∃ p ∈ vpts c.lamp x y, q = valF 0 c.lamp p) → Q (.ref b) H'
theorem len_vbc {K : Fg} (vs : List V) (H : Hp) (Q : VK) (E : XK) (h : sp_vbc K vs H Q E) : vs.length = 4 := by
  obtain ⟨v, w, u, c, x, y, n, rfl, _⟩ := h; rfl
theorem mem_filter2 {l : List Rat} {x y z : Rat} : z ∈ (l.filter fun q => decide (x < q)).filter (fun q => decide (q < y)) ↔ z ∈ l.filter fun q => decide (x < q ∧ q < y) := by
  simp only [List.mem_filter, decide_eq_true_eq, and_assoc]
theorem pure_values_between_clips {K : Fg} (vs : List V) (H : Hp) (Q : VK) (E : XK) (h : sp_vbc K vs H Q E) : t_values_between_clips K (sp_track_of K) (sp_turning_points K) (sp_is_less K) (sp_ascending K) (sp_value_at K) { nx := fun _ H' => Q .non H', rt := Q } (start n_values_between_clips vs) H := by
  obtain ⟨v, w, u, c, x, y, n, rfl, hc, ok, nx, ny, bx, by_, hn1, hn2, h0, h1, h2, k⟩ := h
  have bx' : Bd 4400 x := bx.mono (by omega)
  have by' : Bd 4400 y := by_.mono (by omega)
  unfold t_values_between_clips
  walk_at "w"
  refine w_lcL ?_
  walk_at "w"
  refine ⟨_, c, rfl, hc, fun tv H1 s1 htv => ?_⟩
  walk_at "w"
  refine ⟨_, _, rfl, htv, ok, fun b1 H2 ws1 s2 hb1 hb2 hn => ?_⟩
  have tb := ok.tpt_bd
  refine lc_by (R := fun H v q => Num K H v q) (p := fun q => decide (x < q)) (f := fun q => q) (zs := tpt 0 c.lamp) (fun _ _ _ _ t h => h.tx t) (SqL.of hb2) hn.len.symm (by rw [hn.len]; have := tpt_len c.lamp 0; have := ok.len; omega) ?_ ?_
  · intro j yv q H3 D acc Nx hy hq s3 hD hD2 hacc kF kT
    obtain ⟨q', hq', rq⟩ := hn.get hy
    rw [hq] at hq'; cases hq'
    have rq := rq.tx s3.tx
    have nx3 := nx.tx ((s1.trans s2).trans s3).tx
    have bq := (tb q (List.mem_of_getElem? hq)).mono (show 61 ≤ 4400 by decide)
    walk_at "w"
    refine ⟨rfl, ?_⟩
    walk_at "w"
    walk_at "cmp"
    walk_at "w"
    refine w_ite (fun c2 => ?_) (fun c2 => kF (by simp [c2]) _ (Same.refl _))
    walk_at "w"
    exact w_lcapp hD2 hacc fun H5 h5 b5 t5 => kT (by simp [c2]) _ _ _ (Same.refl _) rq h5 b5 t5
  · intro D H3 ys hD s3 hD2 hys
    rw [List.map_id'] at hys
    have s123 := (s1.trans s2).trans s3
    walk_at "w"
    refine w_newL (by simp) fun l1 H4 hl1 s4 h4 b4 => ?_
    refine w_lcL ?_
    walk_at "w"
    refine lc_by (R := fun H v q => Num K H v q) (p := fun q => decide (q < y)) (f := fun q => q) (zs := (tpt 0 c.lamp).filter fun q => decide (x < q)) (fun _ _ _ _ t h => h.tx t) (SqL.of (s4 _ _ hD2)) (by rw [hys.len]) ?_ ?_ ?_
    · rw [hys.len]
      have := List.length_filter_le (fun q => decide (x < q)) (tpt 0 c.lamp)
      have := tpt_len c.lamp 0; have := ok.len; omega
    · intro j yv q H5 D2 acc Nx hy hq s5 hD5 hD52 hacc kF kT
      obtain ⟨q', hq', rq⟩ := hys.get hy
      rw [hq] at hq'; cases hq'
      have rq := rq.tx (s4.trans s5).tx
      have ny5 := ny.tx ((s123.trans s4).trans s5).tx
      have bq := (tb q (List.mem_filter.mp (List.mem_of_getElem? hq)).1).mono (show 61 ≤ 4400 by decide)
      walk_at "w"
      refine ⟨rfl, ?_⟩
      walk_at "w"
      walk_at "cmp"
      walk_at "w"
      refine w_ite (fun c2 => ?_) (fun c2 => kF (by simp [c2]) _ (Same.refl _))
      walk_at "w"
      exact w_lcapp hD52 hacc fun H6 h6 b6 t6 => kT (by simp [c2]) _ _ _ (Same.refl _) rq h6 b6 t6
    · intro D2 H5 ys2 hD5 s5 hD52 hys2
      rw [List.map_id'] at hys2
      have hlen2 : ys2.length ≤ 24 := by
        rw [hys2.len]
        have := List.length_filter_le (fun q => decide (q < y)) ((tpt 0 c.lamp).filter fun q => decide (x < q))
        have := List.length_filter_le (fun q => decide (x < q)) (tpt 0 c.lamp)
        have := tpt_len c.lamp 0; have := ok.len; omega
      refine w_cat (s5 _ _ h4) hD52 (by simp; omega) fun l2 H6 hl2 s6 h6 b6 => ?_
      walk_at "w"
      refine w_newL (by simp) fun l3 H7 hl3 s7 h7 b7 => ?_
      refine w_cat (s7 _ _ h6) h7 (by simp; omega) fun l4 H8 hl4 s8 h8 b8 => ?_
      walk_at "w"
      have s47 := ((s5.trans s6).trans s7).trans s8
      have sA := (s123.trans s4).trans s47
      have hpts : Nums K H8 ((([w] ++ ys2) ++ [u])) (([x] ++ ((tpt 0 c.lamp).filter fun q => decide (x < q)).filter (fun q => decide (q < y))) ++ [y]) :=
        ((All2.cons (nx.tx sA.tx) All2.nil).append (Nums.tx hys2 ((s6.trans s7).trans s8).tx)).append (All2.cons (ny.tx sA.tx) All2.nil)
      refine w_lcL ?_
      walk_at "w"
      have bdall : ∀ q ∈ ([x] ++ ((tpt 0 c.lamp).filter fun q => decide (x < q)).filter (fun q => decide (q < y))) ++ [y], Bd n q := by
        intro q hq
        simp only [List.mem_append, List.mem_singleton] at hq
        rcases hq with (e | e) | e
        · subst e; exact bx
        · exact (tb q (List.mem_filter.mp (List.mem_filter.mp e).1).1).mono hn1
        · subst e; exact by_
      refine ⟨l4, _, _, rfl, SqL.of h8, hpts, ?_, fun q hq => (bdall q hq).mono (by omega), ?_⟩
      · have := hpts.len
        rw [← this]
        simp; omega
      intro b9 H9 ws9 qs9 s9 hb9 h9 hn9 hmem hlen9
      refine lc_by (R := fun H v q => Num K H v q) (p := fun _ => true) (f := fun q => valF 0 c.lamp q) (zs := qs9) (fun _ _ _ _ t h => h.tx t) (SqL.of h9) hn9.len.symm ?_ ?_ ?_
      · rw [hn9.len]
        have e := hpts.len
        rw [← e] at hlen9
        simp at hlen9; omega
      · intro j yv q H10 D3 acc Nx hy hq s10 hD10 hD102 hacc kF kT
        obtain ⟨q', hq', rq⟩ := hn9.get hy
        rw [hq] at hq'; cases hq'
        have rq := rq.tx s10.tx
        have hc10 := hc.tx (sA.trans (s9.trans s10)).tx
        have bq := bdall q ((hmem q).mp (List.mem_of_getElem? hq))
        walk_at "w"
        refine ⟨rfl, ?_⟩
        refine w_yes ?_
        refine w_itrue ?_
        walk_at "w"
        refine ⟨_, _, c, q, rfl, hc10, ok, rq, bq.mono hn2, fun r H11 s11 m11 => ?_⟩
        exact w_lcapp (s11 _ _ hD102) hacc fun H12 h12 b12 t12 => kT rfl _ _ _ s11 m11 h12 b12 t12
      · intro D3 H10 ys3 hD10 s10 h10 hys3
        have ft : qs9.filter (fun _ => true) = qs9 := by simp
        rw [ft] at hys3
        have hmq : ∀ p, p ∈ qs9 ↔ p ∈ vpts c.lamp x y := by
          intro p
          rw [hmem p]
          unfold vpts
          simp only [List.mem_append, List.mem_cons, List.not_mem_nil, or_false, mem_filter2, or_assoc]
        refine k D3 H10 ys3 _ (sA.trans (s9.trans s10)) h10 hys3 ?_ ?_ ?_
        · intro e
          have : x ∈ qs9 := (hmq x).mpr (by unfold vpts; simp)
          have h3 : valF 0 c.lamp x ∈ qs9.map (fun q => valF 0 c.lamp q) := List.mem_map.mpr ⟨x, this, rfl⟩
          rw [e] at h3; simp at h3
        · intro q hq
          obtain ⟨p, hp, rfl⟩ := List.mem_map.mp hq
          exact ok.bd_val_n (bdall p ((hmem p).mp hp))
        · intro q
          rw [List.mem_map]
          constructor
          · rintro ⟨p, hp, e⟩; exact ⟨p, (hmq p).mp hp, e.symm⟩
          · rintro ⟨p, hp, e⟩; exact ⟨p, (hmq p).mpr hp, e.symm⟩
def sp_ends (K : Fg) (P : (Rat → Rat) → Rat → Rat → Rat → Prop) : Sp := fun vs H Q _ => ∃ v w u c x y n, vs = [v, .str "lamp", w, u] ∧ ClV K H v c ∧ TrOk c.lamp ∧ Num K H w x ∧ Num K H u y ∧ Bd n x ∧ Bd n y ∧ 61 ≤ n ∧ n ≤ 2000 ∧ 0 ≤ x ∧ x ≤ y ∧ y ≤ total c.lamp ∧
  Ret (fun r H' => ∃ q, Num K H' r q ∧ P (valF 0 c.lamp) x y q ∧ Bd (2 * n + 364) q) H Q
theorem len_ends {K : Fg} {P : (Rat → Rat) → Rat → Rat → Rat → Prop} (vs : List V) (H : Hp) (Q : VK) (E : XK) (h : sp_ends K P vs H Q E) : vs.length = 4 := by
  obtain ⟨v, w, u, c, x, y, n, rfl, _⟩ := h; rfl
def sp_least_value (K : Fg) : Sp := sp_ends K IsLeast
def sp_greatest_value (K : Fg) : Sp := sp_ends K IsGreat
theorem pure_least_value {K : Fg} (vs : List V) (H : Hp) (Q : VK) (E : XK) (h : sp_least_value K vs H Q E) : t_least_value K (sp_vbc K) (sp_least_of K) { nx := fun _ H' => Q .non H', rt := Q } (start n_least_value vs) H := by
  obtain ⟨v, w, u, c, x, y, n, rfl, hc, ok, nx, ny, bx, by_, hn1, hn2, h0, h1, h2, k⟩ := h
  unfold t_least_value
  walk_at "w"
  refine ⟨_, _, _, c, x, y, n, rfl, hc, ok, nx, ny, bx, by_, hn1, hn2, h0, h1, h2, fun b H1 ws qs s1 hb hn ne hbd hm => ?_⟩
  walk_at "w"
  refine ⟨b, ws, qs, rfl, SqL.of hb, hn, ne, fun q hq => (hbd q hq).mono (by omega), ?_⟩
  rintro r H2 s2 ⟨q, hq, hmin, hr⟩
  exact k r H2 (s1.trans s2) ⟨q, hr, (vpts_least ok h0 h1 h2 hm).1 q hq hmin, hbd q hq⟩
theorem pure_greatest_value {K : Fg} (vs : List V) (H : Hp) (Q : VK) (E : XK) (h : sp_greatest_value K vs H Q E) : t_greatest_value K (sp_vbc K) (sp_greatest_of K) { nx := fun _ H' => Q .non H', rt := Q } (start n_greatest_value vs) H := by
  obtain ⟨v, w, u, c, x, y, n, rfl, hc, ok, nx, ny, bx, by_, hn1, hn2, h0, h1, h2, k⟩ := h
  unfold t_greatest_value
  walk_at "w"
  refine ⟨_, _, _, c, x, y, n, rfl, hc, ok, nx, ny, bx, by_, hn1, hn2, h0, h1, h2, fun b H1 ws qs s1 hb hn ne hbd hm => ?_⟩
  walk_at "w"
  refine ⟨b, ws, qs, rfl, SqL.of hb, hn, ne, fun q hq => (hbd q hq).mono (by omega), ?_⟩
  rintro r H2 s2 ⟨q, hq, hmin, hr⟩
  exact k r H2 (s1.trans s2) ⟨q, hr, (vpts_least ok h0 h1 h2 hm).2 q hq hmin, hbd q hq⟩

/-! KClipZ -/
set_option Elab.async false
set_option linter.all false
set_option maxRecDepth 100000
set_option maxHeartbeats 1000000
/-! ### later_form, normal_track, normal -/
def sp_later_form (K : Fg) : Sp := fun vs H Q _ => ∃ v w p, vs = [v, w] ∧ PcV K H v p ∧ PcOk p ∧ p.len ≤ 30 ∧ Num K H w p.len ∧ Ret (fun r H' => ∃ b ws, r = .ref b ∧ SqT K H' b ws ∧ Nums K H' ws [p.at p.len, p.slope p.len, p.c]) H Q
theorem len_later_form {K : Fg} (vs : List V) (H : Hp) (Q : VK) (E : XK) (h : sp_later_form K vs H Q E) : vs.length = 2 := by
  obtain ⟨v, w, p, rfl, _⟩ := h; rfl
theorem pure_later_form {K : Fg} (vs : List V) (H : Hp) (Q : VK) (E : XK) (h : sp_later_form K vs H Q E) : t_later_form K (sp_slope_in K) (sp_value_in K) { nx := fun _ H' => Q .non H', rt := Q } (start n_later_form vs) H := by
  obtain ⟨v, w, p, rfl, hp, ok, hl, nw, k⟩ := h
  have bl := (ok.bd_len hl).mono (show 10 ≤ 2011 by decide)
  unfold t_later_form
  walk_at "w"
  refine ⟨_, _, p, _, rfl, hp, ok, nw, bl, fun r1 H1 s1 m1 => ?_⟩
  walk_at "w"
  refine ⟨_, _, p, _, rfl, hp.tx s1.tx, ok, nw.tx s1.tx, bl, fun r2 H2 s2 m2 => ?_⟩
  walk_at "w"
  obtain ⟨pa, ca, lv, av, bv, cv, rfl, h1, h2, n1, n2, n3, n4⟩ := hp.tx (s1.trans s2).tx
  walk_at "w"; walk_at "ix"
  walk_at "w"; walk_at "ix"
  walk_at "w"
  refine w_newT (K := K) (by simp) fun b H3 hb s3 hb3 _ _ => ?_
  exact k _ _ ((s1.trans s2).trans s3) ⟨b, _, rfl, hb3, All2.cons (m1.tx (s2.trans s3).tx) (All2.cons (m2.tx s3.tx) (All2.cons (n4.tx s3.tx) All2.nil))⟩
theorem w_slT {K : Fg} {H : Hp} {Q : VK} {a : Addr} {xs : List V} {lo hi : Option Int} (h : SqT K H a xs) (n : ¬ (HT.sIx xs.length 0 lo = 0 ∧ HT.sIx xs.length xs.length hi = xs.length)) (k : ∀ p H', H p = none → Same H H' → SqT K H' p (cutV xs lo hi) → But p H H' → H' p = some (.tup (cutV xs lo hi)) → Q (.ref p) H') : rSlT K (.ref a) lo hi H Q :=
  ⟨a, xs, rfl, h, n, fun p hp => k p _ hp (Same.new hp) (SqT.of upd_same) But.upd upd_same⟩
theorem sIx_one {n : Nat} (h : 1 ≤ n) : HT.sIx n 0 (some 1) = 1 := by
  rw [show (1 : Int) = ((1 : Nat) : Int) from rfl, HT.sIx_nat, Nat.min_eq_left h]
theorem ixN_last {n : Nat} : ixN (n + 1) (-1) = some n := by
  unfold ixN
  rw [if_neg (by decide), if_pos (by omega)]
  congr 1
  omega
def sp_normal_track (K : Fg) : Sp := fun vs H Q _ => ∃ v tr, vs = [v] ∧ TrV K H v tr ∧ TrOk tr ∧ Ret (fun r H' => TrV K H' r (nrmT tr)) H Q
theorem len_normal_track {K : Fg} (vs : List V) (H : Hp) (Q : VK) (E : XK) (h : sp_normal_track K vs H Q E) : vs.length = 1 := by
  obtain ⟨v, tr, rfl, _⟩ := h; rfl
theorem nrm_drop {t0 : Pc} {rest pre : Trk} {last p : Pc} {i : Nat} (h : nrm t0 rest = pre ++ nrm last (rest.drop i)) (hp : rest[i]? = some p) :
    nrm t0 rest = if laterIs last p then pre ++ nrm ⟨last.len + p.len, last.a, last.b, last.c⟩ (rest.drop (i + 1)) else (pre ++ [last]) ++ nrm p (rest.drop (i + 1)) := by
  have hi := (List.getElem?_eq_some_iff.mp hp).1
  have e : rest.drop i = p :: rest.drop (i + 1) := by
    rw [List.drop_eq_getElem_cons hi]; congr 1; exact (List.getElem?_eq_some_iff.mp hp).2
  rw [h, e]
  show pre ++ (if laterIs last p then nrm ⟨last.len + p.len, last.a, last.b, last.c⟩ (rest.drop (i + 1)) else last :: nrm p (rest.drop (i + 1))) = _
  split <;> simp
theorem pure_normal_track {K : Fg} (vs : List V) (H : Hp) (Q : VK) (E : XK) (h : sp_normal_track K vs H Q E) : t_normal_track K (sp_later_form K) (sp_plus K) { nx := fun _ H' => Q .non H', rt := Q } (start n_normal_track vs) H := by
  obtain ⟨v, tr, rfl, ⟨ta, ws, rfl, ht, hps⟩, ok, k⟩ := h
  cases tr with
  | nil => exact absurd rfl ok.ne
  | cons t0 rest =>
  cases ws with
  | nil => exact hps.elim
  | cons w0 wr =>
  obtain ⟨r0, hr⟩ := hps
  have ok0 := ok.all t0 (by simp)
  have hl12 := ok.len
  simp at hl12
  have hwl := hr.len
  unfold t_normal_track
  walk_at "w"
  refine w_ixT ht (at_of (j := 0) rfl rfl) ?_
  walk_at "w"
  refine w_newL (by simp) fun m H1 hm s1 hm1 b1 => ?_
  walk_at "w"
  refine w_forTx ?_
  walk_at "w"
  refine w_slT (ht.tx (K := K) s1.tx) (fun z => by have := z.1; rw [sIx_one (by simp)] at this; exact absurd this (by decide)) fun p H2 hp s2 hp2 _ _ => ?_
  rw [cutV_one _ (by simp)] at hp2
  have hp2 : SqT K H2 p wr := hp2
  refine w_forTy hp2 ⟨fun i σ H' => Same H H' ∧ SqT K H' p wr ∧ ∃ ms pre last v1 v2, σ = [some (.ref ta), some (.ref m), v1, v2] ∧ H' m = some (.lst ms) ∧ All2 (PcV K H') ms (pre ++ [last]) ∧ nrm t0 rest = pre ++ nrm last (rest.drop i) ∧ PcOk last ∧ last.len + total (rest.drop i) ≤ 30 ∧ ms.length ≤ i + 1, ?_, ?_, ?_, ?_⟩
  · refine ⟨s1.trans s2, hp2, [w0], [], t0, none, none, rfl, s2 _ _ hm1, All2.cons (r0.tx (s1.trans s2).tx) All2.nil, rfl, ok0, ok.tot, by simp⟩
  · rintro i σ H' _ ⟨s, h, _⟩; exact h
  · rintro i x σ H' hx ⟨s, hsl, ms, pre, last, v1, v2, rfl, hms, hall, hnrm, okl, htot, hlen⟩
    obtain ⟨q, hq, rq⟩ := hr.get hx
    have rq := rq.tx s.tx
    have okq := ok.all q (by simp; exact .inr (List.mem_of_getElem? hq))
    have hi : i < rest.length := (List.getElem?_eq_some_iff.mp hq).1
    have ed : rest.drop i = q :: rest.drop (i + 1) := by
      rw [List.drop_eq_getElem_cons hi]; congr 1; exact (List.getElem?_eq_some_iff.mp hq).2
    have htr : 0 ≤ total (rest.drop (i + 1)) := total_nn fun z hz => (ok.all z (by simp; exact .inr (List.mem_of_mem_drop hz))).pos
    have htot' : last.len + (q.len + total (rest.drop (i + 1))) ≤ 30 := by rw [ed] at htot; exact htot
    have lpos := okl.pos; have qpos := okq.pos
    have hl30 : last.len ≤ 30 := by grind
    have hq30 : q.len ≤ 30 := by grind
    -- the last of made
    obtain ⟨mp, ml, rfl⟩ : ∃ mp ml, ms = mp ++ [ml] := by
      have hn : ms ≠ [] := by
        intro e; subst e
        have := hall.len
        simp at this
      exact ⟨ms.dropLast, ms.getLast hn, (List.dropLast_concat_getLast hn).symm⟩
    have hmpl : mp.length = pre.length := by have := hall.len; simp at this; exact this
    have hml : PcV K H' ml last := by
      obtain ⟨z, hz, rz⟩ := hall.get (i := mp.length) (v := ml) (by simp)
      rw [hmpl] at hz; simp at hz; subst hz; exact rz
    have hmp : All2 (PcV K H') mp pre := by
      have := hall.take mp.length
      rw [List.take_left, hmpl, List.take_left] at this
      exact this
    obtain ⟨pa, ca, lv, av, bv, cv, rfl, h1, h2, n1, n2, n3, n4⟩ := id hml
    obtain ⟨qa, qc, qlv, qav, qbv, qcv, rfl, q1, q2, m1, m2, m3, m4⟩ := id rq
    walk_at "w"
    refine w_ixL (SqL.of hms) (atI_last _ _) ?_
    walk_at "w"; walk_at "ix"
    walk_at "w"
    refine ⟨_, _, last, rfl, hml, okl, hl30, n1, ?_⟩
    rintro r H3 s3 ⟨b, ws3, rfl, hb, hn3⟩
    walk_at "w"; walk_at "ix"
    refine w_eqT hb hn3 (q2.tx s3.tx) (All2.cons (m2.tx s3.tx) (All2.cons (m3.tx s3.tx) (All2.cons (m4.tx s3.tx) All2.nil))) ?_
    walk_at "w"
    have hnd := nrm_drop hnrm hq
    refine w_ite (fun c => ?_) (fun c => ?_)
    · have cl : laterIs last q := by
        injection c with c1 c; injection c with c2 c; injection c with c3 c
        exact ⟨c1, c2, c3⟩
      rw [if_pos cl] at hnd
      have bll := okl.bd_len hl30
      have bql := okq.bd_len hq30
      walk_at "w"; walk_at "ix"
      walk_at "w"; walk_at "ix"
      walk_at "w"
      walk_at "op2"
      intro r4 H4 s4 m4'
      walk_at "w"; walk_at "ix"
      walk_at "w"
      refine w_newT (K := K) (by simp) fun t H5 ht5 s5 ht5' _ _ => ?_
      walk_at "w"
      have hms5 : H5 m = some (.lst (mp ++ [.ref pa])) := s5 _ _ (s4 _ _ (s3 _ _ hms))
      refine w_setL (K := K) (j := mp.length) hms5 (by rw [List.length_append]; exact ixN_last) fun H6 h6 b6 t6 => ?_
      have s35 := (s3.trans s4).trans s5
      have t36 : Tx K H' H6 := s35.tx.trans t6
      refine ⟨b6.same (s.trans s35) hm, hsl.tx t36, _, pre, ⟨last.len + q.len, last.a, last.b, last.c⟩, _, _, rfl, h6, ?_, hnd, okl.merge okq, by show last.len + q.len + total (rest.drop (i + 1)) ≤ 30; grind, by simp at hlen ⊢; omega⟩
      have es : (mp ++ [V.ref pa]).set mp.length (.ref t) = mp ++ [V.ref t] := by simp
      rw [es]
      refine All2.snoc (hmp.mono fun _ _ h => h.tx t36) ?_
      exact ⟨t, ca, _, av, bv, cv, rfl, ht5'.tx t6, h2.tx t36, m4'.tx (s5.tx.trans t6), n2.tx t36, n3.tx t36, n4.tx t36⟩
    · have cl : ¬ laterIs last q := fun z => c (by rw [z.1, z.2.1, z.2.2])
      rw [if_neg cl] at hnd
      walk_at "w"
      refine w_tyL (SqL.of (s3 _ _ hms)) ?_
      walk_at "w"
      refine w_append (K := K) (s3 _ _ hms) (by simp at hlen ⊢; omega) fun H4 h4 b4 t4 => ?_
      have t34 : Tx K H' H4 := s3.tx.trans t4
      exact ⟨b4.same (s.trans s3) hm, hsl.tx t34, _, pre ++ [last], q, _, _, rfl, h4, All2.snoc (hall.mono fun _ _ h => h.tx t34) (rq.tx t34), hnd, okq, by grind, by simp at hlen ⊢; omega⟩
  · rintro σ H' ⟨s, hsl, ms, pre, last, v1, v2, rfl, hms, hall, hnrm, okl, htot, hlen⟩
    have ed : rest.drop wr.length = [] := by rw [hwl]; simp
    rw [ed] at hnrm
    walk_at "w"
    refine w_tupleOf (K := K) (SqL.of hms) fun b H3 hb s3 hb3 _ _ => ?_
    refine k _ _ (s.trans s3) ⟨b, _, rfl, hb3, ?_⟩
    show All2 (PcV K H3) ms (nrm t0 rest)
    rw [hnrm]
    exact hall.mono fun _ _ h => h.tx s3.tx
def nrmC (c : Clip) : Clip := ⟨c.T, nrmT c.hue, nrmT c.lamp⟩
def sp_normal (K : Fg) : Sp := fun vs H Q _ => ∃ v c, vs = [v] ∧ ClV K H v c ∧ ClOk c ∧ Ret (fun r H' => ClV K H' r (nrmC c)) H Q
theorem len_normal {K : Fg} (vs : List V) (H : Hp) (Q : VK) (E : XK) (h : sp_normal K vs H Q E) : vs.length = 1 := by
  obtain ⟨v, tr, rfl, _⟩ := h; rfl
theorem pure_normal {K : Fg} (vs : List V) (H : Hp) (Q : VK) (E : XK) (h : sp_normal K vs H Q E) : t_normal K (sp_normal_track K) { nx := fun _ H' => Q .non H', rt := Q } (start n_normal vs) H := by
  obtain ⟨v, c, rfl, ⟨a, l, h1, h2, tv, hv, pv, mv, rfl, k1, k2, k3, k4, n, t1, t2⟩, ok, k⟩ := h
  unfold t_normal
  walk_at "w"; walk_at "ix"
  walk_at "w"
  refine w_lcT ?_
  walk_at "w"; walk_at "ix"
  refine w_lcTy k2 fun D hD => ⟨fun i H' => Same H H' ∧ ∃ acc, H' D = some (.lst acc) ∧ ((i = 0 ∧ acc = []) ∨ (∃ g1 v1, SqT K H' g1 [.str "hue", v1] ∧ TrV K H' v1 (nrmT c.hue) ∧ ((i = 1 ∧ acc = [.ref g1]) ∨ (i = 2 ∧ ∃ g2 v2, SqT K H' g2 [.str "lamp", v2] ∧ TrV K H' v2 (nrmT c.lamp) ∧ acc = [.ref g1, .ref g2])))), ?_, ?_, ?_, ?_⟩
  · intro H' h0 s _
    exact ⟨s, [], h0, .inl ⟨rfl, rfl⟩⟩
  · rintro i H' _ ⟨s, _⟩; exact k2.tx s.tx
  · rintro i x H' hx ⟨s, acc, hD', hcase⟩
    rcases i with _ | _ | i
    · simp at hx; subst hx
      rcases hcase with ⟨_, rfl⟩ | ⟨_, _, _, _, ⟨z, _⟩ | ⟨z, _⟩⟩
      · refine w_gtup (k3.tx s.tx) rfl ?_
        walk_at "w"
        refine ⟨rfl, ?_⟩
        refine w_yes ?_
        refine w_itrue ?_
        walk_at "w"
        refine ⟨_, c.hue, rfl, t1.tx s.tx, ok.hue, fun r H1 s1 m1 => ?_⟩
        walk_at "w"
        refine w_newT (K := K) (by simp) fun g H2 hg s2 hg2 _ _ => ?_
        refine w_lcapp (K := K) (s2 _ _ (s1 _ _ hD')) (by simp) fun H3 h3 b3 t3 => ?_
        exact ⟨b3.same ((s.trans s1).trans s2) hD, _, h3, .inr ⟨g, r, hg2.tx t3, m1.tx (s2.tx.trans t3), .inl ⟨rfl, rfl⟩⟩⟩
      · omega
      · omega
    · simp at hx; subst hx
      rcases hcase with ⟨z, _⟩ | ⟨g1, v1, hg1, hv1, ⟨_, rfl⟩ | ⟨z, _⟩⟩
      · omega
      · refine w_gtup (k4.tx s.tx) rfl ?_
        walk_at "w"
        refine ⟨rfl, ?_⟩
        refine w_yes ?_
        refine w_itrue ?_
        walk_at "w"
        refine ⟨_, c.lamp, rfl, t2.tx s.tx, ok.lamp, fun r H1 s1 m1 => ?_⟩
        walk_at "w"
        refine w_newT (K := K) (by simp) fun g H2 hg s2 hg2 _ _ => ?_
        refine w_lcapp (K := K) (s2 _ _ (s1 _ _ hD')) (by simp) fun H3 h3 b3 t3 => ?_
        have t13 : Tx K H' H3 := (s1.trans s2).tx.trans t3
        exact ⟨b3.same ((s.trans s1).trans s2) hD, _, h3, .inr ⟨g1, v1, hg1.tx t13, hv1.tx t13, .inr ⟨rfl, g, r, hg2.tx t3, m1.tx (s2.tx.trans t3), rfl⟩⟩⟩
      · omega
    · simp at hx
  · rintro H' ⟨s, acc, hD', hcase⟩
    rcases hcase with ⟨z, _⟩ | ⟨g1, v1, hg1, hv1, ⟨z, _⟩ | ⟨_, g2, v2, hg2, hv2, rfl⟩⟩
    · simp at z
    · simp at z
    · walk_at "w"
      refine w_tupleOf (K := K) (SqL.of hD') fun b H3 hb s3 hb3 _ _ => ?_
      have k1' := k1.tx (K := K) (s.trans s3).tx
      walk_at "w"; walk_at "ix"
      walk_at "w"
      refine w_newT (K := K) (by simp) fun r H4 hr s4 hr4 _ _ => ?_
      refine k _ _ ((s.trans s3).trans s4) ⟨r, b, g1, g2, tv, v1, v2, mv, rfl, hr4, hb3.tx s4.tx, hg1.tx (s3.trans s4).tx, hg2.tx (s3.trans s4).tx, n.tx ((s.trans s3).trans s4).tx, hv1.tx (s3.trans s4).tx, hv2.tx (s3.trans s4).tx⟩

/-! KClipV -/
set_option Elab.async false
set_option linter.all false
set_option maxRecDepth 100000
set_option maxHeartbeats 1000000
/-! ### clamped, shown_at -/
def sp_clamped (K : Fg) : Sp := fun vs H Q _ => ∃ v w c x, vs = [v, w] ∧ ClV K H v c ∧ ClOk c ∧ Num K H w x ∧ Bd 4400 x ∧ Ret (fun r H' => Num K H' r (clampQ (total c.lamp) x)) H Q
theorem len_clamped {K : Fg} (vs : List V) (H : Hp) (Q : VK) (E : XK) (h : sp_clamped K vs H Q E) : vs.length = 2 := by
  obtain ⟨v, w, p, x, rfl, _⟩ := h; rfl
theorem pure_clamped {K : Fg} {mg : Str → Option Value} (T : Txt K mg) (vs : List V) (H : Hp) (Q : VK) (E : XK) (h : sp_clamped K vs H Q E) : t_clamped K (sp_compare K) { nx := fun _ H' => Q .non H', rt := Q } (start n_clamped vs) H := by
  obtain ⟨v, w, c, x, rfl, ⟨a, l, h1, h2, tv, hv, pv, mv, rfl, k1, k2, k3, k4, n, t1, t2⟩, ok, nx, bx, k⟩ := h
  have nz := num_ns T H
  have z1 := bd_zero
  have bT := ok.bdT
  rw [ok.tot] at n bT
  unfold t_clamped
  walk_at "w"
  walk_at "cmp"
  walk_at "w"
  unfold clampQ at k
  refine w_ite (fun c1 => ?_) (fun c1 => ?_)
  · rw [if_pos (cmpQ_lt.mp c1)] at k
    walk_at "w"
    exact k _ _ (Same.refl _) nz
  · rw [if_neg (fun z => c1 (cmpQ_lt.mpr z))] at k
    walk_at "w"; walk_at "ix"
    walk_at "w"
    walk_at "cmp"
    walk_at "w"
    refine w_ite (fun c2 => ?_) (fun c2 => ?_)
    · rw [if_pos (cmpQ_gt.mp c2)] at k
      walk_at "w"; walk_at "ix"
      exact k _ _ (Same.refl _) n
    · rw [if_neg (fun z => c2 (cmpQ_gt.mpr z))] at k
      walk_at "w"
      exact k _ _ (Same.refl _) nx
def sp_shown_at (K : Fg) : Sp := fun vs H Q _ => ∃ v w c x, vs = [v, .str "lamp", w] ∧ ClV K H v c ∧ ClOk c ∧ Num K H w x ∧ Bd 2000 x ∧ Ret (fun r H' => Num K H' r (shownF c.lamp x)) H Q
theorem len_shown_at {K : Fg} (vs : List V) (H : Hp) (Q : VK) (E : XK) (h : sp_shown_at K vs H Q E) : vs.length = 3 := by
  obtain ⟨v, w, p, x, rfl, _⟩ := h; rfl
theorem pure_shown_at {K : Fg} (vs : List V) (H : Hp) (Q : VK) (E : XK) (h : sp_shown_at K vs H Q E) : t_shown_at K (sp_clamped K) (sp_value_at K) { nx := fun _ H' => Q .non H', rt := Q } (start n_shown_at vs) H := by
  obtain ⟨v, w, c, x, rfl, hc, ok, nx, bx, k⟩ := h
  unfold t_shown_at
  walk_at "w"
  refine ⟨_, _, c, x, rfl, hc, ok, nx, bx.mono (by decide), fun r H1 s1 m1 => ?_⟩
  walk_at "w"
  refine ⟨_, _, c, _, rfl, hc.tx s1.tx, ok.lamp, m1, bd_clamp (ok.lamp.bd_total.mono (by decide)) bx, fun r H2 s2 m2 => ?_⟩
  exact k _ _ (s1.trans s2) m2
/-! ### track_of (normal), turning_positions, points_between -/
def sp_track_of_n (K : Fg) : Sp := fun vs H Q _ => ∃ v c, vs = [v, .str "lamp"] ∧ ClV K H v c ∧ ClOk c ∧ Ret (fun r H' => TrV K H' r (nrmT c.lamp)) H Q
theorem len_track_of_n {K : Fg} (vs : List V) (H : Hp) (Q : VK) (E : XK) (h : sp_track_of_n K vs H Q E) : vs.length = 2 := by
  obtain ⟨v, c, rfl, _⟩ := h; rfl
theorem pure_track_of_scenes {K : Fg} (vs : List V) (H : Hp) (Q : VK) (E : XK) (h : sp_track_of_n K vs H Q E) : t_track_of_scenes K (sp_normal K) { nx := fun _ H' => Q .non H', rt := Q } (start n_track_of_scenes vs) H := by
  obtain ⟨v, c, rfl, hc, ok, k⟩ := h
  unfold t_track_of_scenes
  walk_at "w"
  refine w_forTx ?_
  walk_at "w"
  refine ⟨_, c, rfl, hc, ok, ?_⟩
  rintro r He s1 ⟨a, l, h1, h2, tv, hv, pv, mv, rfl, k1, k2, k3, k4, n, t1, t2⟩
  walk_at "w"; walk_at "ix"
  refine w_forTy k2 ⟨fun i σ H' => H' = He ∧ i ≤ 1 ∧ ∃ v1 v2, σ = [some v, some (.str "lamp"), v1, v2], ?_, ?_, ?_, ?_⟩
  · exact ⟨rfl, by omega, none, none, rfl⟩
  · rintro i σ H' _ ⟨rfl, _⟩; exact k2
  · rintro i x σ H' hx ⟨rfl, hi, v1, v2, rfl⟩
    rcases i with _ | _ | i
    · simp at hx; subst hx
      refine w_gtup k3 rfl ?_
      walk_at "w"
      refine w_ite (fun z => absurd z hue_lamp) (fun _ => ?_)
      walk_at "w"
      exact ⟨rfl, Nat.le_refl _, _, _, rfl⟩
    · simp at hx; subst hx
      refine w_gtup k4 rfl ?_
      walk_at "w"
      refine w_ite (fun _ => ?_) (fun z => absurd rfl z)
      walk_at "w"
      exact k _ _ s1 t2
    · simp at hx
  · rintro σ H' ⟨rfl, hi, v1, v2, rfl⟩
    simp at hi
def sp_turning_positions (K : Fg) : Sp := fun vs H Q _ => ∃ v c, vs = [v, .str "lamp"] ∧ ClV K H v c ∧ ClOk c ∧ ∀ b H' ws, Same H H' → H' b = some (.lst ws) → Nums K H' ws (0 :: brk 0 (nrmT c.lamp)) → Q (.ref b) H'
theorem len_turning_positions {K : Fg} (vs : List V) (H : Hp) (Q : VK) (E : XK) (h : sp_turning_positions K vs H Q E) : vs.length = 2 := by
  obtain ⟨v, c, rfl, _⟩ := h; rfl
theorem brk_split : ∀ (l r : Trk) (s : Rat), brk s (l ++ r) = brk s l ++ brk (s + total l) r
  | [], r, s => by
    have e : s + total [] = s := by show s + 0 = s; grind
    rw [e]; rfl
  | p :: l, r, s => by
    have e : s + total (p :: l) = s + p.len + total l := by show s + (p.len + total l) = _; grind
    show _ ++ (s + p.len) :: brk (s + p.len) (l ++ r) = (_ ++ (s + p.len) :: brk (s + p.len) l) ++ brk (s + total (p :: l)) r
    rw [brk_split l r, e]
    simp
theorem brk_take {tr : Trk} {i : Nat} {p : Pc} (h : tr[i]? = some p) : brk 0 (tr.take (i + 1)) = (brk 0 (tr.take i) ++ (match p.turn with | some y => [total (tr.take i) + y] | none => [])) ++ [total (tr.take i) + p.len] := by
  rw [take_snoc h, brk_split]
  have e : 0 + total (tr.take i) = total (tr.take i) := by grind
  rw [e]
  show _ ++ (_ ++ (total (tr.take i) + p.len) :: []) = _
  simp
  all_goals rfl
theorem pos_last {tr : Trk} (i : Nat) : ∃ l, 0 :: brk 0 (tr.take i) = l ++ [total (tr.take i)] := by
  rcases List.eq_nil_or_concat (tr.take i) with e | ⟨l, p, e⟩
  · rw [e]; exact ⟨[], rfl⟩
  · refine ⟨0 :: (brk 0 l ++ (match p.turn with | some y => [total l + y] | none => [])), ?_⟩
    rw [e, List.concat_eq_append, brk_split, total_snoc]
    have e : 0 + total l = total l := by grind
    rw [e]
    show 0 :: (brk 0 l ++ (_ ++ (total l + p.len) :: [])) = _
    simp
    all_goals rfl
theorem pure_turning_positions {K : Fg} {mg : Str → Option Value} (T : Txt K mg) (vs : List V) (H : Hp) (Q : VK) (E : XK) (h : sp_turning_positions K vs H Q E) : t_turning_positions K (sp_track_of_n K) (sp_turning K) (sp_plus K) { nx := fun _ H' => Q .non H', rt := Q } (start n_turning_positions vs) H := by
  obtain ⟨v, c, rfl, hc, okc, k⟩ := h
  have nz := num_ns T
  have ok := okc.lamp.nrmT
  generalize htr : nrmT c.lamp = tr at ok k
  have hl12 := ok.len
  unfold t_turning_positions
  walk_at "w"
  refine w_newL (by simp) fun m H1 hm s1 hm1 b1 => ?_
  walk_at "w"
  refine w_forTx ?_
  walk_at "w"
  refine ⟨_, c, rfl, hc.tx s1.tx, okc, ?_⟩
  rw [htr]
  rintro r H2 s2 ⟨ta, ws, rfl, ht, hps⟩
  have hwl := hps.len
  refine w_forTy ht ⟨fun i σ H' => Same H H' ∧ Tx K H2 H' ∧ ∃ ms v1 v2 v3, σ = [some v, some (.str "lamp"), some (.ref m), v1, v2, v3] ∧ H' m = some (.lst ms) ∧ Nums K H' ms (0 :: brk 0 (tr.take i)), ?_, ?_, ?_, ?_⟩
  · exact ⟨s1.trans s2, Tx.refl _, _, none, none, none, rfl, s2 _ _ hm1, All2.cons (nz H2) All2.nil⟩
  · rintro i σ H' _ ⟨s, t, _⟩; exact ht.tx t
  · rintro i x σ H' hx ⟨s, t, ms, v1, v2, v3, rfl, hms, hn⟩
    obtain ⟨p, hp, rp⟩ := hps.get hx
    have rp := rp.tx t
    have pok := ok.all p (List.mem_of_getElem? hp)
    have bl := ok.bd_len (List.mem_of_getElem? hp)
    have bs := ok.bd_start i
    have hi : i < tr.length := (List.getElem?_eq_some_iff.mp hp).1
    have hlen : ms.length ≤ 25 := by
      rw [hn.len]
      have := brk_len (tr.take i) 0
      rw [List.length_take] at this
      simp; omega
    obtain ⟨ql, eq⟩ := pos_last (tr := tr) i
    rw [eq] at hn
    obtain ⟨mp, sv, rfl⟩ : ∃ mp sv, ms = mp ++ [sv] := by
      have hne : ms ≠ [] := by
        intro e; subst e
        have := hn.len
        simp at this
      exact ⟨ms.dropLast, ms.getLast hne, (List.dropLast_concat_getLast hne).symm⟩
    have ns : Num K H' sv (total (tr.take i)) := by
      have hml : mp.length = ql.length := by have := hn.len; simp at this; exact this
      obtain ⟨z, hz, rz⟩ := hn.get (i := mp.length) (v := sv) (by simp)
      rw [hml] at hz; simp at hz; subst hz; exact rz
    rw [← eq] at hn
    have last : ∀ (σ : Sl) (H3 : Hp) (ms3 : List V) (qs3 : List Rat) (D : Ends), (∃ w, σ = [some v, some (.str "lamp"), some (.ref m), some x, some sv, w]) → Same H H3 → Tx K H' H3 → H3 m = some (.lst ms3) → ms3.length ≤ 26 → Nums K H3 ms3 qs3 →
        (∀ σ' H4, Same H H4 → Tx K H' H4 → (∃ ms4 v1 v2 v3, σ' = [some v, some (.str "lamp"), some (.ref m), v1, v2, v3] ∧ H4 m = some (.lst ms4) ∧ Nums K H4 ms4 (qs3 ++ [total (tr.take i) + p.len])) → D.nx σ' H4) →
        tDrop (tBM K "list" rAppend (tVar 2) (tCons (tCall (sp_plus K) [] E0 (tCons (tVar 4) (tCons (tOp (rIxT K) (tVar 3) (tC (.int 0))) tNil))) tNil)) D σ H3 := by
      rintro σ H3 ms3 qs3 D ⟨w, rfl⟩ s3 t3 hm3 hl3 hn3 kk
      have ns3 := ns.tx t3
      obtain ⟨pa, ca, lv, av, bv, cv, rfl, h1, h2, n1, n2, n3, n4⟩ := rp.tx t3
      walk_at "w"
      refine w_tyL (SqL.of hm3) ?_
      walk_at "w"; walk_at "ix"
      walk_at "w"
      walk_at "op2"
      intro r H4 s4 m4
      walk_at "w"
      refine w_append (K := K) (s4 _ _ hm3) (by omega) fun H5 h5 b5 t5 => ?_
      exact kk _ _ (b5.same (s3.trans s4) hm) (t3.trans (s4.tx.trans t5)) ⟨_, _, _, _, rfl, h5, All2.snoc (hn3.tx (s4.tx.trans t5)) (m4.tx t5)⟩
    walk_at "w"
    refine w_ixL (SqL.of hms) (atI_last _ _) ?_
    walk_at "w"
    refine ⟨_, p, rfl, rp, pok, bl, fun e0 H3 s3 => ?_, fun y ey r H3 s3 m3 => ?_⟩
    · walk_at "w"
      refine w_itb (fun z => nomatch z) (fun _ => ?_)
      walk_at "w1"
      refine last _ H3 _ _ _ ⟨_, rfl⟩ (s.trans s3) s3.tx (s3 _ _ hms) (by omega) (hn.tx s3.tx) ?_
      rintro σ' H4 s4 t4 ⟨ms4, v1, v2, v3, rfl, h4, hn4⟩
      refine ⟨s4, t.trans t4, ms4, v1, v2, v3, rfl, h4, ?_⟩
      rw [brk_take hp, e0]
      simpa using hn4
    · walk_at "w"
      have hr : decide (r = V.non) = false := by
        obtain ⟨q, e, _⟩ := m3
        rw [e]; rfl
      rw [hr]
      refine w_itb (fun _ => ?_) (fun z => nomatch z)
      walk_at "w"
      refine w_tyL (SqL.of (s3 _ _ hms)) ?_
      have by50 := bd_turn pok ey
      have ns3 := ns.tx s3.tx
      walk_at "w"
      walk_at "op2"
      intro r4 H4 s4 m4
      walk_at "w"
      refine w_append (K := K) (s4 _ _ (s3 _ _ hms)) (by omega) fun H5 h5 b5 t5 => ?_
      refine last _ H5 _ _ _ ⟨_, rfl⟩ (b5.same ((s.trans s3).trans s4) hm) (((s3.trans s4).tx).trans t5) h5 (by simp at hlen ⊢; omega) (All2.snoc (hn.tx (((s3.trans s4).tx).trans t5)) (m4.tx t5)) ?_
      rintro σ' H6 s6 t6 ⟨ms4, v1, v2, v3, rfl, h6, hn4⟩
      refine ⟨s6, t.trans t6, ms4, v1, v2, v3, rfl, h6, ?_⟩
      rw [brk_take hp, ey]
      exact hn4
  · rintro σ H' ⟨s, t, ms, v1, v2, v3, rfl, hms, hn⟩
    walk_at "w"
    rw [hwl, List.take_length] at hn
    exact k m H' ms s hms hn
def sp_points_between (K : Fg) : Sp := fun vs H Q _ => ∃ v w u c x y, vs = [v, .str "lamp", w, u] ∧ ClV K H v c ∧ ClOk c ∧ Num K H w x ∧ Num K H u y ∧ Bd 4400 x ∧ Bd 4400 y ∧
  ∀ b H' ws, Same H H' → H' b = some (.lst ws) → Nums K H' ws (ptsB c.lamp x y) → Q (.ref b) H'
theorem len_points_between {K : Fg} (vs : List V) (H : Hp) (Q : VK) (E : XK) (h : sp_points_between K vs H Q E) : vs.length = 4 := by
  obtain ⟨v, w, u, c, x, y, rfl, _⟩ := h; rfl
theorem pure_points_between {K : Fg} (vs : List V) (H : Hp) (Q : VK) (E : XK) (h : sp_points_between K vs H Q E) : t_points_between K (sp_turning_positions K) (sp_compare K) { nx := fun _ H' => Q .non H', rt := Q } (start n_points_between vs) H := by
  obtain ⟨v, w, u, c, x, y, rfl, hc, ok, nx, ny, bx, by_, k⟩ := h
  have tb := ok.lamp.nrmT.brk_bd
  unfold t_points_between
  walk_at "w"
  refine w_newL (by simp) fun m H1 hm s1 hm1 b1 => ?_
  walk_at "w"
  refine w_forLx ?_
  walk_at "w"
  refine ⟨_, c, rfl, hc.tx s1.tx, ok, fun b H2 ws s2 hb hn => ?_⟩
  have hwl : ws.length ≤ 25 := by
    rw [hn.len]
    have := brk_len (nrmT c.lamp) 0
    have := ok.lamp.nrmT.len
    simp; omega
  have bne : b ≠ m ∨ b = m := by by_cases h : b = m <;> simp [h]
  have hbm : b ≠ m := by
    intro e; subst e
    have e2 := s2 _ _ hm1
    rw [hb] at e2
    injection e2 with e2; injection e2 with e2
    have := hn.len
    rw [e2] at this
    simp at this
    have h5 := brk_last (s := 0) ok.lamp.nrmT.ne
    rw [this] at h5; simp at h5
  have bdq : ∀ q ∈ (0 :: brk 0 (nrmT c.lamp)), Bd 4400 q := by
    intro q hq
    rcases List.mem_cons.mp hq with e | e
    · subst e; exact bd_zero.mono (by decide)
    · exact (tb q e).mono (by decide)
  refine w_forLy (SqL.of hb) ⟨fun i σ H' => Same H H' ∧ Tx K H2 H' ∧ H' b = some (.lst ws) ∧ ∃ ms v1, σ = [some v, some (.str "lamp"), some w, some u, some (.ref m), v1] ∧ H' m = some (.lst ms) ∧ Nums K H' ms (x :: ((0 :: brk 0 (nrmT c.lamp)).take i).filter (fun z => decide (x < z ∧ z < y))) ∧ ms.length ≤ i + 1, ?_, ?_, ?_, ?_⟩
  · exact ⟨s1.trans s2, Tx.refl _, hb, _, none, rfl, s2 _ _ hm1, All2.cons (nx.tx (s1.trans s2).tx) All2.nil, by simp⟩
  · rintro i σ H' _ ⟨s, t, h, _⟩; exact SqL.of h
  · rintro i z σ H' hz ⟨s, t, hb', ms, v1, rfl, hms, hn', hlen⟩
    obtain ⟨q, hq, rq⟩ := hn.get hz
    have rq := rq.tx t
    have bq := bdq q (List.mem_of_getElem? hq)
    have nx' := nx.tx s.tx
    have ny' := ny.tx s.tx
    have hi : i < ws.length := (List.getElem?_eq_some_iff.mp hz).1
    have no : ∀ (H3 : Hp), H3 = H' → ¬ (x < q ∧ q < y) → Nums K H3 ms (x :: ((0 :: brk 0 (nrmT c.lamp)).take (i + 1)).filter (fun z => decide (x < z ∧ z < y))) := by
      rintro H3 rfl hno
      rw [take_snoc hq, List.filter_append]
      have e : [q].filter (fun z => decide (x < z ∧ z < y)) = [] := by simp; grind
      rw [e, List.append_nil]; exact hn'
    walk_at "w"
    walk_at "cmp"
    walk_at "w"
    refine w_ite (fun c1 => ?_) (fun c1 => ?_)
    · walk_at "w"
      walk_at "cmp"
      walk_at "w"
      refine w_ite (fun c2 => ?_) (fun c2 => ?_)
      · walk_at "w"
        refine w_tyL (SqL.of hms) ?_
        walk_at "w"
        refine w_append (K := K) hms (by omega) fun H3 h3 b3 t3 => ?_
        refine ⟨b3.same s hm, t.trans t3, (b3 b hbm).trans hb', _, _, rfl, h3, ?_, by simp; omega⟩
        rw [take_snoc hq, List.filter_append]
        have e : [q].filter (fun z => decide (x < z ∧ z < y)) = [q] := by
          have := cmpQ_lt.mp c1; have := cmpQ_lt.mp c2
          simp; grind
        rw [e]
        exact All2.snoc (vs := ms) (xs := x :: _) (hn'.tx t3) (rq.tx t3)
      · walk_at "w"
        exact ⟨s, t, hb', ms, _, rfl, hms, no _ rfl fun z => c2 (cmpQ_lt.mpr z.2), by omega⟩
    · refine w_itb (fun z => nomatch z) (fun _ => ?_)
      walk_at "w"
      exact ⟨s, t, hb', ms, _, rfl, hms, no _ rfl fun z => c1 (cmpQ_lt.mpr z.1), by omega⟩
  · rintro σ H' ⟨s, t, hb', ms, v1, rfl, hms, hn', hlen⟩
    rw [hn.len, List.take_length] at hn'
    have nx' := nx.tx s.tx
    have ny' := ny.tx s.tx
    walk_at "w"
    walk_at "cmp"
    walk_at "w"
    refine w_ite (fun c1 => ?_) (fun c1 => ?_)
    · walk_at "w"
      refine w_tyL (SqL.of hms) ?_
      walk_at "w"
      refine w_append (K := K) hms (by omega) fun H3 h3 b3 t3 => ?_
      walk_at "w"
      refine k _ _ _ (b3.same s hm) h3 ?_
      unfold ptsB
      rw [if_pos (cmpQ_lt.mp c1)]
      exact All2.snoc (vs := ms) (xs := x :: _) (hn'.tx t3) (ny'.tx t3)
    · walk_at "w"
      refine k _ _ _ s hms ?_
      unfold ptsB
      rw [if_neg (fun z => c1 (cmpQ_lt.mpr z)), List.append_nil]
      exact hn'
/-! ### values_between of scenes, has_property -/
def sp_vbs (K : Fg) : Sp := fun vs H Q _ => ∃ v w u c x y n, vs = [v, .str "lamp", w, u] ∧ ClV K H v c ∧ ClOk c ∧ Num K H w x ∧ Num K H u y ∧ Bd n x ∧ Bd n y ∧ 61 ≤ n ∧ n ≤ 2000 ∧ x ≤ y ∧
  Ret (fun r H' => ∃ b lv gv lo hi, r = .ref b ∧ SqT K H' b [lv, gv] ∧ Num K H' lv lo ∧ Num K H' gv hi ∧ IsLeast (shownF c.lamp) x y lo ∧ IsGreat (shownF c.lamp) x y hi ∧ Bd (2 * n + 364) lo ∧ Bd (2 * n + 364) hi) H Q
theorem len_vbs {K : Fg} (vs : List V) (H : Hp) (Q : VK) (E : XK) (h : sp_vbs K vs H Q E) : vs.length = 4 := by
  obtain ⟨v, w, u, c, x, y, n, rfl, _⟩ := h; rfl
theorem pure_values_between_scenes {K : Fg} (vs : List V) (H : Hp) (Q : VK) (E : XK) (h : sp_vbs K vs H Q E) : t_values_between_scenes K (sp_clamped K) (sp_greatest_value K) (sp_least_value K) { nx := fun _ H' => Q .non H', rt := Q } (start n_values_between_scenes vs) H := by
  obtain ⟨v, w, u, c, x, y, n, rfl, hc, ok, nx, ny, bx, by_, hn1, hn2, hxy, k⟩ := h
  have hT := total_nn ok.lamp.p
  have bT := ok.lamp.bd_total.mono (show 10 ≤ n by omega)
  unfold t_values_between_scenes
  walk_at "w"
  refine ⟨_, _, c, x, rfl, hc, ok, nx, bx.mono (by omega), fun r1 H1 s1 m1 => ?_⟩
  walk_at "w"
  refine ⟨_, _, c, y, rfl, hc.tx s1.tx, ok, ny.tx s1.tx, by_.mono (by omega), fun r2 H2 s2 m2 => ?_⟩
  walk_at "w"
  refine ⟨_, _, _, c, _, _, n, rfl, hc.tx (s1.trans s2).tx, ok.lamp, m1.tx s2.tx, m2, bd_clamp bT bx, bd_clamp bT by_, hn1, hn2, (clamp_in hT).1, clamp_mono hT hxy, (clamp_in hT).2, ?_⟩
  rintro r3 H3 s3 ⟨lo, nlo, hlo, blo⟩
  walk_at "w"
  refine ⟨_, _, _, c, _, _, n, rfl, hc.tx ((s1.trans s2).trans s3).tx, ok.lamp, m1.tx (s2.trans s3).tx, m2.tx s3.tx, bd_clamp bT bx, bd_clamp bT by_, hn1, hn2, (clamp_in hT).1, clamp_mono hT hxy, (clamp_in hT).2, ?_⟩
  rintro r4 H4 s4 ⟨hi, nhi, hhi, bhi⟩
  walk_at "w"
  refine w_newT (K := K) (by simp) fun b H5 hb s5 hb5 _ _ => ?_
  exact k _ _ ((((s1.trans s2).trans s3).trans s4).trans s5) ⟨b, r3, r4, lo, hi, rfl, hb5, nlo.tx (s4.trans s5).tx, nhi.tx s5.tx, least_shown hT hxy hlo, great_shown hT hxy hhi, blo, bhi⟩
def sp_has_property (K : Fg) : Sp := fun vs H Q _ => ∃ v c, vs = [v, .str "lamp"] ∧ ClV K H v c ∧ ∀ H', Same H H' → Q (.bl true) H'
theorem len_has_property {K : Fg} (vs : List V) (H : Hp) (Q : VK) (E : XK) (h : sp_has_property K vs H Q E) : vs.length = 2 := by
  obtain ⟨v, c, rfl, _⟩ := h; rfl
theorem pure_has_property {K : Fg} (vs : List V) (H : Hp) (Q : VK) (E : XK) (h : sp_has_property K vs H Q E) : t_has_property K { nx := fun _ H' => Q .non H', rt := Q } (start n_has_property vs) H := by
  obtain ⟨v, c, rfl, ⟨a, l, h1, h2, tv, hv, pv, mv, rfl, k1, k2, k3, k4, n, t1, t2⟩, k⟩ := h
  unfold t_has_property
  walk_at "w"
  refine w_lcT ?_
  walk_at "w"; walk_at "ix"
  refine w_lcTy k2 fun D hD => ⟨fun i H' => Same H H' ∧ H' D = some (.lst (([.str "hue", .str "lamp"] : List V).take i)), ?_, ?_, ?_, ?_⟩
  · intro H' h0 s _
    exact ⟨s, h0⟩
  · rintro i H' _ ⟨s, _⟩; exact k2.tx s.tx
  · rintro i x H' hx ⟨s, hD'⟩
    rcases i with _ | _ | i
    · simp at hx; subst hx
      refine w_gtup (k3.tx s.tx) rfl ?_
      walk_at "w"
      refine ⟨rfl, ?_⟩
      refine w_yes ?_
      refine w_itrue ?_
      walk_at "w"
      exact w_lcapp (K := K) hD' (by simp) fun H3 h3 b3 t3 => ⟨b3.same s hD, h3⟩
    · simp at hx; subst hx
      refine w_gtup (k4.tx s.tx) rfl ?_
      walk_at "w"
      refine ⟨rfl, ?_⟩
      refine w_yes ?_
      refine w_itrue ?_
      walk_at "w"
      exact w_lcapp (K := K) hD' (by simp) fun H3 h3 b3 t3 => ⟨b3.same s hD, h3⟩
    · simp at hx
  · rintro H' ⟨s, hD'⟩
    refine ⟨D, _, rfl, .inl (SqL.of hD'), rfl, rfl, ?_⟩
    exact k H' s

/-! KNet -/
set_option Elab.async false
set_option linter.all false
set_option maxRecDepth 100000
set_option maxHeartbeats 1000000
/-! Facts as a net: chains, shortest chains, fits. -/
open PySem
structure Fact where
  a : Str
  b : Str
  lo : Rat
  hi : Rat
def arc (f : Fact) (t : Bool) : Str × Str × Rat := if t = true then (f.a, f.b, f.hi) else (f.b, f.a, -f.lo)
def Arc (fs : List Fact) (a b : Str) (d : Rat) : Prop := ∃ f ∈ fs, ∃ t, arc f t = (a, b, d)
def Fit (fs : List Fact) (t : Str → Rat) : Prop := ∀ f ∈ fs, f.lo ≤ t f.b - t f.a ∧ t f.b - t f.a ≤ f.hi
/-! ### chains of numbered steps -/
def stp (fs : List Fact) (o : Option (Str × Rat)) (x : Nat × Bool) : Option (Str × Rat) :=
  match o with
  | none => none
  | some (b, q) => match fs[x.1]? with
    | none => none
    | some f => if (arc f x.2).1 = b then some ((arc f x.2).2.1, q + (arc f x.2).2.2) else none
def Ch (fs : List Fact) (l : List (Nat × Bool)) (a b : Str) (q : Rat) : Prop := l.foldl (stp fs) (some (a, 0)) = some (b, q)
theorem Ch.nil {fs : List Fact} {a : Str} : Ch fs [] a a 0 := rfl
theorem stp_some {fs : List Fact} {b : Str} {q : Rat} {x : Nat × Bool} {c : Str} {r : Rat} : stp fs (some (b, q)) x = some (c, r) ↔ ∃ f, fs[x.1]? = some f ∧ (arc f x.2).1 = b ∧ c = (arc f x.2).2.1 ∧ r = q + (arc f x.2).2.2 := by
  unfold stp
  constructor
  · intro h
    cases e : fs[x.1]? with
    | none => simp [e] at h
    | some f =>
      simp only [e] at h
      by_cases k : (arc f x.2).1 = b
      · rw [if_pos k] at h
        injection h with h; injection h with h1 h2
        exact ⟨f, rfl, k, h1.symm, h2.symm⟩
      · rw [if_neg k] at h; exact nomatch h
  · rintro ⟨f, e, k, rfl, rfl⟩
    simp only [e]
    rw [if_pos k]
theorem stp_none {fs : List Fact} : ∀ l : List (Nat × Bool), l.foldl (stp fs) none = none
  | [] => rfl
  | x :: l => stp_none l
theorem Ch.snoc {fs : List Fact} {l : List (Nat × Bool)} {a b c : Str} {q d : Rat} {n : Nat} {t : Bool} {f : Fact} (h : Ch fs l a b q) (e : fs[n]? = some f) (k : arc f t = (b, c, d)) : Ch fs (l ++ [(n, t)]) a c (q + d) := by
  unfold Ch at *
  rw [List.foldl_append, h]
  exact stp_some.mpr ⟨f, e, by rw [k], by rw [k], by rw [k]⟩
theorem Ch.pre {fs : List Fact} {l : List (Nat × Bool)} {a b : Str} {q : Rat} (h : Ch fs l a b q) (i : Nat) : ∃ c r, Ch fs (l.take i) a c r := by
  unfold Ch at *
  rw [← List.take_append_drop i l, List.foldl_append] at h
  rcases hc : (l.take i).foldl (stp fs) (some (a, 0)) with _ | ⟨c, r⟩
  · rw [hc, stp_none] at h; exact nomatch h
  · exact ⟨c, r, rfl⟩
theorem Ch.uniq {fs : List Fact} {l : List (Nat × Bool)} {a b b' : Str} {q q' : Rat} (h : Ch fs l a b q) (k : Ch fs l a b' q') : b = b' ∧ q = q' := by
  unfold Ch at *
  rw [h] at k
  injection k with k; injection k with k1 k2
  exact ⟨k1, k2⟩
theorem Ch.next {fs : List Fact} {l : List (Nat × Bool)} {a b c : Str} {q r : Rat} {i : Nat} {x : Nat × Bool} (h : Ch fs l a b q) (k : Ch fs (l.take i) a c r) (e : l[i]? = some x) :
    ∃ f, fs[x.1]? = some f ∧ (arc f x.2).1 = c ∧ Ch fs (l.take (i + 1)) a (arc f x.2).2.1 (r + (arc f x.2).2.2) := by
  obtain ⟨c2, r2, h2⟩ := h.pre (i + 1)
  have e2 : l.take (i + 1) = l.take i ++ [x] := by rw [List.take_succ, e]; rfl
  rw [e2] at h2 ⊢
  unfold Ch at *
  rw [List.foldl_append, k] at h2
  obtain ⟨f, h1, h3, rfl, rfl⟩ := stp_some.mp h2
  refine ⟨f, h1, h3, ?_⟩
  rw [List.foldl_append, k]
  exact h2
theorem Ch.ext {fs : List Fact} (e : List Fact) : ∀ (l : List (Nat × Bool)) (o : Option (Str × Rat)) (r : Str × Rat), l.foldl (stp fs) o = some r → l.foldl (stp (fs ++ e)) o = some r
  | [], _, _, h => h
  | x :: l, o, r, h => by
    rw [List.foldl_cons] at h ⊢
    have hs : stp (fs ++ e) o x = stp fs o x ∨ stp fs o x = none := by
      rcases o with _ | ⟨b, q⟩
      · exact .inl rfl
      · unfold stp
        cases e1 : fs[x.1]? with
        | none => exact .inr rfl
        | some f =>
          have : (fs ++ e)[x.1]? = some f := by
            rw [List.getElem?_append_left (List.getElem?_eq_some_iff.mp e1).1]; exact e1
          rw [this]
          exact .inl rfl
    rcases hs with hs | hs
    · rw [hs]; exact Ch.ext e l _ r h
    · rw [hs, stp_none] at h; exact nomatch h
/-! ### walks -/
def Wn (fs : List Fact) : Nat → Str → Str → Rat → Prop
  | 0, a, b, q => a = b ∧ q = 0
  | k + 1, a, b, q => ∃ c r d, Wn fs k a c r ∧ Arc fs c b d ∧ q = r + d
def Wl (fs : List Fact) : List Str → Str → Str → Rat → Prop
  | [], a, b, q => a = b ∧ q = 0
  | c :: l, a, b, q => ∃ d r, Arc fs a c d ∧ Wl fs l c b r ∧ q = d + r
theorem Ch.wn {fs : List Fact} : ∀ (l : List (Nat × Bool)) {a b : Str} {q : Rat}, Ch fs l a b q → Wn fs l.length a b q := by
  intro l
  induction hk : l.length generalizing l with
  | zero =>
    intro a b q h
    have : l = [] := List.length_eq_zero_iff.mp hk
    subst this
    unfold Ch at h
    injection h with h; injection h with h1 h2
    exact ⟨h1, h2.symm⟩
  | succ n ih =>
    intro a b q h
    obtain ⟨c, r, h1⟩ := h.pre n
    obtain ⟨x, hx⟩ : ∃ x, l[n]? = some x := ⟨l[n], List.getElem?_eq_getElem (by omega)⟩
    obtain ⟨f, e1, e2, h2⟩ := h.next h1 hx
    have e3 : l.take (n + 1) = l := List.take_of_length_le (by omega)
    rw [e3] at h2
    obtain ⟨rfl, rfl⟩ := h.uniq h2
    refine ⟨c, r, (arc f x.2).2.2, ih (l.take n) (by rw [List.length_take]; omega) h1, ⟨f, List.mem_of_getElem? e1, x.2, ?_⟩, rfl⟩
    rw [← e2]
theorem Wl.snoc {fs : List Fact} : ∀ {l : List Str} {a b c : Str} {q d : Rat}, Wl fs l a c q → Arc fs c b d → Wl fs (l ++ [b]) a b (q + d)
  | [], a, b, c, q, d, ⟨h1, h2⟩, k => by subst h1; subst h2; exact ⟨d, 0, k, ⟨rfl, rfl⟩, by grind⟩
  | x :: l, a, b, c, q, d, ⟨d1, r, h1, h2, h3⟩, k => ⟨d1, r + d, h1, Wl.snoc h2 k, by rw [h3]; grind⟩
theorem Wn.wl {fs : List Fact} : ∀ {k : Nat} {a b : Str} {q : Rat}, Wn fs k a b q → ∃ l, Wl fs l a b q
  | 0, _, _, _, h => ⟨[], h⟩
  | k + 1, a, b, q, ⟨c, r, d, h1, h2, h3⟩ => by
    obtain ⟨l, hl⟩ := Wn.wl h1
    exact ⟨l ++ [b], h3 ▸ hl.snoc h2⟩
theorem Wn.cons {fs : List Fact} : ∀ {k : Nat} {a b c : Str} {q d : Rat}, Arc fs a c d → Wn fs k c b q → Wn fs (k + 1) a b (d + q)
  | 0, a, b, c, q, d, h, ⟨h1, h2⟩ => by subst h1; subst h2; exact ⟨a, 0, d, ⟨rfl, rfl⟩, h, by grind⟩
  | k + 1, a, b, c, q, d, h, ⟨e, r, d1, h1, h2, h3⟩ => ⟨e, d + r, d1, Wn.cons h h1, h2, by rw [h3]; grind⟩
theorem Wl.wn {fs : List Fact} : ∀ {l : List Str} {a b : Str} {q : Rat}, Wl fs l a b q → Wn fs l.length a b q
  | [], _, _, _, h => h
  | c :: l, a, b, q, ⟨d, r, h1, h2, h3⟩ => by rw [h3]; exact Wn.cons h1 (Wl.wn h2)
theorem Wl.app {fs : List Fact} : ∀ {l l' : List Str} {a b c : Str} {q r : Rat}, Wl fs l a c q → Wl fs l' c b r → Wl fs (l ++ l') a b (q + r)
  | [], l', a, b, c, q, r, ⟨h1, h2⟩, k => by
    subst h1; subst h2
    have e : (0 : Rat) + r = r := by grind
    rw [e]; exact k
  | x :: l, l', a, b, c, q, r, ⟨d1, r1, h1, h2, h3⟩, k => ⟨d1, r1 + r, h1, Wl.app h2 k, by rw [h3]; grind⟩
theorem Arc.fit {fs : List Fact} {t : Str → Rat} (h : Fit fs t) {a b : Str} {d : Rat} (k : Arc fs a b d) : t b - t a ≤ d := by
  obtain ⟨f, hf, s, e⟩ := k
  have := h f hf
  unfold arc at e
  cases s <;> simp at e <;> obtain ⟨rfl, rfl, rfl⟩ := e <;> grind
theorem Wl.fit {fs : List Fact} {t : Str → Rat} (h : Fit fs t) : ∀ {l : List Str} {a b : Str} {q : Rat}, Wl fs l a b q → t b - t a ≤ q
  | [], a, b, q, ⟨h1, h2⟩ => by subst h1; subst h2; grind
  | c :: l, a, b, q, ⟨d, r, h1, h2, h3⟩ => by
    have := Wl.fit h h2
    have := h1.fit h
    grind
theorem Wl.split {fs : List Fact} : ∀ {l : List Str} {a b x : Str} {q : Rat}, Wl fs l a b q → x ∈ l → ∃ l1 l2 q1 q2, Wl fs l1 a x q1 ∧ Wl fs l2 x b q2 ∧ q = q1 + q2 ∧ l2.length < l.length ∧ (∀ y ∈ l2, y ∈ l)
  | [], _, _, _, _, _, h => by simp at h
  | c :: l, a, b, x, q, ⟨d, r, h1, h2, h3⟩, h => by
    by_cases e : x = c
    · subst e
      exact ⟨[x], l, d, r, ⟨d, 0, h1, ⟨rfl, rfl⟩, by grind⟩, h2, h3, by simp, fun y hy => by simp [hy]⟩
    · have hx : x ∈ l := by simpa [e] using h
      obtain ⟨l1, l2, q1, q2, k1, k2, k3, k4, k5⟩ := Wl.split h2 hx
      exact ⟨c :: l1, l2, d + q1, q2, ⟨d, q1, h1, k1, rfl⟩, k2, by rw [h3, k3]; grind, by simp; omega, fun y hy => by simp [k5 y hy]⟩
theorem Wl.shorter {fs : List Fact} {t : Str → Rat} (ft : Fit fs t) : ∀ {l : List Str} {a b : Str} {q : Rat}, Wl fs l a b q → ¬ (a :: l).Nodup → ∃ l' q', Wl fs l' a b q' ∧ q' ≤ q ∧ l'.length < l.length
  | [], _, _, _, _, h => absurd (List.nodup_cons.mpr ⟨by simp, List.nodup_nil⟩) h
  | c :: l, a, b, q, ⟨d, r, h1, h2, h3⟩, h => by
    by_cases e : a ∈ c :: l
    · obtain ⟨l1, l2, q1, q2, k1, k2, k3, k4, _⟩ := Wl.split (fs := fs) (l := c :: l) ⟨d, r, h1, h2, h3⟩ e
      have := k1.fit ft
      exact ⟨l2, q2, k2, by grind, k4⟩
    · have h' : ¬ (c :: l).Nodup := fun z => h (List.nodup_cons.mpr ⟨e, z⟩)
      obtain ⟨l', q', k1, k2, k3⟩ := Wl.shorter ft h2 h'
      exact ⟨c :: l', d + q', ⟨d, q', h1, k1, rfl⟩, by grind, by simp; omega⟩
theorem Wl.simple {fs : List Fact} {t : Str → Rat} (ft : Fit fs t) : ∀ (n : Nat) {l : List Str} {a b : Str} {q : Rat}, l.length ≤ n → Wl fs l a b q → ∃ l' q', Wl fs l' a b q' ∧ q' ≤ q ∧ (a :: l').Nodup
  | 0, [], a, b, q, _, h => ⟨[], q, h, Rat.le_refl, List.nodup_cons.mpr ⟨by simp, List.nodup_nil⟩⟩
  | 0, _ :: _, _, _, _, h, _ => by simp at h
  | n + 1, l, a, b, q, hn, h => by
    by_cases e : (a :: l).Nodup
    · exact ⟨l, q, h, Rat.le_refl, e⟩
    · obtain ⟨l', q', k1, k2, k3⟩ := h.shorter ft e
      obtain ⟨l2, q2, m1, m2, m3⟩ := Wl.simple ft n (by omega) k1
      exact ⟨l2, q2, m1, Rat.le_trans m2 k2, m3⟩
theorem nodup_len {α : Type} [DecidableEq α] : ∀ (l m : List α), l.Nodup → (∀ x ∈ l, x ∈ m) → l.length ≤ m.length
  | [], _, _, _ => Nat.zero_le _
  | x :: l, m, h, k => by
    obtain ⟨h1, h2⟩ := List.nodup_cons.mp h
    have hm := k x (by simp)
    have e := List.length_erase_of_mem hm
    have := nodup_len l (m.erase x) h2 fun y hy => (List.mem_erase_of_ne (fun (z : y = x) => h1 (by rw [← z]; exact hy))).mpr (k y (by simp [hy]))
    have := List.length_pos_of_mem hm
    simp; omega
/-! ### the net -/
structure Net (ns : List Str) (fs : List Fact) : Prop where
  st : ("start" : Str) ∈ ns
  ends : ∀ f ∈ fs, f.a ∈ ns ∧ f.b ∈ ns
  to : ∀ x ∈ ns, ∃ k q, Wn fs k x "start" q
  from_ : ∀ x ∈ ns, ∃ k q, Wn fs k "start" x q
  fit : ∃ t, Fit fs t
theorem Arc.ends {ns : List Str} {fs : List Fact} (N : Net ns fs) {a b : Str} {d : Rat} (h : Arc fs a b d) : a ∈ ns ∧ b ∈ ns := by
  obtain ⟨f, hf, s, e⟩ := h
  have := N.ends f hf
  unfold arc at e
  cases s <;> simp at e <;> obtain ⟨rfl, rfl, rfl⟩ := e
  · exact ⟨this.2, this.1⟩
  · exact this
theorem Wl.ends {ns : List Str} {fs : List Fact} (N : Net ns fs) : ∀ {l : List Str} {a b : Str} {q : Rat}, Wl fs l a b q → ∀ x ∈ l, x ∈ ns
  | [], _, _, _, _, _, h => by simp at h
  | c :: l, a, b, q, ⟨d, r, h1, h2, _⟩, x, h => by
    rcases List.mem_cons.mp h with e | e
    · subst e; exact (h1.ends N).2
    · exact Wl.ends N h2 x e
theorem Wn.few {ns : List Str} {fs : List Fact} (N : Net ns fs) {k : Nat} {a b : Str} {q : Rat} (ha : a ∈ ns) (h : Wn fs k a b q) : ∃ k' q', k' ≤ ns.length ∧ Wn fs k' a b q' ∧ q' ≤ q := by
  obtain ⟨l, hl⟩ := h.wl
  obtain ⟨t, ft⟩ := N.fit
  obtain ⟨l', q', h1, h2, h3⟩ := hl.simple ft _ (Nat.le_refl _)
  have := nodup_len _ ns h3 (fun x hx => by
    rcases List.mem_cons.mp hx with e | e
    · subst e; exact ha
    · exact h1.ends N x e)
  exact ⟨l'.length, q', by simp at this; omega, h1.wn, h2⟩
theorem Wn.fit {fs : List Fact} {t : Str → Rat} (h : Fit fs t) {k : Nat} {a b : Str} {q : Rat} (w : Wn fs k a b q) : t b - t a ≤ q := by
  obtain ⟨l, hl⟩ := w.wl
  exact hl.fit h
theorem Wn.app {fs : List Fact} {k m : Nat} {a b c : Str} {q r : Rat} (h : Wn fs k a c q) (g : Wn fs m c b r) : ∃ n, Wn fs n a b (q + r) := by
  obtain ⟨l, hl⟩ := h.wl
  obtain ⟨l', hl'⟩ := g.wl
  exact ⟨_, (hl.app hl').wn⟩
/-- the shortest -/
def IsD (fs : List Fact) (a b : Str) (q : Rat) : Prop := (∃ k, Wn fs k a b q) ∧ ∀ k q', Wn fs k a b q' → q ≤ q'
theorem IsD.uniq {fs : List Fact} {a b : Str} {q r : Rat} (h : IsD fs a b q) (k : IsD fs a b r) : q = r := by
  obtain ⟨⟨n, hn⟩, h2⟩ := h
  obtain ⟨⟨m, hm⟩, k2⟩ := k
  exact Rat.le_antisymm (h2 _ _ hm) (k2 _ _ hn)
open Classical in
noncomputable def dst (fs : List Fact) (a b : Str) : Rat := if h : ∃ q, IsD fs a b q then h.choose else 0
theorem IsD.dst {fs : List Fact} {a b : Str} {q : Rat} (h : IsD fs a b q) : Sc.dst fs a b = q := by
  unfold Sc.dst
  rw [dif_pos ⟨q, h⟩]
  exact (⟨q, h⟩ : ∃ q, IsD fs a b q).choose_spec.uniq h
/-- what a table of best chains out of a is to hold -/
structure Best (fs : List Fact) (m : Nat) (a : Str) (L : Str → Option (Rat × List (Nat × Bool))) : Prop where
  ok : ∀ x e, L x = some e → Ch fs e.2 a x e.1 ∧ e.2.length ≤ m
  all : ∀ k x q, k ≤ m → Wn fs k a x q → ∃ e, L x = some e ∧ e.1 ≤ q
theorem Best.get {ns : List Str} {fs : List Fact} (N : Net ns fs) {a : Str} {L : Str → Option (Rat × List (Nat × Bool))} (B : Best fs ns.length a L) (ha : a ∈ ns) {x : Str} (hx : x ∈ ns) : ∃ e, L x = some e ∧ IsD fs a x e.1 ∧ Ch fs e.2 a x e.1 ∧ e.2.length ≤ ns.length := by
  obtain ⟨k1, q1, w1⟩ := N.to a ha
  obtain ⟨k2, q2, w2⟩ := N.from_ x hx
  obtain ⟨k, w⟩ := w1.app w2
  obtain ⟨k', q', h1, h2, h3⟩ := w.few N ha
  obtain ⟨e, he, h4⟩ := B.all _ _ _ h1 h2
  refine ⟨e, he, ⟨⟨_, (B.ok x e he).1.wn⟩, fun k q hw => ?_⟩, (B.ok x e he).1, (B.ok x e he).2⟩
  obtain ⟨k', q', h1, h2, h3⟩ := hw.few N ha
  obtain ⟨e', he', h4⟩ := B.all _ _ _ h1 h2
  rw [he] at he'; injection he' with he'; subst he'
  exact Rat.le_trans h4 h3
/-- there is a shortest: of the walks of at most n steps there is one, for there are but few facts -/
theorem best_wn (fs : List Fact) (a : Str) : ∀ (k : Nat), ∃ L : List (Str × Rat), (∀ p ∈ L, ∃ m, Wn fs m a p.1 p.2) ∧ ∀ m x q, m ≤ k → Wn fs m a x q → (x, q) ∈ L
  | 0 => ⟨[(a, 0)], by rintro p h; simp at h; subst h; exact ⟨0, rfl, rfl⟩, by
    rintro m x q hm h
    obtain rfl : m = 0 := by omega
    obtain ⟨rfl, rfl⟩ := h
    simp⟩
  | k + 1 => by
    obtain ⟨L, h1, h2⟩ := best_wn fs a k
    refine ⟨L ++ L.flatMap (fun p => fs.flatMap fun f => [true, false].flatMap fun t => if (arc f t).1 = p.1 then [((arc f t).2.1, p.2 + (arc f t).2.2)] else []), ?_, ?_⟩
    · intro p hp
      rcases List.mem_append.mp hp with hp | hp
      · exact h1 p hp
      · obtain ⟨p', hp', hp⟩ := List.mem_flatMap.mp hp
        obtain ⟨f, hf, hp⟩ := List.mem_flatMap.mp hp
        obtain ⟨t, _, hp⟩ := List.mem_flatMap.mp hp
        by_cases e : (arc f t).1 = p'.1
        · rw [if_pos e] at hp
          simp at hp; subst hp
          obtain ⟨m, hm⟩ := h1 p' hp'
          exact ⟨m + 1, p'.1, p'.2, (arc f t).2.2, hm, ⟨f, hf, t, by rw [← e]⟩, rfl⟩
        · rw [if_neg e] at hp; simp at hp
    · rintro m x q hm h
      by_cases e : m ≤ k
      · exact List.mem_append_left _ (h2 m x q e h)
      · obtain rfl : m = k + 1 := by omega
        obtain ⟨c, r, d, hw, ⟨f, hf, t, ht⟩, rfl⟩ := h
        apply List.mem_append_right
        refine List.mem_flatMap.mpr ⟨(c, r), h2 k c r (Nat.le_refl _) hw, List.mem_flatMap.mpr ⟨f, hf, List.mem_flatMap.mpr ⟨t, by cases t <;> simp, ?_⟩⟩⟩
        rw [if_pos (by rw [ht]), ht]; simp
theorem least_in : ∀ (L : List Rat), L ≠ [] → ∃ q ∈ L, ∀ r ∈ L, q ≤ r
  | [], h => absurd rfl h
  | [x], _ => ⟨x, by simp, by intro r hr; simp at hr; subst hr; exact Rat.le_refl⟩
  | x :: y :: L, _ => by
    obtain ⟨q, h1, h2⟩ := least_in (y :: L) (by simp)
    by_cases e : x ≤ q
    · refine ⟨x, by simp, fun r hr => ?_⟩
      rcases List.mem_cons.mp hr with e1 | e1
      · subst e1; exact Rat.le_refl
      · exact Rat.le_trans e (h2 r e1)
    · refine ⟨q, List.mem_cons_of_mem _ h1, fun r hr => ?_⟩
      rcases List.mem_cons.mp hr with e1 | e1
      · subst e1; exact Rat.le_of_lt (Rat.not_le.mp e)
      · exact h2 r e1
theorem Net.isD {ns : List Str} {fs : List Fact} (N : Net ns fs) {a x : Str} (ha : a ∈ ns) (hx : x ∈ ns) : IsD fs a x (dst fs a x) := by
  have : ∃ q, IsD fs a x q := by
    obtain ⟨L, h1, h2⟩ := best_wn fs a ns.length
    obtain ⟨k1, q1, w1⟩ := N.to a ha
    obtain ⟨k2, q2, w2⟩ := N.from_ x hx
    obtain ⟨k, w⟩ := w1.app w2
    obtain ⟨k', q', e1, e2, e3⟩ := w.few N ha
    have hm := h2 _ _ _ e1 e2
    have hm' : q' ∈ (L.filter (fun p => decide (p.1 = x))).map (·.2) := List.mem_map.mpr ⟨(x, q'), List.mem_filter.mpr ⟨hm, by simp⟩, rfl⟩
    obtain ⟨q, hq1, hq2⟩ := least_in _ (List.ne_nil_of_mem hm')
    obtain ⟨p, hp, rfl⟩ := List.mem_map.mp hq1
    obtain ⟨hp1, hp2⟩ := List.mem_filter.mp hp
    have hp2 : p.1 = x := by simpa using hp2
    refine ⟨p.2, ?_, fun k r hw => ?_⟩
    · obtain ⟨m, hm⟩ := h1 p hp1
      exact ⟨m, hp2 ▸ hm⟩
    · obtain ⟨k', r', e1, e2, e3⟩ := hw.few N ha
      exact Rat.le_trans (hq2 r' (List.mem_map.mpr ⟨(x, r'), List.mem_filter.mpr ⟨h2 _ _ _ e1 e2, by simp⟩, rfl⟩)) e3
  obtain ⟨q, hq⟩ := this
  rw [hq.dst]; exact hq
section
variable {ns : List Str} {fs : List Fact} {a b c x y : Str} {d n : Rat} {t : Str → Rat}
theorem Net.tri (N : Net ns fs) (ha : a ∈ ns) (h : Arc fs b c d) : dst fs a c ≤ dst fs a b + d := by
  obtain ⟨⟨k, w⟩, _⟩ := N.isD ha (h.ends N).1
  exact (N.isD ha (h.ends N).2).2 (k + 1) _ ⟨_, _, _, w, h, rfl⟩
theorem Net.tri2 (N : Net ns fs) (hc : c ∈ ns) (h : Arc fs a b d) : dst fs a c ≤ d + dst fs b c := by
  obtain ⟨⟨k, w⟩, _⟩ := N.isD (h.ends N).2 hc
  exact (N.isD (h.ends N).1 hc).2 (k + 1) _ (Wn.cons h w)
theorem Net.self (N : Net ns fs) (ha : a ∈ ns) : dst fs a a = 0 := by
  have h := N.isD ha ha
  have h1 := h.2 0 0 ⟨rfl, rfl⟩
  obtain ⟨t, ft⟩ := N.fit
  obtain ⟨⟨k, w⟩, _⟩ := h
  have := w.fit ft
  grind
theorem Net.sound (N : Net ns fs) (ft : Fit fs t) (ha : a ∈ ns) (hb : b ∈ ns) : t b - t a ≤ dst fs a b := by
  obtain ⟨⟨k, w⟩, _⟩ := N.isD ha hb
  exact w.fit ft
theorem Net.sound2 (N : Net ns fs) (ft : Fit fs t) (ha : a ∈ ns) (hb : b ∈ ns) : -dst fs b a ≤ t b - t a := by
  have := N.sound ft hb ha
  grind
theorem Net.span_le (N : Net ns fs) (ha : a ∈ ns) (hb : b ∈ ns) : -dst fs b a ≤ dst fs a b := by
  obtain ⟨t, ft⟩ := N.fit
  have := N.sound ft ha hb
  have := N.sound2 ft ha hb
  grind
theorem fit_of_arc (h : ∀ a b d, Arc fs a b d → t b - t a ≤ d) : Fit fs t := fun f hf => by
  have h1 := h f.a f.b f.hi ⟨f, hf, true, rfl⟩
  have h2 := h f.b f.a (-f.lo) ⟨f, hf, false, rfl⟩
  grind
theorem Net.earliest (N : Net ns fs) : Fit fs (fun x => -dst fs x "start") := fit_of_arc fun a b d h => by
  have := N.tri2 N.st h
  grind
theorem Net.latest (N : Net ns fs) : Fit fs (fun x => dst fs "start" x) := fit_of_arc fun a b d h => by
  have := N.tri N.st h
  grind
theorem Arc.more {f : Fact} (h : Arc fs a b d) : Arc (fs ++ [f]) a b d := by
  obtain ⟨g, hg, s, e⟩ := h
  exact ⟨g, List.mem_append_left _ hg, s, e⟩
theorem Wn.more {f : Fact} : ∀ {k : Nat} {a b : Str} {q : Rat}, Wn fs k a b q → Wn (fs ++ [f]) k a b q
  | 0, _, _, _, h => h
  | k + 1, a, b, q, ⟨c, r, d, h1, h2, h3⟩ => ⟨c, r, d, Wn.more h1, h2.more, h3⟩
theorem Net.more (N : Net ns fs) {f : Fact} (ha : f.a ∈ ns) (hb : f.b ∈ ns) (h : ∃ t, Fit (fs ++ [f]) t) : Net ns (fs ++ [f]) where
  st := N.st
  ends := fun g hg => by
    rcases List.mem_append.mp hg with e | e
    · exact N.ends g e
    · simp at e; subst e; exact ⟨ha, hb⟩
  to := fun x hx => by obtain ⟨k, q, w⟩ := N.to x hx; exact ⟨k, q, w.more⟩
  from_ := fun x hx => by obtain ⟨k, q, w⟩ := N.from_ x hx; exact ⟨k, q, w.more⟩
  fit := h
theorem Fit.snoc {f : Fact} (h : Fit fs t) (k : f.lo ≤ t f.b - t f.a ∧ t f.b - t f.a ≤ f.hi) : Fit (fs ++ [f]) t := fun g hg => by
  rcases List.mem_append.mp hg with e | e
  · exact h g e
  · simp at e; subst e; exact k
theorem Fit.pre {f : Fact} (h : Fit (fs ++ [f]) t) : Fit fs t := fun g hg => h g (List.mem_append_left _ hg)
theorem Fit.last {f : Fact} (h : Fit (fs ++ [f]) t) : f.lo ≤ t f.b - t f.a ∧ t f.b - t f.a ≤ f.hi := h f (List.mem_append_right _ (by simp))
/-- a number in the span can be had -/
theorem Net.with (N : Net ns fs) (ha : a ∈ ns) (hb : b ∈ ns) (h1 : -dst fs b a ≤ n) (h2 : n ≤ dst fs a b) : Net ns (fs ++ [⟨a, b, n, n⟩]) := by
  refine N.more ha hb ⟨fun x => min (dst fs a x) (dst fs b x + n), Fit.snoc (fit_of_arc fun x y d h => ?_) ?_⟩
  · have e1 := N.tri ha h
    have e2 := N.tri hb h
    simp only [Rat.min_def]
    split <;> split <;> grind
  · have e1 := N.self ha
    have e2 := N.self hb
    simp only [Rat.min_def, e1, e2]
    split <;> split <;> grind
end
/-! ### bits of chains -/
def Mx (D B : Nat) (q : Rat) : Prop := ∃ z : Int, q * (D : Rat) = (z : Rat) ∧ z.natAbs ≤ B
theorem Mx.add {D B C : Nat} {q r : Rat} (h : Mx D B q) (k : Mx D C r) : Mx D (B + C) (q + r) := by
  obtain ⟨z, hz, bz⟩ := h
  obtain ⟨w, hw, bw⟩ := k
  exact ⟨z + w, by rw [Rat.intCast_add, ← hz, ← hw]; grind, by omega⟩
theorem Mx.neg {D B : Nat} {q : Rat} (h : Mx D B q) : Mx D B (-q) := by
  obtain ⟨z, hz, bz⟩ := h
  exact ⟨-z, by rw [Rat.intCast_neg, ← hz]; grind, by omega⟩
theorem Mx.zero {D : Nat} : Mx D 0 0 := ⟨0, by simp, by simp⟩
theorem Mx.mono {D B C : Nat} {q : Rat} (h : Mx D B q) (k : B ≤ C) : Mx D C q := by
  obtain ⟨z, hz, bz⟩ := h
  exact ⟨z, hz, by omega⟩
theorem Mx.bd {D B n : Nat} {q : Rat} (h : Mx D B q) (hD : 0 < D) (h1 : B < 2 ^ n) (h2 : D < 2 ^ n) : Bd n q := by
  obtain ⟨z, hz, bz⟩ := h
  have hn : 0 < n := by
    rcases n with _ | n
    · simp at h2; omega
    · omega
  have e : q = Rat.divInt z (D : Int) := by
    have hD' : (D : Rat) ≠ 0 := by
      intro z
      have := Rat.natCast_eq_zero_iff.mp z
      omega
    rw [Rat.divInt_eq_div, Rat.intCast_natCast, ← hz, Rat.div_def, Rat.mul_assoc, Rat.mul_inv_cancel _ hD', Rat.mul_one]
  rw [e]
  exact bd_divInt (by omega) (by simpa using h2) hn
theorem Arc.mx {fs : List Fact} {D B : Nat} (h : ∀ f ∈ fs, Mx D B f.lo ∧ Mx D B f.hi) {a b : Str} {d : Rat} (k : Arc fs a b d) : Mx D B d := by
  obtain ⟨f, hf, s, e⟩ := k
  have := h f hf
  unfold arc at e
  cases s <;> simp at e <;> obtain ⟨rfl, rfl, rfl⟩ := e
  · exact this.1.neg
  · exact this.2
theorem Wn.mx {fs : List Fact} {D B : Nat} (h : ∀ f ∈ fs, Mx D B f.lo ∧ Mx D B f.hi) : ∀ {k : Nat} {a b : Str} {q : Rat}, Wn fs k a b q → Mx D (k * B) q
  | 0, _, _, _, ⟨_, e⟩ => by subst e; exact Mx.zero.mono (by omega)
  | k + 1, a, b, q, ⟨c, r, d, h1, h2, h3⟩ => by
    rw [h3, Nat.add_mul, Nat.one_mul]
    exact (Wn.mx h h1).add (h2.mx h)

/-! KDict -/
set_option Elab.async false
set_option linter.all false
set_option maxRecDepth 100000
set_option maxHeartbeats 1000000
/-! ### frames -/
def Kp (K : Fg) (X : List Addr) (H H' : Hp) : Prop := Tx K H H' ∧ ∀ a o, a ∉ X → H a = some o → H' a = some o
theorem Kp.refl {K : Fg} {X : List Addr} (H : Hp) : Kp K X H H := ⟨Tx.refl H, fun _ _ _ h => h⟩
theorem Kp.trans {K : Fg} {X : List Addr} {H H1 H2 : Hp} (a : Kp K X H H1) (b : Kp K X H1 H2) : Kp K X H H2 := ⟨a.1.trans b.1, fun x o n h => b.2 x o n (a.2 x o n h)⟩
theorem Kp.of {K : Fg} {X : List Addr} {H H' : Hp} (s : Same H H') : Kp K X H H' := ⟨s.tx, fun a o _ h => s a o h⟩
theorem Kp.but {K : Fg} {X : List Addr} {l : Addr} {H H' : Hp} (b : But l H H') (t : Tx K H H') (h : l ∈ X) : Kp K X H H' := ⟨t, fun a o n e => by
  rw [b a (fun z => n (z ▸ h))]; exact e⟩
theorem Kp.mono {K : Fg} {X Y : List Addr} {H H' : Hp} (k : Kp K X H H') (h : ∀ a ∈ X, a ∈ Y) : Kp K Y H H' := ⟨k.1, fun a o n e => k.2 a o (fun z => n (h a z)) e⟩
theorem Kp.same {K : Fg} {X : List Addr} {H0 H : Hp} (k : Kp K X H0 H) (n : ∀ a ∈ X, H0 a = none) : Same H0 H := fun a o e => k.2 a o (fun z => by rw [n a z] at e; exact nomatch e) e
/-! ### tables of names -/
def lk {α : Type} (es : List (Str × α)) (x : Str) : Option α := (es.find? fun e => decide (e.1 = x)).map (·.2)
def pt {α : Type} (es : List (Str × α)) (x : Str) (e : α) : List (Str × α) := if (es.any fun kv => decide (kv.1 = x)) = true then es.map (fun kv => if kv.1 = x then (kv.1, e) else kv) else es ++ [(x, e)]
theorem lk_any {α : Type} (x : Str) : ∀ es : List (Str × α), (es.any fun kv => decide (kv.1 = x)) = (lk es x).isSome
  | [] => rfl
  | p :: r => by
    rw [List.any_cons]
    by_cases e : p.1 = x
    · simp [lk, List.find?_cons, e]
    · have ih := lk_any x r
      simp only [lk, List.find?_cons, e, decide_false, Bool.false_or]
      exact ih
theorem lk_pt {α : Type} (x j : Str) (e : α) : ∀ es : List (Str × α), lk (pt es x e) j = if j = x then some e else lk es j := by
  intro es
  unfold pt
  by_cases h : (es.any fun kv => decide (kv.1 = x)) = true
  · rw [if_pos h]
    induction es with
    | nil => simp at h
    | cons p r ih =>
      by_cases e1 : p.1 = x
      · by_cases e2 : x = j
        · subst e2; simp [lk, List.find?_cons, e1]
        · have e3 : ¬ p.1 = j := fun z => e2 (e1.symm.trans z)
          have e4 : ¬ j = x := fun z => e2 z.symm
          by_cases h' : (r.any fun kv => decide (kv.1 = x)) = true
          · have := ih h'
            simp only [lk, List.map_cons, List.find?_cons, e1, if_true, e2, e4, decide_false, if_false] at this ⊢
            exact this
          · have hm : r.map (fun kv => if kv.1 = x then (kv.1, e) else kv) = r := by
              conv => rhs; rw [← List.map_id r]
              apply List.map_congr_left
              intro a ha
              have : ¬ a.1 = x := fun z => h' (List.any_eq_true.mpr ⟨a, ha, by simp [z]⟩)
              simp [this]
            rw [List.map_cons, hm, if_pos e1, if_neg e4]
            simp [lk, List.find?_cons, e2, e1]
      · have h' : (r.any fun kv => decide (kv.1 = x)) = true := by
          rw [List.any_cons] at h; simpa [e1] using h
        have := ih h'
        by_cases e2 : p.1 = j
        · have e4 : ¬ j = x := fun z => e1 (e2.trans z)
          simp [lk, List.find?_cons, e1, e2, e4]
        · simp only [lk, List.map_cons, List.find?_cons, e1, e2, decide_false, if_false] at this ⊢
          exact this
  · rw [if_neg h]
    have hn : lk es x = none := by
      have := lk_any x es
      rw [Bool.not_eq_true _ |>.mp h] at this
      exact Option.not_isSome_iff_eq_none.mp (by rw [← this]; simp)
    by_cases e2 : j = x
    · subst e2
      rw [if_pos rfl]
      unfold lk at hn ⊢
      rw [List.find?_append]
      rw [Option.map_eq_none_iff] at hn
      rw [hn]; simp
    · rw [if_neg e2]
      unfold lk
      rw [List.find?_append]
      have : ¬ x = j := fun z => e2 z.symm
      simp [List.find?_cons, this]
theorem pt_len {α : Type} (es : List (Str × α)) (x : Str) (e : α) : (pt es x e).length ≤ es.length + 1 := by
  unfold pt
  split
  · rw [List.length_map]; omega
  · simp
abbrev KvR {α : Type} (R : V → α → Prop) : Key × V → Str × α → Prop := fun kv e => kv.1 = .inr e.1 ∧ R kv.2 e.2
theorem All2.lk {α : Type} {R : V → α → Prop} (x : Str) : ∀ {kvs : List (Key × V)} {es : List (Str × α)}, All2 (KvR R) kvs es → (valV kvs (.inr x) = none ∧ Sc.lk es x = none) ∨ ∃ v e, valV kvs (.inr x) = some v ∧ Sc.lk es x = some e ∧ R v e
  | [], [], _ => .inl ⟨rfl, rfl⟩
  | p :: r, q :: t, ⟨⟨h1, h2⟩, h3⟩ => by
    by_cases e : q.1 = x
    · subst e
      refine .inr ⟨p.2, q.2, ?_, ?_, h2⟩
      · exact valV_pos h1
      · simp [Sc.lk, List.find?_cons]
    · have e1 : ¬ p.1 = .inr x := fun z => e (by rw [h1] at z; injection z)
      rcases All2.lk x h3 with ⟨k1, k2⟩ | ⟨v, a, k1, k2, k3⟩
      · refine .inl ⟨by rw [valV_neg e1]; exact k1, ?_⟩
        simp only [Sc.lk, List.find?_cons, e, decide_false] at k2 ⊢; exact k2
      · refine .inr ⟨v, a, by rw [valV_neg e1]; exact k1, ?_, k3⟩
        simp only [Sc.lk, List.find?_cons, e, decide_false] at k2 ⊢; exact k2
  | [], _ :: _, h => h.elim
  | _ :: _, [], h => h.elim
theorem All2.pt {α : Type} {R : V → α → Prop} {x : Str} {v : V} {e : α} {kvs : List (Key × V)} {es : List (Str × α)} (h : All2 (KvR R) kvs es) (r : R v e) : All2 (KvR R) (putK kvs (.inr x) v) (Sc.pt es x e) := by
  unfold putK Sc.pt
  have ha : (kvs.any fun kv => decide (kv.1 = .inr x)) = (es.any fun kv => decide (kv.1 = x)) := by
    rw [valV_any, lk_any]
    rcases h.lk x with ⟨k1, k2⟩ | ⟨v, a, k1, k2, k3⟩
    · rw [k1, k2]; rfl
    · rw [k1, k2]; rfl
  rw [ha]
  split
  · clear ha
    rename_i hh
    clear hh
    induction kvs generalizing es with
    | nil => cases es with
      | nil => exact All2.nil
      | cons _ _ => exact h.elim
    | cons p r1 ih => cases es with
      | nil => exact h.elim
      | cons q t =>
        obtain ⟨⟨h1, h2⟩, h3⟩ := h
        refine ⟨?_, ih h3⟩
        show KvR R (if p.1 = .inr x then (p.1, v) else p) (if q.1 = x then (q.1, e) else q)
        by_cases e1 : q.1 = x
        · have e2 : p.1 = .inr x := by rw [h1, e1]
          rw [if_pos e2, if_pos e1]
          exact ⟨h1, r⟩
        · have e2 : ¬ p.1 = .inr x := fun z => e1 (by rw [h1] at z; injection z)
          rw [if_neg e2, if_neg e1]
          exact ⟨h1, h2⟩
  · exact h.append ⟨⟨rfl, r⟩, trivial⟩
/-! ### steps -/
section
variable {K : Fg} {D : Ends} {σ : Sl} {H : Hp} {Q : VK} {ta tb te : TE} {a : Addr} {kvs : List (Key × V)} {v : V} {x : Str}
theorem w_dnewK (k : ∀ p H', H p = none → Same H H' → H' p = some (.dK []) → But p H H' → Q (.ref p) H') : tDNewK σ H Q := fun p hp => k p _ hp (Same.new hp) upd_same But.upd
theorem w_tDGet (h : ta σ H fun x H1 => tb σ H1 fun y H2 => ∃ a v, x = .ref a ∧ DGet H2 a y (some v) ∧ Q v H2) : tDGet ta tb σ H Q := h
theorem w_tDIn (h : ta σ H fun y H1 => tb σ H1 fun x H2 => ∃ a o, x = .ref a ∧ DGet H2 a y o ∧ Q (.bl o.isSome) H2) : tDIn ta tb σ H Q := h
theorem w_tDNotIn (h : ta σ H fun y H1 => tb σ H1 fun x H2 => ∃ a o, x = .ref a ∧ DGet H2 a y o ∧ Q (.bl (!o.isSome)) H2) : tDNotIn ta tb σ H Q := h
theorem w_sDPut (h : te σ H fun v H1 => ta σ H1 fun x H2 => tb σ H2 fun y H3 => ∃ a H4, x = .ref a ∧ DPut H3 a y v H4 ∧ D.nx σ H4) : sDPut ta tb te D σ H := h
theorem w_dget {P : V → Prop} (h : Rd H a (.dK kvs)) (e : valV kvs (.inr x) = some v) (q : P v) : ∃ a' v', V.ref a = .ref a' ∧ DGet H a' (.str x) (some v') ∧ P v' := ⟨a, v, rfl, .inl ⟨kvs, .inr x, h, rfl, e.symm⟩, q⟩
theorem w_din {o : Option V} {P : Option V → Prop} (h : Rd H a (.dK kvs)) (e : valV kvs (.inr x) = o) (q : P o) : ∃ a' o', V.ref a = .ref a' ∧ DGet H a' (.str x) o' ∧ P o' := ⟨a, o, rfl, .inl ⟨kvs, .inr x, h, rfl, e.symm⟩, q⟩
theorem w_dput {P : Hp → Prop} (h : H a = some (.dK kvs)) (z : kvs.length < 100000) (k : ∀ H', H' a = some (.dK (putK kvs (.inr x) v)) → But a H H' → Tx K H H' → P H') : ∃ a' H4, V.ref a = .ref a' ∧ DPut H a' (.str x) v H4 ∧ P H4 :=
  ⟨a, _, rfl, .inl ⟨kvs, .inr x, h, rfl, sz_lt z, rfl⟩, k _ upd_same But.upd (But.upd.tx h (fun _ e => nomatch e) fun _ _ e => nomatch e)⟩
theorem w_has {C : Addr} {sp : Sp} {neg : Bool} (h : te σ H fun x H1 => ta σ H1 fun y H2 => rHas C sp neg x y H2 Q) : tOp (rHas C sp neg) te ta σ H Q := h
end
/-! ### facts and entries on the heap -/
def FactV (K : Fg) (H : Hp) (v : V) (f : Fact) : Prop := ∃ p lo hi, v = .ref p ∧ SqT K H p [.str f.a, .str f.b, lo, hi] ∧ Num K H lo f.lo ∧ Num K H hi f.hi
theorem FactV.tx {K : Fg} {H H' : Hp} {v : V} {f : Fact} (h : FactV K H v f) (t : Tx K H H') : FactV K H' v f := by
  obtain ⟨p, lo, hi, e, h1, h2, h3⟩ := h
  exact ⟨p, lo, hi, e, h1.tx t, h2.tx t, h3.tx t⟩
abbrev FactsV (K : Fg) (H : Hp) (ws : List V) (fs : List Fact) : Prop := All2 (FactV K H) ws fs
theorem facts_tx {K : Fg} {H H' : Hp} {ws : List V} {fs : List Fact} (h : FactsV K H ws fs) (t : Tx K H H') : FactsV K H' ws fs := h.mono fun _ _ k => k.tx t
def turnI (b : Bool) : Int := if b = true then 0 else 1
def ItemV (K : Fg) (H : Hp) (v : V) (x : Nat × Bool) : Prop := ∃ p, v = .ref p ∧ SqT K H p [.int (x.1 : Int), .int (turnI x.2)]
theorem ItemV.tx {K : Fg} {H H' : Hp} {v : V} {x : Nat × Bool} (h : ItemV K H v x) (t : Tx K H H') : ItemV K H' v x := by
  obtain ⟨p, e, h1⟩ := h
  exact ⟨p, e, h1.tx t⟩
abbrev Ent : Type := Rat × List (Nat × Bool)
def EntV (K : Fg) (H : Hp) (v : V) (e : Ent) : Prop := ∃ p nv c items, v = .ref p ∧ SqT K H p [nv, .ref c] ∧ Num K H nv e.1 ∧ H c = some (.lst items) ∧ All2 (ItemV K H) items e.2
theorem EntV.same {K : Fg} {H H' : Hp} {v : V} {e : Ent} (h : EntV K H v e) (s : Same H H') : EntV K H' v e := by
  obtain ⟨p, nv, c, items, e1, h1, h2, h3, h4⟩ := h
  exact ⟨p, nv, c, items, e1, h1.tx s.tx, h2.tx s.tx, s _ _ h3, h4.mono fun _ _ k => k.tx s.tx⟩
theorem EntV.but {K : Fg} {H H' : Hp} {l : Addr} {v : V} {e : Ent} (h : EntV K H v e) (b : But l H H') (t : Tx K H H') (n : ∀ xs, H l ≠ some (.lst xs)) : EntV K H' v e := by
  obtain ⟨p, nv, c, items, e1, h1, h2, h3, h4⟩ := h
  exact ⟨p, nv, c, items, e1, h1.tx t, h2.tx t, by rw [b c (fun z => by subst z; exact n _ h3)]; exact h3, h4.mono fun _ _ k => k.tx t⟩
abbrev TabV (K : Fg) (H : Hp) (kvs : List (Key × V)) (es : List (Str × Ent)) : Prop := All2 (KvR (EntV K H)) kvs es
theorem TabV.same {K : Fg} {H H' : Hp} {kvs : List (Key × V)} {es : List (Str × Ent)} (h : TabV K H kvs es) (s : Same H H') : TabV K H' kvs es := All2.mono (fun _ _ k => ⟨k.1, k.2.same s⟩) h
theorem TabV.but {K : Fg} {H H' : Hp} {l : Addr} {kvs : List (Key × V)} {es : List (Str × Ent)} (h : TabV K H kvs es) (b : But l H H') (t : Tx K H H') (n : ∀ xs, H l ≠ some (.lst xs)) : TabV K H' kvs es := All2.mono (fun _ _ k => ⟨k.1, k.2.but b t n⟩) h
/-! ### numbers of the facts -/
structure MxOk (fs : List Fact) : Prop where
  ok : ∃ D B : Nat, (∀ f ∈ fs, Mx D B f.lo ∧ Mx D B f.hi) ∧ 0 < D ∧ D < 2 ^ 900 ∧ 10 * B < 2 ^ 900
theorem MxOk.wn {fs : List Fact} (M : MxOk fs) {k : Nat} {a b : Str} {q : Rat} (hk : k ≤ 10) (h : Wn fs k a b q) : Bd 900 q := by
  obtain ⟨D, B, h1, h2, h3, h4⟩ := M.ok
  exact ((h.mx h1).mono (Nat.mul_le_mul_right B hk)).bd h2 h4 h3
theorem MxOk.fact {fs : List Fact} (M : MxOk fs) {f : Fact} (h : f ∈ fs) : Bd 900 f.lo ∧ Bd 900 f.hi := by
  obtain ⟨D, B, h1, h2, h3, h4⟩ := M.ok
  exact ⟨((h1 f h).1.mono (by omega)).bd h2 h4 h3, ((h1 f h).2.mono (by omega)).bd h2 h4 h3⟩
theorem MxOk.arc {fs : List Fact} (M : MxOk fs) {f : Fact} (h : f ∈ fs) (t : Bool) : Bd 900 (arc f t).2.2 := by
  have := M.fact h
  unfold Sc.arc
  cases t
  · simpa using bd_neg this.1
  · simpa using this.2
/-! ### layers -/
structure Lay (fs : List Fact) (k : Nat) (a : Str) (es : List (Str × Ent)) : Prop where
  ok : ∀ x e, lk es x = some e → Ch fs e.2 a x e.1 ∧ e.2.length = k
  all : ∀ x q, Wn fs k a x q → ∃ e, lk es x = some e ∧ e.1 ≤ q
  len : es.length ≤ 100
def tix (t : Bool) : Nat := if t = true then 0 else 1
structure Part (fs : List Fact) (k : Nat) (a : Str) (es : List (Str × Ent)) (n j : Nat) (es' : List (Str × Ent)) : Prop where
  ok : ∀ x e, lk es' x = some e → Ch fs e.2 a x e.1 ∧ e.2.length = k + 1
  all : ∀ n' t f e, (n' < n ∨ (n' = n ∧ tix t < j)) → fs[n']? = some f → lk es (arc f t).1 = some e → ∃ e', lk es' (arc f t).2.1 = some e' ∧ e'.1 ≤ e.1 + (arc f t).2.2
  len : es'.length ≤ 2 * n + j
section
variable {fs : List Fact} {k n : Nat} {a : Str} {es es' : List (Str × Ent)} {f : Fact} {t : Bool}
theorem Part.start : Part fs k a es 0 0 [] := ⟨fun _ _ h => by simp [lk] at h, fun n' t f e h => by omega, Nat.zero_le _⟩
theorem Part.roll (p : Part fs k a es n 2 es') : Part fs k a es (n + 1) 0 es' := ⟨p.ok, fun n' t f e h => p.all n' t f e (by cases t <;> simp [tix] <;> omega), by have := p.len; omega⟩
theorem tix_eq {t u : Bool} (h : tix t = tix u) : t = u := by cases t <;> cases u <;> simp [tix] at h ⊢
theorem Part.skip (p : Part fs k a es n (tix t) es') (hf : fs[n]? = some f) (h : lk es (arc f t).1 = none) : Part fs k a es n (tix t + 1) es' := ⟨p.ok, fun n' t' f' e hn hf' he => by
  by_cases c : n' < n ∨ (n' = n ∧ tix t' < tix t)
  · exact p.all n' t' f' e c hf' he
  · obtain rfl : n' = n := by omega
    obtain rfl : t' = t := tix_eq (by omega)
    rw [hf] at hf'; injection hf' with hf'; subst hf'
    rw [h] at he; exact (nomatch he), by have := p.len; omega⟩
theorem Part.keep {e0 e1 : Ent} (p : Part fs k a es n (tix t) es') (hf : fs[n]? = some f) (h : lk es (arc f t).1 = some e0) (h1 : lk es' (arc f t).2.1 = some e1) (h2 : e1.1 ≤ e0.1 + (arc f t).2.2) : Part fs k a es n (tix t + 1) es' := ⟨p.ok, fun n' t' f' e hn hf' he => by
  by_cases c : n' < n ∨ (n' = n ∧ tix t' < tix t)
  · exact p.all n' t' f' e c hf' he
  · obtain rfl : n' = n := by omega
    obtain rfl : t' = t := tix_eq (by omega)
    rw [hf] at hf'; injection hf' with hf'; subst hf'
    rw [h] at he; injection he with he; subst he
    exact ⟨e1, h1, h2⟩, by have := p.len; omega⟩
theorem Part.put {e0 : Ent} (p : Part fs k a es n (tix t) es') (l : Lay fs k a es) (hf : fs[n]? = some f) (h : lk es (arc f t).1 = some e0) (h2 : ∀ e1, lk es' (arc f t).2.1 = some e1 → e0.1 + (arc f t).2.2 ≤ e1.1) :
    Part fs k a es n (tix t + 1) (pt es' (arc f t).2.1 (e0.1 + (arc f t).2.2, e0.2 ++ [(n, t)])) := by
  refine ⟨fun x e hx => ?_, fun n' t' f' e hn hf' he => ?_, ?_⟩
  · rw [lk_pt] at hx
    by_cases c : x = (arc f t).2.1
    · rw [if_pos c] at hx; injection hx with hx; subst hx; subst c
      have := l.ok _ _ h
      exact ⟨this.1.snoc hf rfl, by simp [this.2]⟩
    · rw [if_neg c] at hx; exact p.ok x e hx
  · rw [lk_pt]
    by_cases c : n' < n ∨ (n' = n ∧ tix t' < tix t)
    · obtain ⟨e', k1, k2⟩ := p.all n' t' f' e c hf' he
      by_cases c2 : (arc f' t').2.1 = (arc f t).2.1
      · rw [if_pos c2]
        refine ⟨_, rfl, ?_⟩
        rw [c2] at k1
        exact Rat.le_trans (h2 e' k1) k2
      · rw [if_neg c2]; exact ⟨e', k1, k2⟩
    · obtain rfl : n' = n := by omega
      obtain rfl : t' = t := tix_eq (by omega)
      rw [hf] at hf'; injection hf' with hf'; subst hf'
      rw [h] at he; injection he with he; subst he
      rw [if_pos rfl]
      exact ⟨_, rfl, Rat.le_refl⟩
  · have := p.len
    have := pt_len es' (arc f t).2.1 (e0.1 + (arc f t).2.2, e0.2 ++ [(n, t)])
    omega
theorem Part.done (p : Part fs k a es fs.length 0 es') (l : Lay fs k a es) (hl : fs.length ≤ 41) : Lay fs (k + 1) a es' := by
  refine ⟨p.ok, fun x q hw => ?_, by have := p.len; omega⟩
  obtain ⟨c, r, d, hw, ⟨f, hf, t, ht⟩, rfl⟩ := hw
  obtain ⟨e, he, hle⟩ := l.all c r hw
  obtain ⟨i, hi, hfi⟩ := List.mem_iff_getElem.mp hf
  have hfi : fs[i]? = some f := by rw [List.getElem?_eq_getElem hi, hfi]
  have e1 : (arc f t).1 = c := by rw [ht]
  have e2 : (arc f t).2.1 = x := by rw [ht]
  have e3 : (arc f t).2.2 = d := by rw [ht]
  obtain ⟨e', k1, k2⟩ := p.all i t f e (.inl hi) hfi (by rw [e1]; exact he)
  rw [e2] at k1; rw [e3] at k2
  exact ⟨e', k1, by grind⟩
theorem Lay.zero : Lay fs 0 a [(a, ((0 : Rat), []))] := ⟨fun x e h => by
  unfold lk at h
  by_cases c : a = x
  · subst c; simp at h; subst h; exact ⟨Ch.nil, rfl⟩
  · simp [List.find?_cons, c] at h, fun x q h => by
  obtain ⟨rfl, rfl⟩ := h
  exact ⟨(0, []), by simp [lk], Rat.le_refl⟩, by simp⟩
end
local macro_rules | `(tactic| walk_at "w1") => `(tactic| first
  | with_reducible refine w_tDGet ?_
  | with_reducible refine w_tDIn ?_
  | with_reducible refine w_tDNotIn ?_
  | with_reducible refine w_sDPut ?_
  | with_reducible refine w_has ?_)

/-! KBookA -/
set_option Elab.async false
set_option linter.all false
set_option maxRecDepth 100000
set_option maxHeartbeats 1000000
/-! ### is_too_great -/
def sp_is_too_great (K : Fg) : Sp := fun vs H Q _ => ∃ v x, vs = [v] ∧ Num K H v x ∧ Bd 4400 x ∧ x.den ≤ 1000 ∧ -1000 ≤ x ∧ x ≤ 1000 ∧ ∀ H', Same H H' → Q (.bl false) H'
theorem len_is_too_great {K : Fg} (vs : List V) (H : Hp) (Q : VK) (E : XK) (h : sp_is_too_great K vs H Q E) : vs.length = 1 := by
  obtain ⟨v, x, rfl, _⟩ := h; rfl
theorem bd_1000 : Bd 4400 (1000 : Rat) ∧ Bd 4400 (-1000 : Rat) := by
  have h1 : Bd 11 (1000 : Rat) := ⟨by decide, by decide⟩
  exact ⟨h1.mono (by decide), (bd_neg h1).mono (by decide)⟩
theorem pure_is_too_great {K : Fg} (vs : List V) (H : Hp) (Q : VK) (E : XK) (h : sp_is_too_great K vs H Q E) : t_is_too_great K (sp_compare K) { nx := fun _ H' => Q .non H', rt := Q } (start n_is_too_great vs) H := by
  obtain ⟨v, x, rfl, nx, bx, hd, h1, h2, k⟩ := h
  have bA := bd_1000.1
  have bB := bd_1000.2
  have nx2 := nx
  obtain ⟨p, rfl, hp⟩ := nx2
  unfold t_is_too_great
  walk_at "w"; walk_at "ix"
  walk_at "w"
  refine w_ite (fun z => by omega) (fun _ => ?_)
  walk_at "w"
  refine w_newT (K := K) (by simp) fun b H1 hb s1 hb1 _ _ => ?_
  have n1 : Num K H1 (.ref b) (-1000 : Rat) := Num.of hb1
  walk_at "w"
  walk_at "cmp"
  walk_at "w"
  refine w_ite (fun z => ?_) (fun _ => ?_)
  · have := cmpQ_lt.mp z; grind
  walk_at "w"
  refine w_newT (K := K) (by simp) fun b H2 hb s2 hb1 _ _ => ?_
  have n2 : Num K H2 (.ref b) (1000 : Rat) := Num.of hb1
  walk_at "w"
  walk_at "cmp"
  walk_at "w"
  have e : decide (0 < cmpQ x 1000) = false := decide_eq_false fun z => by have := cmpQ_gt.mp z; grind
  rw [e]
  exact k _ (s1.trans s2)
/-! ### ends_of (books) -/
def sp_ends_of_books (K : Fg) : Sp := fun vs H Q _ => ∃ v f t, vs = [v, .int (turnI t)] ∧ FactV K H v f ∧ Bd 900 f.lo ∧ Ret (fun r H' => ∃ p nv, r = .ref p ∧ SqT K H' p [.str (arc f t).1, .str (arc f t).2.1, nv] ∧ Num K H' nv (arc f t).2.2) H Q
theorem len_ends_of_books {K : Fg} (vs : List V) (H : Hp) (Q : VK) (E : XK) (h : sp_ends_of_books K vs H Q E) : vs.length = 2 := by
  obtain ⟨v, f, t, rfl, _⟩ := h; rfl
theorem pure_ends_of_books {K : Fg} {mg : Str → Option Value} (T : Txt K mg) (vs : List V) (H : Hp) (Q : VK) (E : XK) (h : sp_ends_of_books K vs H Q E) : t_ends_of_books K (sp_minus K) { nx := fun _ H' => Q .non H', rt := Q } (start n_ends_of_books vs) H := by
  obtain ⟨v, f, t, rfl, ⟨p, lo, hi, rfl, h1, h2, h3⟩, bl, k⟩ := h
  have nz := num_nb T
  unfold t_ends_of_books
  walk_at "w"
  refine w_ite (fun c => ?_) (fun c => ?_)
  · have : t = true := by
      cases t
      · simp [turnI] at c
      · rfl
    subst this
    walk_at "w"; walk_at "ix"
    walk_at "w"; walk_at "ix"
    walk_at "w"; walk_at "ix"
    walk_at "w"
    refine w_newT (K := K) (by simp) fun b H1 hb s1 hb1 _ _ => ?_
    exact k _ _ s1 ⟨b, hi, rfl, hb1, h3.tx s1.tx⟩
  · have : t = false := by
      cases t
      · rfl
      · exact absurd rfl c
    subst this
    walk_at "w"; walk_at "ix"
    walk_at "w"; walk_at "ix"
    walk_at "w"; walk_at "ix"
    walk_at "w"
    have nz := nz H
    have bz := bd_zero
    walk_at "op2"
    intro r H1 s1 m1
    walk_at "w"
    refine w_newT (K := K) (by simp) fun b H2 hb s2 hb2 _ _ => ?_
    refine k _ _ (s1.trans s2) ⟨b, r, rfl, hb2, ?_⟩
    have e : (arc f false).2.2 = 0 - f.lo := by show -f.lo = _; grind
    rw [e]
    exact m1.tx s2.tx
/-! ### is_better -/
def sp_is_better (K : Fg) : Sp := fun vs H Q _ => ∃ v w e e', vs = [v, w] ∧ EntV K H v e ∧ EntV K H w e' ∧ Bd 4400 e.1 ∧ Bd 4400 e'.1 ∧ ∀ b, (b = true → e.1 ≤ e'.1) → (b = false → e'.1 ≤ e.1) → Q (.bl b) H
theorem len_is_better {K : Fg} (vs : List V) (H : Hp) (Q : VK) (E : XK) (h : sp_is_better K vs H Q E) : vs.length = 2 := by
  obtain ⟨v, w, e, e', rfl, _⟩ := h; rfl
theorem items_dp {K : Fg} {H : Hp} : ∀ {items : List V} {l : List (Nat × Bool)}, All2 (ItemV K H) items l → DpAll K H items (l.map fun x => .tuple [.int (x.1 : Int), .int (turnI x.2)])
  | [], [], _ => .nil
  | _ :: _, _ :: _, ⟨⟨p, e, h⟩, t⟩ => by
    subst e
    exact .cons (.tup h (.cons (.int _) (.cons (.int _) .nil))) (items_dp t)
  | [], _ :: _, h => h.elim
  | _ :: _, [], h => h.elim
theorem items_depth : ∀ l : List (Nat × Bool), PyData.depthAll (l.map fun x => .tuple [.int (x.1 : Int), .int (turnI x.2)]) ≤ 1
  | [] => by simp [PyData.depthAll]
  | x :: l => by
    have := items_depth l
    simp only [List.map_cons, PyData.depthAll, PyData.depth]
    omega
theorem items_alike : ∀ l m : List (Nat × Bool), PySem.W.alikeAll (l.map fun x => .tuple [.int (x.1 : Int), .int (turnI x.2)]) (m.map fun x => .tuple [.int (x.1 : Int), .int (turnI x.2)]) = true
  | [], [] => by simp [PySem.W.alikeAll]
  | [], _ :: _ => by simp [PySem.W.alikeAll]
  | _ :: _, [] => by simp [PySem.W.alikeAll]
  | x :: l, y :: m => by
    have := items_alike l m
    simp [PySem.W.alikeAll, PySem.W.alike, this]
theorem pure_is_better {K : Fg} (vs : List V) (H : Hp) (Q : VK) (E : XK) (h : sp_is_better K vs H Q E) : t_is_better K (sp_compare K) { nx := fun _ H' => Q .non H', rt := Q } (start n_is_better vs) H := by
  obtain ⟨v, w, e, e', rfl, ⟨p, nv, c, items, rfl, h1, h2, h3, h4⟩, ⟨p', nv', c', items', rfl, h1', h2', h3', h4'⟩, b1, b2, k⟩ := h
  unfold t_is_better
  walk_at "w"; walk_at "ix"
  walk_at "w"; walk_at "ix"
  walk_at "w"
  walk_at "cmp"
  walk_at "w"
  refine w_itn (fun c0 => ?_) (fun c0 => ?_)
  · walk_at "w"
    refine k _ (fun z => Rat.le_of_lt (cmpQ_lt.mp (by simpa using z))) (fun z => ?_)
    exact Rat.not_lt.mp fun z2 => by simp at z; have := cmpQ_lt.mpr z2; omega
  · walk_at "w"; walk_at "ix"
    walk_at "w"; walk_at "ix"
    have e0 : e.1 = e'.1 := by
      have := c0
      by_cases z : e.1 = e'.1
      · exact z
      · exact absurd (by injection this) (cmpQ_ne.mpr z)
    refine ⟨_, _, .lst (SqL.of h3) (items_dp h4), .lst (SqL.of h3') (items_dp h4'), ?_, ?_, ?_, fun b => k b (fun _ => by rw [e0]; exact Rat.le_refl) (fun _ => by rw [e0]; exact Rat.le_refl)⟩
    · simp only [PySem.W.alike]; exact items_alike _ _
    · simp
    · have d1 := items_depth e.2
      simp only [PyData.depth]
      omega

/-! KBookB -/
set_option Elab.async false
set_option linter.all false
set_option maxRecDepth 100000
set_option maxHeartbeats 1000000
/-! ### one_step_more -/
def sp_one_step_more (K : Fg) : Sp := fun vs H Q _ => ∃ fa la ws fs kvs es k a, vs = [.ref fa, .ref la] ∧ SqL K H fa ws ∧ FactsV K H ws fs ∧ H la = some (.dK kvs) ∧ TabV K H kvs es ∧ Lay fs k a es ∧ k ≤ 8 ∧ fs.length ≤ 41 ∧ MxOk fs ∧
  ∀ m H' kvs' es', Same H H' → H m = none → H' m = some (.dK kvs') → TabV K H' kvs' es' → Lay fs (k + 1) a es' → Q (.ref m) H'
theorem len_one_step_more {K : Fg} (vs : List V) (H : Hp) (Q : VK) (E : XK) (h : sp_one_step_more K vs H Q E) : vs.length = 2 := by
  obtain ⟨fa, la, ws, fs, kvs, es, k, a, rfl, _⟩ := h; rfl
theorem tix_of {j : Nat} (h : j < 2) : ∃ t, j = tix t ∧ (0 + (j : Int)) = turnI t := by
  rcases j with _ | _ | j
  · exact ⟨true, rfl, rfl⟩
  · exact ⟨false, rfl, rfl⟩
  · omega
theorem zero_nat (i : Nat) : (0 : Int) + (i : Int) = (i : Int) := by omega
theorem pure_one_step_more {K : Fg} (vs : List V) (H : Hp) (Q : VK) (E : XK) (h : sp_one_step_more K vs H Q E) : t_one_step_more K (sp_ends_of_books K) (sp_plus K) (sp_is_better K) { nx := fun _ H' => Q .non H', rt := Q } (start n_one_step_more vs) H := by
  obtain ⟨fa, la, ws, fs, kvs, es, k, a, rfl, hl, hfs, hla, htab, lay, hk, hfl, M, q⟩ := h
  have hwl := hfs.len
  unfold t_one_step_more
  walk_at "w"
  refine w_dnewK fun m H1 hm s1 hm1 b1 => ?_
  walk_at "w"
  refine w_lenL (hl.same s1) ?_
  walk_at "w"
  refine w_forR1y (by omega) ⟨fun i σ H' => Same H H' ∧ ∃ kvs2 es2 v3 v4 v5 v6 v7 v8, σ = [some (.ref fa), some (.ref la), some (.ref m), v3, v4, v5, v6, v7, v8] ∧ H' m = some (.dK kvs2) ∧ TabV K H' kvs2 es2 ∧ Part fs k a es i 0 es2, ?_, ?_, ?_⟩
  · exact ⟨s1, [], [], none, none, none, none, none, none, rfl, hm1, All2.nil, Part.start⟩
  · rintro i σ H' hi ⟨s, kvs2, es2, v3, v4, v5, v6, v7, v8, rfl, hm2, ht2, part⟩
    walk_at "w"
    refine w_forR1y (n := 2) (by decide) ⟨fun j σ H' => Same H H' ∧ ∃ kvs2 es2 v4 v5 v6 v7 v8, σ = [some (.ref fa), some (.ref la), some (.ref m), some (.int (0 + (i : Int))), v4, v5, v6, v7, v8] ∧ H' m = some (.dK kvs2) ∧ TabV K H' kvs2 es2 ∧ Part fs k a es i j es2, ?_, ?_, ?_⟩
    · exact ⟨s, kvs2, es2, v4, v5, v6, v7, v8, rfl, hm2, ht2, part⟩
    · clear ht2 hm2 part s
      rintro j σ H' hj ⟨s, kvs2, es2, v4, v5, v6, v7, v8, rfl, hm2, ht2, part⟩
      obtain ⟨t, rfl, et⟩ := tix_of hj
      rw [et]
      obtain ⟨v, hv⟩ : ∃ v, ws[i]? = some v := ⟨ws[i], List.getElem?_eq_getElem hi⟩
      obtain ⟨f, hf, rf⟩ := hfs.get hv
      have hmem := List.mem_of_getElem? hf
      have bfact := M.fact hmem
      have barc := (M.arc hmem t).mono (show 900 ≤ 4400 by decide)
      walk_at "w"
      refine w_ixL (hl.same s) (by rw [zero_nat]; exact atI_nat hv) ?_
      walk_at "w"
      refine ⟨_, f, t, rfl, rf.tx s.tx, bfact.1, ?_⟩
      rintro r H2 s2 ⟨p, nv, rfl, hp, hn⟩
      refine w_gtup hp rfl ?_
      walk_at "w"
      have hla2 := s2 _ _ (s _ _ hla)
      have hm3 := s2 _ _ hm2
      have ht3 := ht2.same s2
      have ss := s.trans s2
      have hkl : kvs2.length ≤ 90 := by have := ht2.len; have := part.len; omega
      rcases (htab.same ss).lk (arc f t).1 with ⟨k1, k2⟩ | ⟨ve, e0, k1, k2, re⟩
      · refine w_din (.inl hla2) k1 ?_
        walk_at "w"
        refine w_itb (fun z => nomatch z) (fun _ => ?_)
        walk_at "w"
        exact ⟨ss, kvs2, es2, _, _, _, _, _, rfl, hm3, ht3, part.skip hf k2⟩
      · refine w_din (.inl hla2) k1 ?_
        walk_at "w"
        refine w_itb (fun _ => ?_) (fun z => nomatch z)
        have l0 := lay.ok _ _ k2
        have be : Bd 4400 e0.1 := (M.wn (by omega) (l0.1.wn)).mono (by decide)
        have bsum : Bd 4400 (e0.1 + (arc f t).2.2) := (M.wn (k := e0.2.length + 1) (by omega) ⟨_, _, _, l0.1.wn, ⟨f, hmem, t, rfl⟩, rfl⟩).mono (by decide)
        have re0 := re
        obtain ⟨pe, qe, c, items, rfl, h1, h2, h3, h4⟩ := re0
        walk_at "w"
        refine w_dget (.inl hla2) k1 ?_
        walk_at "w"; walk_at "ix"
        walk_at "w"
        walk_at "op2"
        intro r H3 s3 m3
        walk_at "w"
        refine w_dget (.inl (s3 _ _ hla2)) k1 ?_
        walk_at "w"; walk_at "ix"
        walk_at "w"
        refine w_newT (K := K) (by simp) fun b4 H4 hb4 s4 hq4 _ _ => ?_
        walk_at "w"
        refine w_newL (by simp) fun c5 H5 hc5 s5 hq5 _ => ?_
        have hil := h4.len
        have hitems : All2 (ItemV K H5) (items ++ [V.ref b4]) (e0.2 ++ [(i, t)]) := All2.snoc (h4.mono fun _ _ z => z.tx ((s3.trans s4).trans s5).tx) ⟨b4, rfl, by rw [← zero_nat i]; exact hq4.tx s5.tx⟩
        refine w_cat (s5 _ _ (s4 _ _ (s3 _ _ h3))) hq5 (by simp; omega) fun c6 H6 hc6 s6 hq6 _ => ?_
        walk_at "w"
        refine w_newT (K := K) (by simp) fun b7 H7 hb7 s7 hq7 _ _ => ?_
        have s57 : Same H3 H7 := ((s4.trans s5).trans s6).trans s7
        have s27 : Same H2 H7 := s3.trans s57
        have entN : EntV K H7 (.ref b7) (e0.1 + (arc f t).2.2, e0.2 ++ [(i, t)]) := ⟨b7, r, c6, _, rfl, hq7, m3.tx s57.tx, s7 _ _ hq6, hitems.mono fun _ _ z => z.tx (s6.trans s7).tx⟩
        have hm7 := s27 _ _ hm3
        have ht7 := ht3.same s27
        walk_at "w"
        have put : ∀ (σ : Sl) (D : Ends), (∃ w, σ = [some (.ref fa), some (.ref la), some (.ref m), some (.int (0 + (i : Int))), some (.int (turnI t)), some (.str (arc f t).1), some (.str (arc f t).2.1), w, some (.ref b7)]) →
            (∀ e1, lk es2 (arc f t).2.1 = some e1 → e0.1 + (arc f t).2.2 ≤ e1.1) →
            (∀ σ' H8, (Same H H8 ∧ ∃ kvs2 es2 v4 v5 v6 v7 v8, σ' = [some (.ref fa), some (.ref la), some (.ref m), some (.int (0 + (i : Int))), v4, v5, v6, v7, v8] ∧ H8 m = some (.dK kvs2) ∧ TabV K H8 kvs2 es2 ∧ Part fs k a es i (tix t + 1) es2) → D.nx σ' H8) →
            sDPut (tVar 2) (tVar 6) (tVar 8) D σ H7 := by
          rintro σ D ⟨w, rfl⟩ hb kk
          walk_at "w"
          refine w_dput (K := K) hm7 (by omega) fun H8 hm8 b8 t8 => ?_
          have hno : ∀ xs, H7 m ≠ some (.lst xs) := fun xs z => by rw [hm7] at z; exact nomatch z
          exact kk _ _ ⟨b8.same (ss.trans s27) hm, _, _, _, _, _, _, _, rfl, hm8, (ht7.but b8 t8 hno).pt (entN.but b8 t8 hno), part.put lay hf k2 hb⟩
        rcases ht7.lk (arc f t).2.1 with ⟨j1, j2⟩ | ⟨v1, e1, j1, j2, r1⟩
        · refine w_din (.inl hm7) j1 ?_
          walk_at "w"
          refine w_itb (fun _ => ?_) (fun z => nomatch z)
          refine w_itb (fun _ => ?_) (fun z => nomatch z)
          exact put _ _ ⟨_, rfl⟩ (fun e1 z => by rw [j2] at z; exact nomatch z) fun _ _ z => z
        · refine w_din (.inl hm7) j1 ?_
          walk_at "w"
          refine w_itb (fun z => nomatch z) (fun _ => ?_)
          walk_at "w"
          refine w_dget (.inl hm7) j1 ?_
          have p1 := part.ok _ _ j2
          have b1 : Bd 4400 e1.1 := (M.wn (by omega) p1.1.wn).mono (by decide)
          refine ⟨_, _, _, e1, rfl, entN, r1, bsum, b1, fun bb c1 c2 => ?_⟩
          walk_at "w"
          refine w_itb (fun z => ?_) (fun z => ?_)
          · refine put _ _ ⟨_, rfl⟩ (fun e2 y => ?_) fun _ _ z => z
            rw [j2] at y; injection y with y; subst y
            exact c1 z
          · walk_at "w"
            exact ⟨ss.trans s27, kvs2, es2, _, _, _, _, _, rfl, hm7, ht7, part.keep hf k2 j2 (c2 z)⟩
    · rintro σ H' ⟨s, kvs2, es2, v4, v5, v6, v7, v8, rfl, hm2, ht2, part⟩
      exact ⟨s, kvs2, es2, _, _, _, _, _, _, rfl, hm2, ht2, part.roll⟩
  · rintro σ H' ⟨s, kvs2, es2, v3, v4, v5, v6, v7, v8, rfl, hm2, ht2, part⟩
    walk_at "w"
    rw [hwl] at part
    exact q m H' kvs2 es2 s hm hm2 ht2 (part.done lay hfl)

/-! KBookC -/
set_option Elab.async false
set_option linter.all false
set_option maxRecDepth 100000
set_option maxHeartbeats 1000000
/-! ### loops over locked keys; {k: v} -/
section
variable {K : Fg} {D : Ends} {σ : Sl} {H : Hp} {Q : VK} {tk tv : TE} {g : TG} {tb : TS} {d p : Addr} {o : Obj} {kvs : List (Key × V)} {v : V} {s : Str}
theorem w_forKeys {i : Nat} (e : σ[i]? = some (some (.ref d))) (h : H d = some (.frz o (.dK kvs))) (Pv : Nat → Sl → Hp → Prop) (h0 : Pv 0 σ H) (hl : ∀ i σ H, i ≤ kvs.length → Pv i σ H → H d = some (.frz o (.dK kvs)))
    (ht : ∀ i k v σ H, kvs[i]? = some (k, v) → Pv i σ H → g (kV k) σ H fun σ2 H2 => tb { D with nx := Pv (i + 1), ct := Pv (i + 1), bk := D.nx } σ2 H2) (hd : ∀ σ H, Pv kvs.length σ H → D.nx σ H) : tFor (iKeys (tVar i)) g tb D σ H := by
  refine ⟨_, e, d, o, rfl, .inl ⟨kvs, h, for_it walk_keys Pv h0 hl ?_ hd⟩⟩
  rintro i x σ H H' hi p ⟨rfl, k, v, e1, rfl⟩
  exact ht i k v σ _ e1 p
def DispK (p : Addr) (Q : VK) (x y : V) (H2 : Hp) : Prop := H2 p = some (.dK []) ∧ ∃ kvs : List (Key × V), [(x, y)] = kvs.map (fun kv => (kV kv.1, kv.2)) ∧ kvs.length ≤ 15 ∧ Q (.ref p) (upd H2 p (.dK (mergeK [] kvs)))
theorem w_disp (h : ∀ p H1, H p = none → Same H H1 → H1 p = some (.dK []) → tk σ H1 fun x H1 => tv σ H1 fun y H2 => DispK p Q x y H2) : tDisp [(tk, tv)] σ H Q := fun p hp => h p _ hp (Same.new hp) upd_same
theorem w_dispK (h : H p = some (.dK [])) (k : ∀ H3, H3 p = some (.dK [(.inr s, v)]) → But p H H3 → Tx K H H3 → Q (.ref p) H3) : DispK p Q (.str s) v H :=
  ⟨h, [(.inr s, v)], rfl, by simp, k _ upd_same But.upd (But.upd.tx h (fun _ e => nomatch e) fun _ _ e => nomatch e)⟩
theorem w_lock {t : TS} (h : H d = some (.dK kvs)) (k : ∀ od H1, H1 d = some (.frz od (.dK kvs)) → But d H H1 → Tx K H H1 → t ⟨fun σ' H' => H' d = some (.frz od (.dK kvs)) ∧ D.nx σ' (upd H' d (.dK kvs)), fun v H' => H' d = some (.frz od (.dK kvs)) ∧ D.rt v (upd H' d (.dK kvs)),
    fun σ' H' => H' d = some (.frz od (.dK kvs)) ∧ D.bk σ' (upd H' d (.dK kvs)), fun σ' H' => H' d = some (.frz od (.dK kvs)) ∧ D.ct σ' (upd H' d (.dK kvs))⟩ σ H1) : tLock t D σ H :=
  ⟨d, _, h, True.intro, fun od => k od _ upd_same But.upd (But.upd.tx h (fun _ e => nomatch e) fun _ _ e => nomatch e)⟩
end
theorem frz_tx {K : Fg} {H : Hp} {d : Addr} {od : Obj} {kvs : List (Key × V)} (h : H d = some (.frz od (.dK kvs))) : Tx K H (upd H d (.dK kvs)) := fun a xs ha => by
  rcases ha with (ha | ⟨ob, ha⟩) | ha
  · refine .inl (.inl ?_)
    rw [upd_ne (fun e => by subst e; rw [h] at ha; exact nomatch ha)]; exact ha
  · refine .inl (.inr ⟨ob, ?_⟩)
    rw [upd_ne (fun e => by subst e; rw [h] at ha; injection ha with ha; injection ha with _ ha; exact nomatch ha)]; exact ha
  · exact .inr ha
/-! ### rounds -/
theorem lk_mem {α : Type} {es : List (Str × α)} {x : Str} {e : α} (h : lk es x = some e) : (x, e) ∈ es := by
  unfold lk at h
  rw [Option.map_eq_some_iff] at h
  obtain ⟨p, h1, rfl⟩ := h
  have h2 := List.find?_some h1
  have : p.1 = x := by simpa using h2
  subst this
  exact List.mem_of_find?_eq_some h1
structure Upb (fs : List Fact) (n : Nat) (a : Str) (es : List (Str × Ent)) : Prop where
  b : Best fs n a (lk es)
  len : es.length ≤ 1 + 100 * n
structure Rnd (fs : List Fact) (n : Nat) (a : Str) (L : List (Str × Ent)) (i : Nat) (es : List (Str × Ent)) : Prop where
  ok : ∀ x e, lk es x = some e → Ch fs e.2 a x e.1 ∧ e.2.length ≤ n + 1
  all : ∀ k x q, k ≤ n → Wn fs k a x q → ∃ e, lk es x = some e ∧ e.1 ≤ q
  new : ∀ j x e, j < i → L[j]? = some (x, e) → ∀ e', lk L x = some e' → ∃ e2, lk es x = some e2 ∧ e2.1 ≤ e'.1
  len : es.length ≤ 1 + 100 * n + i
section
variable {fs : List Fact} {n i : Nat} {a x : Str} {L es : List (Str × Ent)} {e eL : Ent}
theorem Upb.zero : Upb fs 0 a [(a, ((0 : Rat), []))] := by
  have h := Lay.zero (fs := fs) (a := a)
  exact ⟨⟨fun x e z => ⟨(h.ok x e z).1, by rw [(h.ok x e z).2]; exact Nat.le_refl _⟩, fun k x q hk hw => by
    obtain rfl : k = 0 := by omega
    exact h.all x q hw⟩, by simp⟩
theorem Upb.start (u : Upb fs n a es) : Rnd fs n a L 0 es := ⟨fun x e h => ⟨(u.b.ok x e h).1, by have := (u.b.ok x e h).2; omega⟩, u.b.all, fun j x e h => by omega, by have := u.len; omega⟩
theorem Rnd.keep (r : Rnd fs n a L i es) (hi : L[i]? = some (x, eL)) (h : ∀ e', lk L x = some e' → ∃ e2, lk es x = some e2 ∧ e2.1 ≤ e'.1) : Rnd fs n a L (i + 1) es := ⟨r.ok, r.all, fun j y e hj hy => by
  by_cases c : j < i
  · exact r.new j y e c hy
  · obtain rfl : j = i := by omega
    rw [hi] at hy; injection hy with hy; injection hy with hy; subst hy
    exact h, by have := r.len; omega⟩
theorem Rnd.put (r : Rnd fs n a L i es) (l : Lay fs (n + 1) a L) (hi : L[i]? = some (x, eL)) (hx : lk L x = some e) (h : ∀ e2, lk es x = some e2 → e.1 ≤ e2.1) : Rnd fs n a L (i + 1) (pt es x e) := by
  refine ⟨fun y e' hy => ?_, fun k y q hk hw => ?_, fun j y e' hj hy e3 h3 => ?_, ?_⟩
  · rw [lk_pt] at hy
    by_cases c : y = x
    · rw [if_pos c] at hy; injection hy with hy; subst hy; subst c
      exact ⟨(l.ok _ _ hx).1, by rw [(l.ok _ _ hx).2]; exact Nat.le_refl _⟩
    · rw [if_neg c] at hy; exact r.ok y e' hy
  · rw [lk_pt]
    obtain ⟨e2, k1, k2⟩ := r.all k y q hk hw
    by_cases c : y = x
    · rw [if_pos c]; subst c
      exact ⟨e, rfl, Rat.le_trans (h e2 k1) k2⟩
    · rw [if_neg c]; exact ⟨e2, k1, k2⟩
  · rw [lk_pt]
    by_cases c : y = x
    · rw [if_pos c]; subst c
      rw [hx] at h3; injection h3 with h3; subst h3
      exact ⟨e, rfl, Rat.le_refl⟩
    · rw [if_neg c]
      by_cases c2 : j < i
      · exact r.new j y e' c2 hy e3 h3
      · obtain rfl : j = i := by omega
        rw [hi] at hy; injection hy with hy; injection hy with hy
        exact absurd hy.symm c
  · have := r.len
    have := pt_len es x e
    omega
theorem Rnd.done (r : Rnd fs n a L L.length es) (l : Lay fs (n + 1) a L) : Upb fs (n + 1) a es := by
  refine ⟨⟨fun x e h => ⟨(r.ok x e h).1, (r.ok x e h).2⟩, fun k x q hk hw => ?_⟩, by have := r.len; have := l.len; omega⟩
  by_cases c : k ≤ n
  · exact r.all k x q c hw
  · obtain rfl : k = n + 1 := by omega
    obtain ⟨e, h1, h2⟩ := l.all x q hw
    obtain ⟨j, hj, hje⟩ := List.mem_iff_getElem.mp (lk_mem h1)
    obtain ⟨e2, k1, k2⟩ := r.new j x e hj (by rw [List.getElem?_eq_getElem hj, hje]) e h1
    exact ⟨e2, k1, Rat.le_trans k2 h2⟩
end
/-! ### best_chains -/
def sp_best_chains (K : Fg) : Sp := fun vs H Q _ => ∃ fa ws fs n a, vs = [.ref fa, .int ((n : Nat) : Int), .str a] ∧ SqL K H fa ws ∧ FactsV K H ws fs ∧ n ≤ 9 ∧ fs.length ≤ 41 ∧ MxOk fs ∧
  ∀ m H' kvs es, Same H H' → H m = none → H' m = some (.dK kvs) → TabV K H' kvs es → Best fs n a (lk es) → Q (.ref m) H'
theorem len_best_chains {K : Fg} (vs : List V) (H : Hp) (Q : VK) (E : XK) (h : sp_best_chains K vs H Q E) : vs.length = 3 := by
  obtain ⟨fa, ws, fs, n, a, rfl, _⟩ := h; rfl
theorem pure_best_chains {K : Fg} {mg : Str → Option Value} (T : Txt K mg) (vs : List V) (H : Hp) (Q : VK) (E : XK) (h : sp_best_chains K vs H Q E) : t_best_chains K (sp_one_step_more K) (sp_compare K) { nx := fun _ H' => Q .non H', rt := Q } (start n_best_chains vs) H := by
  obtain ⟨fa, ws, fs, n, a, rfl, hl, hfs, hn, hfl, M, q⟩ := h
  have nz := num_nb T
  unfold t_best_chains
  walk_at "w"
  refine w_disp fun d H1 hd s1 hd1 => ?_
  walk_at "w"
  refine w_newL (by simp) fun c H2 hc s2 hq2 _ => ?_
  walk_at "w"
  refine w_newT (K := K) (by simp) fun b H3 hb s3 hq3 _ _ => ?_
  refine w_dispK (K := K) (s3 _ _ (s2 _ _ hd1)) fun H4 hd4 b4 t4 => ?_
  have s04 : Same H H4 := b4.same ((s1.trans s2).trans s3) hd
  have e4 : EntV K H4 (.ref b) ((0 : Rat), []) := EntV.but ⟨b, _, c, [], rfl, hq3, nz H3, s3 _ _ hq2, All2.nil⟩ b4 t4 fun xs z => by rw [s3 _ _ (s2 _ _ hd1)] at z; exact nomatch z
  walk_at "w"
  refine w_disp fun m H5 hm s5 hm5 => ?_
  walk_at "w"
  refine w_newL (by simp) fun c' H6 hc' s6 hq6 _ => ?_
  walk_at "w"
  refine w_newT (K := K) (by simp) fun b' H7 hb' s7 hq7 _ _ => ?_
  refine w_dispK (K := K) (s7 _ _ (s6 _ _ hm5)) fun H8 hm8 b8 t8 => ?_
  have hmn : H m = none := s04.free hm
  have s08 : Same H H8 := b8.same (((s04.trans s5).trans s6).trans s7) hmn
  have s48 : Same H4 H8 := b8.same ((s5.trans s6).trans s7) hm
  have e8 : EntV K H8 (.ref b') ((0 : Rat), []) := EntV.but ⟨b', _, c', [], rfl, hq7, nz H7, s7 _ _ hq6, All2.nil⟩ b8 t8 fun xs z => by rw [s7 _ _ (s6 _ _ hm5)] at z; exact nomatch z
  walk_at "w"
  refine w_forR1y (by omega) ⟨fun i σ H' => Same H H' ∧ ∃ d kvsL L kvsB esB v5 v6, σ = [some (.ref fa), some (.int ((n : Nat) : Int)), some (.str a), some (.ref d), some (.ref m), v5, v6] ∧ H d = none ∧ d ≠ m ∧ H' d = some (.dK kvsL) ∧ TabV K H' kvsL L ∧ Lay fs i a L ∧ H' m = some (.dK kvsB) ∧ TabV K H' kvsB esB ∧ Upb fs i a esB, ?_, ?_, ?_⟩
  · exact ⟨s08, d, _, [(a, ((0 : Rat), []))], _, [(a, ((0 : Rat), []))], none, none, rfl, hd, (fun z => by subst z; rw [hd4] at hm; exact nomatch hm), s48 _ _ hd4, ⟨⟨rfl, e4.same s48⟩, trivial⟩, Lay.zero, hm8, ⟨⟨rfl, e8⟩, trivial⟩, Upb.zero⟩
  · rintro i σ H' hi ⟨s, d, kvsL, L, kvsB, esB, v5, v6, rfl, hdn, hdm, hd', htL, lay, hm', htB, up⟩
    walk_at "w"
    refine ⟨fa, d, ws, fs, kvsL, L, i, a, rfl, hl.same s, facts_tx hfs s.tx, hd', htL, lay, by omega, hfl, M, ?_⟩
    clear htL lay hd'
    intro d2 H9 kvs2 L2 s9 hd2n hd2 ht2 lay
    walk_at "w"
    have sn : Same H H9 := s.trans s9
    have hd2H : H d2 = none := s.free hd2n
    have hd2m : d2 ≠ m := fun z => by subst z; rw [hm'] at hd2n; exact nomatch hd2n
    have hm9 := s9 _ _ hm'
    have htB9 := htB.same s9
    clear htB hm'
    have lk2 := ht2.len
    have ll2 := lay.len
    refine w_lock (K := K) hd2 fun od H10 hd10 b10 t10 => ?_
    have nol : ∀ xs, H9 d2 ≠ some (.lst xs) := fun xs z => by rw [hd2] at z; exact nomatch z
    refine w_forKeys rfl hd10 (fun j σ H' => Same H H' ∧ ∃ kvsB esB v6, σ = [some (.ref fa), some (.int ((n : Nat) : Int)), some (.str a), some (.ref d2), some (.ref m), some (.int (0 + (i : Int))), v6] ∧ H' d2 = some (.frz od (.dK kvs2)) ∧ TabV K H' kvs2 L2 ∧ H' m = some (.dK kvsB) ∧ TabV K H' kvsB esB ∧ Rnd fs i a L2 j esB) ?_ ?_ ?_ ?_
    · exact ⟨b10.same sn hd2H, kvsB, esB, _, rfl, hd10, ht2.but b10 t10 nol, by rw [b10 m hd2m.symm]; exact hm9, htB9.but b10 t10 nol, up.start⟩
    · rintro j σ H' _ ⟨_, _, _, _, _, h, _⟩; exact h
    · clear htB9 hm9 up
      rintro j k v σ H' hj ⟨s', kvsB, esB, v6, rfl, hd', htL, hm', htB, rnd⟩
      obtain ⟨⟨x, eL⟩, hL, hkx, reL⟩ := htL.get hj
      have hkx : k = .inr x := hkx
      subst hkx
      show gName 6 (.str x) _ _ _
      have hjl : j < kvs2.length := (List.getElem?_eq_some_iff.mp hj).1
      rcases htL.lk x with ⟨k1, k2⟩ | ⟨ve, e, k1, k2, re⟩
      · exfalso
        have := lk_any x L2
        rw [k2] at this
        have h2 : (L2.any fun kv => decide (kv.1 = x)) = true := List.any_eq_true.mpr ⟨_, List.mem_of_getElem? hL, by simp⟩
        rw [h2] at this; exact nomatch this
      have bL : Bd 4400 e.1 := (M.wn (by rw [(lay.ok _ _ k2).2]; omega) (lay.ok _ _ k2).1.wn).mono (by decide)
      have kl : kvsB.length ≤ 2000 := by have := htB.len; have := rnd.len; omega
      have put : ∀ (σ : Sl) (D : Ends), (∃ w, σ = [some (.ref fa), some (.int ((n : Nat) : Int)), some (.str a), some (.ref d2), some (.ref m), w, some (.str x)]) →
            (∀ e1, lk esB x = some e1 → e.1 ≤ e1.1) →
            (∀ σ' H8, σ' = σ → (Same H H8 ∧ ∃ kvsB esB, H8 d2 = some (.frz od (.dK kvs2)) ∧ TabV K H8 kvs2 L2 ∧ H8 m = some (.dK kvsB) ∧ TabV K H8 kvsB esB ∧ Rnd fs i a L2 (j + 1) esB) → D.nx σ' H8) →
            sDPut (tVar 4) (tVar 6) (tDGet (tVar 3) (tVar 6)) D σ H' := by
        rintro σ D ⟨w, rfl⟩ hb kk
        walk_at "w"
        refine w_dget (.inr ⟨od, hd'⟩) k1 ?_
        walk_at "w"
        refine w_dput (K := K) hm' (by omega) fun H8 hm8 b8 t8 => ?_
        have hno : ∀ xs, H' m ≠ some (.lst xs) := fun xs z => by rw [hm'] at z; exact nomatch z
        exact kk _ _ rfl ⟨b8.same s' hmn, _, _, by rw [b8 d2 hd2m]; exact hd', htL.but b8 t8 hno, hm8, (htB.but b8 t8 hno).pt (re.but b8 t8 hno), rnd.put lay hL k2 hb⟩
      walk_at "w"
      rcases htB.lk x with ⟨j1, j2⟩ | ⟨v1, e1, j1, j2, r1⟩
      · refine w_din (.inl hm') j1 ?_
        walk_at "w"
        refine w_itb (fun _ => ?_) (fun z => nomatch z)
        refine w_itb (fun _ => ?_) (fun z => nomatch z)
        refine put _ _ ⟨_, rfl⟩ (fun e1 z => by rw [j2] at z; exact nomatch z) ?_
        rintro σ' H8 rfl ⟨s8, kB, eB, z1, z2, z3, z4, z5⟩
        exact ⟨s8, kB, eB, _, rfl, z1, z2, z3, z4, z5⟩
      · refine w_din (.inl hm') j1 ?_
        walk_at "w"
        refine w_itb (fun z => nomatch z) (fun _ => ?_)
        walk_at "w"
        refine w_dget (.inr ⟨od, hd'⟩) k1 ?_
        have p1 := rnd.ok _ _ j2
        have b1 : Bd 4400 e1.1 := (M.wn (by omega) p1.1.wn).mono (by decide)
        have re' := re
        have r1' := r1
        obtain ⟨pe, qe, ce, ie, rfl, x1, x2, x3, x4⟩ := re'
        obtain ⟨pf, qf, cf, jf, rfl, y1, y2, y3, y4⟩ := r1'
        walk_at "w"; walk_at "ix"
        walk_at "w"
        refine w_dget (.inl hm') j1 ?_
        walk_at "w"; walk_at "ix"
        walk_at "w"
        walk_at "cmp"
        walk_at "w"
        refine w_ite (fun z => ?_) (fun z => ?_)
        · refine put _ _ ⟨_, rfl⟩ (fun e2 y => ?_) ?_
          · rw [j2] at y; injection y with y; subst y
            exact Rat.le_of_lt (cmpQ_lt.mp z)
          · rintro σ' H8 rfl ⟨s8, kB, eB, z1, z2, z3, z4, z5⟩
            exact ⟨s8, kB, eB, _, rfl, z1, z2, z3, z4, z5⟩
        · walk_at "w"
          refine ⟨s', kvsB, esB, _, rfl, hd', htL, hm', htB, rnd.keep hL fun e' he' => ?_⟩
          rw [k2] at he'; injection he' with he'; subst he'
          exact ⟨e1, j2, Rat.not_lt.mp fun z2 => z (cmpQ_lt.mpr z2)⟩
    · rintro σ H' ⟨s', kvsB, esB, v6, rfl, hd', htL, hm', htB, rnd⟩
      have hno : ∀ xs, H' d2 ≠ some (.lst xs) := fun xs z => by rw [hd'] at z; exact nomatch z
      have tx := frz_tx (K := K) hd'
      have bx : But d2 H' (upd H' d2 (.dK kvs2)) := But.upd
      rw [lk2] at rnd
      exact ⟨hd', bx.same s' hd2H, d2, kvs2, L2, kvsB, esB, _, _, rfl, hd2H, hd2m, upd_same, htL.but bx tx hno, lay, by rw [bx m hd2m.symm]; exact hm', htB.but bx tx hno, rnd.done lay⟩
  · rintro σ H' ⟨s, d, kvsL, L, kvsB, esB, v5, v6, rfl, hdn, hdm, hd', htL, lay, hm', htB, up⟩
    walk_at "w"
    exact q m H' kvsB esB s hmn hm' htB up.b

/-! KBookM -/
set_option Elab.async false
set_option linter.all false
set_option maxRecDepth 100000
set_option maxHeartbeats 1000000
theorem w_fd {K : Fg} {H : Hp} {a C dx : Addr} {fs : List (Str × V)} {f : Str} {v : V} {P : V → Prop} (h : H a = some (.ins C dx fs)) (c : Cls K C) (n : NoAttr K C f) (e : fs.lookup f = some v) (q : P v) :
    ∃ a' C' dx' fs' v', V.ref a = V.ref a' ∧ H a' = some (.ins C' dx' fs') ∧ Cls K C' ∧ NoAttr K C' f ∧ fs'.lookup f = some v' ∧ P v' := ⟨a, C, dx, fs, v, rfl, h, c, n, e, q⟩
/-! ### the book on the heap -/
structure BA where
  B : Addr
  dx : Addr
  ln : Addr
  lf : Addr
  lp : Addr
def BA.at_ (A : BA) : List (Str × V) := [("_names", .ref A.ln), ("_facts", .ref A.lf), ("_past", .ref A.lp)]
def BA.ls (A : BA) : List Addr := [A.ln, A.lf, A.lp]
structure BookV (K : Fg) (H : Hp) (A : BA) (ns : List Str) (fs : List Fact) : Prop where
  ins : H A.B = some (.ins (He.ga K "Book") A.dx A.at_)
  nn : H A.ln = some (.lst (ns.map V.str))
  ff : ∃ ws, H A.lf = some (.lst ws) ∧ FactsV K H ws fs
  pp : ∃ ps, H A.lp = some (.lst ps) ∧ ps.length ≤ fs.length
  d1 : A.ln ≠ A.lf
  d2 : A.ln ≠ A.lp
  d3 : A.lf ≠ A.lp
theorem BookV.same {K : Fg} {H H' : Hp} {A : BA} {ns : List Str} {fs : List Fact} (b : BookV K H A ns fs) (s : Same H H') : BookV K H' A ns fs where
  ins := s _ _ b.ins
  nn := s _ _ b.nn
  ff := by obtain ⟨ws, h1, h2⟩ := b.ff; exact ⟨ws, s _ _ h1, facts_tx h2 s.tx⟩
  pp := by obtain ⟨ps, h1, h2⟩ := b.pp; exact ⟨ps, s _ _ h1, h2⟩
  d1 := b.d1
  d2 := b.d2
  d3 := b.d3
structure BookOk (ns : List Str) (fs : List Fact) : Prop where
  net : Net ns fs
  nl : ns.length ≤ 9
  fl : fs.length ≤ 40
  mx : ∀ f ∈ fs, Mx 6 6000 f.lo ∧ Mx 6 6000 f.hi
  so : ∀ z ∈ ns, PyData.strOk z = true
theorem BookOk.M {ns : List Str} {fs : List Fact} (b : BookOk ns fs) : MxOk fs := ⟨6, 6000, b.mx, by decide, by decide, by decide⟩
theorem eqV_str (x y : Str) : eqV (.str x) (.str y) = decide (x = y) := by
  by_cases h : x = y
  · subst h; simp [eqV]
  · simp [eqV, h]
theorem inV_strs (x : Str) : ∀ ns : List Str, inV (.str x) (ns.map V.str) = decide (x ∈ ns) := by
  intro ns
  unfold inV
  rw [List.any_map]
  by_cases h : x ∈ ns
  · rw [decide_eq_true h]
    exact List.any_eq_true.mpr ⟨x, h, by simp [eqV_str]⟩
  · rw [decide_eq_false h, List.any_eq_false]
    intro z hz
    simp only [Function.comp, eqV_str]
    simp
    first
      | (intro e; subst e; exact h hz)
      | (intro e; exact h (e ▸ hz))
theorem flat_strs (ns : List Str) : (ns.map V.str).all flatV = true := by
  rw [List.all_map, List.all_eq_true]
  intro x _
  rfl
section
variable {K : Fg} {H : Hp} {Q : VK} {a : Addr} {ns : List Str} {x : Str}
theorem w_inS (h : SqL K H a (ns.map V.str)) (q : Q (.bl (decide (x ∈ ns))) H) : rIn K false (.str x) (.ref a) H Q := ⟨a, _, rfl, .inl h, rfl, flat_strs ns, by rw [inV_strs]; exact q⟩
theorem w_ninS (h : SqL K H a (ns.map V.str)) (q : Q (.bl (!decide (x ∈ ns))) H) : rIn K true (.str x) (.ref a) H Q := ⟨a, _, rfl, .inl h, rfl, flat_strs ns, by rw [inV_strs]; exact q⟩
end
/-! ### check_moments, contains, best, span, chain -/
def sp_check_moments (K : Fg) : Sp := fun vs H Q _ => ∃ A ns fs x y, vs = [.ref A.B, .str x, .str y] ∧ BookV K H A ns fs ∧ x ∈ ns ∧ y ∈ ns ∧ Q .non H
theorem len_check_moments {K : Fg} (vs : List V) (H : Hp) (Q : VK) (E : XK) (h : sp_check_moments K vs H Q E) : vs.length = 3 := by
  obtain ⟨A, ns, fs, x, y, rfl, _⟩ := h; rfl
theorem pure_Book_check_moments {K : Fg} {mg : Str → Option Value} (T : Txt K mg) (vs : List V) (H : Hp) (Q : VK) (E : XK) (h : sp_check_moments K vs H Q E) : t_Book_check_moments K { nx := fun _ H' => Q .non H', rt := Q } (start n_Book_check_moments vs) H := by
  obtain ⟨A, ns, fs, x, y, rfl, b, hx, hy, k⟩ := h
  unfold t_Book_check_moments
  walk_at "w"
  refine w_fd b.ins T.c_Book T.no_Book_names rfl ?_
  refine w_ninS (SqL.of b.nn) ?_
  walk_at "w"
  refine w_itn (fun z => absurd hx z) (fun _ => ?_)
  walk_at "w"
  refine w_fd b.ins T.c_Book T.no_Book_names rfl ?_
  refine w_ninS (SqL.of b.nn) ?_
  walk_at "w"
  refine w_itn (fun z => absurd hy z) (fun _ => ?_)
  walk_at "w"
  exact k
def sp_contains (K : Fg) : Sp := fun vs H Q _ => ∃ A ns fs x, vs = [.ref A.B, .str x] ∧ BookV K H A ns fs ∧ Q (.bl (decide (x ∈ ns))) H
theorem len_contains {K : Fg} (vs : List V) (H : Hp) (Q : VK) (E : XK) (h : sp_contains K vs H Q E) : vs.length = 2 := by
  obtain ⟨A, ns, fs, x, rfl, _⟩ := h; rfl
theorem pure_Book_contains {K : Fg} {mg : Str → Option Value} (T : Txt K mg) (vs : List V) (H : Hp) (Q : VK) (E : XK) (h : sp_contains K vs H Q E) : t_Book_contains K { nx := fun _ H' => Q .non H', rt := Q } (start n_Book_contains vs) H := by
  obtain ⟨A, ns, fs, x, rfl, b, k⟩ := h
  unfold t_Book_contains
  walk_at "w"
  refine w_fd b.ins T.c_Book T.no_Book_names rfl ?_
  exact w_inS (SqL.of b.nn) k
/-- the best chain from x to y: what stands at v -/
def sp_best (K : Fg) : Sp := fun vs H Q _ => ∃ A ns fs x y, vs = [.ref A.B, .str x, .str y] ∧ BookV K H A ns fs ∧ BookOk ns fs ∧ x ∈ ns ∧ y ∈ ns ∧
  ∀ v H' e, Same H H' → EntV K H' v e → e.1 = dst fs x y → Ch fs e.2 x y e.1 → e.2.length ≤ 9 → Bd 900 e.1 → Q v H'
theorem len_best {K : Fg} (vs : List V) (H : Hp) (Q : VK) (E : XK) (h : sp_best K vs H Q E) : vs.length = 3 := by
  obtain ⟨A, ns, fs, x, y, rfl, _⟩ := h; rfl
theorem pure_Book_best {K : Fg} {mg : Str → Option Value} (T : Txt K mg) (vs : List V) (H : Hp) (Q : VK) (E : XK) (h : sp_best K vs H Q E) : t_Book_best K (sp_check_moments K) (sp_best_chains K) { nx := fun _ H' => Q .non H', rt := Q } (start n_Book_best vs) H := by
  obtain ⟨A, ns, fs, x, y, rfl, b, ok, hx, hy, k⟩ := h
  obtain ⟨ws, hf, rf⟩ := b.ff
  unfold t_Book_best
  walk_at "w"
  refine w_mk b.ins rfl ?_
  walk_at "w"
  refine ⟨A, ns, fs, x, y, rfl, b, hx, hy, ?_⟩
  walk_at "w"
  refine w_fd b.ins T.c_Book T.no_Book_facts rfl ?_
  walk_at "w"
  refine w_fd b.ins T.c_Book T.no_Book_names rfl ?_
  walk_at "w"
  refine w_lenL (SqL.of b.nn) ?_
  walk_at "w"
  refine ⟨A.lf, ws, fs, (ns.map V.str).length, x, rfl, SqL.of hf, rf, by simpa using ok.nl, by have := ok.fl; omega, ok.M, ?_⟩
  rw [List.length_map]
  intro m H' kvs es s hm hm' ht best
  walk_at "w"
  obtain ⟨e, he, hd, hc, hl⟩ := best.get ok.net hx hy
  rcases ht.lk y with ⟨k1, k2⟩ | ⟨v, e', k1, k2, re⟩
  · rw [k2] at he; exact nomatch he
  · rw [k2] at he; injection he with he; subst he
    refine w_dget (.inl hm') k1 ?_
    have := ok.nl
    exact k v H' e' s re hd.dst.symm hc (by omega) (ok.M.wn (by omega) hc.wn)
/-- low and high, a new pair -/
def SpanV (K : Fg) (H : Hp) (v : V) (lo hi : Rat) : Prop := ∃ p a b, v = .ref p ∧ SqT K H p [a, b] ∧ Num K H a lo ∧ Num K H b hi
theorem SpanV.tx {K : Fg} {H H' : Hp} {v : V} {lo hi : Rat} (h : SpanV K H v lo hi) (t : Tx K H H') : SpanV K H' v lo hi := by
  obtain ⟨p, a, b, e, h1, h2, h3⟩ := h
  exact ⟨p, a, b, e, h1.tx t, h2.tx t, h3.tx t⟩
def sp_span (K : Fg) : Sp := fun vs H Q _ => ∃ A ns fs x y, vs = [.ref A.B, .str x, .str y] ∧ BookV K H A ns fs ∧ BookOk ns fs ∧ x ∈ ns ∧ y ∈ ns ∧
  Ret (fun v H' => SpanV K H' v (-dst fs y x) (dst fs x y)) H Q
theorem len_span {K : Fg} (vs : List V) (H : Hp) (Q : VK) (E : XK) (h : sp_span K vs H Q E) : vs.length = 3 := by
  obtain ⟨A, ns, fs, x, y, rfl, _⟩ := h; rfl
theorem pure_Book_span {K : Fg} {mg : Str → Option Value} (T : Txt K mg) (vs : List V) (H : Hp) (Q : VK) (E : XK) (h : sp_span K vs H Q E) : t_Book_span K (sp_best K) (sp_minus K) { nx := fun _ H' => Q .non H', rt := Q } (start n_Book_span vs) H := by
  obtain ⟨A, ns, fs, x, y, rfl, b, ok, hx, hy, k⟩ := h
  have nz := num_nb T
  have bz := bd_zero
  unfold t_Book_span
  walk_at "w"
  refine w_mk b.ins rfl ?_
  walk_at "w"
  refine ⟨A, ns, fs, x, y, rfl, b, ok, hx, hy, ?_⟩
  rintro v H1 e s1 ⟨p, nv, c, items, rfl, h1, h2, h3, h4⟩ e1 _ _ bd1
  walk_at "w"; walk_at "ix"
  walk_at "w"
  have b1 := b.same s1
  refine w_mk b1.ins rfl ?_
  walk_at "w"
  refine ⟨A, ns, fs, y, x, rfl, b1, ok, hy, hx, ?_⟩
  rintro v H2 e' s2 ⟨p', nv', c', items', rfl, h1', h2', h3', h4'⟩ e1' _ _ bd1'
  have nz := nz H2
  walk_at "w"; walk_at "ix"
  walk_at "w"
  walk_at "op2"
  intro r H3 s3 m3
  walk_at "w"
  refine w_newT (K := K) (by simp) fun q H4 hq s4 hq4 _ _ => ?_
  refine k _ _ (((s1.trans s2).trans s3).trans s4) ⟨q, r, nv, rfl, hq4, ?_, ?_⟩
  · have : -dst fs y x = 0 - e'.1 := by rw [e1']; grind
    rw [this]; exact m3.tx s4.tx
  · rw [← e1]; exact h2.tx ((s2.trans s3).trans s4).tx
/-- a published chain -/
def StepV (K : Fg) (H : Hp) (v : V) (x : Nat × Bool) : Prop := ∃ p, v = .ref p ∧ SqT K H p [.int (x.1 : Int), .bl x.2]
theorem StepV.tx {K : Fg} {H H' : Hp} {v : V} {x : Nat × Bool} (h : StepV K H v x) (t : Tx K H H') : StepV K H' v x := by
  obtain ⟨p, e, h1⟩ := h
  exact ⟨p, e, h1.tx t⟩
def ChainV (K : Fg) (H : Hp) (c : Addr) (l : List (Nat × Bool)) : Prop := ∃ items, H c = some (.lst items) ∧ All2 (StepV K H) items l
theorem ChainV.kp {K : Fg} {X : List Addr} {H H' : Hp} {c : Addr} {l : List (Nat × Bool)} (h : ChainV K H c l) (k : Kp K X H H') (n : c ∉ X) : ChainV K H' c l := by
  obtain ⟨items, h1, h2⟩ := h
  exact ⟨items, k.2 _ _ n h1, h2.mono fun _ _ z => z.tx k.1⟩
theorem ChainV.same {K : Fg} {H H' : Hp} {c : Addr} {l : List (Nat × Bool)} (h : ChainV K H c l) (s : Same H H') : ChainV K H' c l := h.kp (Kp.of (X := []) s) (by simp)
def sp_chain (K : Fg) : Sp := fun vs H Q _ => ∃ A ns fs x y, vs = [.ref A.B, .str x, .str y] ∧ BookV K H A ns fs ∧ BookOk ns fs ∧ x ∈ ns ∧ y ∈ ns ∧
  ∀ c H' l, Same H H' → H c = none → ChainV K H' c l → Ch fs l x y (dst fs x y) → l.length ≤ 9 → Q (.ref c) H'
theorem len_chain {K : Fg} (vs : List V) (H : Hp) (Q : VK) (E : XK) (h : sp_chain K vs H Q E) : vs.length = 3 := by
  obtain ⟨A, ns, fs, x, y, rfl, _⟩ := h; rfl
theorem turn_zero (t : Bool) : decide (V.int (turnI t) = V.int 0) = t := by cases t <;> rfl
theorem pure_Book_chain {K : Fg} {mg : Str → Option Value} (T : Txt K mg) (vs : List V) (H : Hp) (Q : VK) (E : XK) (h : sp_chain K vs H Q E) : t_Book_chain K (sp_best K) { nx := fun _ H' => Q .non H', rt := Q } (start n_Book_chain vs) H := by
  obtain ⟨A, ns, fs, x, y, rfl, b, ok, hx, hy, k⟩ := h
  unfold t_Book_chain
  walk_at "w"
  refine w_lcL ?_
  walk_at "w"
  refine w_mk b.ins rfl ?_
  walk_at "w"
  refine ⟨A, ns, fs, x, y, rfl, b, ok, hx, hy, ?_⟩
  rintro v H1 e s1 ⟨p, nv, c, items, rfl, h1, h2, h3, h4⟩ e1 ch hl bd1
  walk_at "w"; walk_at "ix"
  have hil := h4.len
  refine lc_by (R := fun H v x => StepV K H v x) (p := fun _ => true) (f := fun x => x) (zs := e.2) (fun _ _ _ _ t h => h.tx t) (SqL.of h3) hil.symm (by omega) ?_ ?_
  · intro i v z H' D acc Nx hv hz s hD hD' hacc kF kT
    obtain ⟨z', hz', p, rfl, hp⟩ := h4.get hv
    rw [hz] at hz'; injection hz' with hz'; subst hz'
    refine w_gtup (hp.tx s.tx) rfl ?_
    walk_at "w"
    refine ⟨rfl, ?_⟩
    refine w_yes ?_
    refine w_itrue ?_
    walk_at "w"
    refine w_newT (K := K) (by simp) fun q H2 hq s2 hq2 _ _ => ?_
    refine w_lcapp (s2 _ _ hD') hacc fun H5 h5 b5 t5 => kT rfl _ _ _ s2 ⟨q, rfl, ?_⟩ h5 b5 t5
    rw [turn_zero] at hq2
    exact hq2
  · intro D H' ys hD s hD' hys
    have e2 : (e.2.filter fun _ => true).map (fun x => x) = e.2 := by simp
    rw [e2] at hys
    exact k D H' e.2 (s1.trans s) (s1.free hD) ⟨ys, hD', hys⟩ (e1 ▸ ch) hl

/-! KBookN -/
set_option Elab.async false
set_option linter.all false
set_option maxRecDepth 100000
set_option maxHeartbeats 1000000
/-! ### fits on the heap -/
def PairV (K : Fg) (H : Hp) (v : V) (e : Str × Rat) : Prop := ∃ p nv, v = .ref p ∧ SqT K H p [.str e.1, nv] ∧ Num K H nv e.2
theorem PairV.tx {K : Fg} {H H' : Hp} {v : V} {e : Str × Rat} (h : PairV K H v e) (t : Tx K H H') : PairV K H' v e := by
  obtain ⟨p, nv, e1, h1, h2⟩ := h
  exact ⟨p, nv, e1, h1.tx t, h2.tx t⟩
def FitV (K : Fg) (H : Hp) (c : Addr) (ns : List Str) (t : Str → Rat) : Prop := ∃ ws, H c = some (.lst ws) ∧ All2 (PairV K H) ws (ns.map fun x => (x, t x))
theorem FitV.kp {K : Fg} {X : List Addr} {H H' : Hp} {c : Addr} {ns : List Str} {t : Str → Rat} (h : FitV K H c ns t) (k : Kp K X H H') (n : c ∉ X) : FitV K H' c ns t := by
  obtain ⟨items, h1, h2⟩ := h
  exact ⟨items, k.2 _ _ n h1, h2.mono fun _ _ z => z.tx k.1⟩
theorem FitV.same {K : Fg} {H H' : Hp} {c : Addr} {ns : List Str} {t : Str → Rat} (h : FitV K H c ns t) (s : Same H H') : FitV K H' c ns t := h.kp (Kp.of (X := []) s) (by simp)
/-! ### earliest_of -/
def sp_earliest_of (K : Fg) : Sp := fun vs H Q _ => ∃ na fa ns ws fs, vs = [.ref na, .ref fa] ∧ SqL K H na (ns.map V.str) ∧ SqL K H fa ws ∧ FactsV K H ws fs ∧ Net ns fs ∧ ns.length ≤ 9 ∧ fs.length ≤ 41 ∧ MxOk fs ∧
  ∀ c H', Same H H' → H c = none → FitV K H' c ns (fun x => -dst fs x "start") → Q (.ref c) H'
theorem len_earliest_of {K : Fg} (vs : List V) (H : Hp) (Q : VK) (E : XK) (h : sp_earliest_of K vs H Q E) : vs.length = 2 := by
  obtain ⟨na, fa, ns, ws, fs, rfl, _⟩ := h; rfl
theorem pure_earliest_of {K : Fg} {mg : Str → Option Value} (T : Txt K mg) (vs : List V) (H : Hp) (Q : VK) (E : XK) (h : sp_earliest_of K vs H Q E) : t_earliest_of K (sp_best_chains K) (sp_minus K) { nx := fun _ H' => Q .non H', rt := Q } (start n_earliest_of vs) H := by
  obtain ⟨na, fa, ns, ws, fs, rfl, hna, hfa, rf, net, hn, hf, M, k⟩ := h
  have nz := num_nb T
  have bz := bd_zero
  unfold t_earliest_of
  walk_at "w"
  refine w_newL (by simp) fun m H1 hm s1 hm1 b1 => ?_
  walk_at "w"
  refine w_forLv rfl (hna.same s1) ⟨fun i σ H' => Same H H' ∧ ∃ ms v3 v4, σ = [some (.ref na), some (.ref fa), some (.ref m), v3, v4] ∧ H' m = some (.lst ms) ∧ All2 (PairV K H') ms ((ns.take i).map fun x => (x, -dst fs x "start")) ∧ ms.length ≤ i, ?_, ?_, ?_, ?_⟩
  · exact ⟨s1, [], none, none, rfl, hm1, All2.nil, Nat.le_refl _⟩
  · rintro i σ H' _ ⟨s, _⟩; exact hna.same s
  · rintro i x σ H' hx ⟨s, ms, v3, v4, rfl, hms, ha, hlen⟩
    obtain ⟨z, hz, rfl⟩ : ∃ z, ns[i]? = some z ∧ x = .str z := by
      rw [List.getElem?_map] at hx
      rcases hz : ns[i]? with _ | z
      · rw [hz] at hx; exact nomatch hx
      · rw [hz] at hx; injection hx with hx; exact ⟨z, rfl, hx.symm⟩
    have hzn := List.mem_of_getElem? hz
    have hi : i < ns.length := (List.getElem?_eq_some_iff.mp hz).1
    walk_at "w"
    refine w_lenL (hna.same s) ?_
    walk_at "w"
    refine ⟨fa, ws, fs, (ns.map V.str).length, z, rfl, hfa.same s, facts_tx rf s.tx, by simpa using hn, hf, M, ?_⟩
    rw [List.length_map]
    intro d H2 kvs es s2 hd hd' ht best
    walk_at "w"
    obtain ⟨e, he, hde, hc, hl⟩ := best.get net hzn net.st
    rcases ht.lk "start" with ⟨k1, k2⟩ | ⟨v, e', k1, k2, re⟩
    · rw [k2] at he; exact nomatch he
    · rw [k2] at he; injection he with he; subst he
      refine w_dget (.inl hd') k1 ?_
      obtain ⟨p, nv, c, items, rfl, h1, h2, h3, h4⟩ := re
      have be : Bd 900 e'.1 := M.wn (by omega) hc.wn
      walk_at "w"; walk_at "ix"
      walk_at "w"
      refine w_tyL (SqL.of (s2 _ _ hms)) ?_
      have nz := nz H2
      walk_at "w"
      walk_at "op2"
      intro r H3 s3 m3
      walk_at "w"
      refine w_newT (K := K) (by simp) fun q H4 hq s4 hq4 _ _ => ?_
      walk_at "w"
      have ss : Same H' H4 := (s2.trans s3).trans s4
      refine w_append (K := K) (ss _ _ hms) (by omega) fun H5 h5 b5 t5 => ?_
      refine ⟨b5.same (s.trans ss) hm, _, _, _, rfl, h5, ?_, by simp; omega⟩
      rw [take_snoc hz, List.map_append]
      refine All2.snoc (ha.mono fun _ _ z => z.tx (ss.tx.trans t5)) ⟨q, r, rfl, hq4.tx t5, ?_⟩
      have : -dst fs z "start" = 0 - e'.1 := by rw [hde.dst]; grind
      show Num K H5 r (-dst fs z "start")
      rw [this]; exact m3.tx (s4.tx.trans t5)
  · rintro σ H' ⟨s, ms, v3, v4, rfl, hms, ha, hlen⟩
    walk_at "w"
    rw [List.length_map, List.take_length] at ha
    exact k m H' s hm ⟨ms, hms, ha⟩
def sp_earliest (K : Fg) : Sp := fun vs H Q _ => ∃ A ns fs, vs = [.ref A.B] ∧ BookV K H A ns fs ∧ BookOk ns fs ∧ ∀ c H', Same H H' → H c = none → FitV K H' c ns (fun x => -dst fs x "start") → Q (.ref c) H'
theorem len_earliest {K : Fg} (vs : List V) (H : Hp) (Q : VK) (E : XK) (h : sp_earliest K vs H Q E) : vs.length = 1 := by
  obtain ⟨A, ns, fs, rfl, _⟩ := h; rfl
theorem pure_Book_earliest {K : Fg} {mg : Str → Option Value} (T : Txt K mg) (vs : List V) (H : Hp) (Q : VK) (E : XK) (h : sp_earliest K vs H Q E) : t_Book_earliest K (sp_earliest_of K) { nx := fun _ H' => Q .non H', rt := Q } (start n_Book_earliest vs) H := by
  obtain ⟨A, ns, fs, rfl, b, ok, k⟩ := h
  obtain ⟨ws, hf, rf⟩ := b.ff
  unfold t_Book_earliest
  walk_at "w"
  refine w_fd b.ins T.c_Book T.no_Book_names rfl ?_
  walk_at "w"
  refine w_fd b.ins T.c_Book T.no_Book_facts rfl ?_
  walk_at "w"
  exact ⟨A.ln, A.lf, ns, ws, fs, rfl, SqL.of b.nn, SqL.of hf, rf, ok.net, ok.nl, by have := ok.fl; omega, ok.M, k⟩
def sp_latest (K : Fg) : Sp := fun vs H Q _ => ∃ A ns fs, vs = [.ref A.B] ∧ BookV K H A ns fs ∧ BookOk ns fs ∧ ∀ c H', Same H H' → H c = none → FitV K H' c ns (fun x => dst fs "start" x) → Q (.ref c) H'
theorem len_latest {K : Fg} (vs : List V) (H : Hp) (Q : VK) (E : XK) (h : sp_latest K vs H Q E) : vs.length = 1 := by
  obtain ⟨A, ns, fs, rfl, _⟩ := h; rfl
theorem str_at {ns : List Str} {i : Nat} {x : V} (hx : (ns.map V.str)[i]? = some x) : ∃ z, ns[i]? = some z ∧ x = .str z := by
  rw [List.getElem?_map] at hx
  rcases hz : ns[i]? with _ | z
  · rw [hz] at hx; exact nomatch hx
  · rw [hz] at hx; injection hx with hx; exact ⟨z, rfl, hx.symm⟩
theorem pure_Book_latest {K : Fg} {mg : Str → Option Value} (T : Txt K mg) (vs : List V) (H : Hp) (Q : VK) (E : XK) (h : sp_latest K vs H Q E) : t_Book_latest K (sp_best_chains K) { nx := fun _ H' => Q .non H', rt := Q } (start n_Book_latest vs) H := by
  obtain ⟨A, ns, fs, rfl, b, ok, k⟩ := h
  obtain ⟨ws, hf, rf⟩ := b.ff
  unfold t_Book_latest
  walk_at "w"
  refine w_fd b.ins T.c_Book T.no_Book_facts rfl ?_
  walk_at "w"
  refine w_fd b.ins T.c_Book T.no_Book_names rfl ?_
  walk_at "w"
  refine w_lenL (SqL.of b.nn) ?_
  walk_at "w"
  refine ⟨A.lf, ws, fs, (ns.map V.str).length, "start", rfl, SqL.of hf, rf, by simpa using ok.nl, by have := ok.fl; omega, ok.M, ?_⟩
  rw [List.length_map]
  intro d H2 kvs es s2 hd hd' ht best
  have b2 := b.same s2
  have hnl := ok.nl
  walk_at "w"
  refine w_lcL ?_
  walk_at "w"
  refine w_fd b2.ins T.c_Book T.no_Book_names rfl ?_
  refine lc_by (R := fun H v e => PairV K H v e) (p := fun _ => true) (f := fun x => (x, dst fs "start" x)) (zs := ns) (fun _ _ _ _ t h => h.tx t) (SqL.of b2.nn) (by simp) (by simp; omega) ?_ ?_
  · intro i v z H' D acc Nx hv hz s hD hD' hacc kF kT
    obtain ⟨z', hz', rfl⟩ := str_at hv
    rw [hz] at hz'; injection hz' with hz'; subst hz'
    have hzn := List.mem_of_getElem? hz
    walk_at "w"
    refine ⟨rfl, ?_⟩
    refine w_yes ?_
    refine w_itrue ?_
    obtain ⟨e, he, hde, hc, hl⟩ := best.get ok.net ok.net.st hzn
    rcases (ht.same s).lk z with ⟨k1, k2⟩ | ⟨v, e', k1, k2, re⟩
    · rw [k2] at he; exact nomatch he
    · rw [k2] at he; injection he with he; subst he
      walk_at "w"
      refine w_dget (.inl (s _ _ hd')) k1 ?_
      obtain ⟨p, nv, c, items, rfl, h1, h2, h3, h4⟩ := re
      walk_at "w"; walk_at "ix"
      walk_at "w"
      refine w_newT (K := K) (by simp) fun q H4 hq s4 hq4 _ _ => ?_
      exact w_lcapp (s4 _ _ hD') hacc fun H5 h5 b5 t5 => kT rfl _ _ _ s4 ⟨q, nv, rfl, hq4, by rw [hde.dst]; exact h2.tx s4.tx⟩ h5 b5 t5
  · intro D H' ys hD s hD' hys
    rw [List.filter_eq_self.mpr (by simp)] at hys
    exact k D H' (s2.trans s) (s2.free hD) ⟨ys, hD', hys⟩
/-! ### fit_with -/
theorem Mx.scale {D B d : Nat} {q : Rat} (h : Mx D B q) : Mx (D * d) (B * d) q := by
  obtain ⟨z, hz, bz⟩ := h
  refine ⟨z * (d : Int), ?_, ?_⟩
  · rw [Rat.natCast_mul, Rat.intCast_mul, ← hz, Rat.intCast_natCast]; grind
  · rw [Int.natAbs_mul]; simpa using Nat.mul_le_mul_right d bz
theorem mx_self (q : Rat) : Mx (6 * q.den) (6 * q.num.natAbs) q := by
  refine ⟨6 * q.num, ?_, by rw [Int.natAbs_mul]; exact Nat.le_refl _⟩
  have h : q * (q.den : Rat) = (q.num : Rat) := by
    have hd : (q.den : Rat) ≠ 0 := fun z => by have := Rat.natCast_eq_zero_iff.mp z; have := q.den_pos; omega
    have e := Rat.num_divInt_den q
    rw [Rat.divInt_eq_div, Rat.intCast_natCast] at e
    conv => lhs; lhs; rw [← e]
    rw [Rat.div_def, Rat.mul_assoc, Rat.inv_mul_cancel _ hd, Rat.mul_one]
  rw [Rat.natCast_mul, Rat.intCast_mul]
  have e : ((6 : Nat) : Rat) = ((6 : Int) : Rat) := rfl
  rw [e, ← h]; grind
theorem mxok_with {fs : List Fact} {x y : Str} {n : Rat} (h : ∀ f ∈ fs, Mx 6 6000 f.lo ∧ Mx 6 6000 f.hi) (b : Bd 800 n) : MxOk (fs ++ [⟨x, y, n, n⟩]) := by
  refine ⟨6 * n.den, 6000 * n.den + 6 * n.num.natAbs, fun f hf => ?_, ?_, ?_, ?_⟩
  · rcases List.mem_append.mp hf with e | e
    · exact ⟨((h f e).1.scale).mono (by omega), ((h f e).2.scale).mono (by omega)⟩
    · simp at e; subst e
      exact ⟨(mx_self n).mono (by omega), (mx_self n).mono (by omega)⟩
  · have := n.den_pos; omega
  · have := b.den
    have e : (2 : Nat) ^ 900 = 2 ^ 100 * 2 ^ 800 := by decide
    rw [e]
    have : 6 < 2 ^ 100 := by decide
    generalize 2 ^ 100 = P at *
    generalize 2 ^ 800 = R at *
    exact Nat.mul_lt_mul_of_le_of_lt (by omega) (by omega) (by omega)
  · have h1 := b.den
    have h2 := b.num
    have e : (2 : Nat) ^ 900 = 2 ^ 100 * 2 ^ 800 := by decide
    rw [e]
    have : 100000 < 2 ^ 100 := by decide
    generalize 2 ^ 100 = P at *
    generalize 2 ^ 800 = R at *
    have : 10 * (6000 * n.den + 6 * n.num.natAbs) ≤ 100000 * R := by omega
    exact Nat.lt_of_le_of_lt this (Nat.mul_lt_mul_of_pos_right (by omega) (by omega))
def sp_fit_with (K : Fg) : Sp := fun vs H Q _ => ∃ A ns fs x y w n, vs = [.ref A.B, .str x, .str y, w] ∧ BookV K H A ns fs ∧ BookOk ns fs ∧ x ∈ ns ∧ y ∈ ns ∧ Num K H w n ∧ Bd 800 n ∧ -dst fs y x ≤ n ∧ n ≤ dst fs x y ∧
  ∀ c H', Same H H' → H c = none → FitV K H' c ns (fun z => -dst (fs ++ [⟨x, y, n, n⟩]) z "start") → Q (.ref c) H'
theorem len_fit_with {K : Fg} (vs : List V) (H : Hp) (Q : VK) (E : XK) (h : sp_fit_with K vs H Q E) : vs.length = 4 := by
  obtain ⟨A, ns, fs, x, y, w, n, rfl, _⟩ := h; rfl
theorem BookOk.bd_dst {ns : List Str} {fs : List Fact} (ok : BookOk ns fs) {x y : Str} (hx : x ∈ ns) (hy : y ∈ ns) : Bd 900 (dst fs x y) := by
  obtain ⟨⟨k, w⟩, h2⟩ := ok.net.isD hx hy
  obtain ⟨k', q', e1, e2, e3⟩ := w.few ok.net hx
  have e4 := h2 _ _ e2
  have e5 : q' = dst fs x y := Rat.le_antisymm e3 e4
  rw [← e5]
  exact ok.M.wn (by have := ok.nl; omega) e2
theorem pure_Book_fit_with {K : Fg} {mg : Str → Option Value} (T : Txt K mg) (vs : List V) (H : Hp) (Q : VK) (E : XK) (h : sp_fit_with K vs H Q E) : t_Book_fit_with K (sp_span K) (sp_compare K) (sp_earliest_of K) { nx := fun _ H' => Q .non H', rt := Q } (start n_Book_fit_with vs) H := by
  obtain ⟨A, ns, fs, x, y, w, n, rfl, b, ok, hx, hy, nw, bn, h1, h2, k⟩ := h
  have bd1 := bd_neg (ok.bd_dst hy hx)
  have bd2 := ok.bd_dst hx hy
  unfold t_Book_fit_with
  walk_at "w"
  refine w_mk b.ins rfl ?_
  walk_at "w"
  refine ⟨A, ns, fs, x, y, rfl, b, ok, hx, hy, ?_⟩
  rintro v H1 s1 ⟨p, va, vb, rfl, hp, na, nb⟩
  have b1 := b.same s1
  have nw1 := nw.tx s1.tx
  refine w_gtup hp rfl ?_
  walk_at "w"
  walk_at "cmp"
  walk_at "w"
  refine w_ite (fun z => absurd (cmpQ_lt.mp z) (Rat.not_lt.mpr h1)) (fun _ => ?_)
  walk_at "w"
  walk_at "cmp"
  walk_at "w"
  refine w_ite (fun z => absurd (cmpQ_gt.mp z) (Rat.not_lt.mpr h2)) (fun _ => ?_)
  obtain ⟨ws, hf, rf⟩ := b1.ff
  walk_at "w"
  refine w_fd b1.ins T.c_Book T.no_Book_names rfl ?_
  walk_at "w"
  refine w_fd b1.ins T.c_Book T.no_Book_facts rfl ?_
  walk_at "w"
  refine w_newT (K := K) (by simp) fun q H2 hq s2 hq2 _ _ => ?_
  walk_at "w"
  refine w_newL (by simp) fun l H3 hl s3 hl3 _ => ?_
  have s23 := s2.trans s3
  have hfl := ok.fl
  have hwl := rf.len
  refine w_cat (s23 _ _ hf) hl3 (by simp; omega) fun c H4 hc s4 hc4 _ => ?_
  walk_at "w"
  have s24 := s23.trans s4
  refine ⟨A.ln, c, ns, _, fs ++ [⟨x, y, n, n⟩], rfl, SqL.of (s24 _ _ b1.nn), SqL.of hc4, All2.snoc (facts_tx rf s24.tx) ⟨q, w, w, rfl, hq2.tx (s3.trans s4).tx, nw1.tx s24.tx, nw1.tx s24.tx⟩, ok.net.with hx hy h1 h2, ok.nl, by simp; omega, mxok_with ok.mx bn, ?_⟩
  intro c' H5 s5 hc' fv
  exact k c' H5 ((s1.trans s24).trans s5) ((s1.trans s24).free hc') fv
/-! ### says -/
def saidQ (low high least most : Rat) : Option Bool := if least ≤ low ∧ high ≤ most then some true else if high < least ∨ most < low then some false else none
def sp_bsays (K : Fg) : Sp := fun vs H Q _ => ∃ A ns fs x y v w a b, vs = [.ref A.B, .str x, .str y, v, w] ∧ BookV K H A ns fs ∧ BookOk ns fs ∧ x ∈ ns ∧ y ∈ ns ∧ Num K H v a ∧ Num K H w b ∧ Bd 4400 a ∧ Bd 4400 b ∧
  ∀ H', Same H H' → Q (oV (saidQ (-dst fs y x) (dst fs x y) a b)) H'
theorem len_bsays {K : Fg} (vs : List V) (H : Hp) (Q : VK) (E : XK) (h : sp_bsays K vs H Q E) : vs.length = 5 := by
  obtain ⟨A, ns, fs, x, y, v, w, a, b, rfl, _⟩ := h; rfl
theorem pure_Book_says {K : Fg} {mg : Str → Option Value} (T : Txt K mg) (vs : List V) (H : Hp) (Q : VK) (E : XK) (h : sp_bsays K vs H Q E) : t_Book_says K (sp_span K) (sp_compare K) { nx := fun _ H' => Q .non H', rt := Q } (start n_Book_says vs) H := by
  obtain ⟨A, ns, fs, x, y, v, w, a, c, rfl, b, ok, hx, hy, nv, nw, ba, bc, k⟩ := h
  have bd1 := bd_neg (ok.bd_dst hy hx)
  have bd2 := ok.bd_dst hx hy
  unfold t_Book_says
  walk_at "w"
  refine w_mk b.ins rfl ?_
  walk_at "w"
  refine ⟨A, ns, fs, x, y, rfl, b, ok, hx, hy, ?_⟩
  generalize -dst fs y x = lo at *
  generalize dst fs x y = hi at *
  rintro v2 H1 s1 ⟨p, va, vb, rfl, hp, na, nb⟩
  have nv1 := nv.tx s1.tx
  have nw1 := nw.tx s1.tx
  have k := k H1 s1
  unfold saidQ at k
  refine w_gtup hp rfl ?_
  walk_at "w"
  walk_at "cmp"
  walk_at "w"
  have tail : ∀ σ : Sl, (∃ z, σ = [some (.ref A.B), some (.str x), some (.str y), some v, some w, some va, some vb] ∧ z = 0) → ¬ (a ≤ lo ∧ hi ≤ c) →
      tSeq (tIfS (tOr (tTest (tOp (rI0 fun i j => .bl (decide (i < j))) (tCall (sp_compare K) [] E0 (tCons (tVar 6) (tCons (tVar 3) tNil))) (tC (.int 0)))) (tTest (tOp (rI0 fun i j => .bl (decide (j < i))) (tCall (sp_compare K) [] E0 (tCons (tVar 5) (tCons (tVar 4) tNil))) (tC (.int 0))))) (tRet (tC (.bl false))) tNext) (tRet (tC .non)) { nx := fun _ H' => Q .non H', rt := Q } σ H1 := by
    rintro σ ⟨z, rfl, _⟩ hno
    rw [if_neg hno] at k
    walk_at "w"
    walk_at "cmp"
    walk_at "w"
    refine w_ite (fun z => ?_) (fun z => ?_)
    · rw [if_pos (.inl (cmpQ_lt.mp z))] at k
      refine w_itb (fun _ => ?_) (fun z => nomatch z)
      walk_at "w"
      exact k
    · walk_at "w"
      walk_at "cmp"
      walk_at "w"
      refine w_ite (fun z2 => ?_) (fun z2 => ?_)
      · rw [if_pos (.inr (cmpQ_gt.mp z2))] at k
        walk_at "w"
        exact k
      · rw [if_neg (fun y => y.elim (fun y => z (cmpQ_lt.mpr y)) (fun y => z2 (cmpQ_gt.mpr y)))] at k
        walk_at "w"
        exact k
  refine w_ite (fun z => ?_) (fun z => ?_)
  · walk_at "w"
    walk_at "cmp"
    walk_at "w"
    refine w_ite (fun z2 => ?_) (fun z2 => ?_)
    · rw [if_pos ⟨cmpQ_le.mp z, cmpQ_le.mp z2⟩] at k
      walk_at "w"
      exact k
    · walk_at "w1"
      exact tail _ ⟨0, rfl, rfl⟩ fun y => z2 (cmpQ_le.mpr y.2)
  · refine w_itb (fun z => nomatch z) (fun _ => ?_)
    walk_at "w1"
    exact tail _ ⟨0, rfl, rfl⟩ fun y => z (cmpQ_le.mpr y.1)

/-! KBookP -/
set_option Elab.async false
set_option linter.all false
set_option maxRecDepth 100000
set_option maxHeartbeats 1000000
/-! ### dict(fit) -/
def TimesV (K : Fg) (H : Hp) (d : Addr) (ns : List Str) (t : Str → Rat) : Prop := ∃ kvs, H d = some (.dK kvs) ∧ ∀ x ∈ ns, ∃ v, valV kvs (.inr x) = some v ∧ Num K H v (t x)
theorem TimesV.same {K : Fg} {H H' : Hp} {d : Addr} {ns : List Str} {t : Str → Rat} (h : TimesV K H d ns t) (s : Same H H') : TimesV K H' d ns t := by
  obtain ⟨kvs, h1, h2⟩ := h
  exact ⟨kvs, s _ _ h1, fun x hx => by obtain ⟨v, e, n⟩ := h2 x hx; exact ⟨v, e, n.tx s.tx⟩⟩
theorem fit_dict {K : Fg} {H : Hp} : ∀ {ws : List V} {l : List (Str × Rat)}, All2 (PairV K H) ws l → ∃ (ps : List Addr) (kvs : List (Key × V)), ws = ps.map V.ref ∧ Paired (fun p kv => SqT K H p [kV kv.1, kv.2]) ps kvs ∧ All2 (KvR (Num K H)) kvs l
  | [], [], _ => ⟨[], [], rfl, .nil, trivial⟩
  | _ :: _, e :: _, ⟨⟨p, nv, e1, h1, h2⟩, t⟩ => by
    obtain ⟨ps, kvs, k1, k2, k3⟩ := fit_dict t
    exact ⟨p :: ps, (.inr e.1, nv) :: kvs, by rw [e1, k1]; rfl, .cons h1 k2, ⟨rfl, h2⟩, k3⟩
  | [], _ :: _, h => h.elim
  | _ :: _, [], h => h.elim
def ptAll (es l : List (Str × Rat)) : List (Str × Rat) := l.foldl (fun acc e => pt acc e.1 e.2) es
theorem All2.merge {K : Fg} {H : Hp} : ∀ {more : List (Key × V)} {l : List (Str × Rat)} {kvs : List (Key × V)} {es : List (Str × Rat)}, All2 (KvR (Num K H)) more l → All2 (KvR (Num K H)) kvs es → All2 (KvR (Num K H)) (mergeK kvs more) (ptAll es l)
  | [], [], _, _, _, h => h
  | p :: _, e :: _, kvs, es, ⟨⟨h1, h2⟩, t⟩, h => by
    show All2 _ (mergeK (putK kvs p.1 p.2) _) (ptAll (Sc.pt es e.1 e.2) _)
    refine All2.merge t ?_
    rw [h1]; exact h.pt h2
  | [], _ :: _, _, _, h, _ => h.elim
  | _ :: _, [], _, _, h, _ => h.elim
theorem lk_ptAll (t : Str → Rat) : ∀ (ns : List Str) (es : List (Str × Rat)) (x : Str), (x ∈ ns ∨ lk es x = some (t x)) → lk (ptAll es (ns.map fun x => (x, t x))) x = some (t x)
  | [], es, x, h => by
    rcases h with h | h
    · simp at h
    · exact h
  | y :: ns, es, x, h => by
    show lk (ptAll (pt es y (t y)) (ns.map fun x => (x, t x))) x = some (t x)
    apply lk_ptAll t ns
    rw [lk_pt]
    by_cases c : x = y
    · subst c; exact .inr (if_pos rfl)
    · rw [if_neg c]
      rcases h with h | h
      · exact .inl (by simpa [c] using h)
      · exact .inr h
theorem w_dictP {K : Fg} {H : Hp} {Q : VK} {c : Addr} {ns : List Str} {t : Str → Rat} (h : FitV K H c ns t) (k : ∀ d H', H d = none → Same H H' → TimesV K H' d ns t → Q (.ref d) H') : rDictP K [.ref c] H Q := by
  obtain ⟨ws, h1, h2⟩ := h
  obtain ⟨ps, kvs, rfl, k2, k3⟩ := fit_dict h2
  refine ⟨c, ps, kvs, rfl, SqL.of h1, k2, fun d hd => k d _ hd (Same.new hd) ⟨_, upd_same, fun x hx => ?_⟩⟩
  have ha := All2.merge k3 (kvs := []) (es := []) trivial
  have hl := lk_ptAll t ns [] x (.inl hx)
  rcases ha.lk x with ⟨j1, j2⟩ | ⟨v, e, j1, j2, r⟩
  · rw [hl] at j2; exact nomatch j2
  · rw [hl] at j2; injection j2 with j2; subst j2
    exact ⟨v, j1, r.tx (Same.new hd).tx⟩
/-! ### is_fit -/
def sp_is_fit (K : Fg) : Sp := fun vs H Q _ => ∃ A ns fs c t, vs = [.ref A.B, .ref c] ∧ BookV K H A ns fs ∧ BookOk ns fs ∧ (∃ r, ns = ("start" : Str) :: r) ∧ FitV K H c ns t ∧ t "start" = 0 ∧ (∀ x ∈ ns, Bd 2000 (t x)) ∧
  ∀ b H', Same H H' → (b = true ↔ Fit fs t) → Q (.bl b) H'
theorem len_is_fit {K : Fg} (vs : List V) (H : Hp) (Q : VK) (E : XK) (h : sp_is_fit K vs H Q E) : vs.length = 2 := by
  obtain ⟨A, ns, fs, c, t, rfl, _⟩ := h; rfl
theorem Fit.take {fs : List Fact} {t : Str → Rat} {i : Nat} {f : Fact} (h : Fit (fs.take i) t) (hf : fs[i]? = some f) (k : f.lo ≤ t f.b - t f.a ∧ t f.b - t f.a ≤ f.hi) : Fit (fs.take (i + 1)) t := by
  rw [take_snoc hf]; exact h.snoc k
theorem pure_Book_is_fit {K : Fg} {mg : Str → Option Value} (T : Txt K mg) (vs : List V) (H : Hp) (Q : VK) (E : XK) (h : sp_is_fit K vs H Q E) : t_Book_is_fit K (sp_minus K) (sp_compare K) { nx := fun _ H' => Q .non H', rt := Q } (start n_Book_is_fit vs) H := by
  obtain ⟨A, ns, fs, c, t, rfl, b, ok, ⟨rest, hr⟩, fv, t0, bt, k⟩ := h
  have nz := num_nb T
  have hnl := ok.nl
  obtain ⟨ws, hc, hws⟩ := fv
  have fv : FitV K H c ns t := ⟨ws, hc, hws⟩
  have hwl : ws.length = ns.length := by have := hws.len; simpa using this
  unfold t_Book_is_fit
  walk_at "w"
  refine w_lcL ?_
  walk_at "w"
  refine lc_by (R := fun H v e => v = .str e) (p := fun _ => true) (f := fun x => x) (zs := ns) (fun _ _ _ _ t h => h) (SqL.of hc) hwl.symm (by omega) ?_ ?_
  · intro i v z H' D acc Nx hv hz s hD hD' hacc kF kT
    obtain ⟨e, he, p, nv, rfl, hp, hn⟩ := hws.get hv
    rw [List.getElem?_map, hz] at he; injection he with he; subst he
    refine w_gtup (hp.tx s.tx) rfl ?_
    walk_at "w"
    refine ⟨rfl, ?_⟩
    refine w_yes ?_
    refine w_itrue ?_
    walk_at "w"
    exact w_lcapp hD' hacc fun H5 h5 b5 t5 => kT rfl _ _ _ (Same.refl _) rfl h5 b5 t5
  · intro D H1 ys hD s1 hD' hys
    have ey : ys = ns.map V.str := by
      have e2 : (ns.filter fun _ => true).map (fun x => x) = ns := by simp
      rw [e2] at hys
      have : ∀ {ys : List V} {zs : List Str}, All2 (fun v e => v = V.str e) ys zs → ys = zs.map V.str := by
        intro ys zs h
        induction ys generalizing zs with
        | nil => cases zs with
          | nil => rfl
          | cons _ _ => exact h.elim
        | cons y ys ih => cases zs with
          | nil => exact h.elim
          | cons z zs => rw [List.map_cons, h.1, ih h.2]
      exact this hys
    subst ey
    have b1 := b.same s1
    walk_at "w"
    refine w_fd b1.ins T.c_Book T.no_Book_names rfl ?_
    refine w_neS (SqL.of hD') (SqL.of b1.nn) ok.so ok.so ?_
    walk_at "w"
    refine w_itn (fun z => absurd rfl z) (fun _ => ?_)
    have hw0 : ∃ w0, ws[0]? = some w0 := ⟨ws[0]'(by rw [hwl, hr]; simp), List.getElem?_eq_getElem _⟩
    obtain ⟨w0, hw0⟩ := hw0
    obtain ⟨e0, he0, p0, nv0, rfl, hp0, hn0⟩ := hws.get hw0
    rw [List.getElem?_map, hr] at he0
    simp at he0; subst he0
    rw [t0] at hn0
    walk_at "w"
    refine w_ixL (SqL.of (s1 _ _ hc)) (atI_nat (j := 0) hw0) ?_
    walk_at "w"; walk_at "ix"
    walk_at "w"
    refine w_neQ (hn0.tx s1.tx) (nz H1) ?_
    walk_at "w"
    refine w_itn (fun z => absurd rfl z) (fun _ => ?_)
    walk_at "w"
    refine w_dictP (fv.same s1) fun d H2 hd s2 tv => ?_
    have b2 := b1.same s2
    obtain ⟨wf, hf, rf⟩ := b2.ff
    walk_at "w"
    refine w_forLx ?_
    walk_at "w"
    refine w_fd b2.ins T.c_Book T.no_Book_facts rfl ?_
    have rfl_ := rf.len
    refine w_forLy (SqL.of hf) ⟨fun i σ H' => Same H2 H' ∧ Fit (fs.take i) t ∧ ∃ v3 v4 v5 v6 v7 v8 v9, σ = [some (.ref A.B), some (.ref c), some (.ref d), v3, v4, v5, v6, v7, v8, v9], ?_, ?_, ?_, ?_⟩
    · exact ⟨Same.refl _, (fun f hf => by simp at hf), _, _, _, _, _, _, _, rfl⟩
    · rintro i σ H' _ ⟨s, _⟩; exact SqL.of (s _ _ hf)
    · rintro i x σ H' hx ⟨s, ft, v3, v4, v5, v6, v7, v8, v9, rfl⟩
      obtain ⟨f, hfi, rff⟩ := rf.get hx
      obtain ⟨p, lo, hi, rfl, h1, h2, h3⟩ := rff.tx s.tx
      have hmem := List.mem_of_getElem? hfi
      obtain ⟨ea, eb⟩ := ok.net.ends f hmem
      have bl := (ok.M.fact hmem).1
      have bh := (ok.M.fact hmem).2
      refine w_gtup h1 rfl ?_
      obtain ⟨kvs, hkv, tvv⟩ := tv.same s
      obtain ⟨vb, jb, nb⟩ := tvv _ eb
      obtain ⟨va, ja, na⟩ := tvv _ ea
      have ba := bt _ ea
      have bb := bt _ eb
      walk_at "w"
      refine w_dget (.inl hkv) jb ?_
      walk_at "w"
      refine w_dget (.inl hkv) ja ?_
      walk_at "w"
      walk_at "op2"
      intro r H3 s3 m3
      have bd3 : Bd 4001 (t f.b - t f.a) := bd_sub bb ba (by decide)
      have h2 := h2.tx s3.tx
      have h3 := h3.tx s3.tx
      walk_at "w"
      walk_at "cmp"
      walk_at "w"
      have hall : f ∈ fs := hmem
      refine w_ite (fun z => ?_) (fun z => ?_)
      · refine w_itb (fun _ => ?_) (fun z => nomatch z)
        walk_at "w"
        refine k false H3 (((s1.trans s2).trans s).trans s3) ⟨(fun z => nomatch z), fun ft => absurd (cmpQ_lt.mp z) (Rat.not_lt.mpr (ft f hall).1)⟩
      · walk_at "w"
        walk_at "cmp"
        walk_at "w"
        refine w_ite (fun z2 => ?_) (fun z2 => ?_)
        · walk_at "w"
          refine k false H3 (((s1.trans s2).trans s).trans s3) ⟨(fun z => nomatch z), fun ft => absurd (cmpQ_gt.mp z2) (Rat.not_lt.mpr (ft f hall).2)⟩
        · walk_at "w"
          exact ⟨s.trans s3, ft.take hfi ⟨Rat.not_lt.mp fun y => z (cmpQ_lt.mpr y), Rat.not_lt.mp fun y => z2 (cmpQ_gt.mpr y)⟩, _, _, _, _, _, _, _, rfl⟩
    · rintro σ H' ⟨s, ft, v3, v4, v5, v6, v7, v8, v9, rfl⟩
      walk_at "w"
      rw [rfl_, List.take_length] at ft
      exact k true H' ((s1.trans s2).trans s) ⟨fun _ => ft, fun _ => rfl⟩
/-! ### facts -/
def sp_facts (K : Fg) : Sp := fun vs H Q _ => ∃ A ns fs, vs = [.ref A.B] ∧ BookV K H A ns fs ∧ ∀ l H' ws, Same H H' → H' l = some (.lst ws) → FactsV K H' ws fs → Q (.ref l) H'
theorem len_facts {K : Fg} (vs : List V) (H : Hp) (Q : VK) (E : XK) (h : sp_facts K vs H Q E) : vs.length = 1 := by
  obtain ⟨A, ns, fs, rfl, _⟩ := h; rfl
theorem pure_Book_facts {K : Fg} {mg : Str → Option Value} (T : Txt K mg) (vs : List V) (H : Hp) (Q : VK) (E : XK) (h : sp_facts K vs H Q E) : t_Book_facts K { nx := fun _ H' => Q .non H', rt := Q } (start n_Book_facts vs) H := by
  obtain ⟨A, ns, fs, rfl, b, k⟩ := h
  obtain ⟨ws, hf, rf⟩ := b.ff
  unfold t_Book_facts
  walk_at "w"
  refine w_fd b.ins T.c_Book T.no_Book_facts rfl ?_
  walk_at "w"
  exact w_listOf (SqL.of hf) fun p H1 hp s1 h1 _ => k p H1 ws s1 h1 (facts_tx rf s1.tx)
/-! ### checks -/
theorem mx6_le {q : Rat} (h : Mx 6 6000 q) : -1000 ≤ q ∧ q ≤ 1000 := by
  obtain ⟨z, hz, bz⟩ := h
  have e : ((6 : Nat) : Rat) = 6 := rfl
  rw [e] at hz
  have h1 : (-6000 : Rat) ≤ (z : Rat) := by
    have : (-6000 : Int) ≤ z := by omega
    have e2 : ((-6000 : Int) : Rat) = -6000 := rfl
    rw [← e2]; exact Rat.intCast_le_intCast.mpr this
  have h2 : (z : Rat) ≤ (6000 : Rat) := by
    have : z ≤ (6000 : Int) := by omega
    have e2 : ((6000 : Int) : Rat) = 6000 := rfl
    rw [← e2]; exact Rat.intCast_le_intCast.mpr this
  constructor <;> grind
theorem mx6_den {q : Rat} (h : Mx 6 6000 q) : q.den ≤ 6 := by
  obtain ⟨z, hz, bz⟩ := h
  have e : q = Rat.divInt z 6 := by
    rw [Rat.divInt_eq_div, ← hz]
    have e : ((6 : Nat) : Rat) = 6 := rfl
    have e2 : ((6 : Int) : Rat) = 6 := rfl
    rw [e, e2]; grind
  have h := divInt_pos_den (a := z) (b := 6) (by decide)
  rw [← e] at h
  have h2 := Int.ediv_le_self (a := 6) (Int.gcd z 6 : Int) (by decide)
  omega
theorem mx6_bd {q : Rat} (h : Mx 6 6000 q) : Bd 13 q := h.bd (by decide) (by decide) (by decide)
def sp_check_numbers (K : Fg) : Sp := fun vs H Q _ => ∃ u v w a b, vs = [u, v, w] ∧ Num K H v a ∧ Num K H w b ∧ Mx 6 6000 a ∧ Mx 6 6000 b ∧ a ≤ b ∧ ∀ H', Same H H' → Q .non H'
theorem len_check_numbers {K : Fg} (vs : List V) (H : Hp) (Q : VK) (E : XK) (h : sp_check_numbers K vs H Q E) : vs.length = 3 := by
  obtain ⟨u, v, w, a, b, rfl, _⟩ := h; rfl
theorem pure_Book_check_numbers {K : Fg} (vs : List V) (H : Hp) (Q : VK) (E : XK) (h : sp_check_numbers K vs H Q E) : t_Book_check_numbers K (sp_compare K) (sp_is_too_great K) { nx := fun _ H' => Q .non H', rt := Q } (start n_Book_check_numbers vs) H := by
  obtain ⟨u, v, w, a, b, rfl, na, nb, ma, mb, hab, k⟩ := h
  have ba := mx6_bd ma
  have bb := mx6_bd mb
  have da := mx6_den ma
  have db := mx6_den mb
  unfold t_Book_check_numbers
  walk_at "w"
  walk_at "cmp"
  walk_at "w"
  refine w_ite (fun z => absurd (cmpQ_gt.mp z) (Rat.not_lt.mpr hab)) (fun _ => ?_)
  walk_at "w"
  refine ⟨_, a, rfl, na, ba.mono (by decide), by omega, (mx6_le ma).1, (mx6_le ma).2, fun H1 s1 => ?_⟩
  walk_at "w"
  refine w_itb (fun z => nomatch z) (fun _ => ?_)
  walk_at "w"
  refine ⟨_, b, rfl, nb.tx s1.tx, bb.mono (by decide), by omega, (mx6_le mb).1, (mx6_le mb).2, fun H2 s2 => ?_⟩
  walk_at "w"
  refine w_itb (fun z => nomatch z) (fun _ => ?_)
  walk_at "w"
  exact k _ (s1.trans s2)
def sp_check_room (K : Fg) : Sp := fun vs H Q _ => ∃ A ns fs, vs = [.ref A.B] ∧ BookV K H A ns fs ∧ fs.length < 40 ∧ Q .non H
theorem len_check_room {K : Fg} (vs : List V) (H : Hp) (Q : VK) (E : XK) (h : sp_check_room K vs H Q E) : vs.length = 1 := by
  obtain ⟨A, ns, fs, rfl, _⟩ := h; rfl
theorem pure_Book_check_room {K : Fg} {mg : Str → Option Value} (T : Txt K mg) (vs : List V) (H : Hp) (Q : VK) (E : XK) (h : sp_check_room K vs H Q E) : t_Book_check_room K { nx := fun _ H' => Q .non H', rt := Q } (start n_Book_check_room vs) H := by
  obtain ⟨A, ns, fs, rfl, b, hl, k⟩ := h
  obtain ⟨ws, hf, rf⟩ := b.ff
  have := rf.len
  unfold t_Book_check_room
  walk_at "w"
  refine w_fd b.ins T.c_Book T.no_Book_facts rfl ?_
  walk_at "w"
  refine w_lenL (SqL.of hf) ?_
  walk_at "w"
  refine w_ite (fun z => by omega) (fun _ => ?_)
  walk_at "w"
  exact k
def sp_remember (K : Fg) : Sp := fun vs H Q _ => ∃ A ns fs nm, vs = [.ref A.B, .str nm] ∧ BookV K H A ns fs ∧ fs.length ≤ 41 ∧ ns.length ≤ 100 ∧ ∀ H', Kp K [A.lp] H H' → (∃ ps, H' A.lp = some (.lst ps) ∧ ps.length ≤ fs.length + 1) → Q .non H'
theorem len_remember {K : Fg} (vs : List V) (H : Hp) (Q : VK) (E : XK) (h : sp_remember K vs H Q E) : vs.length = 2 := by
  obtain ⟨A, ns, fs, nm, rfl, _⟩ := h; rfl
theorem pure_Book_remember {K : Fg} {mg : Str → Option Value} (T : Txt K mg) (vs : List V) (H : Hp) (Q : VK) (E : XK) (h : sp_remember K vs H Q E) : t_Book_remember K { nx := fun _ H' => Q .non H', rt := Q } (start n_Book_remember vs) H := by
  obtain ⟨A, ns, fs, nm, rfl, b, hl, hn, k⟩ := h
  obtain ⟨ws, hf, rf⟩ := b.ff
  obtain ⟨ps, hp, hpl⟩ := b.pp
  have := rf.len
  unfold t_Book_remember
  walk_at "w"
  refine w_fd b.ins T.c_Book T.no_Book_past rfl ?_
  refine w_tyL (SqL.of hp) ?_
  walk_at "w"
  refine w_fd b.ins T.c_Book T.no_Book_names rfl ?_
  walk_at "w"
  refine w_listOf (SqL.of b.nn) fun p1 H1 hp1 s1 h1 _ => ?_
  walk_at "w"
  refine w_fd (s1 _ _ b.ins) T.c_Book T.no_Book_facts rfl ?_
  walk_at "w"
  refine w_listOf (SqL.of (s1 _ _ hf)) fun p2 H2 hp2 s2 h2 _ => ?_
  walk_at "w"
  refine w_newT (K := K) (by simp) fun q H3 hq s3 hq3 _ _ => ?_
  walk_at "w"
  have s := (s1.trans s2).trans s3
  refine w_append (K := K) (s _ _ hp) (by omega) fun H4 h4 b4 t4 => ?_
  exact k H4 ((Kp.of s).trans (Kp.but b4 t4 (by simp))) ⟨_, h4, by simp; omega⟩

/-! KBookR -/
set_option Elab.async false
set_option linter.all false
set_option maxRecDepth 100000
set_option maxHeartbeats 1000000
section
variable {K : Fg} {D : Ends} {σ : Sl} {H : Hp} {Q : VK} {ta tv : TE} {a C dx : Addr} {fs : List (Str × V)} {f : Str} {v : V}
theorem w_sFld (h : tv σ H fun y H1 => ta σ H1 fun x H2 => ∃ a C dx fs, x = .ref a ∧ H2 a = some (.ins C dx fs) ∧ Cls K C ∧ NoAttr K C f ∧ fs.length < 1000 ∧ D.nx σ (upd H2 a (.ins C dx (putF f y fs)))) : sFld K ta tv f D σ H := h
theorem w_sf {P : Hp → Prop} (h : H a = some (.ins C dx fs)) (c : Cls K C) (n : NoAttr K C f) (l : fs.length < 1000) (k : ∀ H', H' a = some (.ins C dx (putF f v fs)) → But a H H' → Tx K H H' → P H') :
    ∃ a' C' dx' fs', V.ref a = .ref a' ∧ H a' = some (.ins C' dx' fs') ∧ Cls K C' ∧ NoAttr K C' f ∧ fs'.length < 1000 ∧ P (upd H a' (.ins C' dx' (putF f v fs'))) :=
  ⟨a, C, dx, fs, rfl, h, c, n, l, k _ upd_same But.upd (But.upd.tx h (fun _ e => nomatch e) fun _ _ e => nomatch e)⟩
theorem w_make {sp : Sp} {E : XK} {ts : TA} (h : ts σ H fun vs H1 => ∀ x dx H2, H1 x = none → Same H1 H2 → H2 x = some (.ins C dx []) → sp (.ref x :: vs) H2 (fun v H3 => v = .non ∧ Q (.ref x) H3) E) (mono : ∀ R R' : List V → Hp → Prop, (∀ vs H, R vs H → R' vs H) → ts σ H R → ts σ H R') : tMake C sp [] E ts σ H Q := by
  refine mono _ _ (fun vs H1 h1 => ?_) h
  intro x dx hx hd hn
  rw [List.append_nil]
  refine h1 x dx _ hx (fun b o e => ?_) upd_same
  rw [upd_ne (ne_of_none e hx), upd_ne (ne_of_none e hd)]; exact e
end
/-! ### Book() -/
def sp_Book_init (K : Fg) : Sp := fun vs H Q _ => ∃ x dx, vs = [.ref x] ∧ H x = some (.ins (He.ga K "Book") dx []) ∧ ∀ A H', A.B = x → H A.ln = none → H A.lf = none → H A.lp = none → Kp K [x] H H' → BookV K H' A ["start"] [] → Q .non H'
theorem len_Book_init {K : Fg} (vs : List V) (H : Hp) (Q : VK) (E : XK) (h : sp_Book_init K vs H Q E) : vs.length = 1 := by
  obtain ⟨x, dx, rfl, _⟩ := h; rfl
theorem pure_Book_init {K : Fg} {mg : Str → Option Value} (T : Txt K mg) (vs : List V) (H : Hp) (Q : VK) (E : XK) (h : sp_Book_init K vs H Q E) : t_Book_init K { nx := fun _ H' => Q .non H', rt := Q } (start n_Book_init vs) H := by
  obtain ⟨x, dx, rfl, hx, k⟩ := h
  unfold t_Book_init
  walk_at "w1"
  refine w_sFld ?_
  walk_at "w"
  refine w_newL (by simp) fun ln H1 hn s1 h1 _ => ?_
  walk_at "w"
  refine w_sf (s1 _ _ hx) T.c_Book T.no_Book_names (by simp) fun H2 h2 b2 t2 => ?_
  walk_at "w1"
  refine w_sFld ?_
  walk_at "w"
  refine w_newL (by simp) fun lf H3 hf s3 h3 _ => ?_
  walk_at "w"
  refine w_sf (s3 _ _ h2) T.c_Book T.no_Book_facts (by simp [putF]) fun H4 h4 b4 t4 => ?_
  show sFld K (tVar 0) (tLst tNil) "_past" _ _ _
  refine w_sFld ?_
  walk_at "w"
  refine w_newL (by simp) fun lp H5 hp s5 h5 _ => ?_
  walk_at "w"
  refine w_sf (s5 _ _ h4) T.c_Book T.no_Book_past (Nat.lt_of_le_of_lt (Nat.le_of_eq (rfl : _ = 2)) (by decide)) fun H6 h6 b6 t6 => ?_
  have nx : ∀ {l : Addr} {Ha : Hp} {xs : List V}, Ha l = some (.lst xs) → (∃ fs, Ha x = some (.ins (He.ga K "Book") dx fs)) → l ≠ x := fun h1 ⟨fs, h2⟩ z => by subst z; rw [h1] at h2; exact nomatch h2
  have n1 : ln ≠ x := nx h1 ⟨_, s1 _ _ hx⟩
  have l2 : H2 ln = some (.lst [.str "start"]) := by rw [b2 ln n1]; exact h1
  have l4 : H4 ln = some (.lst [.str "start"]) := by rw [b4 ln n1]; exact s3 _ _ l2
  have l6 : H6 ln = some (.lst [.str "start"]) := by rw [b6 ln n1]; exact s5 _ _ l4
  have n3 : lf ≠ x := nx h3 ⟨_, s3 _ _ h2⟩
  have f4 : H4 lf = some (.lst []) := by rw [b4 lf n3]; exact h3
  have f6 : H6 lf = some (.lst []) := by rw [b6 lf n3]; exact s5 _ _ f4
  have n5 : lp ≠ x := nx h5 ⟨_, s5 _ _ h4⟩
  have p6 : H6 lp = some (.lst []) := by rw [b6 lp n5]; exact h5
  have K6 : Kp K [x] H H6 := ((((Kp.of s1).trans (Kp.but b2 t2 (by simp))).trans (Kp.of s3)).trans (Kp.but b4 t4 (by simp))).trans ((Kp.of s5).trans (Kp.but b6 t6 (by simp)))
  have m12 : ∀ {l : Addr}, H2 l = none → H l = none := fun {l} h => by
    rcases e : H l with _ | o
    · rfl
    · have : l ≠ x := fun z => by subst z; rw [h2] at h; exact nomatch h
      have := b2 l this
      rw [h] at this
      rw [s1 _ _ e] at this; exact nomatch this
  have m14 : ∀ {l : Addr}, H4 l = none → H l = none := fun {l} h => m12 (by
    rcases e : H2 l with _ | o
    · rfl
    · have : l ≠ x := fun z => by subst z; rw [h4] at h; exact nomatch h
      have := b4 l this
      rw [h] at this
      rw [s3 _ _ e] at this; exact nomatch this)
  refine k ⟨x, dx, ln, lf, lp⟩ H6 rfl hn (m12 hf) (m14 hp) K6 ⟨h6, l6, ⟨[], f6, All2.nil⟩, ⟨[], p6, Nat.le_refl _⟩, fun z => ?_, fun z => ?_, fun z => ?_⟩
  · have z : ln = lf := z
    rw [← z, l2] at hf; exact nomatch hf
  · have z : ln = lp := z
    rw [← z, l4] at hp; exact nomatch hp
  · have z : lf = lp := z
    rw [← z, f4] at hp; exact nomatch hp
/-! ### add, tell -/
theorem BookV.ne {K : Fg} {H : Hp} {A : BA} {ns : List Str} {fs : List Fact} (b : BookV K H A ns fs) : A.B ∉ A.ls := by
  obtain ⟨ws, hf, _⟩ := b.ff
  obtain ⟨ps, hp, _⟩ := b.pp
  intro h
  have hb := b.ins
  simp only [BA.ls, List.mem_cons, List.not_mem_nil, or_false] at h
  rcases h with e | e | e
  · rw [e, b.nn] at hb; exact nomatch hb
  · rw [e, hf] at hb; exact nomatch hb
  · rw [e, hp] at hb; exact nomatch hb
def sp_add (K : Fg) : Sp := fun vs H Q _ => ∃ A ns fs x v w a c, vs = [.ref A.B, .str x, v, w] ∧ BookV K H A ns fs ∧ x ∉ ns ∧ ns.length ≤ 8 ∧ fs.length < 40 ∧ Num K H v a ∧ Num K H w c ∧ Mx 6 6000 a ∧ Mx 6 6000 c ∧ a ≤ c ∧
  ∀ i H', Kp K A.ls H H' → BookV K H' A (ns ++ [x]) (fs ++ [⟨"start", x, a, c⟩]) → Q (.int i) H'
theorem len_add {K : Fg} (vs : List V) (H : Hp) (Q : VK) (E : XK) (h : sp_add K vs H Q E) : vs.length = 4 := by
  obtain ⟨A, ns, fs, x, v, w, a, c, rfl, _⟩ := h; rfl
theorem pure_Book_add {K : Fg} {mg : Str → Option Value} (T : Txt K mg) (vs : List V) (H : Hp) (Q : VK) (E : XK) (h : sp_add K vs H Q E) : t_Book_add K (sp_check_numbers K) (sp_check_room K) (sp_remember K) { nx := fun _ H' => Q .non H', rt := Q } (start n_Book_add vs) H := by
  obtain ⟨A, ns, fs, x, v, w, a, c, rfl, b, hx, hn, hf, na, nc, ma, mc, hac, k⟩ := h
  unfold t_Book_add
  walk_at "w"
  refine w_fd b.ins T.c_Book T.no_Book_names rfl ?_
  refine w_inS (SqL.of b.nn) ?_
  walk_at "w"
  refine w_ite (fun z => absurd z hx) (fun _ => ?_)
  walk_at "w"
  refine w_mk b.ins rfl ?_
  walk_at "w"
  refine ⟨_, v, w, a, c, rfl, na, nc, ma, mc, hac, fun H1 s1 => ?_⟩
  have b1 := b.same s1
  walk_at "w"
  refine w_fd b1.ins T.c_Book T.no_Book_names rfl ?_
  walk_at "w"
  refine w_lenL (SqL.of b1.nn) ?_
  walk_at "w"
  refine w_ite (fun z => by rw [List.length_map] at z; omega) (fun _ => ?_)
  walk_at "w"
  refine w_mk b1.ins rfl ?_
  walk_at "w"
  refine ⟨A, ns, fs, rfl, b1, hf, ?_⟩
  walk_at "w"
  refine w_mk b1.ins rfl ?_
  walk_at "w"
  refine ⟨A, ns, fs, "add", rfl, b1, by omega, by omega, ?_⟩
  rintro H2 kp2 ⟨ps, hp2, hpl⟩
  obtain ⟨ws, hf1, rf⟩ := b1.ff
  have bne := b1.ne
  simp only [BA.ls, List.mem_cons, List.not_mem_nil, or_false, not_or] at bne
  obtain ⟨e1, e2, e3⟩ := bne
  have d1 := b.d1
  have d2 := b.d2
  have d3 := b.d3
  have hB2 := kp2.2 _ _ (by simpa using e3) b1.ins
  have hn2 := kp2.2 _ _ (by simpa using d2) b1.nn
  have hf2 := kp2.2 _ _ (by simpa using d3) hf1
  have hwl := rf.len
  walk_at "w"
  refine w_fd hB2 T.c_Book T.no_Book_names rfl ?_
  refine w_tyL (SqL.of hn2) ?_
  walk_at "w"
  refine w_append (K := K) hn2 (by simp; omega) fun H3 h3 b3 t3 => ?_
  have hB3 : H3 A.B = _ := (b3 _ e1).trans hB2
  have hf3 : H3 A.lf = _ := (b3 _ d1.symm).trans hf2
  have hp3 : H3 A.lp = _ := (b3 _ d2.symm).trans hp2
  walk_at "w"
  refine w_fd hB3 T.c_Book T.no_Book_facts rfl ?_
  refine w_tyL (SqL.of hf3) ?_
  walk_at "w"
  refine w_newT (K := K) (by simp) fun q H4 hq s4 hq4 _ _ => ?_
  walk_at "w"
  refine w_append (K := K) (s4 _ _ hf3) (by omega) fun H5 h5 b5 t5 => ?_
  have hB5 : H5 A.B = _ := (b5 _ e2).trans (s4 _ _ hB3)
  walk_at "w"
  refine w_fd hB5 T.c_Book T.no_Book_facts rfl ?_
  walk_at "w"
  refine w_lenL (SqL.of h5) ?_
  walk_at "w"
  have kall : Kp K A.ls H H5 := (Kp.of s1).trans ((kp2.mono (by simp [BA.ls])).trans ((Kp.but b3 t3 (by simp [BA.ls])).trans ((Kp.of s4).trans (Kp.but b5 t5 (by simp [BA.ls])))))
  have t15 : Tx K H1 H5 := kp2.1.trans (t3.trans (s4.tx.trans t5))
  refine k _ H5 kall ⟨hB5, ?_, ⟨_, h5, All2.snoc (facts_tx rf t15) ⟨q, v, w, rfl, hq4.tx t5, na.tx kall.1, nc.tx kall.1⟩⟩, ⟨ps, (b5 _ d3.symm).trans (s4 _ _ hp3), by simp; omega⟩, d1, d2, d3⟩
  rw [List.map_append]
  exact (b5 _ d1).trans (s4 _ _ h3)
def sp_tell (K : Fg) : Sp := fun vs H Q _ => ∃ A ns fs x y v w a c, vs = [.ref A.B, .str x, .str y, v, w] ∧ BookV K H A ns fs ∧ BookOk ns fs ∧ x ∈ ns ∧ y ∈ ns ∧ x ≠ y ∧ fs.length < 40 ∧ Num K H v a ∧ Num K H w c ∧ Mx 6 6000 a ∧ Mx 6 6000 c ∧ a ≤ c ∧
  a ≤ dst fs x y ∧ -dst fs y x ≤ c ∧ ∀ i H', Kp K A.ls H H' → BookV K H' A ns (fs ++ [⟨x, y, a, c⟩]) → Q (.int i) H'
theorem len_tell {K : Fg} (vs : List V) (H : Hp) (Q : VK) (E : XK) (h : sp_tell K vs H Q E) : vs.length = 5 := by
  obtain ⟨A, ns, fs, x, y, v, w, a, c, rfl, _⟩ := h; rfl
theorem pure_Book_tell {K : Fg} {mg : Str → Option Value} (T : Txt K mg) (vs : List V) (H : Hp) (Q : VK) (E : XK) (h : sp_tell K vs H Q E) : t_Book_tell K (sp_check_moments K) (sp_check_numbers K) (sp_check_room K) (sp_span K) (sp_compare K) (sp_remember K) { nx := fun _ H' => Q .non H', rt := Q } (start n_Book_tell vs) H := by
  obtain ⟨A, ns, fs, x, y, v, w, a, c, rfl, b, ok, hx, hy, hxy, hf, na, nc, ma, mc, hac, h1, h2, k⟩ := h
  have bd1 := bd_neg (ok.bd_dst hy hx)
  have bd2 := ok.bd_dst hx hy
  have bda := (mx6_bd ma)
  have bdc := (mx6_bd mc)
  have hnl := ok.nl
  unfold t_Book_tell
  walk_at "w"
  refine w_mk b.ins rfl ?_
  walk_at "w"
  refine ⟨A, ns, fs, x, y, rfl, b, hx, hy, ?_⟩
  walk_at "w"
  refine w_ite (fun z => absurd (by injection z) hxy) (fun _ => ?_)
  walk_at "w"
  refine w_mk b.ins rfl ?_
  walk_at "w"
  refine ⟨_, v, w, a, c, rfl, na, nc, ma, mc, hac, fun H1 s1 => ?_⟩
  have b1 := b.same s1
  walk_at "w"
  refine w_mk b1.ins rfl ?_
  walk_at "w"
  refine ⟨A, ns, fs, rfl, b1, hf, ?_⟩
  walk_at "w"
  refine w_mk b1.ins rfl ?_
  walk_at "w"
  refine ⟨A, ns, fs, x, y, rfl, b1, ok, hx, hy, ?_⟩
  rintro v2 H1' s1' ⟨p, va, vb, rfl, hp, nva, nvb⟩
  have b1 := b1.same s1'
  have s1 := s1.trans s1'
  have na1 := na.tx s1.tx
  have nc1 := nc.tx s1.tx
  refine w_gtup hp rfl ?_
  walk_at "w"
  walk_at "cmp"
  walk_at "w"
  refine w_ite (fun z => absurd (cmpQ_lt.mp z) (Rat.not_lt.mpr h1)) (fun _ => ?_)
  walk_at "w"
  walk_at "cmp"
  walk_at "w"
  refine w_ite (fun z => absurd (cmpQ_gt.mp z) (Rat.not_lt.mpr h2)) (fun _ => ?_)
  walk_at "w"
  refine w_mk b1.ins rfl ?_
  walk_at "w"
  refine ⟨A, ns, fs, "tell", rfl, b1, by omega, by omega, ?_⟩
  rintro H2 kp2 ⟨ps, hp2, hpl⟩
  obtain ⟨ws, hf1, rf⟩ := b1.ff
  have bne := b1.ne
  simp only [BA.ls, List.mem_cons, List.not_mem_nil, or_false, not_or] at bne
  obtain ⟨e1, e2, e3⟩ := bne
  have d1 := b.d1
  have d2 := b.d2
  have d3 := b.d3
  have hB2 := kp2.2 _ _ (by simpa using e3) b1.ins
  have hn2 := kp2.2 _ _ (by simpa using d2) b1.nn
  have hf2 := kp2.2 _ _ (by simpa using d3) hf1
  have hwl := rf.len
  walk_at "w"
  refine w_fd hB2 T.c_Book T.no_Book_facts rfl ?_
  refine w_tyL (SqL.of hf2) ?_
  walk_at "w"
  refine w_newT (K := K) (by simp) fun q H4 hq s4 hq4 _ _ => ?_
  walk_at "w"
  refine w_append (K := K) (s4 _ _ hf2) (by omega) fun H5 h5 b5 t5 => ?_
  have hB5 : H5 A.B = _ := (b5 _ e2).trans (s4 _ _ hB2)
  walk_at "w"
  refine w_fd hB5 T.c_Book T.no_Book_facts rfl ?_
  walk_at "w"
  refine w_lenL (SqL.of h5) ?_
  walk_at "w"
  have kall : Kp K A.ls H H5 := (Kp.of s1).trans ((kp2.mono (by simp [BA.ls])).trans ((Kp.of s4).trans (Kp.but b5 t5 (by simp [BA.ls]))))
  have t15 : Tx K H1' H5 := kp2.1.trans (s4.tx.trans t5)
  refine k _ H5 kall ⟨hB5, (b5 _ d1).trans (s4 _ _ hn2), ⟨_, h5, All2.snoc (facts_tx rf t15) ⟨q, v, w, rfl, hq4.tx t5, na.tx kall.1, nc.tx kall.1⟩⟩, ⟨ps, (b5 _ d3.symm).trans (s4 _ _ hp2), by simp; omega⟩, d1, d2, d3⟩

/-! KScene -/
set_option Elab.async false
set_option linter.all false
set_option maxRecDepth 100000
set_option maxHeartbeats 1000000
/-! ### the scene on the heap -/
structure SA where
  S : Addr
  dx : Addr
  ls : Addr
def SA.at_ (S : SA) (A : BA) : List (Str × V) := [("_book", .ref A.B), ("_shows", .ref S.ls)]
structure Show where
  name : Str
  clip : Clip
  cue : Str
def ShowV (K : Fg) (H : Hp) (v : V) (s : Show) : Prop := ∃ p cv, v = .ref p ∧ SqT K H p [.str s.name, cv, .str "lamp", .str s.cue] ∧ ClV K H cv s.clip
theorem ShowV.tx {K : Fg} {H H' : Hp} {v : V} {s : Show} (h : ShowV K H v s) (t : Tx K H H') : ShowV K H' v s := by
  obtain ⟨p, cv, e, h1, h2⟩ := h
  exact ⟨p, cv, e, h1.tx t, h2.tx t⟩
structure SceneV (K : Fg) (H : Hp) (S : SA) (A : BA) (ss : List Show) : Prop where
  ins : H S.S = some (.ins (He.ga K "Scene") S.dx (S.at_ A))
  sh : ∃ ws, H S.ls = some (.lst ws) ∧ All2 (ShowV K H) ws ss
  n1 : S.S ∉ A.ls
  n2 : S.ls ∉ A.ls
theorem SceneV.kp {K : Fg} {H H' : Hp} {S : SA} {A : BA} {ss : List Show} (h : SceneV K H S A ss) (k : Kp K A.ls H H') : SceneV K H' S A ss where
  ins := k.2 _ _ h.n1 h.ins
  sh := by obtain ⟨ws, h1, h2⟩ := h.sh; exact ⟨ws, k.2 _ _ h.n2 h1, h2.mono fun _ _ z => z.tx k.1⟩
  n1 := h.n1
  n2 := h.n2
theorem SceneV.same {K : Fg} {H H' : Hp} {S : SA} {A : BA} {ss : List Show} (h : SceneV K H S A ss) (s : Same H H') : SceneV K H' S A ss := h.kp (Kp.of s)
structure SceneOk (ns : List Str) (ss : List Show) : Prop where
  clip : ∀ s ∈ ss, ClOk s.clip
  cue : ∀ s ∈ ss, s.cue ∈ ns
  len : ss.length ≤ 6
/-- the one show of this name -/
def IsSh (ss : List Show) (nm : Str) (s : Show) : Prop := ∃ i, ss[i]? = some s ∧ s.name = nm ∧ ∀ (j : Nat) (s' : Show), ss[j]? = some s' → s'.name = nm → j = i
theorem IsSh.mem {ss : List Show} {nm : Str} {s : Show} (h : IsSh ss nm s) : s ∈ ss := by
  obtain ⟨i, h1, _⟩ := h
  exact List.mem_of_getElem? h1
/-! ### Scene(book), book, shows -/
def sp_Scene_init (K : Fg) : Sp := fun vs H Q _ => ∃ x dx, ∃ A : BA, vs = [.ref x, .ref A.B] ∧ H x = some (.ins (He.ga K "Scene") dx []) ∧ ∀ (S : SA) (H' : Hp), S.S = x → H S.ls = none → Kp K [x] H H' → H' S.S = some (.ins (He.ga K "Scene") S.dx (S.at_ A)) → H' S.ls = some (.lst []) → Q .non H'
theorem len_Scene_init {K : Fg} (vs : List V) (H : Hp) (Q : VK) (E : XK) (h : sp_Scene_init K vs H Q E) : vs.length = 2 := by
  obtain ⟨x, dx, A, rfl, _⟩ := h; rfl
theorem pure_Scene_init {K : Fg} {mg : Str → Option Value} (T : Txt K mg) (vs : List V) (H : Hp) (Q : VK) (E : XK) (h : sp_Scene_init K vs H Q E) : t_Scene_init K { nx := fun _ H' => Q .non H', rt := Q } (start n_Scene_init vs) H := by
  obtain ⟨x, dx, A, rfl, hx, k⟩ := h
  unfold t_Scene_init
  walk_at "w1"
  refine w_sFld ?_
  walk_at "w"
  refine w_sf hx T.c_Scene T.no_Scene_book (by simp) fun H2 h2 b2 t2 => ?_
  show sFld K (tVar 0) (tLst tNil) "_shows" _ _ _
  refine w_sFld ?_
  walk_at "w"
  refine w_newL (by simp) fun ls H3 hs s3 h3 _ => ?_
  walk_at "w"
  refine w_sf (s3 _ _ h2) T.c_Scene T.no_Scene_shows (by simp [putF]) fun H4 h4 b4 t4 => ?_
  have n1 : ls ≠ x := fun z => by
    have := s3 _ _ h2
    rw [← z, h3] at this; exact nomatch this
  have hn : H ls = none := by
    rw [← b2 ls n1]; exact hs
  exact k ⟨x, dx, ls⟩ H4 rfl hn ((Kp.but b2 t2 (by simp)).trans ((Kp.of s3).trans (Kp.but b4 t4 (by simp)))) h4 (by rw [b4 ls n1]; exact h3)
def sp_Scene_book (K : Fg) : Sp := fun vs H Q _ => ∃ S A ss, vs = [.ref S.S] ∧ SceneV K H S A ss ∧ Q (.ref A.B) H
theorem len_Scene_book {K : Fg} (vs : List V) (H : Hp) (Q : VK) (E : XK) (h : sp_Scene_book K vs H Q E) : vs.length = 1 := by
  obtain ⟨S, A, ss, rfl, _⟩ := h; rfl
theorem pure_Scene_book {K : Fg} {mg : Str → Option Value} (T : Txt K mg) (vs : List V) (H : Hp) (Q : VK) (E : XK) (h : sp_Scene_book K vs H Q E) : t_Scene_book K { nx := fun _ H' => Q .non H', rt := Q } (start n_Scene_book vs) H := by
  obtain ⟨S, A, ss, rfl, sc, k⟩ := h
  unfold t_Scene_book
  walk_at "w"
  exact w_fd sc.ins T.c_Scene T.no_Scene_book rfl k
def sp_Scene_shows (K : Fg) : Sp := fun vs H Q _ => ∃ S A ss, vs = [.ref S.S] ∧ SceneV K H S A ss ∧ ∀ l H' ws, Same H H' → H' l = some (.lst ws) → All2 (ShowV K H') ws ss → Q (.ref l) H'
theorem len_Scene_shows {K : Fg} (vs : List V) (H : Hp) (Q : VK) (E : XK) (h : sp_Scene_shows K vs H Q E) : vs.length = 1 := by
  obtain ⟨S, A, ss, rfl, _⟩ := h; rfl
theorem pure_Scene_shows {K : Fg} {mg : Str → Option Value} (T : Txt K mg) (vs : List V) (H : Hp) (Q : VK) (E : XK) (h : sp_Scene_shows K vs H Q E) : t_Scene_shows K { nx := fun _ H' => Q .non H', rt := Q } (start n_Scene_shows vs) H := by
  obtain ⟨S, A, ss, rfl, sc, k⟩ := h
  obtain ⟨ws, h1, h2⟩ := sc.sh
  unfold t_Scene_shows
  walk_at "w"
  refine w_fd sc.ins T.c_Scene T.no_Scene_shows rfl ?_
  walk_at "w"
  exact w_listOf (SqL.of h1) fun p H1 hp s1 h3 _ => k p H1 ws s1 h3 (h2.mono fun _ _ z => z.tx s1.tx)
/-! ### show -/
def sp_show (K : Fg) : Sp := fun vs H Q _ => ∃ S A ss ns fs nm cv c cue, vs = [.ref S.S, .str nm, cv, .str "lamp", .str cue] ∧ SceneV K H S A ss ∧ BookV K H A ns fs ∧ ClV K H cv c ∧ cue ∈ ns ∧ ss.length < 6 ∧ nm ∉ ss.map Show.name ∧
  ∀ H', Kp K [S.ls] H H' → SceneV K H' S A (ss ++ [⟨nm, c, cue⟩]) → Q .non H'
theorem len_show {K : Fg} (vs : List V) (H : Hp) (Q : VK) (E : XK) (h : sp_show K vs H Q E) : vs.length = 5 := by
  obtain ⟨S, A, ss, ns, fs, nm, cv, c, cue, rfl, _⟩ := h; rfl
theorem pure_Scene_show {K : Fg} {mg : Str → Option Value} (T : Txt K mg) (vs : List V) (H : Hp) (Q : VK) (E : XK) (h : sp_show K vs H Q E) : t_Scene_show K (sp_has_property K) (sp_contains K) { nx := fun _ H' => Q .non H', rt := Q } (start n_Scene_show vs) H := by
  obtain ⟨S, A, ss, ns, fs, nm, cv, c, cue, rfl, sc, b, hc, hcue, hl, hnm, k⟩ := h
  obtain ⟨ws, h1, h2⟩ := sc.sh
  have hwl := h2.len
  unfold t_Scene_show
  walk_at "w"
  refine w_lcL ?_
  walk_at "w"
  refine w_fd sc.ins T.c_Scene T.no_Scene_shows rfl ?_
  refine lc_by (R := fun H v e => v = .str e) (p := fun _ => true) (f := Show.name) (zs := ss) (fun _ _ _ _ t h => h) (SqL.of h1) hwl.symm (by omega) ?_ ?_
  · intro i v z H' D acc Nx hv hz s hD hD' hacc kF kT
    obtain ⟨z', hz', p, cv', rfl, hp, _⟩ := h2.get hv
    rw [hz] at hz'; injection hz' with hz'; subst hz'
    walk_at "w"
    refine ⟨rfl, ?_⟩
    refine w_yes ?_
    refine w_itrue ?_
    have hp := hp.tx s.tx
    walk_at "w"; walk_at "ix"
    exact w_lcapp hD' hacc fun H5 h5 b5 t5 => kT rfl _ _ _ (Same.refl _) rfl h5 b5 t5
  · intro D H1 ys hD s1 hD' hys
    have ey : ys = (ss.map Show.name).map V.str := by
      rw [List.filter_eq_self.mpr (by simp)] at hys
      have : ∀ {ys : List V} {zs : List Str}, All2 (fun v e => v = V.str e) ys zs → ys = zs.map V.str := by
        intro ys zs h
        induction ys generalizing zs with
        | nil => cases zs with
          | nil => rfl
          | cons _ _ => exact h.elim
        | cons y ys ih => cases zs with
          | nil => exact h.elim
          | cons z zs => rw [List.map_cons, h.1, ih h.2]
      exact this hys
    subst ey
    refine w_inS (SqL.of hD') ?_
    walk_at "w"
    refine w_ite (fun z => absurd z hnm) (fun _ => ?_)
    walk_at "w"
    refine ⟨cv, c, rfl, hc.tx s1.tx, fun H2 s2 => ?_⟩
    have s12 := s1.trans s2
    have sc2 := sc.same s12
    have b2 := b.same s12
    walk_at "w"
    refine w_itb (fun z => nomatch z) (fun _ => ?_)
    walk_at "w"
    refine w_fd sc2.ins T.c_Scene T.no_Scene_book rfl ?_
    refine ⟨_, _, _, rfl, b2.ins, A, ns, fs, cue, rfl, b2, ?_⟩
    refine ⟨_, rfl, ?_⟩
    walk_at "w"
    rw [decide_eq_true hcue]
    refine w_itb (fun z => nomatch z) (fun _ => ?_)
    obtain ⟨ws2, h21, h22⟩ := sc2.sh
    have hwl2 := h22.len
    walk_at "w"
    refine w_fd sc2.ins T.c_Scene T.no_Scene_shows rfl ?_
    walk_at "w"
    refine w_lenL (SqL.of h21) ?_
    walk_at "w"
    refine w_ite (fun z => by omega) (fun _ => ?_)
    walk_at "w"
    refine w_fd sc2.ins T.c_Scene T.no_Scene_shows rfl ?_
    refine w_tyL (SqL.of h21) ?_
    walk_at "w"
    refine w_newT (K := K) (by simp) fun q H3 hq s3 hq3 _ _ => ?_
    walk_at "w"
    refine w_append (K := K) (s3 _ _ h21) (by omega) fun H4 h4 b4 t4 => ?_
    have nS : S.S ≠ S.ls := fun z => by have := sc2.ins; rw [z, h21] at this; exact nomatch this
    exact k H4 ((Kp.of (s12.trans s3)).trans (Kp.but b4 t4 (by simp))) ⟨(b4 _ nS).trans (s3 _ _ sc2.ins), ⟨_, h4, All2.snoc (h22.mono fun _ _ z => z.tx (s3.tx.trans t4)) ⟨q, cv, rfl, hq3.tx t4, hc.tx (s12.tx.trans (s3.tx.trans t4))⟩⟩, sc.n1, sc.n2⟩
/-! ### shown, value, bounds, says -/
def sp_shown (K : Fg) : Sp := fun vs H Q _ => ∃ S A ss ns fs nm s mo, vs = [.ref S.S, .str nm, .str mo] ∧ SceneV K H S A ss ∧ BookV K H A ns fs ∧ IsSh ss nm s ∧ s.cue ∈ ns ∧ mo ∈ ns ∧ ∀ v, ShowV K H v s → Q v H
theorem len_shown {K : Fg} (vs : List V) (H : Hp) (Q : VK) (E : XK) (h : sp_shown K vs H Q E) : vs.length = 3 := by
  obtain ⟨S, A, ss, ns, fs, nm, s, mo, rfl, _⟩ := h; rfl
theorem pure_Scene_shown {K : Fg} {mg : Str → Option Value} (T : Txt K mg) (vs : List V) (H : Hp) (Q : VK) (E : XK) (h : sp_shown K vs H Q E) : t_Scene_shown K (sp_contains K) { nx := fun _ H' => Q .non H', rt := Q } (start n_Scene_shown vs) H := by
  obtain ⟨S, A, ss, ns, fs, nm, s, mo, rfl, sc, b, ⟨i0, hi0, hnm, huq⟩, hcue, hmo, k⟩ := h
  obtain ⟨ws, h1, h2⟩ := sc.sh
  have hwl := h2.len
  obtain ⟨v0, hv0, r0⟩ := h2.get' hi0
  unfold t_Scene_shown
  walk_at "w"
  refine w_forLx ?_
  walk_at "w"
  refine w_fd sc.ins T.c_Scene T.no_Scene_shows rfl ?_
  refine w_forLy (SqL.of h1) ⟨fun i σ H' => H' = H ∧ ∃ v4, σ = [some (.ref S.S), some (.str nm), some (.str mo), some (if i0 < i then v0 else .non), v4], ?_, ?_, ?_, ?_⟩
  · exact ⟨rfl, none, rfl⟩
  · rintro i σ H' _ ⟨rfl, _⟩; exact SqL.of h1
  · rintro i x σ H' hx ⟨rfl, v4, rfl⟩
    obtain ⟨s', hs', rs⟩ := h2.get hx
    have rs' := rs
    obtain ⟨p, cv, rfl, hp, hc⟩ := rs'
    walk_at "w"; walk_at "ix"
    walk_at "w"
    refine w_ite (fun z => ?_) (fun z => ?_)
    · have z : s'.name = nm := by injection z
      have e := huq i s' hs' z
      subst e
      walk_at "w"
      refine ⟨rfl, some (.ref p), ?_⟩
      rw [hv0] at hx; injection hx with hx; subst hx
      rw [if_pos (show i < i + 1 by omega)]
      rfl
    · walk_at "w"
      refine ⟨rfl, some (.ref p), ?_⟩
      have hne : i ≠ i0 := fun e => by
        subst e
        rw [hi0] at hs'; injection hs' with hs'; subst hs'
        exact z (by rw [hnm])
      have e : (if i0 < i + 1 then v0 else V.non) = (if i0 < i then v0 else V.non) := by
        by_cases c : i0 < i
        · rw [if_pos c, if_pos (by omega)]
        · rw [if_neg c, if_neg (by omega)]
      rw [e]
      rfl
  · rintro σ H' ⟨rfl, v4, rfl⟩
    have hlt : i0 < ws.length := (List.getElem?_eq_some_iff.mp hv0).1
    rw [if_pos hlt]
    have r0' := r0
    obtain ⟨p, cv, rfl, hp, hc⟩ := r0'
    walk_at "w"
    refine w_itb (fun z => by simp at z) (fun _ => ?_)
    walk_at "w"
    refine w_fd sc.ins T.c_Scene T.no_Scene_book rfl ?_
    refine ⟨_, _, _, rfl, b.ins, A, ns, fs, mo, rfl, b, _, rfl, ?_⟩
    rw [decide_eq_true hmo]
    walk_at "w"
    refine w_itb (fun z => nomatch z) (fun _ => ?_)
    walk_at "w"; walk_at "ix"
    walk_at "w"
    refine w_fd sc.ins T.c_Scene T.no_Scene_book rfl ?_
    refine ⟨_, _, _, rfl, b.ins, A, ns, fs, s.cue, rfl, b, _, rfl, ?_⟩
    rw [decide_eq_true hcue]
    walk_at "w"
    refine w_itb (fun z => nomatch z) (fun _ => ?_)
    walk_at "w"
    exact k _ r0
def sp_value (K : Fg) : Sp := fun vs H Q _ => ∃ S A ss ns fs nm s mo c t, vs = [.ref S.S, .str nm, .str mo, .ref c] ∧ SceneV K H S A ss ∧ BookV K H A ns fs ∧ IsSh ss nm s ∧ SceneOk ns ss ∧ mo ∈ ns ∧ FitV K H c ns t ∧ (∀ x ∈ ns, Bd 950 (t x)) ∧
  Ret (fun r H' => Num K H' r (shownF s.clip.lamp (t mo - t s.cue))) H Q
theorem len_value {K : Fg} (vs : List V) (H : Hp) (Q : VK) (E : XK) (h : sp_value K vs H Q E) : vs.length = 4 := by
  obtain ⟨S, A, ss, ns, fs, nm, s, mo, c, t, rfl, _⟩ := h; rfl
theorem pure_Scene_value {K : Fg} (vs : List V) (H : Hp) (Q : VK) (E : XK) (h : sp_value K vs H Q E) : t_Scene_value K (sp_shown K) (sp_minus K) (sp_shown_at K) { nx := fun _ H' => Q .non H', rt := Q } (start n_Scene_value vs) H := by
  obtain ⟨S, A, ss, ns, fs, nm, s, mo, c, t, rfl, sc, b, is, ok, hmo, fv, bt, k⟩ := h
  have hcue := ok.cue s is.mem
  unfold t_Scene_value
  walk_at "w"
  refine w_mk sc.ins rfl ?_
  walk_at "w"
  refine ⟨S, A, ss, ns, fs, nm, s, mo, rfl, sc, b, is, hcue, hmo, ?_⟩
  rintro v ⟨p, cv, rfl, hp, hc⟩
  refine w_gtup hp rfl ?_
  walk_at "w"
  refine w_dictP fv fun d H1 hd s1 tv => ?_
  obtain ⟨kvs, hkv, tvv⟩ := tv
  obtain ⟨va, ja, na⟩ := tvv _ hmo
  obtain ⟨vb, jb, nb⟩ := tvv _ hcue
  have ba := bt _ hmo
  have bb := bt _ hcue
  walk_at "w"
  refine w_dget (.inl hkv) ja ?_
  walk_at "w"
  refine w_dget (.inl hkv) jb ?_
  walk_at "w"
  walk_at "op2"
  intro r H2 s2 m2
  walk_at "w"
  refine ⟨cv, r, s.clip, _, rfl, hc.tx (s1.trans s2).tx, ok.clip s is.mem, m2, bd_sub ba bb (by decide), fun r' H3 s3 m3 => ?_⟩
  exact k _ _ ((s1.trans s2).trans s3) m3
theorem Wn.bd61 {ns : List Str} {fs : List Fact} (ok : BookOk ns fs) {k : Nat} {a b : Str} {q : Rat} (hk : k ≤ 10) (h : Wn fs k a b q) : Bd 61 q :=
  ((h.mx ok.mx).mono (show k * 6000 ≤ 60000 by omega)).bd (by decide) (by decide) (by decide)
theorem BookOk.bd61 {ns : List Str} {fs : List Fact} (ok : BookOk ns fs) {x y : Str} (hx : x ∈ ns) (hy : y ∈ ns) : Bd 61 (dst fs x y) := by
  obtain ⟨⟨k, w⟩, h2⟩ := ok.net.isD hx hy
  obtain ⟨k', q', e1, e2, e3⟩ := w.few ok.net hx
  have e4 := h2 _ _ e2
  have e5 : q' = dst fs x y := Rat.le_antisymm e3 e4
  rw [← e5]
  exact e2.bd61 ok (by have := ok.nl; omega)
def sp_bounds (K : Fg) : Sp := fun vs H Q _ => ∃ S A ss ns fs nm s mo, vs = [.ref S.S, .str nm, .str mo] ∧ SceneV K H S A ss ∧ BookV K H A ns fs ∧ BookOk ns fs ∧ IsSh ss nm s ∧ SceneOk ns ss ∧ mo ∈ ns ∧
  ∀ v H' lo hi, Same H H' → SpanV K H' v lo hi → IsLeast (shownF s.clip.lamp) (-dst fs mo s.cue) (dst fs s.cue mo) lo → IsGreat (shownF s.clip.lamp) (-dst fs mo s.cue) (dst fs s.cue mo) hi → Bd 486 lo → Bd 486 hi → Q v H'
theorem len_bounds {K : Fg} (vs : List V) (H : Hp) (Q : VK) (E : XK) (h : sp_bounds K vs H Q E) : vs.length = 3 := by
  obtain ⟨S, A, ss, ns, fs, nm, s, mo, rfl, _⟩ := h; rfl
theorem pure_Scene_bounds {K : Fg} {mg : Str → Option Value} (T : Txt K mg) (vs : List V) (H : Hp) (Q : VK) (E : XK) (h : sp_bounds K vs H Q E) : t_Scene_bounds K (sp_shown K) (sp_span K) (sp_vbs K) { nx := fun _ H' => Q .non H', rt := Q } (start n_Scene_bounds vs) H := by
  obtain ⟨S, A, ss, ns, fs, nm, s, mo, rfl, sc, b, bo, is, ok, hmo, k⟩ := h
  have hcue := ok.cue s is.mem
  unfold t_Scene_bounds
  walk_at "w"
  refine w_mk sc.ins rfl ?_
  walk_at "w"
  refine ⟨S, A, ss, ns, fs, nm, s, mo, rfl, sc, b, is, hcue, hmo, ?_⟩
  rintro v ⟨p, cv, rfl, hp, hc⟩
  refine w_gtup hp rfl ?_
  walk_at "w"
  refine w_fd sc.ins T.c_Scene T.no_Scene_book rfl ?_
  refine w_mk b.ins rfl ?_
  walk_at "w"
  refine ⟨A, ns, fs, s.cue, mo, rfl, b, bo, hcue, hmo, ?_⟩
  rintro v2 H1 s1 ⟨q, va, vb, rfl, hq, na, nb⟩
  refine w_gtup hq rfl ?_
  walk_at "w"
  refine ⟨cv, va, vb, s.clip, _, _, 61, rfl, hc.tx s1.tx, ok.clip s is.mem, na, nb, bd_neg (bo.bd61 hmo hcue), bo.bd61 hcue hmo, by decide, by decide, bo.net.span_le hcue hmo, ?_⟩
  rintro r H2 s2 ⟨c, lv, gv, lo, hi, rfl, h1, h2, h3, h4, h5, h6, h7⟩
  exact k _ _ lo hi (s1.trans s2) ⟨c, lv, gv, rfl, h1, h2, h3⟩ h4 h5 (h6.mono (by decide)) (h7.mono (by decide))
def sp_ssays (K : Fg) : Sp := fun vs H Q _ => ∃ S A ss ns fs nm s mo v w a c, vs = [.ref S.S, .str nm, .str mo, v, w] ∧ SceneV K H S A ss ∧ BookV K H A ns fs ∧ BookOk ns fs ∧ IsSh ss nm s ∧ SceneOk ns ss ∧ mo ∈ ns ∧ Num K H v a ∧ Num K H w c ∧ Bd 4400 a ∧ Bd 4400 c ∧
  ∀ H' lo hi, Same H H' → IsLeast (shownF s.clip.lamp) (-dst fs mo s.cue) (dst fs s.cue mo) lo → IsGreat (shownF s.clip.lamp) (-dst fs mo s.cue) (dst fs s.cue mo) hi → Q (oV (saidQ lo hi a c)) H'
theorem len_ssays {K : Fg} (vs : List V) (H : Hp) (Q : VK) (E : XK) (h : sp_ssays K vs H Q E) : vs.length = 5 := by
  obtain ⟨S, A, ss, ns, fs, nm, s, mo, v, w, a, c, rfl, _⟩ := h; rfl
theorem pure_Scene_says {K : Fg} (vs : List V) (H : Hp) (Q : VK) (E : XK) (h : sp_ssays K vs H Q E) : t_Scene_says K (sp_bounds K) (sp_compare K) { nx := fun _ H' => Q .non H', rt := Q } (start n_Scene_says vs) H := by
  obtain ⟨S, A, ss, ns, fs, nm, s, mo, v, w, a, c, rfl, sc, b, bo, is, ok, hmo, nv, nw, ba, bc, k⟩ := h
  unfold t_Scene_says
  walk_at "w"
  refine w_mk sc.ins rfl ?_
  walk_at "w"
  refine ⟨S, A, ss, ns, fs, nm, s, mo, rfl, sc, b, bo, is, ok, hmo, ?_⟩
  rintro v2 H1 lo hi s1 ⟨p, va, vb, rfl, hp, na, nb⟩ hlo hhi bd1 bd2
  have nv1 := nv.tx s1.tx
  have nw1 := nw.tx s1.tx
  have k := k H1 lo hi s1 hlo hhi
  unfold saidQ at k
  refine w_gtup hp rfl ?_
  walk_at "w"
  walk_at "cmp"
  walk_at "w"
  have tail : ∀ σ : Sl, (∃ z, σ = [some (.ref S.S), some (.str nm), some (.str mo), some v, some w, some va, some vb] ∧ z = 0) → ¬ (a ≤ lo ∧ hi ≤ c) →
      tSeq (tIfS (tOr (tTest (tOp (rI0 fun i j => .bl (decide (i < j))) (tCall (sp_compare K) [] E0 (tCons (tVar 6) (tCons (tVar 3) tNil))) (tC (.int 0)))) (tTest (tOp (rI0 fun i j => .bl (decide (j < i))) (tCall (sp_compare K) [] E0 (tCons (tVar 5) (tCons (tVar 4) tNil))) (tC (.int 0))))) (tRet (tC (.bl false))) tNext) (tRet (tC .non)) { nx := fun _ H' => Q .non H', rt := Q } σ H1 := by
    rintro σ ⟨z, rfl, _⟩ hno
    rw [if_neg hno] at k
    walk_at "w"
    walk_at "cmp"
    walk_at "w"
    refine w_ite (fun z => ?_) (fun z => ?_)
    · rw [if_pos (.inl (cmpQ_lt.mp z))] at k
      refine w_itb (fun _ => ?_) (fun z => nomatch z)
      walk_at "w"
      exact k
    · walk_at "w"
      walk_at "cmp"
      walk_at "w"
      refine w_ite (fun z2 => ?_) (fun z2 => ?_)
      · rw [if_pos (.inr (cmpQ_gt.mp z2))] at k
        walk_at "w"
        exact k
      · rw [if_neg (fun y => y.elim (fun y => z (cmpQ_lt.mpr y)) (fun y => z2 (cmpQ_gt.mpr y)))] at k
        walk_at "w"
        exact k
  refine w_ite (fun z => ?_) (fun z => ?_)
  · walk_at "w"
    walk_at "cmp"
    walk_at "w"
    refine w_ite (fun z2 => ?_) (fun z2 => ?_)
    · rw [if_pos ⟨cmpQ_le.mp z, cmpQ_le.mp z2⟩] at k
      walk_at "w"
      exact k
    · walk_at "w1"
      exact tail _ ⟨0, rfl, rfl⟩ fun y => z2 (cmpQ_le.mpr y.2)
  · refine w_itb (fun z => nomatch z) (fun _ => ?_)
    walk_at "w1"
    exact tail _ ⟨0, rfl, rfl⟩ fun y => z (cmpQ_le.mpr y.1)

/-! KBis -/
set_option Elab.async false
set_option linter.all false
set_option maxRecDepth 100000
set_option maxHeartbeats 1000000
/-! Halving; points within and points not within. Plain Lean. -/
def wi (lo hi x : Rat) : Prop := lo ≤ x ∧ x ≤ hi
instance (lo hi x : Rat) : Decidable (wi lo hi x) := by unfold wi; exact inferInstance
def hv (w : Rat) : Nat → Rat
  | 0 => w
  | k + 1 => hv w k / 2
theorem hv_pow (w : Rat) : ∀ k : Nat, hv w k * ((2 ^ k : Nat) : Rat) = w
  | 0 => by show w * ((1 : Nat) : Rat) = w; have e : ((1 : Nat) : Rat) = 1 := rfl; rw [e]; grind
  | k + 1 => by
    have ih := hv_pow w k
    rw [Nat.pow_succ, Rat.natCast_mul]
    have e : ((2 : Nat) : Rat) = 2 := rfl
    rw [e]
    show hv w k / 2 * (((2 ^ k : Nat) : Rat) * 2) = w
    refine Eq.trans ?_ ih
    generalize hv w k = x
    generalize ((2 ^ k : Nat) : Rat) = y
    grind
theorem hv_nn {w : Rat} (h : 0 ≤ w) : ∀ k : Nat, 0 ≤ hv w k
  | 0 => h
  | k + 1 => by
    have := hv_nn h k
    show 0 ≤ hv w k / 2
    grind
theorem pow_pos_rat (k : Nat) : (0 : Rat) < ((2 ^ k : Nat) : Rat) := by
  have : 0 < 2 ^ k := Nat.pow_pos (by decide)
  have h := Rat.natCast_lt_natCast.mpr this
  simpa using h
theorem hv_eq (w : Rat) (m k : Nat) : (m : Rat) * hv w k = Rat.divInt (m : Int) ((2 ^ k : Nat) : Int) * w := by
  have h := hv_pow w k
  have hp := pow_pos_rat k
  have hne : ((2 ^ k : Nat) : Rat) ≠ 0 := by grind
  rw [Rat.divInt_eq_div, Rat.intCast_natCast, Rat.intCast_natCast, Rat.div_def, Rat.mul_assoc]
  congr 1
  generalize hv w k = z at *
  rw [← h, Rat.mul_comm z, ← Rat.mul_assoc, Rat.inv_mul_cancel _ hne, Rat.one_mul]
theorem hv_bd {w : Rat} {m k : Nat} (hw : Bd 123 w) (hm : m < 2 ^ 140) (hk : k < 140) : Bd 263 ((m : Rat) * hv w k) := by
  rw [hv_eq]
  refine bd_mul (n := 140) (m := 123) (bd_divInt (by simpa using hm) ?_ (by decide)) hw (by decide)
  rw [Int.natAbs_natCast]
  exact Nat.pow_lt_pow_right (by decide) hk
theorem bd_le {w : Rat} {n : Nat} (h : Bd n w) (h0 : 0 ≤ w) : w ≤ ((2 ^ n : Nat) : Rat) := by
  have h1 := h.num
  have h2 : w * (w.den : Rat) = (w.num : Rat) := by
    have hd : (w.den : Rat) ≠ 0 := fun z => by have := Rat.natCast_eq_zero_iff.mp z; have := w.den_pos; omega
    have e := Rat.num_divInt_den w
    rw [Rat.divInt_eq_div, Rat.intCast_natCast] at e
    conv => lhs; lhs; rw [← e]
    rw [Rat.div_def, Rat.mul_assoc, Rat.inv_mul_cancel _ hd, Rat.mul_one]
  have h3 : (1 : Rat) ≤ (w.den : Rat) := by
    have := w.den_pos
    have := Rat.natCast_le_natCast.mpr (show 1 ≤ w.den by omega)
    simpa using this
  have h4 : (w.num : Rat) ≤ ((2 ^ n : Nat) : Rat) := by
    have : w.num ≤ ((2 ^ n : Nat) : Int) := by omega
    have := Rat.intCast_le_intCast.mpr this
    rwa [Rat.intCast_natCast] at this
  have h5 : w ≤ w * (w.den : Rat) := by
    have := Rat.mul_le_mul_of_nonneg_left h3 h0
    rwa [Rat.mul_one] at this
  grind
/-- the two ends stand on two sides, neither within -/
structure Sd (f : Rat → Rat) (lo hi : Rat) (below : Bool) (a b : Rat) : Prop where
  a1 : decide (f a < lo) = below
  b1 : decide (f b < lo) = !below
  a2 : ¬ wi lo hi (f a)
  b2 : ¬ wi lo hi (f b)
theorem Sd.gap {f : Rat → Rat} {lo hi : Rat} {below : Bool} {a b : Rat} (h : Sd f lo hi below a b) : (f a < lo ∧ hi < f b) ∨ (f b < lo ∧ hi < f a) := by
  obtain ⟨a1, b1, a2, b2⟩ := h
  unfold wi at a2 b2
  cases below
  · have h1 := of_decide_eq_false a1
    have h2 := of_decide_eq_true (by rw [b1]; rfl)
    right; grind
  · have h1 := of_decide_eq_true a1
    have h2 := of_decide_eq_false (by rw [b1]; rfl)
    left; grind
structure Bis (f : Rat → Rat) (lo hi : Rat) (below : Bool) (p0 w : Rat) (k : Nat) (a b : Rat) : Prop where
  sd : Sd f lo hi below a b
  at_ : ∃ i : Nat, i + 1 ≤ 2 ^ k ∧ a = p0 + (i : Rat) * hv w k
  b : b = a + hv w k
section
variable {f : Rat → Rat} {lo hi p0 w a b : Rat} {below : Bool} {k : Nat}
theorem Bis.start (h : Sd f lo hi below p0 (p0 + w)) : Bis f lo hi below p0 w 0 p0 (p0 + w) := ⟨h, ⟨0, by simp, by
  have e : ((0 : Nat) : Rat) = 0 := rfl
  rw [e]; grind⟩, rfl⟩
theorem Bis.few (B : Bis f lo hi below p0 w k a b) (hw : 0 ≤ w) (bw : Bd 123 w) (L : ∀ x y, Lip f 125 x y) (g : lo + 1 / 3 ≤ hi) : k < 132 := by
  have hn := hv_nn hw k
  have h1 := B.sd.gap
  have hb := B.b
  have l := L a b a b Rat.le_refl (by grind) Rat.le_refl
  have h2 : 1 / 3 ≤ 125 * hv w k := by rw [hb] at l; rw [hb] at h1; grind
  have hp := hv_pow w k
  have hq := pow_pos_rat k
  have h3 : ((2 ^ k : Nat) : Rat) * (1 / 3) ≤ ((2 ^ k : Nat) : Rat) * (125 * hv w k) := Rat.mul_le_mul_of_nonneg_left h2 (Rat.le_of_lt hq)
  have h4 := bd_le bw hw
  have h5 : ((2 ^ k : Nat) : Rat) ≤ 375 * ((2 ^ 123 : Nat) : Rat) := by
    have e : ((2 ^ k : Nat) : Rat) * (125 * hv w k) = 125 * w := by
      refine Eq.trans ?_ (congrArg (fun z => 125 * z) hp)
      generalize ((2 ^ k : Nat) : Rat) = z; generalize hv w k = y; grind
    rw [e] at h3
    generalize ((2 ^ k : Nat) : Rat) = z at *
    grind
  have h6 : ((2 ^ k : Nat) : Rat) ≤ ((375 * 2 ^ 123 : Nat) : Rat) := by
    rw [Rat.natCast_mul]; exact h5
  have h7 := Rat.natCast_le_natCast.mp h6
  by_cases c : k < 132
  · exact c
  · have := Nat.pow_le_pow_right (show 0 < 2 by decide) (show 132 ≤ k by omega)
    have h8 : 375 * 2 ^ 123 < 2 ^ 132 := by decide
    omega
theorem Bis.mid (B : Bis f lo hi below p0 w k a b) (hw : 0 ≤ w) : p0 ≤ (a + b) / 2 ∧ (a + b) / 2 ≤ p0 + w ∧ p0 ≤ a ∧ b ≤ p0 + w := by
  obtain ⟨i, hi', ha⟩ := B.at_
  have hb := B.b
  have hn := hv_nn hw k
  have hp := hv_pow w k
  have e0 : (0 : Rat) ≤ (i : Rat) := Rat.natCast_nonneg
  have h1 : (0 : Rat) ≤ (i : Rat) * hv w k := Rat.mul_nonneg e0 hn
  have h2 : ((i : Rat) + 1) * hv w k ≤ w := by
    have : ((i + 1 : Nat) : Rat) ≤ ((2 ^ k : Nat) : Rat) := Rat.natCast_le_natCast.mpr hi'
    rw [Rat.natCast_add] at this
    have e1 : ((1 : Nat) : Rat) = 1 := rfl
    rw [e1] at this
    have h3 := Rat.mul_le_mul_of_nonneg_right this hn
    have e2 : ((2 ^ k : Nat) : Rat) * hv w k = w := by rw [Rat.mul_comm]; exact hp
    rw [e2] at h3; exact h3
  have e3 : ((i : Rat) + 1) * hv w k = (i : Rat) * hv w k + hv w k := by grind
  rw [e3] at h2
  generalize (i : Rat) * hv w k = z at *
  refine ⟨?_, ?_, ?_, ?_⟩ <;> grind
theorem Bis.bdm (B : Bis f lo hi below p0 w k a b) (bw : Bd 123 w) (b0 : Bd 61 p0) (hk : k < 132) : Bd 325 ((a + b) / 2) ∧ Bd 325 a ∧ Bd 325 b := by
  obtain ⟨i, hi', ha⟩ := B.at_
  have hb := B.b
  have hpk : 2 ^ k ≤ 2 ^ 132 := Nat.pow_le_pow_right (by decide) (by omega)
  have h140 : 2 ^ 140 = 256 * 2 ^ 132 := by decide
  have e1 : ((1 : Nat) : Rat) = 1 := rfl
  have e2 : ((2 : Nat) : Rat) = 2 := rfl
  have ea : (a + b) / 2 = p0 + ((2 * i + 1 : Nat) : Rat) * hv w (k + 1) := by
    rw [Rat.natCast_add, Rat.natCast_mul, e1, e2]
    show _ = p0 + _ * (hv w k / 2)
    grind
  have eb : b = p0 + ((i + 1 : Nat) : Rat) * hv w k := by
    rw [Rat.natCast_add, e1]; grind
  refine ⟨?_, ?_, ?_⟩
  · rw [ea]; exact bd_add b0 (hv_bd bw (by omega) (by omega)) (by decide)
  · rw [ha]; exact bd_add b0 (hv_bd bw (by omega) (by omega)) (by decide)
  · rw [eb]; exact bd_add b0 (hv_bd bw (by omega) (by omega)) (by decide)
theorem Bis.left (B : Bis f lo hi below p0 w k a b) (h1 : decide (f ((a + b) / 2) < lo) = below) (h2 : ¬ wi lo hi (f ((a + b) / 2))) : Bis f lo hi below p0 w (k + 1) ((a + b) / 2) b := by
  obtain ⟨i, hi', ha⟩ := B.at_
  have hb := B.b
  have e1 : ((1 : Nat) : Rat) = 1 := rfl
  have e2 : ((2 : Nat) : Rat) = 2 := rfl
  refine ⟨⟨h1, B.sd.b1, h2, B.sd.b2⟩, ⟨2 * i + 1, by rw [Nat.pow_succ]; omega, ?_⟩, ?_⟩
  · rw [Rat.natCast_add, Rat.natCast_mul, e1, e2]
    show _ = p0 + _ * (hv w k / 2)
    grind
  · show _ = _ + hv w k / 2
    grind
theorem Bis.right (B : Bis f lo hi below p0 w k a b) (h1 : decide (f ((a + b) / 2) < lo) ≠ below) (h2 : ¬ wi lo hi (f ((a + b) / 2))) : Bis f lo hi below p0 w (k + 1) a ((a + b) / 2) := by
  obtain ⟨i, hi', ha⟩ := B.at_
  have hb := B.b
  have e1 : ((1 : Nat) : Rat) = 1 := rfl
  have e2 : ((2 : Nat) : Rat) = 2 := rfl
  refine ⟨⟨B.sd.a1, ?_, B.sd.a2, h2⟩, ⟨2 * i, by rw [Nat.pow_succ]; omega, ?_⟩, ?_⟩
  · cases below <;> simp at h1 ⊢ <;> exact h1
  · rw [Rat.natCast_mul, e2]
    show _ = p0 + _ * (hv w k / 2)
    grind
  · show _ = _ + hv w k / 2
    grind
end
/-! ### points -/
section
variable {f : Rat → Rat} {x y lo hi l g : Rat} {r : List Rat}
/-- were all points within, all were -/
theorem pts_not_all (hc : Chn f (x :: r)) (hl : (x :: r).getLast (by simp) = y) (il : IsLeast f x y l) (ig : IsGreat f x y g) (hs : ¬ (lo ≤ l ∧ g ≤ hi)) : ∃ p ∈ x :: r, ¬ wi lo hi (f p) := by
  by_cases c : ∃ p ∈ x :: r, ¬ wi lo hi (f p)
  · exact c
  · exfalso
    have h : ∀ p ∈ x :: r, wi lo hi (f p) := fun p hp => Decidable.byContradiction fun z => c ⟨p, hp, z⟩
    obtain ⟨⟨t, t1, t2, t3⟩, _⟩ := il
    obtain ⟨⟨u, u1, u2, u3⟩, _⟩ := ig
    obtain ⟨⟨p, hp, k1⟩, _⟩ := hc.bounds t1 (by rw [hl]; exact t2)
    obtain ⟨_, ⟨q, hq, k2⟩⟩ := hc.bounds u1 (by rw [hl]; exact u2)
    have h1 := (h p hp).1
    have h2 := (h q hq).2
    exact hs ⟨by grind, by grind⟩
/-- were all points on one side, all were -/
theorem pts_sides (hc : Chn f (x :: r)) (hl : (x :: r).getLast (by simp) = y) (il : IsLeast f x y l) (ig : IsGreat f x y g) (hs : ¬ (g < lo ∨ hi < l)) (hn : ∀ p ∈ x :: r, ¬ wi lo hi (f p)) :
    ∃ p ∈ x :: r, decide (f p < lo) ≠ decide (f x < lo) := by
  by_cases c : ∃ p ∈ x :: r, decide (f p < lo) ≠ decide (f x < lo)
  · exact c
  · exfalso
    have h : ∀ p ∈ x :: r, decide (f p < lo) = decide (f x < lo) := fun p hp => Decidable.byContradiction fun z => c ⟨p, hp, z⟩
    obtain ⟨⟨t, t1, t2, t3⟩, _⟩ := il
    obtain ⟨⟨u, u1, u2, u3⟩, _⟩ := ig
    obtain ⟨⟨p, hp, k1⟩, _⟩ := hc.bounds t1 (by rw [hl]; exact t2)
    obtain ⟨_, ⟨q, hq, k2⟩⟩ := hc.bounds u1 (by rw [hl]; exact u2)
    by_cases s : f x < lo
    · have h2 := h q hq
      rw [decide_eq_true s] at h2
      have := of_decide_eq_true h2
      exact hs (.inl (by grind))
    · have h2 := h p hp
      rw [decide_eq_false s] at h2
      have h3 := of_decide_eq_false h2
      have h4 := hn p hp
      unfold wi at h4
      exact hs (.inr (by grind))
end
/-- a list that is not all alike has a first step -/
theorem first_step {α : Type} [DecidableEq α] : ∀ (l : List α) (x y : α), y ∈ x :: l → y ≠ x → ∃ (k : Nat) (a b : α), (x :: l)[k]? = some a ∧ (x :: l)[k + 1]? = some b ∧ a ≠ b ∧ ∀ (j : Nat) (c d : α), j < k → (x :: l)[j]? = some c → (x :: l)[j + 1]? = some d → c = d
  | [], x, y, h, n => by simp at h; exact absurd h n
  | z :: l, x, y, h, n => by
    by_cases e : x = z
    · subst e
      have h' : y ∈ x :: l := by
        rcases List.mem_cons.mp h with e | e
        · exact absurd e n
        · exact e
      obtain ⟨k, a, b, h1, h2, h3, h4⟩ := first_step l x y h' n
      refine ⟨k + 1, a, b, by simpa using h1, by simpa using h2, h3, fun j c d hj hc hd => ?_⟩
      rcases j with _ | j
      · simp at hc hd; rw [← hc, ← hd]
      · exact h4 j c d (by omega) (by simpa using hc) (by simpa using hd)
    · exact ⟨0, x, z, rfl, rfl, e, fun j _ _ hj => by omega⟩
theorem first_false : ∀ (l : List Bool), false ∈ l → ∃ k, l[k]? = some false ∧ ∀ (j : Nat) (c : Bool), j < k → l[j]? = some c → c = true
  | [], h => by simp at h
  | false :: l, _ => ⟨0, rfl, fun j _ h => by omega⟩
  | true :: l, h => by
    obtain ⟨k, h1, h2⟩ := first_false l (by simpa using h)
    refine ⟨k + 1, by simpa using h1, fun j c hj hc => ?_⟩
    rcases j with _ | j
    · simpa using hc.symm
    · exact h2 j c (by omega) (by simpa using hc)
theorem first_true : ∀ (l : List Bool), true ∈ l → ∃ k, l[k]? = some true ∧ ∀ (j : Nat) (c : Bool), j < k → l[j]? = some c → c = false
  | [], h => by simp at h
  | true :: l, _ => ⟨0, rfl, fun j _ h => by omega⟩
  | false :: l, h => by
    obtain ⟨k, h1, h2⟩ := first_true l (by simpa using h)
    refine ⟨k + 1, by simpa using h1, fun j c hj hc => ?_⟩
    rcases j with _ | j
    · simpa using hc.symm
    · exact h2 j c (by omega) (by simpa using hc)

/-! KPaperA -/
set_option Elab.async false
set_option linter.all false
set_option maxRecDepth 100000
set_option maxHeartbeats 1000000
/-! ### lies_within, middle_number -/
def sp_lies_within (K : Fg) : Sp := fun vs H Q _ => ∃ u v w x lo hi, vs = [u, v, w] ∧ Num K H u x ∧ Num K H v lo ∧ Num K H w hi ∧ Bd 4400 x ∧ Bd 4400 lo ∧ Bd 4400 hi ∧ Q (.bl (decide (wi lo hi x))) H
theorem len_lies_within {K : Fg} (vs : List V) (H : Hp) (Q : VK) (E : XK) (h : sp_lies_within K vs H Q E) : vs.length = 3 := by
  obtain ⟨u, v, w, x, lo, hi, rfl, _⟩ := h; rfl
theorem pure_lies_within {K : Fg} (vs : List V) (H : Hp) (Q : VK) (E : XK) (h : sp_lies_within K vs H Q E) : t_lies_within K (sp_compare K) { nx := fun _ H' => Q .non H', rt := Q } (start n_lies_within vs) H := by
  obtain ⟨u, v, w, x, lo, hi, rfl, nx, nl, nh, bx, bl, bh, k⟩ := h
  unfold t_lies_within
  walk_at "w"
  walk_at "cmp"
  walk_at "w"
  refine w_ite (fun z => ?_) (fun z => ?_)
  · walk_at "w"
    walk_at "cmp"
    walk_at "w"
    have e : decide (cmpQ x hi ≤ 0) = decide (wi lo hi x) := decide_eq_decide.mpr ⟨fun y => ⟨cmpQ_le.mp z, cmpQ_le.mp y⟩, fun y => cmpQ_le.mpr y.2⟩
    rw [e]; exact k
  · have e : decide (wi lo hi x) = false := decide_eq_false fun y => z (cmpQ_le.mpr y.1)
    rw [e] at k
    exact k
def sp_middle_number (K : Fg) : Sp := fun vs H Q _ => ∃ cv v w u1 u2 c p0 p1 lo hi, vs = [cv, .str "lamp", v, w, u1, u2] ∧ ClV K H cv c ∧ ClOk c ∧ Num K H v p0 ∧ Num K H w p1 ∧ Num K H u1 lo ∧ Num K H u2 hi ∧ p0 ≤ p1 ∧ Bd 61 p0 ∧ Bd 61 p1 ∧ Bd 1000 lo ∧ Bd 1000 hi ∧ lo + 1 / 3 ≤ hi ∧
  (∃ below, Sd (shownF c.lamp) lo hi below p0 p1) ∧ ∀ r H' m, Same H H' → Num K H' r m → p0 ≤ m → m ≤ p1 → wi lo hi (shownF c.lamp m) → Bd 400 m → Q r H'
theorem len_middle_number {K : Fg} (vs : List V) (H : Hp) (Q : VK) (E : XK) (h : sp_middle_number K vs H Q E) : vs.length = 6 := by
  obtain ⟨cv, v, w, u1, u2, c, p0, p1, lo, hi, rfl, _⟩ := h; rfl
theorem lt0_eq {x lo : Rat} : decide (cmpQ x lo < 0) = decide (x < lo) := decide_eq_decide.mpr cmpQ_lt
theorem pure_middle_number {K : Fg} (vs : List V) (H : Hp) (Q : VK) (E : XK) (h : sp_middle_number K vs H Q E) : t_middle_number K (sp_shown_at K) (sp_compare K) (sp_plus K) (sp_over K) (sp_lies_within K) { nx := fun _ H' => Q .non H', rt := Q } (start n_middle_number vs) H := by
  obtain ⟨cv, v, w, u1, u2, c, p0, p1, lo, hi, rfl, hc, ok, nv, nw, n1, n2, hp, b0, b1, bl, bh, gap, ⟨below, sd⟩, k⟩ := h
  have hL := lip_shown ok.lamp.p ok.lamp.cont (fun p hp => (ok.lamp.all p hp).slow) ok.lamp.tot
  obtain ⟨W, hW⟩ : ∃ W, W = p1 - p0 := ⟨_, rfl⟩
  have hp1 : p1 = p0 + W := by rw [hW]; grind
  have hW0 : 0 ≤ W := by rw [hW]; grind
  have bW : Bd 123 W := by rw [hW]; exact bd_sub b1 b0 (by decide)
  have bl4 := bl.mono (show 1000 ≤ 4400 by decide)
  have bh4 := bh.mono (show 1000 ≤ 4400 by decide)
  unfold t_middle_number
  walk_at "w"
  refine ⟨cv, v, c, p0, rfl, hc, ok, nv, b0.mono (by decide), fun r1 H1 s1 m1 => ?_⟩
  have bs : Bd 4400 (shownF c.lamp p0) := ok.lamp.bd_shown (b0.mono (by decide))
  have n1' := n1.tx s1.tx
  walk_at "w"
  walk_at "cmp"
  walk_at "w"
  rw [lt0_eq, sd.a1]
  rw [hp1] at nw sd
  refine ⟨fun m σ H' => Same H H' ∧ ∃ kk a b va vb v7 v8, m = 140 - kk ∧ σ = [some cv, some (.str "lamp"), some va, some vb, some u1, some u2, some (.bl below), v7, v8] ∧ Num K H' va a ∧ Num K H' vb b ∧ Bis (shownF c.lamp) lo hi below p0 W kk a b, ?_, ?_⟩
  · exact ⟨140, s1, 0, p0, p0 + W, v, w, none, none, rfl, rfl, nv.tx s1.tx, nw.tx s1.tx, Bis.start sd⟩
  · rintro m σ H' ⟨s, kk, a, b, va, vb, v7, v8, rfl, rfl, na, nb, bis⟩
    have hk := bis.few hW0 bW hL gap
    obtain ⟨bm, ba, bb⟩ := bis.bdm bW b0 hk
    obtain ⟨h1, h2, _, _⟩ := bis.mid hW0
    walk_at "w"
    refine w_itrue ?_
    refine ⟨fun σ H' => Same H H' ∧ ∃ a b va vb v7 v8, σ = [some cv, some (.str "lamp"), some va, some vb, some u1, some u2, some (.bl below), v7, v8] ∧ Num K H' va a ∧ Num K H' vb b ∧ Bis (shownF c.lamp) lo hi below p0 W (kk + 1) a b, ?_, ?_⟩
    · rintro σ' H2 ⟨s2, a, b, va, vb, v7, v8, rfl, na, nb, bis⟩
      exact ⟨140 - (kk + 1), by omega, s2, kk + 1, a, b, va, vb, v7, v8, rfl, rfl, na, nb, bis⟩
    · walk_at "w"
      walk_at "op2"
      intro r2 H2 s2 m2
      walk_at "w"
      refine w_newT (K := K) (by simp) fun q H3 hq s3 hq3 _ _ => ?_
      have n22 : Num K H3 (.ref q) (2 : Rat) := Num.of hq3
      have bsum : Bd 4400 (a + b) := bd_add ba bb (by decide)
      have b22 : Bd 4400 (2 : Rat) := (show Bd 2 (2 : Rat) from ⟨by decide, by decide⟩).mono (by decide)
      walk_at "w"
      refine ⟨_, _, _, _, rfl, m2.tx s3.tx, n22, bsum, b22, (show (2 : Rat) ≠ 0 by decide), ?_⟩
      intro r4 H4 s4 m4
      have s24 := (s2.trans s3).trans s4
      walk_at "w"
      refine ⟨cv, r4, c, _, rfl, hc.tx (s.trans s24).tx, ok, m4, bm.mono (by decide), fun r5 H5 s5 m5 => ?_⟩
      have s25 := s24.trans s5
      have sall := s.trans s25
      have bsm : Bd 4400 (shownF c.lamp ((a + b) / 2)) := ok.lamp.bd_shown (bm.mono (by decide))
      walk_at "w"
      refine ⟨_, _, _, _, lo, hi, rfl, m5, n1.tx sall.tx, n2.tx sall.tx, bsm, bl4, bh4, ?_⟩
      walk_at "w"
      refine w_ite (fun z => ?_) (fun z => ?_)
      · walk_at "w"
        exact k r4 H5 _ sall (m4.tx s5.tx) h1 (by rw [hp1]; exact h2) z (bm.mono (by decide))
      · have n1' := n1.tx sall.tx
        walk_at "w"
        walk_at "cmp"
        walk_at "w"
        rw [lt0_eq]
        refine w_ite (fun y => ?_) (fun y => ?_)
        · walk_at "w"
          exact ⟨sall, _, _, r4, vb, _, _, rfl, m4.tx s5.tx, nb.tx s25.tx, bis.left (by injection y) z⟩
        · walk_at "w"
          exact ⟨sall, _, _, va, r4, _, _, rfl, na.tx s25.tx, m4.tx s5.tx, bis.right (fun e => y (by rw [e])) z⟩

/-! KPaperB -/
set_option Elab.async false
set_option linter.all false
set_option maxRecDepth 100000
set_option maxHeartbeats 1000000
/-! ### lists of truths -/
theorem eqV_bl (x y : Bool) : eqV (.bl x) (.bl y) = decide (x = y) := by
  cases x <;> cases y <;> rfl
theorem inV_bls (x : Bool) : ∀ bs : List Bool, inV (.bl x) (bs.map V.bl) = decide (x ∈ bs) := by
  intro bs
  unfold inV
  rw [List.any_map]
  by_cases h : x ∈ bs
  · rw [decide_eq_true h]
    exact List.any_eq_true.mpr ⟨x, h, by simp [eqV_bl]⟩
  · rw [decide_eq_false h, List.any_eq_false]
    intro z hz
    simp only [Function.comp, eqV_bl]
    have : ¬ z = x := fun e => h (e ▸ hz)
    simp [this]
theorem flat_bls (bs : List Bool) : (bs.map V.bl).all flatV = true := by
  rw [List.all_map, List.all_eq_true]
  intro x _
  rfl
theorem all_bl : ∀ {ys : List V} {zs : List Bool}, All2 (fun v e => v = V.bl e) ys zs → ys = zs.map V.bl
  | [], [], _ => rfl
  | _ :: _, _ :: _, h => by rw [List.map_cons, h.1, all_bl h.2]
  | [], _ :: _, h => h.elim
  | _ :: _, [], h => h.elim
section
variable {K : Fg} {H : Hp} {Q : VK} {a : Addr} {bs : List Bool} {x : Bool} {k : Nat}
theorem w_inB (h : SqL K H a (bs.map V.bl)) (q : Q (.bl (decide (x ∈ bs))) H) : rIn K false (.bl x) (.ref a) H Q := ⟨a, _, rfl, .inl h, rfl, flat_bls bs, by rw [inV_bls]; exact q⟩
theorem w_index (h : SqL K H a (bs.map V.bl)) (h1 : bs[k]? = some x) (h2 : ∀ (j : Nat) (c : Bool), j < k → bs[j]? = some c → c ≠ x) (q : Q (.int (k : Int)) H) : rIndex K (.ref a) [.bl x] H Q := by
  refine ⟨a, _, .bl x, k, .bl x, rfl, rfl, h, rfl, flat_bls bs, by rw [List.getElem?_map, h1]; rfl, by rw [eqV_bl]; simp, fun m z' hm hz => ?_, q⟩
  rw [List.getElem?_map] at hz
  rcases hc : bs[m]? with _ | c
  · rw [hc] at hz; exact nomatch hz
  · rw [hc] at hz; injection hz with hz; subst hz
    rw [eqV_bl]
    exact decide_eq_false (h2 m c hm hc)
end
/-! ### numbers_of -/
def PairQ (K : Fg) (H : Hp) (v : V) (a b : Rat) : Prop := ∃ p x y, v = .ref p ∧ SqT K H p [x, y] ∧ Num K H x a ∧ Num K H y b
def sp_numbers_of (K : Fg) : Sp := fun vs H Q _ => ∃ sv pv u v s x y lo hi l g, vs = [sv, pv, u, v] ∧ ShowV K H sv s ∧ ClOk s.clip ∧ SpanV K H pv x y ∧ Num K H u lo ∧ Num K H v hi ∧ x ≤ y ∧ Bd 61 x ∧ Bd 61 y ∧ Bd 1000 lo ∧ Bd 1000 hi ∧ lo + 1 / 3 ≤ hi ∧
  IsLeast (shownF s.clip.lamp) x y l ∧ IsGreat (shownF s.clip.lamp) x y g ∧ saidQ l g lo hi = none ∧
  ∀ r H' a b, Same H H' → PairQ K H' r a b → x ≤ a → a ≤ y → x ≤ b → b ≤ y → wi lo hi (shownF s.clip.lamp a) → ¬ wi lo hi (shownF s.clip.lamp b) → Bd 400 a → Bd 400 b → Q r H'
theorem len_numbers_of {K : Fg} (vs : List V) (H : Hp) (Q : VK) (E : XK) (h : sp_numbers_of K vs H Q E) : vs.length = 4 := by
  obtain ⟨sv, pv, u, v, s, x, y, lo, hi, l, g, rfl, _⟩ := h; rfl
theorem ptsB_bd {tr : Trk} (h : TrOk tr) {x y : Rat} (bx : Bd 61 x) (b_y : Bd 61 y) : ∀ z ∈ ptsB tr x y, Bd 61 z := by
  intro z hz
  unfold ptsB at hz
  rcases List.mem_cons.mp hz with e | e
  · subst e; exact bx
  · rcases List.mem_append.mp e with e | e
    · rcases List.mem_cons.mp (List.mem_filter.mp e).1 with e | e
      · subst e; exact bd_zero.mono (by decide)
      · exact h.nrmT.brk_bd z e
    · split at e
      · simp at e; subst e; exact b_y
      · simp at e
theorem ptsB_len {tr : Trk} (h : TrOk tr) {x y : Rat} : (ptsB tr x y).length ≤ 60 := by
  unfold ptsB
  have h1 := List.length_filter_le (fun z => decide (x < z ∧ z < y)) (0 :: brk 0 (nrmT tr))
  have h2 := brk_len (nrmT tr) 0
  have h3 := h.nrmT.len
  rw [List.length_cons] at h1
  rw [List.length_cons, List.length_append]
  have h4 : (if x < y then [y] else []).length ≤ 1 := by split <;> simp
  omega
theorem said_none {l g lo hi : Rat} (h : saidQ l g lo hi = none) : ¬ (lo ≤ l ∧ g ≤ hi) ∧ ¬ (g < lo ∨ hi < l) := by
  unfold saidQ at h
  by_cases c : lo ≤ l ∧ g ≤ hi
  · rw [if_pos c] at h; exact nomatch h
  · rw [if_neg c] at h
    by_cases d : g < lo ∨ hi < l
    · rw [if_pos d] at h; exact nomatch h
    · exact ⟨c, d⟩
theorem pure_numbers_of {K : Fg} (vs : List V) (H : Hp) (Q : VK) (E : XK) (h : sp_numbers_of K vs H Q E) : t_numbers_of K (sp_points_between K) (sp_shown_at K) (sp_lies_within K) (sp_compare K) (sp_middle_number K) { nx := fun _ H' => Q .non H', rt := Q } (start n_numbers_of vs) H := by
  obtain ⟨sv, pv, u, v, s, x, y, lo, hi, l, g, rfl, ⟨p, cv, rfl, hp, hc⟩, ok, ⟨sp, xa, xb, rfl, hs, na, nb⟩, nlo, nhi, hxy, bx, b_y, bl, bh, gap, il, ig, sn, k⟩ := h
  obtain ⟨sn1, sn2⟩ := said_none sn
  have bl4 := bl.mono (show 1000 ≤ 4400 by decide)
  have bh4 := bh.mono (show 1000 ≤ 4400 by decide)
  have pin := ptsB_in (tr := s.clip.lamp) hxy
  have pbd := ptsB_bd ok.lamp bx b_y
  have pln := ptsB_len ok.lamp (x := x) (y := y)
  obtain ⟨chn, lst⟩ := ptsB_chn ok.lamp hxy
  unfold t_numbers_of
  walk_at "w"
  refine w_gtup hp rfl ?_
  walk_at "w"; walk_at "ix"
  walk_at "w"; walk_at "ix"
  walk_at "w"
  refine ⟨cv, xa, xb, s.clip, x, y, rfl, hc, ok, na, nb, bx.mono (by decide), b_y.mono (by decide), fun pb H1 ws s1 hpb hn => ?_⟩
  have hwl := hn.len
  walk_at "w"
  refine w_lcL ?_
  walk_at "w"
  refine lc_by (R := fun H v b => v = .bl b) (p := fun _ => true) (f := fun z => decide (wi lo hi (shownF s.clip.lamp z))) (zs := ptsB s.clip.lamp x y) (fun _ _ _ _ t h => h) (SqL.of hpb) hwl.symm (by omega) ?_ ?_
  · intro i w z H' D acc Nx hw hz s2 hD hD' hacc kF kT
    obtain ⟨z', hz', rz⟩ := hn.get hw
    rw [hz] at hz'; injection hz' with hz'; subst hz'
    have bz := pbd z (List.mem_of_getElem? hz)
    have bsz : Bd 4400 (shownF s.clip.lamp z) := ok.lamp.bd_shown (bz.mono (by decide))
    walk_at "w"
    refine ⟨rfl, ?_⟩
    refine w_yes ?_
    refine w_itrue ?_
    have s02 := s1.trans s2
    walk_at "w"
    refine ⟨cv, w, s.clip, z, rfl, hc.tx s02.tx, ok, rz.tx s2.tx, bz.mono (by decide), fun r H3 s3 m3 => ?_⟩
    walk_at "w"
    refine ⟨_, _, _, _, lo, hi, rfl, m3, nlo.tx (s02.trans s3).tx, nhi.tx (s02.trans s3).tx, bsz, bl4, bh4, ?_⟩
    exact w_lcapp (s3 _ _ hD') hacc fun H5 h5 b5 t5 => kT rfl _ _ _ s3 rfl h5 b5 t5
  · intro fd H2 ys hfd s2 hfd2 hys
    have ef : ((ptsB s.clip.lamp x y).filter fun _ => true) = ptsB s.clip.lamp x y := List.filter_eq_self.mpr (by simp)
    rw [ef] at hys
    have ey := all_bl hys
    subst ey
    obtain ⟨bs, hbs⟩ : ∃ bs, bs = (ptsB s.clip.lamp x y).map fun z => decide (wi lo hi (shownF s.clip.lamp z)) := ⟨_, rfl⟩
    rw [← hbs] at hfd2 hys
    have hnot := pts_not_all (r := (ptsB s.clip.lamp x y).tail) (x := x) chn lst il ig sn1
    obtain ⟨q, hq, hqn⟩ := hnot
    have hq : q ∈ ptsB s.clip.lamp x y := hq
    have hfalse : false ∈ bs := by rw [hbs]; exact List.mem_map.mpr ⟨q, hq, decide_eq_false hqn⟩
    obtain ⟨k0, f1, f2⟩ := first_false bs hfalse
    have at_ : ∀ {j : Nat} {b : Bool}, bs[j]? = some b → ∃ z w, (ptsB s.clip.lamp x y)[j]? = some z ∧ decide (wi lo hi (shownF s.clip.lamp z)) = b ∧ ws[j]? = some w ∧ Num K H1 w z := by
      intro j b hb
      rw [hbs, List.getElem?_map] at hb
      rcases hz : (ptsB s.clip.lamp x y)[j]? with _ | z
      · rw [hz] at hb; exact nomatch hb
      · rw [hz] at hb; injection hb with hb
        obtain ⟨w, hw, rw_⟩ := hn.get' hz
        exact ⟨z, w, rfl, hb, hw, rw_⟩
    obtain ⟨z0, w0, hz0, hb0, hw0, rw0⟩ := at_ f1
    have hb0 := of_decide_eq_false hb0
    have i0 := pin z0 (List.mem_of_getElem? hz0)
    have bz0 := (pbd z0 (List.mem_of_getElem? hz0)).mono (show 61 ≤ 400 by decide)
    have hpb2 := s2 _ _ hpb
    walk_at "w"
    refine w_tyL (SqL.of hfd2) ?_
    walk_at "w"
    refine w_index (SqL.of hfd2) f1 (fun j c hj hc e => by have := f2 j c hj hc; rw [this] at e; exact nomatch e) ?_
    refine w_ixL (SqL.of hpb2) (atI_nat hw0) ?_
    walk_at "w"
    refine w_inB (SqL.of hfd2) ?_
    walk_at "w"
    refine w_ite (fun c => ?_) (fun c => ?_)
    · obtain ⟨k1, g1, g2⟩ := first_true bs c
      obtain ⟨z1, w1, hz1, hb1, hw1, rw1⟩ := at_ g1
      have hb1 := of_decide_eq_true hb1
      have i1 := pin z1 (List.mem_of_getElem? hz1)
      have bz1 := (pbd z1 (List.mem_of_getElem? hz1)).mono (show 61 ≤ 400 by decide)
      walk_at "w"
      refine w_tyL (SqL.of hfd2) ?_
      walk_at "w"
      refine w_index (SqL.of hfd2) g1 (fun j c hj hc e => by have := g2 j c hj hc; rw [this] at e; exact nomatch e) ?_
      refine w_ixL (SqL.of hpb2) (atI_nat hw1) ?_
      walk_at "w"
      refine w_newT (K := K) (by simp) fun q H3 hq s3 hq3 _ _ => ?_
      exact k _ H3 z1 z0 ((s1.trans s2).trans s3) ⟨q, w1, w0, rfl, hq3, rw1.tx (s2.trans s3).tx, rw0.tx (s2.trans s3).tx⟩ i1.1 i1.2 i0.1 i0.2 hb1 hb0 bz1 bz0
    · have allno : ∀ z ∈ ptsB s.clip.lamp x y, ¬ wi lo hi (shownF s.clip.lamp z) := fun z hz y => c (by rw [hbs]; exact List.mem_map.mpr ⟨z, hz, decide_eq_true y⟩)
      walk_at "w"
      refine w_lcL ?_
      walk_at "w"
      refine lc_by (R := fun H v b => v = .bl b) (p := fun _ => true) (f := fun z => decide (shownF s.clip.lamp z < lo)) (zs := ptsB s.clip.lamp x y) (fun _ _ _ _ t h => h) (SqL.of hpb2) hwl.symm (by omega) ?_ ?_
      · intro i w z H' D acc Nx hw hz s3 hD hD' hacc kF kT
        obtain ⟨z', hz', rz⟩ := hn.get hw
        rw [hz] at hz'; injection hz' with hz'; subst hz'
        have bz := pbd z (List.mem_of_getElem? hz)
        have bsz : Bd 4400 (shownF s.clip.lamp z) := ok.lamp.bd_shown (bz.mono (by decide))
        walk_at "w"
        refine ⟨rfl, ?_⟩
        refine w_yes ?_
        refine w_itrue ?_
        have s03 := (s1.trans s2).trans s3
        walk_at "w"
        refine ⟨cv, w, s.clip, z, rfl, hc.tx s03.tx, ok, rz.tx (s2.trans s3).tx, bz.mono (by decide), fun r H4 s4 m4 => ?_⟩
        have nlo4 := nlo.tx (s03.trans s4).tx
        walk_at "w"
        walk_at "cmp"
        walk_at "w"
        rw [lt0_eq]
        exact w_lcapp (s4 _ _ hD') hacc fun H5 h5 b5 t5 => kT rfl _ _ _ s4 rfl h5 b5 t5
      · intro sd H3 ys2 hsd s3 hsd3 hys2
        rw [ef] at hys2
        have ey2 := all_bl hys2
        subst ey2
        obtain ⟨p2, hp2, hp2n⟩ := pts_sides (r := (ptsB s.clip.lamp x y).tail) (x := x) chn lst il ig sn2 allno
        have hp2 : p2 ∈ ptsB s.clip.lamp x y := hp2
        have first := first_step (((ptsB s.clip.lamp x y).tail).map fun z => decide (shownF s.clip.lamp z < lo)) (decide (shownF s.clip.lamp x < lo)) (decide (shownF s.clip.lamp p2 < lo)) (by
          rcases List.mem_cons.mp (show p2 ∈ x :: (ptsB s.clip.lamp x y).tail from hp2) with e | e
          · exact absurd (by rw [e]) hp2n
          · exact List.mem_cons_of_mem _ (List.mem_map.mpr ⟨p2, e, rfl⟩)) hp2n
        obtain ⟨kk, ba, bb, g1, g2, g3, g4⟩ := first
        have esd : (decide (shownF s.clip.lamp x < lo)) :: (((ptsB s.clip.lamp x y).tail).map fun z => decide (shownF s.clip.lamp z < lo)) = (ptsB s.clip.lamp x y).map fun z => decide (shownF s.clip.lamp z < lo) := rfl
        rw [esd] at g1 g2 g4
        generalize hcs : (ptsB s.clip.lamp x y).map (fun z => decide (shownF s.clip.lamp z < lo)) = cs at *
        have sat : ∀ {j : Nat} {b : Bool}, cs[j]? = some b → (cs.map V.bl)[j]? = some (.bl b) := fun {j b} h => by rw [List.getElem?_map, h]; rfl
        have cat : ∀ {j : Nat} {b : Bool}, cs[j]? = some b → ∃ z w, (ptsB s.clip.lamp x y)[j]? = some z ∧ decide (shownF s.clip.lamp z < lo) = b ∧ ws[j]? = some w ∧ Num K H1 w z := by
          intro j b hb
          rw [← hcs, List.getElem?_map] at hb
          rcases hz : (ptsB s.clip.lamp x y)[j]? with _ | z
          · rw [hz] at hb; exact nomatch hb
          · rw [hz] at hb; injection hb with hb
            obtain ⟨w, hw, rw_⟩ := hn.get' hz
            exact ⟨z, w, rfl, hb, hw, rw_⟩
        have kl : kk + 1 < cs.length := (List.getElem?_eq_some_iff.mp g2).1
        walk_at "w"
        refine ⟨fun m σ H' => H' = H3 ∧ ∃ j : Nat, m = kk - j ∧ j ≤ kk ∧ σ = [some (.ref p), some (.ref sp), some u, some v, some (.str s.cue), some cv, some (.str "lamp"), some (.ref pb), some (.ref fd), some w0, some (.ref sd), some (.int (j : Int)), none], ?_, ?_⟩
        · exact ⟨kk, rfl, 0, rfl, by omega, rfl⟩
        · rintro m σ H' ⟨rfl, j, rfl, hj, rfl⟩
          obtain ⟨b1, hb1⟩ : ∃ b1, cs[j]? = some b1 := ⟨cs[j]'(by omega), List.getElem?_eq_getElem _⟩
          obtain ⟨b2, hb2⟩ : ∃ b2, cs[j + 1]? = some b2 := ⟨cs[j + 1]'(by omega), List.getElem?_eq_getElem _⟩
          walk_at "w"
          refine w_ixL (SqL.of hsd3) (atI_nat (sat hb1)) ?_
          walk_at "w"
          refine w_ixL (SqL.of hsd3) (by rw [show (j : Int) + 1 = ((j + 1 : Nat) : Int) by omega]; exact atI_nat (sat hb2)) ?_
          walk_at "w"
          refine w_ite (fun z => ?_) (fun z => ?_)
          · have z : b1 = b2 := by injection z
            have hjk : j < kk := by
              by_cases e : j < kk
              · exact e
              · obtain rfl : j = kk := by omega
                rw [g1] at hb1; rw [g2] at hb2
                injection hb1 with hb1; injection hb2 with hb2
                exact absurd (by rw [hb1, hb2, z]) g3
            refine ⟨fun σ H'' => H'' = H' ∧ σ = [some (.ref p), some (.ref sp), some u, some v, some (.str s.cue), some cv, some (.str "lamp"), some (.ref pb), some (.ref fd), some w0, some (.ref sd), some (.int ((j + 1 : Nat) : Int)), none], ?_, ?_⟩
            · rintro σ' H'' ⟨rfl, rfl⟩
              exact ⟨kk - (j + 1), by omega, rfl, j + 1, rfl, by omega, rfl⟩
            · refine w_aug rfl ?_
              walk_at "w"
              refine w_ipI ?_
              exact ⟨rfl, by rw [show ((j + 1 : Nat) : Int) = (j : Int) + 1 by omega]; rfl⟩
          · have z : b1 ≠ b2 := fun e => z (by rw [e])
            have hjk : j = kk := by
              by_cases e : j = kk
              · exact e
              · exact absurd (g4 j b1 b2 (by omega) hb1 hb2) z
            subst hjk
            obtain ⟨z1, v1, hz1, hc1, hv1, rv1⟩ := cat hb1
            obtain ⟨z2, v2, hz2, hc2, hv2, rv2⟩ := cat hb2
            have m1 := List.mem_of_getElem? hz1
            have m2 := List.mem_of_getElem? hz2
            have le12 : z1 ≤ z2 := by
              have : ∀ (L : List Rat) (i : Nat) (a b : Rat), Chn (shownF s.clip.lamp) L → L[i]? = some a → L[i + 1]? = some b → a ≤ b := by
                intro L
                induction L with
                | nil => intro i a b _ h; simp at h
                | cons c L ih =>
                  intro i a b h h1 h2
                  rcases i with _ | i
                  · rcases L with _ | ⟨d, L⟩
                    · simp at h2
                    · simp at h1 h2; subst h1; subst h2; exact h.1
                  · rcases L with _ | ⟨d, L⟩
                    · simp at h2
                    · exact ih i a b h.2.2 (by simpa using h1) (by simpa using h2)
              exact this _ _ _ _ chn hz1 hz2
            have hpb3 := s3 _ _ hpb2
            have s13 := s2.trans s3
            have s03 := s1.trans s13
            walk_at "w"
            refine w_ixL (SqL.of hpb3) (atI_nat hv1) ?_
            walk_at "w"
            refine w_ixL (SqL.of hpb3) (by rw [show (j : Int) + 1 = ((j + 1 : Nat) : Int) by omega]; exact atI_nat hv2) ?_
            walk_at "w"
            refine ⟨cv, v1, v2, u, v, s.clip, z1, z2, lo, hi, rfl, hc.tx s03.tx, ok, rv1.tx s13.tx, rv2.tx s13.tx, nlo.tx s03.tx, nhi.tx s03.tx, le12, pbd z1 m1, pbd z2 m2, bl, bh, gap, ⟨b1, hc1, ?_, allno z1 m1, allno z2 m2⟩, ?_⟩
            · rw [hc2]; cases b1 <;> cases b2 <;> first | rfl | exact absurd rfl z
            · intro r H4 mm s4 n4 e1 e2 e3 e4
              walk_at "w"
              refine w_newT (K := K) (by simp) fun q H5 hq s5 hq5 _ _ => ?_
              have j1 := pin z1 m1
              have j2 := pin z2 m2
              refine k _ H5 mm z0 ((s03.trans s4).trans s5) ⟨q, r, w0, rfl, hq5, n4.tx s5.tx, rw0.tx ((s13.trans s4).trans s5).tx⟩ (Rat.le_trans j1.1 e1) (Rat.le_trans e2 j2.2) i0.1 i0.2 e3 hb0 e4 bz0

/-! KPaperC -/
set_option Elab.async false
set_option linter.all false
set_option maxRecDepth 100000
set_option maxHeartbeats 1000000
/-! ### questions -/
inductive Qn where
  | span (x y : Str) (lo hi : Rat)
  | value (nm mo : Str) (lo hi : Rat)
def QnV (K : Fg) (H : Hp) (v : V) : Qn → Prop
  | .span x y lo hi => ∃ p q lv hv, v = .ref p ∧ SqT K H p [.str "span", .ref q] ∧ SqT K H q [.str x, .str y, lv, hv] ∧ Num K H lv lo ∧ Num K H hv hi
  | .value nm mo lo hi => ∃ p lv hv, v = .ref p ∧ SqT K H p [.str "value", .str nm, .str mo, lv, hv] ∧ Num K H lv lo ∧ Num K H hv hi
theorem QnV.tx {K : Fg} {H H' : Hp} {v : V} : ∀ {q : Qn}, QnV K H v q → Tx K H H' → QnV K H' v q
  | .span _ _ _ _, ⟨p, q, lv, hv, e, h1, h2, h3, h4⟩, t => ⟨p, q, lv, hv, e, h1.tx t, h2.tx t, h3.tx t, h4.tx t⟩
  | .value _ _ _ _, ⟨p, lv, hv, e, h1, h2, h3⟩, t => ⟨p, lv, hv, e, h1.tx t, h2.tx t, h3.tx t⟩
/-- what is asked: does f of the time from x to y lie from lo to hi -/
structure QE0 (ns : List Str) (x y : Str) (lo hi : Rat) : Prop where
  x : x ∈ ns
  y : y ∈ ns
  le : lo ≤ hi
  bl : Bd 700 lo
  bh : Bd 700 hi
inductive QE (ns : List Str) (ss : List Show) : Qn → Str → Str → (Rat → Rat) → Rat → Rat → Prop
  | span {x y : Str} {lo hi : Rat} : QE0 ns x y lo hi → QE ns ss (.span x y lo hi) x y (fun z => z) lo hi
  | value {nm mo : Str} {lo hi : Rat} {s : Show} : QE0 ns s.cue mo lo hi → IsSh ss nm s → lo + 1 / 3 ≤ hi → QE ns ss (.value nm mo lo hi) s.cue mo (shownF s.clip.lamp) lo hi
theorem QE.o {ns : List Str} {ss : List Show} {q : Qn} {x y : Str} {f : Rat → Rat} {lo hi : Rat} (h : QE ns ss q x y f lo hi) : QE0 ns x y lo hi := by
  cases h with
  | span h => exact h
  | value h _ _ => exact h
theorem value_span : ¬ V.str "value" = V.str "span" := by decide
/-! ### show_of, ends_of, said_of -/
def sp_show_of (K : Fg) : Sp := fun vs H Q _ => ∃ S A ss nm s, vs = [.ref S.S, .str nm] ∧ SceneV K H S A ss ∧ IsSh ss nm s ∧ Ret (fun v H' => ShowV K H' v s) H Q
theorem len_show_of {K : Fg} (vs : List V) (H : Hp) (Q : VK) (E : XK) (h : sp_show_of K vs H Q E) : vs.length = 2 := by
  obtain ⟨S, A, ss, nm, s, rfl, _⟩ := h; rfl
theorem pure_show_of {K : Fg} (vs : List V) (H : Hp) (Q : VK) (E : XK) (h : sp_show_of K vs H Q E) : t_show_of K (sp_Scene_shows K) { nx := fun _ H' => Q .non H', rt := Q } (start n_show_of vs) H := by
  obtain ⟨S, A, ss, nm, s, rfl, sc, ⟨i0, hi0, hnm, huq⟩, k⟩ := h
  unfold t_show_of
  walk_at "w"
  refine w_forLx ?_
  walk_at "w"
  refine w_pk sc.ins ?_
  refine ⟨S, A, ss, rfl, sc, fun l H1 ws s1 hl ha => ?_⟩
  have hwl := ha.len
  refine w_forLy (SqL.of hl) ⟨fun i σ H' => H' = H1 ∧ i ≤ i0 ∧ ∃ v2, σ = [some (.ref S.S), some (.str nm), v2], ?_, ?_, ?_, ?_⟩
  · exact ⟨rfl, Nat.zero_le _, none, rfl⟩
  · rintro i σ H' _ ⟨rfl, _⟩; exact SqL.of hl
  · rintro i x σ H' hx ⟨rfl, hi, v2, rfl⟩
    obtain ⟨s', hs', rs⟩ := ha.get hx
    have rs' := rs
    obtain ⟨p, cv, rfl, hp, hc⟩ := rs'
    walk_at "w"; walk_at "ix"
    walk_at "w"
    refine w_ite (fun z => ?_) (fun z => ?_)
    · have z : s'.name = nm := by injection z
      have e := huq i s' hs' z
      subst e
      rw [hi0] at hs'; injection hs' with hs'; subst hs'
      walk_at "w"
      exact k _ _ s1 rs
    · have hne : i ≠ i0 := fun e => by
        subst e
        rw [hi0] at hs'; injection hs' with hs'; subst hs'
        exact z (by rw [hnm])
      walk_at "w"
      exact ⟨rfl, by omega, _, rfl⟩
  · rintro σ H' ⟨rfl, hi, v2, rfl⟩
    have := (List.getElem?_eq_some_iff.mp hi0).1
    omega
def sp_ends_of_papers (K : Fg) : Sp := fun vs H Q _ => ∃ S A ss ns qv q x y f lo hi, vs = [.ref S.S, qv] ∧ SceneV K H S A ss ∧ QnV K H qv q ∧ QE ns ss q x y f lo hi ∧ Ret (fun r H' => ∃ p, r = .ref p ∧ SqT K H' p [.str x, .str y]) H Q
theorem len_ends_of_papers {K : Fg} (vs : List V) (H : Hp) (Q : VK) (E : XK) (h : sp_ends_of_papers K vs H Q E) : vs.length = 2 := by
  obtain ⟨S, A, ss, ns, qv, q, x, y, f, lo, hi, rfl, _⟩ := h; rfl
theorem pure_ends_of_papers {K : Fg} (vs : List V) (H : Hp) (Q : VK) (E : XK) (h : sp_ends_of_papers K vs H Q E) : t_ends_of_papers K (sp_show_of K) { nx := fun _ H' => Q .non H', rt := Q } (start n_ends_of_papers vs) H := by
  obtain ⟨S, A, ss, ns, qv, q, x, y, f, lo, hi, rfl, sc, qn, qe, k⟩ := h
  unfold t_ends_of_papers
  cases qe with
  | span o =>
    obtain ⟨p, q, lv, hv, rfl, h1, h2, h3, h4⟩ := qn
    walk_at "w"; walk_at "ix"
    walk_at "w"
    refine w_ite (fun _ => ?_) (fun z => absurd rfl z)
    walk_at "w"; walk_at "ix"
    walk_at "w"; walk_at "ix"
    walk_at "w"; walk_at "ix"
    walk_at "w"; walk_at "ix"
    walk_at "w"
    refine w_newT (K := K) (by simp) fun q H3 hq s3 hq3 _ _ => ?_
    exact k _ _ s3 ⟨q, rfl, hq3⟩
  | @value nm mo lo hi s o is gap =>
    obtain ⟨p, lv, hv, rfl, h1, h2, h3⟩ := qn
    walk_at "w"; walk_at "ix"
    walk_at "w"
    refine w_ite (fun z => absurd z value_span) (fun _ => ?_)
    walk_at "w"; walk_at "ix"
    walk_at "w"
    refine ⟨S, A, ss, nm, s, rfl, sc, is, ?_⟩
    rintro v H1 s1 ⟨p2, cv, rfl, hp, hc⟩
    walk_at "w"
    refine w_itb (fun z => by simp at z) (fun _ => ?_)
    walk_at "w"; walk_at "ix"
    walk_at "w"; walk_at "ix"
    walk_at "w"
    refine w_newT (K := K) (by simp) fun q H3 hq s3 hq3 _ _ => ?_
    exact k _ _ (s1.trans s3) ⟨q, rfl, hq3⟩
theorem least_id {a b : Rat} (h : a ≤ b) : IsLeast (fun z => z) a b a := ⟨⟨a, Rat.le_refl, h, rfl⟩, fun t h1 _ => h1⟩
theorem great_id {a b : Rat} (h : a ≤ b) : IsGreat (fun z => z) a b b := ⟨⟨b, h, Rat.le_refl, rfl⟩, fun t _ h2 => h2⟩
def sp_said_of (K : Fg) : Sp := fun vs H Q _ => ∃ S A ss ns fs qv q x y f lo hi, vs = [.ref S.S, qv] ∧ SceneV K H S A ss ∧ SceneOk ns ss ∧ BookV K H A ns fs ∧ BookOk ns fs ∧ QnV K H qv q ∧ QE ns ss q x y f lo hi ∧
  ∀ H' l g, Same H H' → IsLeast f (-dst fs y x) (dst fs x y) l → IsGreat f (-dst fs y x) (dst fs x y) g → Q (oV (saidQ l g lo hi)) H'
theorem len_said_of {K : Fg} (vs : List V) (H : Hp) (Q : VK) (E : XK) (h : sp_said_of K vs H Q E) : vs.length = 2 := by
  obtain ⟨S, A, ss, ns, fs, qv, q, x, y, f, lo, hi, rfl, _⟩ := h; rfl
theorem pure_said_of {K : Fg} (vs : List V) (H : Hp) (Q : VK) (E : XK) (h : sp_said_of K vs H Q E) : t_said_of K (sp_Scene_book K) (sp_bsays K) (sp_ssays K) { nx := fun _ H' => Q .non H', rt := Q } (start n_said_of vs) H := by
  obtain ⟨S, A, ss, ns, fs, qv, q, x, y, f, lo, hi, rfl, sc, so, b, bo, qn, qe, k⟩ := h
  have o := qe.o
  have bl := o.bl.mono (show 700 ≤ 4400 by decide)
  have bh := o.bh.mono (show 700 ≤ 4400 by decide)
  unfold t_said_of
  cases qe with
  | span o =>
    obtain ⟨p, q, lv, hv, rfl, h1, h2, h3, h4⟩ := qn
    walk_at "w"; walk_at "ix"
    walk_at "w"
    refine w_ite (fun _ => ?_) (fun z => absurd rfl z)
    walk_at "w"; walk_at "ix"
    refine w_gtup h2 rfl ?_
    walk_at "w"
    refine w_pk sc.ins ?_
    refine ⟨S, A, ss, rfl, sc, ?_⟩
    refine w_mk b.ins rfl ?_
    walk_at "w"
    refine ⟨A, ns, fs, x, y, lv, hv, lo, hi, rfl, b, bo, o.x, o.y, h3, h4, bl, bh, fun H1 s1 => ?_⟩
    exact k H1 _ _ s1 (least_id (bo.net.span_le o.x o.y)) (great_id (bo.net.span_le o.x o.y))
  | @value nm mo lo hi s o is gap =>
    obtain ⟨p, lv, hv, rfl, h1, h2, h3⟩ := qn
    walk_at "w"; walk_at "ix"
    walk_at "w"
    refine w_ite (fun z => absurd z value_span) (fun _ => ?_)
    walk_at "w"
    refine w_mk sc.ins rfl ?_
    walk_at "w"; walk_at "ix"
    walk_at "w"; walk_at "ix"
    walk_at "w"; walk_at "ix"
    walk_at "w"; walk_at "ix"
    walk_at "w"
    exact ⟨S, A, ss, ns, fs, nm, s, y, lv, hv, lo, hi, rfl, sc, b, bo, is, so, o.y, h2, h3, bl, bh, k⟩
/-! ### open_numbers -/
def sp_open_numbers (K : Fg) : Sp := fun vs H Q _ => ∃ S A ss ns qv q x y f lo hi pv X Y l g, vs = [.ref S.S, qv, pv] ∧ SceneV K H S A ss ∧ SceneOk ns ss ∧ QnV K H qv q ∧ QE ns ss q x y f lo hi ∧ SpanV K H pv X Y ∧ X ≤ Y ∧ Bd 61 X ∧ Bd 61 Y ∧ IsLeast f X Y l ∧ IsGreat f X Y g ∧ saidQ l g lo hi = none ∧
  ∀ r H' a c, Same H H' → PairQ K H' r a c → X ≤ a → a ≤ Y → X ≤ c → c ≤ Y → wi lo hi (f a) → ¬ wi lo hi (f c) → Bd 700 a → Bd 700 c → Q r H'
theorem len_open_numbers {K : Fg} (vs : List V) (H : Hp) (Q : VK) (E : XK) (h : sp_open_numbers K vs H Q E) : vs.length = 3 := by
  obtain ⟨S, A, ss, ns, qv, q, x, y, f, lo, hi, pv, X, Y, l, g, rfl, _⟩ := h; rfl
theorem pure_open_numbers {K : Fg} (vs : List V) (H : Hp) (Q : VK) (E : XK) (h : sp_open_numbers K vs H Q E) : t_open_numbers K (sp_compare K) (sp_show_of K) (sp_numbers_of K) { nx := fun _ H' => Q .non H', rt := Q } (start n_open_numbers vs) H := by
  obtain ⟨S, A, ss, ns, qv, q, x, y, f, lo, hi, pv, X, Y, l, g, rfl, sc, so, qn, qe, sv, hXY, bX, bY, il, ig, sn, k⟩ := h
  have o := qe.o
  have bl := o.bl.mono (show 700 ≤ 4400 by decide)
  have bX4 := bX.mono (show 61 ≤ 4400 by decide)
  have bX7 := bX.mono (show 61 ≤ 700 by decide)
  have bY7 := bY.mono (show 61 ≤ 700 by decide)
  unfold t_open_numbers
  cases qe with
  | span o =>
    obtain ⟨p, q, lv, hv, rfl, h1, h2, h3, h4⟩ := qn
    obtain ⟨sp, va, vb, rfl, hs, na, nb⟩ := sv
    have el : l = X := il.uniq (least_id hXY)
    have eg : g = Y := by
      obtain ⟨⟨t, a1, a2, a3⟩, a4⟩ := ig
      have := a4 Y hXY Rat.le_refl
      exact Rat.le_antisymm (a3 ▸ a2) this
    subst el; subst eg
    obtain ⟨sn1, sn2⟩ := said_none sn
    have hle := o.le
    walk_at "w"; walk_at "ix"
    walk_at "w"
    refine w_ite (fun _ => ?_) (fun z => absurd rfl z)
    walk_at "w"
    refine w_gtup hs rfl ?_
    walk_at "w"; walk_at "ix"
    walk_at "w"; walk_at "ix"
    walk_at "w"
    walk_at "cmp"
    walk_at "w"
    refine w_ite (fun z => ?_) (fun z => ?_)
    · have z1 := cmpQ_lt.mp z
      walk_at "w"
      walk_at "cmp"
      walk_at "w"
      rw [decide_eq_true z]
      refine w_itb (fun _ => ?_) (fun z => nomatch z)
      walk_at "w"
      refine w_newT (K := K) (by simp) fun q H3 hq s3 hq3 _ _ => ?_
      refine k _ H3 lo _ s3 ⟨q, _, _, rfl, hq3, h3.tx s3.tx, na.tx s3.tx⟩ ?_ ?_ Rat.le_refl hXY ⟨Rat.le_refl, hle⟩ ?_ o.bl bX7
      · exact Rat.le_of_lt z1
      · exact Rat.not_lt.mp fun y => sn2 (.inl y)
      · intro y; exact absurd z1 (Rat.not_lt.mpr y.1)
    · have z1 := Rat.not_lt.mp fun y => z (cmpQ_lt.mpr y)
      walk_at "w"
      walk_at "cmp"
      walk_at "w"
      rw [decide_eq_false z]
      refine w_itb (fun z => nomatch z) (fun _ => ?_)
      walk_at "w"
      refine w_newT (K := K) (by simp) fun q H3 hq s3 hq3 _ _ => ?_
      refine k _ H3 _ _ s3 ⟨q, _, _, rfl, hq3, na.tx s3.tx, nb.tx s3.tx⟩ Rat.le_refl hXY hXY Rat.le_refl ⟨z1, ?_⟩ ?_ bX7 bY7
      · exact Rat.not_lt.mp fun y => sn2 (.inr y)
      · intro y; exact sn1 ⟨z1, y.2⟩
  | @value nm mo lo hi s o is gap =>
    obtain ⟨p, lv, hv, rfl, h1, h2, h3⟩ := qn
    walk_at "w"; walk_at "ix"
    walk_at "w"
    refine w_ite (fun z => absurd z value_span) (fun _ => ?_)
    walk_at "w"; walk_at "ix"
    walk_at "w"
    refine ⟨S, A, ss, nm, s, rfl, sc, is, ?_⟩
    intro v H1 s1 shv
    walk_at "w"; walk_at "ix"
    walk_at "w"; walk_at "ix"
    walk_at "w"
    refine ⟨v, pv, lv, hv, s, X, Y, lo, hi, l, g, rfl, shv, so.clip s is.mem, sv.tx s1.tx, h2.tx s1.tx, h3.tx s1.tx, hXY, bX, bY, o.bl.mono (by decide), o.bh.mono (by decide), gap, il, ig, sn, ?_⟩
    intro r H2 a c s2 pq e1 e2 e3 e4 e5 e6 e7 e8
    exact k r H2 a c (s1.trans s2) pq e1 e2 e3 e4 e5 e6 (e7.mono (by decide)) (e8.mono (by decide))

/-! KPaperD -/
set_option Elab.async false
set_option linter.all false
set_option maxRecDepth 100000
set_option maxHeartbeats 1000000
/-! ### claims -/
inductive Cl where
  | sure (b : Bool) (q : Qn) (l1 l2 : List (Nat × Bool))
  | opn (q : Qn) (t1 t2 : Str → Rat)
def ClmV (K : Fg) (H : Hp) (P : Addr → Prop) (ns : List Str) (v : V) : Cl → Prop
  | .sure b q l1 l2 => ∃ p qv r c1 c2, v = .ref p ∧ SqT K H p [.str (wordOf (some b)), qv, .ref r] ∧ SqT K H r [.ref c1, .ref c2] ∧ QnV K H qv q ∧ ChainV K H c1 l1 ∧ ChainV K H c2 l2 ∧ P c1 ∧ P c2
  | .opn q t1 t2 => ∃ p qv r c1 c2, v = .ref p ∧ SqT K H p [.str "open", qv, .ref r] ∧ SqT K H r [.ref c1, .ref c2] ∧ QnV K H qv q ∧ FitV K H c1 ns t1 ∧ FitV K H c2 ns t2 ∧ P c1 ∧ P c2
theorem ClmV.kp {K : Fg} {H H' : Hp} {P : Addr → Prop} {X : List Addr} {ns : List Str} {v : V} : ∀ {c : Cl}, ClmV K H P ns v c → Kp K X H H' → (∀ a, P a → a ∉ X) → ClmV K H' P ns v c
  | .sure _ _ _ _, ⟨p, qv, r, c1, c2, e, h1, h2, h3, h4, h5, h6, h7⟩, k, n => ⟨p, qv, r, c1, c2, e, h1.tx k.1, h2.tx k.1, h3.tx k.1, h4.kp k (n _ h6), h5.kp k (n _ h7), h6, h7⟩
  | .opn _ _ _, ⟨p, qv, r, c1, c2, e, h1, h2, h3, h4, h5, h6, h7⟩, k, n => ⟨p, qv, r, c1, c2, e, h1.tx k.1, h2.tx k.1, h3.tx k.1, h4.kp k (n _ h6), h5.kp k (n _ h7), h6, h7⟩
theorem ClmV.same {K : Fg} {H H' : Hp} {P : Addr → Prop} {ns : List Str} {v : V} {c : Cl} (h : ClmV K H P ns v c) (s : Same H H') : ClmV K H' P ns v c := h.kp (Kp.of (X := []) s) (by simp)
theorem ClmV.imp {K : Fg} {H : Hp} {P P' : Addr → Prop} {ns : List Str} {v : V} (i : ∀ a, P a → P' a) : ∀ {c : Cl}, ClmV K H P ns v c → ClmV K H P' ns v c
  | .sure _ _ _ _, ⟨p, qv, r, c1, c2, e, h1, h2, h3, h4, h5, h6, h7⟩ => ⟨p, qv, r, c1, c2, e, h1, h2, h3, h4, h5, i _ h6, i _ h7⟩
  | .opn _ _ _, ⟨p, qv, r, c1, c2, e, h1, h2, h3, h4, h5, h6, h7⟩ => ⟨p, qv, r, c1, c2, e, h1, h2, h3, h4, h5, i _ h6, i _ h7⟩
def ClmOk (ns : List Str) (ss : List Show) (fs : List Fact) : Cl → Prop
  | .sure b q l1 l2 => ∃ x y f lo hi h l lst grt, QE ns ss q x y f lo hi ∧ Ch fs l1 x y h ∧ Ch fs l2 y x l ∧ l1.length ≤ 9 ∧ l2.length ≤ 9 ∧ -l ≤ h ∧ IsLeast f (-l) h lst ∧ IsGreat f (-l) h grt ∧ saidQ lst grt lo hi = some b
  | .opn q t1 t2 => ∃ x y f lo hi, QE ns ss q x y f lo hi ∧ t1 "start" = 0 ∧ t2 "start" = 0 ∧ (∀ z ∈ ns, Bd 950 (t1 z)) ∧ (∀ z ∈ ns, Bd 950 (t2 z)) ∧ wi lo hi (f (t1 y - t1 x)) ∧ ¬ wi lo hi (f (t2 y - t2 x))
theorem ClmOk.ext {ns : List Str} {ss : List Show} {fs : List Fact} (e : List Fact) : ∀ {c : Cl}, ClmOk ns ss fs c → ClmOk ns ss (fs ++ e) c
  | .sure _ _ _ _, ⟨x, y, f, lo, hi, h, l, a, g, h1, h2, h3, h4⟩ => ⟨x, y, f, lo, hi, h, l, a, g, h1, Ch.ext e _ _ _ h2, Ch.ext e _ _ _ h3, h4⟩
  | .opn _ _ _, h => h
theorem BookV.fresh {K : Fg} {H : Hp} {A : BA} {ns : List Str} {fs : List Fact} (b : BookV K H A ns fs) {c : Addr} (h : H c = none) : c ∉ A.ls := by
  obtain ⟨ws, hf, _⟩ := b.ff
  obtain ⟨ps, hp, _⟩ := b.pp
  have hn := b.nn
  intro z
  simp only [BA.ls, List.mem_cons, List.not_mem_nil, or_false] at z
  rcases z with e | e | e
  · rw [← e, h] at hn; exact nomatch hn
  · rw [← e, h] at hf; exact nomatch hf
  · rw [← e, h] at hp; exact nomatch hp
theorem Net.bd {ns : List Str} {fs : List Fact} (N : Net ns fs) (hl : ns.length ≤ 9) (M : MxOk fs) {x y : Str} (hx : x ∈ ns) (hy : y ∈ ns) : Bd 900 (dst fs x y) := by
  obtain ⟨⟨k, w⟩, h2⟩ := N.isD hx hy
  obtain ⟨k', q', e1, e2, e3⟩ := w.few N hx
  have e4 := h2 _ _ e2
  have e5 : q' = dst fs x y := Rat.le_antisymm e3 e4
  rw [← e5]
  exact M.wn (by omega) e2
/-- the fit that is had with m -/
noncomputable def fitW (fs : List Fact) (x y : Str) (m : Rat) : Str → Rat := fun z => -dst (fs ++ [⟨x, y, m, m⟩]) z "start"
theorem fitW_ok {ns : List Str} {fs : List Fact} (bo : BookOk ns fs) {x y : Str} {m : Rat} (hx : x ∈ ns) (hy : y ∈ ns) (h1 : -dst fs y x ≤ m) (h2 : m ≤ dst fs x y) (bm : Bd 800 m) :
    fitW fs x y m "start" = 0 ∧ fitW fs x y m y - fitW fs x y m x = m ∧ (∀ z ∈ ns, Bd 950 (fitW fs x y m z)) ∧ Fit fs (fitW fs x y m) := by
  have N := bo.net.with hx hy h1 h2
  have M := mxok_with (x := x) (y := y) bo.mx bm
  have ft := N.earliest
  have e := ft.last
  refine ⟨?_, Rat.le_antisymm e.2 e.1, fun z hz => bd_neg ((N.bd bo.nl M hz N.st).mono (by decide)), ft.pre⟩
  show -dst _ "start" "start" = 0
  rw [N.self N.st]; rfl
/-! ### answer -/
def sp_answer (K : Fg) : Sp := fun vs H Q _ => ∃ S A ss ns fs qv q x y f lo hi, vs = [.ref S.S, qv] ∧ SceneV K H S A ss ∧ SceneOk ns ss ∧ BookV K H A ns fs ∧ BookOk ns fs ∧ QnV K H qv q ∧ QE ns ss q x y f lo hi ∧
  ∀ v H' cl, Same H H' → ClmV K H' (fun c => H c = none) ns v cl → ClmOk ns ss fs cl → Q v H'
theorem len_answer {K : Fg} (vs : List V) (H : Hp) (Q : VK) (E : XK) (h : sp_answer K vs H Q E) : vs.length = 2 := by
  obtain ⟨S, A, ss, ns, fs, qv, q, x, y, f, lo, hi, rfl, _⟩ := h; rfl
theorem pure_answer {K : Fg} {mg : Str → Option Value} (T : Txt K mg) (vs : List V) (H : Hp) (Q : VK) (E : XK) (h : sp_answer K vs H Q E) : t_answer K (sp_said_of K) (sp_ends_of_papers K) (sp_Scene_book K) (sp_chain K) (sp_span K) (sp_open_numbers K) (sp_fit_with K) { nx := fun _ H' => Q .non H', rt := Q } (start n_answer vs) H := by
  obtain ⟨S, A, ss, ns, fs, qv, q, x, y, f, lo, hi, rfl, sc, so, b, bo, qn, qe, k⟩ := h
  have o := qe.o
  unfold t_answer
  walk_at "w"
  refine ⟨S, A, ss, ns, fs, qv, q, x, y, f, lo, hi, rfl, sc, so, b, bo, qn, qe, fun H1 l g s1 il ig => ?_⟩
  have sc1 := sc.same s1
  walk_at "w"
  refine ⟨S, A, ss, ns, qv, q, x, y, f, lo, hi, rfl, sc1, qn.tx s1.tx, qe, ?_⟩
  rintro v H2 s2 ⟨p, rfl, hp⟩
  have s02 := s1.trans s2
  have sc2 := sc.same s02
  have b2 := b.same s02
  refine w_gtup hp rfl ?_
  walk_at "w"
  cases hsd : saidQ l g lo hi with
  | some w =>
    have e : decide (oV (some w) = V.non) = false := by cases w <;> rfl
    rw [e]
    refine w_itb (fun _ => ?_) (fun z => nomatch z)
    walk_at "w"
    refine ⟨some w, rfl, rfl, ?_⟩
    walk_at "w"
    refine w_pk sc2.ins ?_
    refine ⟨S, A, ss, rfl, sc2, ?_⟩
    refine w_mk b2.ins rfl ?_
    walk_at "w"
    refine ⟨A, ns, fs, x, y, rfl, b2, bo, o.x, o.y, fun c1 H3 l1 s3 hc1 cv1 ch1 ln1 => ?_⟩
    have sc3 := sc2.same s3
    have b3 := b2.same s3
    walk_at "w"
    refine w_pk sc3.ins ?_
    refine ⟨S, A, ss, rfl, sc3, ?_⟩
    refine w_mk b3.ins rfl ?_
    walk_at "w"
    refine ⟨A, ns, fs, y, x, rfl, b3, bo, o.y, o.x, fun c2 H4 l2 s4 hc2 cv2 ch2 ln2 => ?_⟩
    walk_at "w"
    refine w_newT (K := K) (by simp) fun r H5 hr s5 hr5 _ _ => ?_
    walk_at "w"
    refine w_newT (K := K) (by simp) fun p H6 hp s6 hp6 _ _ => ?_
    refine k _ H6 (.sure w q l1 l2) ((((s02.trans s3).trans s4).trans s5).trans s6) ⟨p, qv, r, c1, c2, rfl, hp6, hr5.tx s6.tx, qn.tx ((((s02.trans s3).trans s4).trans s5).trans s6).tx, cv1.same ((s4.trans s5).trans s6), cv2.same (s5.trans s6), s02.free hc1, (s02.trans s3).free hc2⟩ ?_
    exact ⟨x, y, f, lo, hi, _, _, l, g, qe, ch1, ch2, ln1, ln2, bo.net.span_le o.x o.y, il, ig, hsd⟩
  | none =>
    have e : decide (oV none = V.non) = true := rfl
    rw [e]
    refine w_itb (fun z => nomatch z) (fun _ => ?_)
    walk_at "w"
    refine w_pk sc2.ins ?_
    refine ⟨S, A, ss, rfl, sc2, ?_⟩
    refine w_mk b2.ins rfl ?_
    walk_at "w"
    refine ⟨A, ns, fs, x, y, rfl, b2, bo, o.x, o.y, fun pv H3 s3 sv => ?_⟩
    walk_at "w"
    have s03 := s02.trans s3
    refine ⟨S, A, ss, ns, qv, q, x, y, f, lo, hi, pv, _, _, l, g, rfl, sc.same s03, so, qn.tx s03.tx, qe, sv, bo.net.span_le o.x o.y, bd_neg (bo.bd61 o.y o.x), bo.bd61 o.x o.y, il, ig, hsd, ?_⟩
    rintro r H4 m1 m2 s4 ⟨pr, v1, v2, rfl, hpr, n1, n2⟩ e1 e2 e3 e4 e5 e6 e7 e8
    have s04 := s03.trans s4
    have b4 := b.same s04
    have sc4 := sc.same s04
    walk_at "w"
    refine w_lcT ?_
    walk_at "w"
    refine w_lcTy hpr fun D hD => ⟨fun i H' => Same H4 H' ∧ ∃ cs, H' D = some (.lst cs) ∧ cs.length = i ∧ All2 (fun v m => ∃ c, v = .ref c ∧ H c = none ∧ c ≠ D ∧ FitV K H' c ns (fitW fs x y m)) cs ([m1, m2].take i), ?_, ?_, ?_, ?_⟩
    · intro H' h0 s _
      exact ⟨s, [], h0, rfl, All2.nil⟩
    · rintro i H' _ ⟨s, _⟩; exact hpr.tx s.tx
    · have step : ∀ (i : Nat) (v : V) (m : Rat) (H' : Hp) (σ : Sl) (cs : List V), i < 2 → [m1, m2][i]? = some m → Num K H4 v m → -dst fs y x ≤ m → m ≤ dst fs x y → Bd 800 m → Same H4 H' → H' D = some (.lst cs) → cs.length = i → All2 (fun v m => ∃ c, v = .ref c ∧ H c = none ∧ c ≠ D ∧ FitV K H' c ns (fitW fs x y m)) cs ([m1, m2].take i) →
          (∃ w2 w5, σ = [some (.ref S.S), some qv, w2, some (.str x), some (.str y), w5, some v]) →
          tMeth (He.ga K "Book") "fit_with" (sp_fit_with K) [] E0 (tProp (He.ga K "Scene") (sp_Scene_book K) [] E0 (tVar 0)) (tCons (tVar 3) (tCons (tVar 4) (tCons (tVar 6) tNil))) σ H' fun y_1 H4_1 =>
            LcNx D y_1 H4_1 fun H' => Same H4 H' ∧ ∃ cs, H' D = some (.lst cs) ∧ cs.length = i + 1 ∧ All2 (fun v m => ∃ c, v = .ref c ∧ H c = none ∧ c ≠ D ∧ FitV K H' c ns (fitW fs x y m)) cs ([m1, m2].take (i + 1)) := by
        rintro i v m H' σ cs hi hm nv g1 g2 bm s hD' hl ha ⟨w2, w5, rfl⟩
        have sc5 := sc4.same s
        have b5 := b4.same s
        walk_at "w"
        refine w_pk sc5.ins ?_
        refine ⟨S, A, ss, rfl, sc5, ?_⟩
        refine w_mk b5.ins rfl ?_
        walk_at "w"
        refine ⟨A, ns, fs, x, y, v, m, rfl, b5, bo, o.x, o.y, nv.tx s.tx, bm, g1, g2, fun c H6 s6 hc fv => ?_⟩
        refine w_lcapp (K := K) (s6 _ _ hD') (by omega) fun H7 h7 b7 t7 => ⟨b7.same (s.trans s6) hD, _, h7, by simp [hl], ?_⟩
        have hcD : c ≠ D := fun z => by subst z; rw [hD'] at hc; exact nomatch hc
        rw [take_snoc hm]
        refine All2.snoc (ha.mono ?_) ⟨c, rfl, (s04.trans s).free hc, hcD, fv.kp (Kp.but b7 t7 (List.mem_singleton.mpr rfl)) (by simpa using hcD)⟩
        rintro v m ⟨c', e1, e2, e3, fv'⟩
        exact ⟨c', e1, e2, e3, (fv'.same s6).kp (Kp.but b7 t7 (List.mem_singleton.mpr rfl)) (by simpa using e3)⟩
      rintro i v H' hv ⟨s, cs, hD', hl, ha⟩
      rcases i with _ | _ | i
      · simp at hv; subst hv
        walk_at "w"
        refine ⟨rfl, ?_⟩
        refine w_yes ?_
        refine w_itrue ?_
        exact step 0 v1 m1 H' _ cs (by decide) rfl n1 e1 e2 (e7.mono (by decide)) s hD' hl ha ⟨_, _, rfl⟩
      · simp at hv; subst hv
        walk_at "w"
        refine ⟨rfl, ?_⟩
        refine w_yes ?_
        refine w_itrue ?_
        exact step 1 v2 m2 H' _ cs (by decide) rfl n2 e3 e4 (e8.mono (by decide)) s hD' hl ha ⟨_, _, rfl⟩
      · simp at hv
    · rintro H' ⟨s, cs, hD', hl, ha⟩
      have ha : All2 _ cs [m1, m2] := ha
      obtain ⟨x1, x2, rfl⟩ : ∃ x1 x2, cs = [x1, x2] := by
        rcases cs with _ | ⟨x1, _ | ⟨x2, _ | ⟨x3, cs⟩⟩⟩
        · exact absurd hl (by simp)
        · exact absurd hl (by simp)
        · exact ⟨x1, x2, rfl⟩
        · exact absurd hl (by simp)
      obtain ⟨⟨c1, rfl, n1', d1, f1⟩, ⟨c2, rfl, n2', d2, f2⟩, _⟩ := ha
      walk_at "w"
      refine w_tupleOf (SqL.of hD') fun r H7 hr s7 hr7 _ _ => ?_
      walk_at "w"
      refine w_newT (K := K) (by simp) fun p H8 hp s8 hp8 _ _ => ?_
      have s08 := ((s04.trans s).trans s7).trans s8
      obtain ⟨a1, a2, a3, _⟩ := fitW_ok bo o.x o.y e1 e2 (e7.mono (by decide))
      obtain ⟨g1, g2, g3, _⟩ := fitW_ok bo o.x o.y e3 e4 (e8.mono (by decide))
      refine k _ H8 (.opn q (fitW fs x y m1) (fitW fs x y m2)) s08 ⟨p, qv, r, c1, c2, rfl, hp8, hr7.tx s8.tx, qn.tx s08.tx, f1.same (s7.trans s8), f2.same (s7.trans s8), n1', n2'⟩ ⟨x, y, f, lo, hi, qe, a1, g1, a3, g3, ?_, ?_⟩
      · rw [a2]; exact e5
      · rw [g2]; exact e6
/-! ### chain_length -/
def sp_chain_length (K : Fg) : Sp := fun vs H Q _ => ∃ fa c x y ws fs l q, vs = [.ref fa, .ref c, .str x, .str y] ∧ SqL K H fa ws ∧ FactsV K H ws fs ∧ ChainV K H c l ∧ Ch fs l x y q ∧ l.length ≤ 9 ∧ MxOk fs ∧ Ret (fun r H' => Num K H' r q) H Q
theorem len_chain_length {K : Fg} (vs : List V) (H : Hp) (Q : VK) (E : XK) (h : sp_chain_length K vs H Q E) : vs.length = 4 := by
  obtain ⟨fa, c, x, y, ws, fs, l, q, rfl, _⟩ := h; rfl
theorem pure_chain_length {K : Fg} {mg : Str → Option Value} (T : Txt K mg) (vs : List V) (H : Hp) (Q : VK) (E : XK) (h : sp_chain_length K vs H Q E) : t_chain_length K (sp_minus K) (sp_plus K) { nx := fun _ H' => Q .non H', rt := Q } (start n_chain_length vs) H := by
  obtain ⟨fa, c, x, y, ws, fs, l, q, rfl, hf, rf, ⟨items, hc, hit⟩, ch, hl, M, k⟩ := h
  have nz := num_np T
  have bz := bd_zero
  have hil := hit.len
  have hwl := rf.len
  unfold t_chain_length
  walk_at "w"
  refine w_forLv rfl (SqL.of hc) ⟨fun i σ H' => Same H H' ∧ ∃ z r rv v6 v7 v8 v9 v10 v11 v12, σ = [some (.ref fa), some (.ref c), some (.str x), some (.str y), some (.str z), some rv, v6, v7, v8, v9, v10, v11, v12] ∧ Num K H' rv r ∧ Ch fs (l.take i) x z r, ?_, ?_, ?_, ?_⟩
  · exact ⟨Same.refl _, x, 0, _, _, _, _, _, _, _, _, rfl, nz H, Ch.nil⟩
  · rintro i σ H' _ ⟨s, _⟩; exact SqL.of (s _ _ hc)
  · rintro i v σ H' hv ⟨s, z, r, rv, v6, v7, v8, v9, v10, v11, v12, rfl, nr, ch1⟩
    obtain ⟨⟨n, t⟩, hx, p, rfl, hp⟩ := hit.get hv
    obtain ⟨f, hfn, e1, ch2⟩ := ch.next ch1 hx
    have hn : n < fs.length := (List.getElem?_eq_some_iff.mp hfn).1
    obtain ⟨w, hw, rw_⟩ := rf.get' hfn
    have hmem := List.mem_of_getElem? hfn
    have bf := M.fact hmem
    have barc := (M.arc hmem t).mono (show 900 ≤ 4400 by decide)
    have br : Bd 4400 r := (M.wn (k := (l.take i).length) (by rw [List.length_take]; omega) ch1.wn).mono (by decide)
    refine w_gtup (hp.tx s.tx) rfl ?_
    walk_at "w"
    refine w_ite (fun y => by omega) (fun _ => ?_)
    walk_at "w"
    refine w_lenL (hf.same s) ?_
    walk_at "w"
    refine w_ite (fun y => by omega) (fun _ => ?_)
    walk_at "w"
    refine w_ixL (hf.same s) (atI_nat hw) ?_
    obtain ⟨pf, lo, hi, rfl, h1, h2, h3⟩ := rw_.tx s.tx
    refine w_gtup h1 rfl ?_
    walk_at "w"
    cases t with
    | true =>
      have e1 : f.a = z := e1
      refine w_itb (fun z => nomatch z) (fun _ => ?_)
      walk_at "w"
      refine w_itn (fun y => absurd (by rw [e1]) y) (fun _ => ?_)
      have barc : Bd 4400 f.hi := barc
      walk_at "w"
      walk_at "op2"
      intro r2 H2 s2 m2
      walk_at "w"
      exact ⟨s.trans s2, f.b, _, _, _, _, _, _, _, _, _, rfl, m2, ch2⟩
    | false =>
      have e1 : f.b = z := e1
      refine w_itb (fun _ => ?_) (fun z => nomatch z)
      walk_at "w"
      refine w_two ?_
      have nz := nz H'
      have bfl := bf.1
      walk_at "w"
      walk_at "op2"
      intro r2 H2 s2 m2
      have e0 : (0 : Rat) - f.lo = -f.lo := by grind
      rw [e0] at m2
      have barc : Bd 4400 (-f.lo) := barc
      have nr2 := nr.tx s2.tx
      walk_at "w"
      refine w_itn (fun y => absurd (by rw [e1]) y) (fun _ => ?_)
      walk_at "w"
      walk_at "op2"
      intro r3 H3 s3 m3
      walk_at "w"
      exact ⟨(s.trans s2).trans s3, f.a, _, _, _, _, _, _, _, _, _, rfl, m3, ch2⟩
  · rintro σ H' ⟨s, z, r, rv, v6, v7, v8, v9, v10, v11, v12, rfl, nr, ch1⟩
    rw [hil, List.take_length] at ch1
    obtain ⟨rfl, rfl⟩ := ch.uniq ch1
    walk_at "w"
    refine w_itn (fun y => absurd rfl y) (fun _ => ?_)
    walk_at "w"
    exact k _ _ s nr

/-! KPaperE -/
set_option Elab.async false
set_option linter.all false
set_option maxRecDepth 100000
set_option maxHeartbeats 1000000
theorem never_always : ¬ V.str "never" = V.str "always" := by decide
theorem said_true {l g lo hi : Rat} (h : saidQ l g lo hi = some true) : lo ≤ l ∧ g ≤ hi := by
  unfold saidQ at h
  by_cases c : lo ≤ l ∧ g ≤ hi
  · exact c
  · rw [if_neg c] at h
    split at h <;> exact nomatch h
theorem said_false {l g lo hi : Rat} (h : saidQ l g lo hi = some false) : g < lo ∨ hi < l := by
  unfold saidQ at h
  by_cases c : lo ≤ l ∧ g ≤ hi
  · rw [if_pos c] at h; exact nomatch h
  · rw [if_neg c] at h
    by_cases d : g < lo ∨ hi < l
    · exact d
    · rw [if_neg d] at h; exact nomatch h
/-! ### holds_surely -/
def sp_holds_surely (K : Fg) : Sp := fun vs H Q _ => ∃ S A ss ns fs cv w q l1 l2 ev x y f lo hi h l lst grt P, vs = [.ref S.S, cv, .ref ev] ∧ SceneV K H S A ss ∧ SceneOk ns ss ∧ BookV K H A ns fs ∧ BookOk ns fs ∧ ClmV K H P ns cv (.sure w q l1 l2) ∧ SqT K H ev [.str x, .str y] ∧
  QE ns ss q x y f lo hi ∧ Ch fs l1 x y h ∧ Ch fs l2 y x l ∧ l1.length ≤ 9 ∧ l2.length ≤ 9 ∧ -l ≤ h ∧ IsLeast f (-l) h lst ∧ IsGreat f (-l) h grt ∧ saidQ lst grt lo hi = some w ∧ ∀ H', Same H H' → Q (.bl true) H'
theorem len_holds_surely {K : Fg} (vs : List V) (H : Hp) (Q : VK) (E : XK) (h : sp_holds_surely K vs H Q E) : vs.length = 3 := by
  obtain ⟨S, A, ss, ns, fs, cv, w, q, l1, l2, ev, x, y, f, lo, hi, h, l, lst, grt, P, rfl, _⟩ := h; rfl
abbrev tailHS (K : Fg) : TS := (tSeq (tIfS (tTest (tOp rEq (tVar 3) (tC (.str "always")))) (tRet (tAndV (tOp (rI0 fun i j => .bl (decide (i ≤ j))) (tCall (sp_compare K) [] E0 (tCons (tVar 7) (tCons (tVar 10) tNil))) (tC (.int 0))) (tOp (rI0 fun i j => .bl (decide (i ≤ j))) (tCall (sp_compare K) [] E0 (tCons (tVar 9) (tCons (tVar 8) tNil))) (tC (.int 0))))) tNext)
  (tRet (tOrV (tOp (rI0 fun i j => .bl (decide (i < j))) (tCall (sp_compare K) [] E0 (tCons (tVar 7) (tCons (tVar 9) tNil))) (tC (.int 0))) (tOp (rI0 fun i j => .bl (decide (j < i))) (tCall (sp_compare K) [] E0 (tCons (tVar 8) (tCons (tVar 10) tNil))) (tC (.int 0))))))
theorem tail_hs {K : Fg} {Q : VK} {H : Hp} {w : Bool} {vh vl vlo vhi : V} {lst grt lo hi : Rat} (ng : Num K H vh grt) (nl : Num K H vl lst) (nlo : Num K H vlo lo) (nhi : Num K H vhi hi) (b1 : Bd 4400 grt) (b2 : Bd 4400 lst) (b3 : Bd 4400 lo) (b4 : Bd 4400 hi)
    (hs : saidQ lst grt lo hi = some w) (k : Q (.bl true) H) {σ : Sl} (e3 : σ[3]? = some (some (.str (wordOf (some w))))) (e7 : σ[7]? = some (some vh)) (e8 : σ[8]? = some (some vl)) (e9 : σ[9]? = some (some vlo)) (e10 : σ[10]? = some (some vhi)) : tailHS K { nx := fun _ H' => Q .non H', rt := Q } σ H := by
  cases w with
  | true =>
    obtain ⟨c1, c2⟩ := said_true hs
    walk_at "w"
    refine w_var e3 ?_
    walk_at "w"
    refine w_ite (fun _ => ?_) (fun z => absurd rfl z)
    walk_at "w"
    refine w_var e7 ?_
    walk_at "w"
    refine w_var e10 ?_
    walk_at "w"
    walk_at "cmp"
    walk_at "w"
    refine w_ite (fun _ => ?_) (fun z => absurd (cmpQ_le.mpr c2) z)
    walk_at "w"
    refine w_var e9 ?_
    walk_at "w"
    refine w_var e8 ?_
    walk_at "w"
    walk_at "cmp"
    walk_at "w"
    rw [decide_eq_true (cmpQ_le.mpr c1)]
    exact k
  | false =>
    have hs := said_false hs
    walk_at "w"
    refine w_var e3 ?_
    walk_at "w"
    refine w_ite (fun z => absurd z never_always) (fun _ => ?_)
    walk_at "w"
    refine w_var e7 ?_
    walk_at "w"
    refine w_var e9 ?_
    walk_at "w"
    walk_at "cmp"
    walk_at "w"
    refine w_ite (fun _ => k) (fun z => ?_)
    have c : hi < lst := hs.elim (fun y => absurd (cmpQ_lt.mpr y) z) id
    walk_at "w"
    refine w_var e8 ?_
    walk_at "w"
    refine w_var e10 ?_
    walk_at "w"
    walk_at "cmp"
    walk_at "w"
    rw [decide_eq_true (cmpQ_gt.mpr c)]
    exact k
theorem pure_holds_surely {K : Fg} {mg : Str → Option Value} (T : Txt K mg) (vs : List V) (H : Hp) (Q : VK) (E : XK) (h : sp_holds_surely K vs H Q E) : t_holds_surely K (sp_Scene_book K) (sp_facts K) (sp_chain_length K) (sp_minus K) (sp_show_of K) (sp_vbs K) (sp_compare K) { nx := fun _ H' => Q .non H', rt := Q } (start n_holds_surely vs) H := by
  obtain ⟨S, A, ss, ns, fs, cv, w, q, l1, l2, ev, x, y, f, lo, hi, h, l, lst, grt, P, rfl, sc, so, b, bo, ⟨p, qv, r, c1, c2, rfl, h1, h2, qn, cv1, cv2, d1, d2⟩, he, qe, ch1, ch2, ln1, ln2, hlh, il, ig, hs, k⟩ := h
  have nz := num_np T
  have bz := bd_zero
  have o := qe.o
  have bh : Bd 61 h := ch1.wn.bd61 bo (by omega)
  have bl : Bd 61 l := ch2.wn.bd61 bo (by omega)
  have bnl := bd_neg bl
  unfold t_holds_surely
  have e0 : start n_holds_surely [.ref S.S, .ref p, .ref ev] = [some (.ref S.S), some (.ref p), some (.ref ev), none, none, none, none, none, none, none, none, none, none, none] := rfl
  rw [e0]
  walk_at "w"
  refine w_gtup h1 rfl ?_
  walk_at "w"
  refine w_gtup h2 rfl ?_
  walk_at "w"
  walk_at "sl"
  refine w_pk sc.ins ?_
  refine ⟨S, A, ss, rfl, sc, ?_⟩
  refine w_pk b.ins ?_
  refine ⟨A, ns, fs, rfl, b, fun fl H1 ws s1 hfl rf => ?_⟩
  have he1 := he.tx s1.tx
  walk_at "w"; walk_at "ix"
  walk_at "w"; walk_at "ix"
  walk_at "w"
  refine ⟨fl, c1, x, y, ws, fs, l1, h, rfl, SqL.of hfl, rf, cv1.same s1, ch1, ln1, bo.M, ?_⟩
  intro vh H2 s2 mh
  walk_at "w1"; walk_at "w1"
  walk_at "sl"
  have s02 := s1.trans s2
  have sc2 := sc.same s02
  have b2 := b.same s02
  walk_at "w"
  refine w_pk sc2.ins ?_
  refine ⟨S, A, ss, rfl, sc2, ?_⟩
  refine w_pk b2.ins ?_
  refine ⟨A, ns, fs, rfl, b2, fun fl2 H3 ws2 s3 hfl2 rf2 => ?_⟩
  have s03 := s02.trans s3
  have he3 := he.tx s03.tx
  walk_at "w"; walk_at "ix"
  walk_at "w"; walk_at "ix"
  walk_at "w"
  refine ⟨fl2, c2, y, x, ws2, fs, l2, l, rfl, SqL.of hfl2, rf2, cv2.same s03, ch2, ln2, bo.M, ?_⟩
  intro vl H4 s4 ml
  have s04 := s03.trans s4
  have mh4 := mh.tx (s3.trans s4).tx
  walk_at "w1"; walk_at "w1"
  walk_at "sl"
  have nn : ∀ {v : V} {q : Rat} {H : Hp}, Num K H v q → decide (v = V.non) = false := fun ⟨p, e, _⟩ => by rw [e]; rfl
  walk_at "w"
  rw [nn mh4]
  refine w_itb (fun z => nomatch z) (fun _ => ?_)
  walk_at "w"
  rw [nn ml]
  refine w_itb (fun z => nomatch z) (fun _ => ?_)
  have nz := nz H4
  walk_at "w"
  walk_at "op2"
  intro vl2 H5 s5 ml2
  walk_at "w1"; walk_at "w1"
  walk_at "sl"
  have e0 : (0 : Rat) - l = -l := by grind
  rw [e0] at ml2
  have s05 := s04.trans s5
  have mh5 := mh4.tx s5.tx
  have qn5 := qn.tx s05.tx
  have bh4 := bh.mono (show 61 ≤ 4400 by decide)
  have bl4 := bnl.mono (show 61 ≤ 4400 by decide)
  have blo := o.bl.mono (show 700 ≤ 4400 by decide)
  have bhi := o.bh.mono (show 700 ≤ 4400 by decide)
  cases qe with
  | span o =>
    have e1 : lst = -l := il.uniq (least_id hlh)
    have e2 : grt = h := by
      obtain ⟨⟨t, a1, a2, a3⟩, a4⟩ := ig
      have := a4 h hlh Rat.le_refl
      exact Rat.le_antisymm (a3 ▸ a2) this
    subst e1; subst e2
    obtain ⟨p2, q2, lv, hv, rfl, k1, k2, k3, k4⟩ := qn5
    walk_at "w"; walk_at "ix"
    walk_at "w"
    refine w_ite (fun _ => ?_) (fun z => absurd rfl z)
    walk_at "w"; walk_at "ix"
    walk_at "w"; walk_at "ix"
    walk_at "w"; walk_at "ix"
    walk_at "w"; walk_at "ix"
    walk_at "w"
    refine w_two ?_
    exact tail_hs mh5 ml2 k3 k4 bh4 bl4 blo bhi hs (k H5 s05) rfl rfl rfl rfl rfl
  | @value nm mo lo hi s o is gap =>
    obtain ⟨p2, lv, hv, rfl, k1, k2, k3⟩ := qn5
    walk_at "w"; walk_at "ix"
    walk_at "w"
    refine w_ite (fun z => absurd z value_span) (fun _ => ?_)
    walk_at "w"; walk_at "ix"
    walk_at "w"
    refine ⟨S, A, ss, nm, s, rfl, sc.same s05, is, ?_⟩
    rintro v H6 s6 ⟨p3, clv, rfl, hp3, hcl⟩
    refine w_gtup hp3 rfl ?_
    walk_at "w"
    walk_at "sl"
    refine ⟨clv, vl2, vh, s.clip, _, _, 61, rfl, hcl, so.clip s is.mem, ml2.tx s6.tx, mh5.tx s6.tx, bnl, bh, by decide, by decide, hlh, ?_⟩
    rintro r2 H7 s7 ⟨c, lv2, gv2, lo2, hi2, rfl, j1, j2, j3, j4, j5, j6, j7⟩
    have e1 := j4.uniq il
    have e2 := j5.uniq ig
    subst e1; subst e2
    have s67 := s6.trans s7
    refine w_gtup j1 rfl ?_
    repeat walk_at "w1"
    walk_at "sl"
    walk_at "ix"
    walk_at "w"; walk_at "ix"
    walk_at "w"
    refine w_two ?_
    exact tail_hs j3 j2 (k2.tx s67.tx) (k3.tx s67.tx) (j7.mono (by decide)) (j6.mono (by decide)) blo bhi hs (k H7 (s05.trans s67)) rfl rfl rfl rfl rfl
/-! ### is_true_in, judge -/
def sp_is_true_in (K : Fg) : Sp := fun vs H Q _ => ∃ S A ss ns fs qv q c t x y f lo hi, vs = [.ref S.S, qv, .ref c] ∧ SceneV K H S A ss ∧ SceneOk ns ss ∧ BookV K H A ns fs ∧ QnV K H qv q ∧ QE ns ss q x y f lo hi ∧ FitV K H c ns t ∧ (∀ z ∈ ns, Bd 950 (t z)) ∧
  ∀ H', Same H H' → Q (.bl (decide (wi lo hi (f (t y - t x))))) H'
theorem len_is_true_in {K : Fg} (vs : List V) (H : Hp) (Q : VK) (E : XK) (h : sp_is_true_in K vs H Q E) : vs.length = 3 := by
  obtain ⟨S, A, ss, ns, fs, qv, q, c, t, x, y, f, lo, hi, rfl, _⟩ := h; rfl
theorem pure_is_true_in {K : Fg} (vs : List V) (H : Hp) (Q : VK) (E : XK) (h : sp_is_true_in K vs H Q E) : t_is_true_in K (sp_minus K) (sp_lies_within K) (sp_value K) { nx := fun _ H' => Q .non H', rt := Q } (start n_is_true_in vs) H := by
  obtain ⟨S, A, ss, ns, fs, qv, q, c, t, x, y, f, lo, hi, rfl, sc, so, b, qn, qe, fv, bt, k⟩ := h
  have o := qe.o
  have blo := o.bl.mono (show 700 ≤ 4400 by decide)
  have bhi := o.bh.mono (show 700 ≤ 4400 by decide)
  have bx := bt _ o.x
  have b_y := bt _ o.y
  have bd : Bd 1901 (t y - t x) := bd_sub b_y bx (by decide)
  unfold t_is_true_in
  cases qe with
  | span o =>
    obtain ⟨p, q, lv, hv, rfl, h1, h2, h3, h4⟩ := qn
    walk_at "w"; walk_at "ix"
    walk_at "w"
    refine w_ite (fun _ => ?_) (fun z => absurd rfl z)
    walk_at "w"; walk_at "ix"
    refine w_gtup h2 rfl ?_
    walk_at "w"
    refine w_dictP fv fun d H1 hd s1 tv => ?_
    obtain ⟨kvs, hkv, tvv⟩ := tv
    obtain ⟨vb, jb, nb⟩ := tvv _ o.y
    obtain ⟨va, ja, na⟩ := tvv _ o.x
    walk_at "w"
    refine w_dget (.inl hkv) jb ?_
    walk_at "w"
    refine w_dget (.inl hkv) ja ?_
    walk_at "w"
    walk_at "op2"
    intro r H2 s2 m2
    have s02 := s1.trans s2
    walk_at "w"
    exact ⟨_, _, _, _, lo, hi, rfl, m2, h3.tx s02.tx, h4.tx s02.tx, bd.mono (by decide), blo, bhi, k H2 s02⟩
  | @value nm mo lo hi s o is gap =>
    obtain ⟨p, lv, hv, rfl, h1, h2, h3⟩ := qn
    walk_at "w"; walk_at "ix"
    walk_at "w"
    refine w_ite (fun z => absurd z value_span) (fun _ => ?_)
    walk_at "w"
    refine w_mk sc.ins rfl ?_
    walk_at "w"; walk_at "ix"
    walk_at "w"; walk_at "ix"
    walk_at "w"
    refine ⟨S, A, ss, ns, fs, nm, s, y, c, t, rfl, sc, b, is, so, o.y, fv, bt, ?_⟩
    intro r H1 s1 m1
    have h1 := h1.tx s1.tx
    have bs : Bd 4400 (shownF s.clip.lamp (t y - t s.cue)) := (so.clip s is.mem).lamp.bd_shown (bd.mono (by decide))
    walk_at "w"; walk_at "ix"
    walk_at "w"; walk_at "ix"
    walk_at "w"
    exact ⟨_, _, _, _, lo, hi, rfl, m1, h2.tx s1.tx, h3.tx s1.tx, bs, blo, bhi, k H1 s1⟩
def Judged (fs : List Fact) : Cl → Bool → Prop
  | .sure _ _ _ _, b => b = true
  | .opn _ t1 t2, b => (b = true ↔ Fit fs t1 ∧ Fit fs t2)
def sp_judge (K : Fg) : Sp := fun vs H Q _ => ∃ S A ss ns fs cv cl P, vs = [.ref S.S, cv] ∧ SceneV K H S A ss ∧ SceneOk ns ss ∧ BookV K H A ns fs ∧ BookOk ns fs ∧ (∃ r, ns = ("start" : Str) :: r) ∧ ClmV K H P ns cv cl ∧ ClmOk ns ss fs cl ∧
  ∀ H' b, Same H H' → Judged fs cl b → Q (.bl b) H'
theorem len_judge {K : Fg} (vs : List V) (H : Hp) (Q : VK) (E : XK) (h : sp_judge K vs H Q E) : vs.length = 2 := by
  obtain ⟨S, A, ss, ns, fs, cv, cl, P, rfl, _⟩ := h; rfl
theorem always_open : ¬ V.str "always" = V.str "open" := by decide
theorem never_open : ¬ V.str "never" = V.str "open" := by decide
theorem pure_judge {K : Fg} (vs : List V) (H : Hp) (Q : VK) (E : XK) (h : sp_judge K vs H Q E) : t_judge K (sp_ends_of_papers K) (sp_Scene_book K) (sp_contains K) (sp_holds_surely K) (sp_is_fit K) (sp_is_true_in K) { nx := fun _ H' => Q .non H', rt := Q } (start n_judge vs) H := by
  obtain ⟨S, A, ss, ns, fs, cv, cl, P, rfl, sc, so, b, bo, hd, cm, ck, k⟩ := h
  have front : ∀ (q : Qn) (x y : Str) (f : Rat → Rat) (lo hi : Rat) (p : Addr) (wd : Str) (qv : V) (r : Addr), QE ns ss q x y f lo hi → SqT K H p [.str wd, qv, .ref r] → QnV K H qv q →
      (∀ (e : Addr) (H1 : Hp), Same H H1 → SqT K H1 e [.str x, .str y] →
        tSeq (tIfS (tTest (tOp rNe (tVar 2) (tC (.str "open")))) (tRet (tCall (sp_holds_surely K) [] E0 (tCons (tVar 0) (tCons (tVar 1) (tCons (tVar 5) tNil))))) tNext)
          (tSeq (tIfS (tOr (tNot (tB (tMeth (He.ga K "Book") "is_fit" (sp_is_fit K) [] E0 (tProp (He.ga K "Scene") (sp_Scene_book K) [] E0 (tVar 0)) (tCons (tOp (rIxT K) (tVar 4) (tC (.int 0))) tNil)))) (tNot (tB (tMeth (He.ga K "Book") "is_fit" (sp_is_fit K) [] E0 (tProp (He.ga K "Scene") (sp_Scene_book K) [] E0 (tVar 0)) (tCons (tOp (rIxT K) (tVar 4) (tC (.int 1))) tNil))))) (tRet (tC (.bl false))) tNext)
          (tRet (tAndV (tCall (sp_is_true_in K) [] E0 (tCons (tVar 0) (tCons (tVar 3) (tCons (tOp (rIxT K) (tVar 4) (tC (.int 0))) tNil)))) (tNotV (tCall (sp_is_true_in K) [] E0 (tCons (tVar 0) (tCons (tVar 3) (tCons (tOp (rIxT K) (tVar 4) (tC (.int 1))) tNil))))))))
          { nx := fun _ H' => Q .non H', rt := Q } [some (.ref S.S), some (.ref p), some (.str wd), some qv, some (.ref r), some (.ref e)] H1) →
      t_judge K (sp_ends_of_papers K) (sp_Scene_book K) (sp_contains K) (sp_holds_surely K) (sp_is_fit K) (sp_is_true_in K) { nx := fun _ H' => Q .non H', rt := Q } (start n_judge [.ref S.S, .ref p]) H := by
    intro q x y f lo hi p wd qv r qe h1 qn kk
    have o := qe.o
    unfold t_judge
    walk_at "w"
    refine w_gtup h1 rfl ?_
    walk_at "w"
    refine ⟨S, A, ss, ns, qv, q, x, y, f, lo, hi, rfl, sc, qn, qe, ?_⟩
    rintro v H1 s1 ⟨e, rfl, he⟩
    have sc1 := sc.same s1
    have b1 := b.same s1
    walk_at "w"
    refine w_itb (fun z => by simp at z) (fun _ => ?_)
    walk_at "w"; walk_at "ix"
    walk_at "w"
    refine w_pk sc1.ins ?_
    refine ⟨S, A, ss, rfl, sc1, ?_⟩
    refine ⟨_, _, _, rfl, b1.ins, A, ns, fs, x, rfl, b1, _, rfl, ?_⟩
    rw [decide_eq_true o.x]
    walk_at "w"
    refine w_itb (fun z => nomatch z) (fun _ => ?_)
    walk_at "w"; walk_at "ix"
    walk_at "w"
    refine w_pk sc1.ins ?_
    refine ⟨S, A, ss, rfl, sc1, ?_⟩
    refine ⟨_, _, _, rfl, b1.ins, A, ns, fs, y, rfl, b1, _, rfl, ?_⟩
    rw [decide_eq_true o.y]
    walk_at "w"
    refine w_itb (fun z => nomatch z) (fun _ => ?_)
    exact kk e H1 s1 he
  cases cl with
  | sure w q l1 l2 =>
    obtain ⟨x, y, f, lo, hi, h, l, lst, grt, qe, ch1, ch2, ln1, ln2, hlh, il, ig, hs⟩ := ck
    have cm' := cm
    obtain ⟨p, qv, r, c1, c2, rfl, h1, h2, qn, cv1, cv2, d1, d2⟩ := cm'
    refine front q x y f lo hi p _ qv r qe h1 qn fun e H1 s1 he => ?_
    have hw : decide (V.str (wordOf (some w)) = V.str "open") = false := by
      cases w
      · exact decide_eq_false never_open
      · exact decide_eq_false always_open
    walk_at "w"
    rw [hw]
    refine w_itb (fun _ => ?_) (fun z => nomatch z)
    walk_at "w"
    exact ⟨S, A, ss, ns, fs, _, w, q, l1, l2, e, x, y, f, lo, hi, h, l, lst, grt, P, rfl, sc.same s1, so, b.same s1, bo, cm.same s1, he, qe, ch1, ch2, ln1, ln2, hlh, il, ig, hs, fun H2 s2 => k H2 true (s1.trans s2) rfl⟩
  | opn q t1 t2 =>
    obtain ⟨x, y, f, lo, hi, qe, z1, z2, b1, b2, w1, w2⟩ := ck
    obtain ⟨p, qv, r, c1, c2, rfl, h1, h2, qn, f1, f2, d1, d2⟩ := cm
    refine front q x y f lo hi p _ qv r qe h1 qn fun e H1 s1 he => ?_
    have sc1 := sc.same s1
    have b1' := b.same s1
    walk_at "w"
    refine w_itn (fun y => absurd rfl y) (fun _ => ?_)
    walk_at "w"
    refine w_pk sc1.ins ?_
    refine ⟨S, A, ss, rfl, sc1, ?_⟩
    refine w_mk b1'.ins rfl ?_
    walk_at "w"; walk_at "ix"
    walk_at "w"
    refine ⟨A, ns, fs, c1, t1, rfl, b1', bo, hd, f1.same s1, z1, fun z hz => (b1 z hz).mono (by decide), fun bb1 H2 s2 hb1 => ?_⟩
    have s02 := s1.trans s2
    have sc2 := sc.same s02
    have b2' := b.same s02
    walk_at "w"
    cases bb1 with
    | false =>
      refine w_itb (fun _ => ?_) (fun z => nomatch z)
      walk_at "w"
      refine w_itb (fun _ => ?_) (fun z => nomatch z)
      walk_at "w"
      exact k H2 false s02 ⟨(fun z => nomatch z), fun z => absurd (hb1.mpr z.1) (by simp)⟩
    | true =>
      refine w_itb (fun z => nomatch z) (fun _ => ?_)
      walk_at "w"
      refine w_pk sc2.ins ?_
      refine ⟨S, A, ss, rfl, sc2, ?_⟩
      refine w_mk b2'.ins rfl ?_
      walk_at "w"; walk_at "ix"
      walk_at "w"
      refine ⟨A, ns, fs, c2, t2, rfl, b2', bo, hd, f2.same s02, z2, fun z hz => (b2 z hz).mono (by decide), fun bb2 H3 s3 hb2 => ?_⟩
      have s03 := s02.trans s3
      walk_at "w"
      cases bb2 with
      | false =>
        refine w_itb (fun _ => ?_) (fun z => nomatch z)
        walk_at "w"
        exact k H3 false s03 ⟨(fun z => nomatch z), fun z => absurd (hb2.mpr z.2) (by simp)⟩
      | true =>
        refine w_itb (fun z => nomatch z) (fun _ => ?_)
        walk_at "w"; walk_at "ix"
        walk_at "w"
        refine ⟨S, A, ss, ns, fs, qv, q, c1, t1, x, y, f, lo, hi, rfl, sc.same s03, so, b.same s03, qn.tx s03.tx, qe, f1.same s03, b1, fun H4 s4 => ?_⟩
        rw [decide_eq_true w1]
        have s04 := s03.trans s4
        walk_at "w"
        refine w_itb (fun _ => ?_) (fun z => nomatch z)
        walk_at "w"; walk_at "ix"
        walk_at "w"
        refine ⟨S, A, ss, ns, fs, qv, q, c2, t2, x, y, f, lo, hi, rfl, sc.same s04, so, b.same s04, qn.tx s04.tx, qe, f2.same s04, b2, fun H5 s5 => ?_⟩
        rw [decide_eq_false w2]
        walk_at "w"
        exact k H5 true (s04.trans s5) ⟨fun _ => ⟨hb1.mp rfl, hb2.mp rfl⟩, fun _ => rfl⟩

/-! KLawA -/
set_option Elab.async false
set_option linter.all false
set_option maxRecDepth 100000
set_option maxHeartbeats 1000000
/-! ### _law_num, _law_add, _law_mul, _law_less, _law_holds, _law_six -/
theorem w_mod {H : Hp} {Q : VK} {i j : Int} (h : 0 < j) (q : Q (.int (i % j)) H) : rI (fun _ j => 0 < j) (fun i j => .int (i % j)) (.int i) (.int j) H Q := w_rI h q
theorem gcd_loop {K : Fg} {D : Ends} {i j : Nat} {σ : Sl} {H : Hp} {a b : Int} (hij : i ≠ j) (hi : σ[i]? = some (some (.int a))) (hj : σ[j]? = some (some (.int b))) (ha : 0 ≤ a) (hb : 0 ≤ b)
    (k : ∀ σ', σ' = (σ.set i (some (.int (Int.gcd a b : Int)))).set j (some (.int 0)) → D.nx σ' H) :
    tWhile (tTest (tOp rNe (tVar j) (tC (.int 0)))) (tPar i j (tCons (tVar j) (tCons (tOp (rI (fun _ j => 0 < j) fun i j => .int (i % j)) (tVar i) (tVar j)) tNil))) D σ H := by
  have li : i < σ.length := (List.getElem?_eq_some_iff.mp hi).1
  have lj : j < σ.length := (List.getElem?_eq_some_iff.mp hj).1
  refine ⟨fun m σ' H' => H' = H ∧ ∃ c d : Int, σ' = (σ.set i (some (.int c))).set j (some (.int d)) ∧ 0 ≤ c ∧ 0 ≤ d ∧ Int.gcd c d = Int.gcd a b ∧ m = d.toNat, ⟨_, rfl, a, b, ?_, ha, hb, rfl, rfl⟩, ?_⟩
  · apply List.ext_getElem?
    intro n
    rw [List.getElem?_set, List.getElem?_set]
    by_cases e1 : j = n
    · subst e1; rw [if_pos rfl, if_pos (by simpa using lj)]; exact hj
    · rw [if_neg e1]
      by_cases e2 : i = n
      · subst e2; rw [if_pos rfl, if_pos (by simpa using li)]; exact hi
      · rw [if_neg e2]
  · rintro m σ' H' ⟨rfl, c, d, rfl, hc, hd, hg, rfl⟩
    have ej : ((σ.set i (some (V.int c))).set j (some (V.int d)))[j]? = some (some (.int d)) := by
      rw [List.getElem?_set, if_pos rfl, if_pos (by simpa using lj)]
    have ei : ((σ.set i (some (V.int c))).set j (some (V.int d)))[i]? = some (some (.int c)) := by
      rw [List.getElem?_set, if_neg (fun z => hij z.symm), List.getElem?_set, if_pos rfl, if_pos li]
    walk_at "w"
    refine w_var ej ?_
    walk_at "w"
    refine w_itn (fun n => ?_) (fun n => ?_)
    · have hd' : 0 < d := by
        rcases Int.lt_or_eq_of_le hd with h | h
        · exact h
        · exact absurd (by rw [← h]) n
      refine ⟨_, fun _ _ z => z, ?_⟩
      walk_at "w"
      refine w_var ej ?_
      walk_at "w"
      refine w_var ei ?_
      refine w_var ej ?_
      refine w_rI hd' ?_
      walk_at "w"
      refine w_two ⟨_, ?_, rfl, d, c % d, ?_, hd, Int.emod_nonneg _ (by omega), ?_, rfl⟩
      · have := Int.emod_lt_of_pos c hd'
        omega
      · apply List.ext_getElem?
        intro n
        simp only [List.getElem?_set, List.length_set]
        by_cases e1 : j = n
        · simp [e1]
        · by_cases e2 : i = n <;> simp [e1, e2]
      · rw [← gcd_step hc hd', hg]
    · injection n with n
      subst n
      have e : c = (Int.gcd a b : Int) := by
        rw [← hg]; unfold Int.gcd; simp; omega
      exact k _ (by rw [e])
theorem pure__law_num {K : Fg} (vs : List V) (H : Hp) (Q : VK) (E : XK) (h : sp_number K vs H Q E) : t__law_num K { nx := fun _ H' => Q .non H', rt := Q } (start n__law_num vs) H := by
  obtain ⟨a, b, rfl, hb, hz, k⟩ := h
  have main : ∀ (a b : Int) (σ : Sl), σ = [some (.int a), some (.int b), some (.int (a.natAbs : Int)), some (.int b)] → 0 < b → b.natAbs < 2 ^ 8900 → Ret (fun r H' => Num K H' r (Rat.divInt a b)) H Q →
      tWhile (tTest (tOp rNe (tVar 3) (tC (.int 0)))) (tPar 2 3 (tCons (tVar 3) (tCons (tOp (rI (fun _ j => 0 < j) fun i j => .int (i % j)) (tVar 2) (tVar 3)) tNil)))
        { nx := tRet (tTup (tCons (tOp (rI CDivW fun i j => .int (i / j)) (tVar 0) (tVar 2)) (tCons (tOp (rI CDivW fun i j => .int (i / j)) (tVar 1) (tVar 2)) tNil))) { nx := fun _ H' => Q .non H', rt := Q }, rt := Q } σ H := by
    intro a b σ hσ hb hz k
    subst hσ
    refine gcd_loop (K := K) (a := (a.natAbs : Int)) (b := b) (by decide) rfl rfl (Int.natCast_nonneg _) (Int.le_of_lt hb) ?_
    rintro σ' rfl
    walk_at "sl"
    walk_at "w"
    have hg : Int.gcd (a.natAbs : Int) b = Int.gcd a b := by unfold Int.gcd; simp
    rw [hg]
    have g0 : 0 < (Int.gcd a b : Int) := gcd_pos_int (by omega)
    have hl : CDivW a (Int.gcd a b : Int) := wide_div g0 (b := 8900) (by have := gcd_le_nat (a := a) hb; simp only [Int.natAbs_natCast]; omega) (by decide) (by decide)
    refine w_rI hl ?_
    walk_at "w"
    refine w_rI (show CDivW b (Int.gcd a b : Int) from hl) ?_
    walk_at "w"
    refine w_newT (K := K) (by simp) fun p H' hp s ht bt _ => ?_
    refine k _ _ s ⟨p, rfl, ?_⟩
    rw [divInt_pos_num hb, divInt_pos_den hb]
    exact ht
  unfold t__law_num
  walk_at "w"
  refine w_ite (fun n => ?_) (fun n => ?_)
  · walk_at "w"
    rw [show (0 : Int) - a = -a by omega, show (0 : Int) - b = -b by omega]
    exact main (-a) (-b) _ rfl (by omega) (by rw [Int.natAbs_neg]; exact hz) (fun v H' s h => k v H' s (by rw [Rat.neg_divInt_neg] at h; exact h))
  · walk_at "w"
    exact main a b _ rfl (by omega) hz k
theorem pure__law_add {K : Fg} (vs : List V) (H : Hp) (Q : VK) (E : XK) (h : sp_plus K vs H Q E) : t__law_add K (sp_number K) { nx := fun _ H' => Q .non H', rt := Q } (start n__law_add vs) H := pure_plus vs H Q E h
theorem pure__law_mul {K : Fg} (vs : List V) (H : Hp) (Q : VK) (E : XK) (h : sp_times K vs H Q E) : t__law_mul K (sp_number K) { nx := fun _ H' => Q .non H', rt := Q } (start n__law_mul vs) H := pure_times vs H Q E h
theorem pure__law_less {K : Fg} (vs : List V) (H : Hp) (Q : VK) (E : XK) (h : sp_is_less K vs H Q E) : t__law_less K { nx := fun _ H' => Q .non H', rt := Q } (start n__law_less vs) H := by
  obtain ⟨v, w, a, b, rfl, ⟨p, rfl, hp⟩, ⟨q, rfl, hq⟩, ba, bb, k⟩ := h
  unfold t__law_less
  walk_at "w"; walk_at "ix"
  walk_at "w"; walk_at "ix"
  refine w_rI (cmulW (bdn ba) (bdd bb)) ?_
  walk_at "w"; walk_at "ix"
  walk_at "w"; walk_at "ix"
  refine w_rI (cmulW (bdn bb) (bdd ba)) ?_
  walk_at "w"
  have e : decide (a.num * (b.den : Int) < b.num * (a.den : Int)) = decide (a < b) := decide_eq_decide.mpr (lt_iff_q a b).symm
  rw [e]; exact k
theorem pure__law_holds {K : Fg} (vs : List V) (H : Hp) (Q : VK) (E : XK) (h : sp_lies_within K vs H Q E) : t__law_holds K (sp_is_less K) { nx := fun _ H' => Q .non H', rt := Q } (start n__law_holds vs) H := by
  obtain ⟨u, v, w, x, lo, hi, rfl, nx, nl, nh, bx, bl, bh, k⟩ := h
  unfold t__law_holds
  walk_at "w"
  refine ⟨_, _, _, _, rfl, nx, nl, bx, bl, ?_⟩
  walk_at "w"
  refine w_itn (fun z => ?_) (fun z => ?_)
  · walk_at "w"
    refine ⟨_, _, _, _, rfl, nh, nx, bh, bx, ?_⟩
    walk_at "w"
    have e : (!decide (hi < x)) = decide (wi lo hi x) := by
      by_cases c : hi < x
      · have e2 : decide (wi lo hi x) = false := decide_eq_false fun y => absurd c (Rat.not_lt.mpr y.2)
        rw [decide_eq_true c, e2]; rfl
      · have e2 : decide (wi lo hi x) = true := decide_eq_true ⟨Rat.not_lt.mp z, Rat.not_lt.mp c⟩
        rw [decide_eq_false c, e2]; rfl
    rw [e]; exact k
  · have e : decide (wi lo hi x) = false := decide_eq_false fun y => absurd z (Rat.not_lt.mpr y.1)
    rw [e] at k
    exact k
def sp__law_six (K : Fg) : Sp := fun vs H Q _ => ∃ z : Int, vs = [.int z] ∧ Ret (fun r H' => Num K H' r (Rat.divInt z 6)) H Q
theorem len__law_six {K : Fg} (vs : List V) (H : Hp) (Q : VK) (E : XK) (h : sp__law_six K vs H Q E) : vs.length = 1 := by
  obtain ⟨z, rfl, _⟩ := h; rfl
theorem pure__law_six {K : Fg} (vs : List V) (H : Hp) (Q : VK) (E : XK) (h : sp__law_six K vs H Q E) : t__law_six K { nx := fun _ H' => Q .non H', rt := Q } (start n__law_six vs) H := by
  obtain ⟨a, rfl, k⟩ := h
  unfold t__law_six
  walk_at "w"
  refine gcd_loop (K := K) (a := (a.natAbs : Int)) (b := 6) (by decide) rfl rfl (Int.natCast_nonneg _) (by decide) ?_
  rintro σ' rfl
  walk_at "w"
  have hg : Int.gcd (a.natAbs : Int) 6 = Int.gcd a 6 := by unfold Int.gcd; simp
  rw [hg]
  have g0 : 0 < (Int.gcd a 6 : Int) := gcd_pos_int (by decide)
  have hl : CDivW a (Int.gcd a 6 : Int) := wide_div g0 (b := 8900) (by have := gcd_le_nat (a := a) (b := 6) (by decide); simp only [Int.natAbs_natCast]; exact Nat.lt_of_le_of_lt this (by decide)) (by decide) (by decide)
  refine w_rI hl ?_
  walk_at "w"
  refine w_rI (show CDivW 6 (Int.gcd a 6 : Int) from hl) ?_
  walk_at "w"
  refine w_newT (K := K) (by simp) fun p H' hp s ht bt _ => ?_
  refine k _ _ s ⟨p, rfl, ?_⟩
  rw [divInt_pos_num (by decide), divInt_pos_den (by decide)]
  exact ht
/-! ### _law_cell, _law_draw -/
def sp__law_cell (K : Fg) : Sp := fun vs H Q _ => ∃ a ns, ∃ k : Int, vs = [.ref a, .int k] ∧ SqL K H a ((ns : List Int).map V.int) ∧ 0 ≤ k ∧ ∀ i, Q (.int i) H
theorem len__law_cell {K : Fg} (vs : List V) (H : Hp) (Q : VK) (E : XK) (h : sp__law_cell K vs H Q E) : vs.length = 2 := by
  obtain ⟨a, ns, k, rfl, _⟩ := h; rfl
theorem pure__law_cell {K : Fg} (vs : List V) (H : Hp) (Q : VK) (E : XK) (h : sp__law_cell K vs H Q E) : t__law_cell K { nx := fun _ H' => Q .non H', rt := Q } (start n__law_cell vs) H := by
  obtain ⟨a, ns, k, rfl, hs, hk, q⟩ := h
  unfold t__law_cell
  walk_at "w"
  refine w_lenL hs ?_
  walk_at "w"
  refine w_ite (fun z => ?_) (fun z => ?_)
  · rw [List.length_map] at z
    obtain ⟨n, rfl⟩ := Int.eq_ofNat_of_zero_le hk
    have hn : n < ns.length := by omega
    walk_at "w"
    refine w_ixL hs (atI_nat (v := .int ns[n]) (by rw [List.getElem?_map, List.getElem?_eq_getElem hn]; rfl)) (q _)
  · walk_at "w"
    exact q 0
def DrawV (K : Fg) (H : Hp) (c : Addr) (szs : List Int) (ds : List Int) : Prop := H c = some (.lst (ds.map V.int)) ∧ All2 (fun d s => 0 ≤ d ∧ d < s) ds szs
def sp__law_draw (K : Fg) : Sp := fun vs H Q _ => ∃ a ns c szs, ∃ k : Int, vs = [.ref a, .int k, .ref c] ∧ SqL K H a ((ns : List Int).map V.int) ∧ 0 ≤ k ∧ k ≤ 1000 ∧ SqL K H c ((szs : List Int).map V.int) ∧ szs.length ≤ 20 ∧ (∀ s ∈ szs, 0 < s ∧ s ≤ 1000) ∧
  ∀ D H' ds, Same H H' → H D = none → DrawV K H' D szs ds → Q (.ref D) H'
theorem len__law_draw {K : Fg} (vs : List V) (H : Hp) (Q : VK) (E : XK) (h : sp__law_draw K vs H Q E) : vs.length = 3 := by
  obtain ⟨a, ns, c, szs, k, rfl, _⟩ := h; rfl
theorem int_at {ns : List Int} {i : Nat} {x : V} (hx : (ns.map V.int)[i]? = some x) : ∃ z, ns[i]? = some z ∧ x = .int z := by
  rw [List.getElem?_map] at hx
  rcases hz : ns[i]? with _ | z
  · rw [hz] at hx; exact nomatch hx
  · rw [hz] at hx; injection hx with hx; exact ⟨z, rfl, hx.symm⟩
theorem small_mul {i j : Int} (h1 : i.natAbs < 2 ^ 100) (h2 : j.natAbs < 2 ^ 100) : CMulW i j := wide_mul h1 h2 (by decide) (by decide) (by decide)
theorem small_div {i j : Int} (h : 0 < j) (h1 : j.natAbs < 2 ^ 100) : CDivW i j := wide_div h h1 (by decide) (by decide)
theorem pow100 : (2 : Nat) ^ 100 = 1267650600228229401496703205376 := by decide
theorem pure__law_draw {K : Fg} (vs : List V) (H : Hp) (Q : VK) (E : XK) (h : sp__law_draw K vs H Q E) : t__law_draw K (sp__law_cell K) { nx := fun _ H' => Q .non H', rt := Q } (start n__law_draw vs) H := by
  obtain ⟨a, ns, c, szs, k, rfl, hs, hk, hk2, hc, hl, hz, q⟩ := h
  unfold t__law_draw
  walk_at "w"
  refine ⟨a, ns, k, rfl, hs, hk, fun cell => ?_⟩
  walk_at "w"
  have rest : ∀ (cell : Int), tSeq (tAsg (tLst tNil) (gName 4))
      (tSeq (tIfS (tTest (tOp (rI0 fun i j => .bl (decide (j ≤ i))) (tVar 3) (tOp (rI CPow fun i j => .int (i ^ j.toNat)) (tC (.int 10)) (tC (.int 18))))) (tSeq (tAsg (tOp (rI0 fun i j => .int (i - j)) (tVar 3) (tOp (rI CPow fun i j => .int (i ^ j.toNat)) (tC (.int 10)) (tC (.int 18)))) (gName 3))
      (tSeq (tFor (iList K (tVar 2)) (gName 5) (tSeq (tDrop (tBM K "list" rAppend (tVar 4) (tCons (tOp (rI (fun _ j => 0 < j) fun i j => .int (i % j)) (tVar 3) (tVar 5)) tNil)))
      (tAsg (tOp (rI CDivW fun i j => .int (i / j)) (tVar 3) (tVar 5)) (gName 3))))
      (tRet (tVar 4)))) tNext)
      (tSeq (tAsg (tOp (rI (fun _ j => 0 < j) fun i j => .int (i % j)) (tOp (rI0 fun i j => .int (i + j)) (tOp (rI0 fun i j => .int (i + j)) (tVar 3) (tC (.int 1))) (tOp (rI CMulW fun i j => .int (i * j)) (tC (.int 31)) (tVar 1))) (tC (.int 2147483647))) (gName 6))
      (tSeq (tFor (iRng1 (tCons (tCB (rLenQ K) (tCons (tVar 2) tNil)) tNil)) (gName 7) (tSeq (tAsg (tOp (rI (fun _ j => 0 < j) fun i j => .int (i % j)) (tOp (rI0 fun i j => .int (i + j)) (tOp (rI0 fun i j => .int (i + j)) (tOp (rI CMulW fun i j => .int (i * j)) (tVar 6) (tC (.int 48271))) (tC (.int 11))) (tVar 7)) (tC (.int 2147483647))) (gName 6))
      (tSeq (tAsg (tOp (rI (fun _ j => 0 < j) fun i j => .int (i % j)) (tOp (rI0 fun i j => .int (i + j)) (tOp (rI CMulW fun i j => .int (i * j)) (tVar 6) (tC (.int 69621))) (tC (.int 3))) (tC (.int 2147483647))) (gName 6))
      (tDrop (tBM K "list" rAppend (tVar 4) (tCons (tOp (rI (fun _ j => 0 < j) fun i j => .int (i % j)) (tOp (rI CDivW fun i j => .int (i / j)) (tVar 6) (tC (.int 7))) (tOp (rIxL K) (tVar 2) (tVar 7))) tNil))))))
      (tRet (tVar 4))))) { nx := fun _ H' => Q .non H', rt := Q } [some (.ref a), some (.int k), some (.ref c), some (.int cell), none, none, none, none] H := by
    intro cell
    walk_at "w"
    refine w_newL (by simp) fun D H1 hD s1 hD1 _ => ?_
    have hp : CPow 10 18 := ⟨by decide, by decide, by decide⟩
    have hc1 := hc.same s1
    walk_at "w"
    refine w_rI hp ?_
    walk_at "w"
    refine w_ite (fun z => ?_) (fun z => ?_)
    · walk_at "w"
      refine w_rI hp ?_
      walk_at "w"
      refine w_forLv rfl hc1 ⟨fun i σ H' => Same H H' ∧ ∃ ds, ∃ cell : Int, ∃ v5, σ = [some (.ref a), some (.int k), some (.ref c), some (.int cell), some (.ref D), v5, none, none] ∧ H' D = some (.lst ((ds : List Int).map V.int)) ∧ All2 (fun d s => 0 ≤ d ∧ d < s) ds (szs.take i), ?_, ?_, ?_, ?_⟩
      · exact ⟨s1, [], _, none, rfl, hD1, All2.nil⟩
      · rintro i σ H' _ ⟨s, _⟩; exact hc.same s
      · rintro i x σ H' hx ⟨s, ds, cell, v5, rfl, hD', ha⟩
        obtain ⟨sz, hsz, rfl⟩ := int_at hx
        have hi : i < szs.length := (List.getElem?_eq_some_iff.mp hsz).1
        obtain ⟨p1, p2⟩ := hz sz (List.mem_of_getElem? hsz)
        have hdl : ds.length ≤ 20 := by have := ha.len; rw [List.length_take] at this; omega
        walk_at "w"
        refine w_tyL (SqL.of hD') ?_
        walk_at "w"
        refine w_rI p1 ?_
        walk_at "w"
        refine w_append (K := K) hD' (by simp; omega) fun H2 h2 b2 t2 => ?_
        walk_at "w"
        refine w_rI (small_div p1 (by rw [pow100]; omega)) ?_
        walk_at "w"
        refine ⟨b2.same s hD, ds ++ [cell % sz], _, _, rfl, by rw [List.map_append]; exact h2, ?_⟩
        rw [take_snoc hsz]
        exact All2.snoc ha ⟨Int.emod_nonneg _ (by omega), Int.emod_lt_of_pos _ p1⟩
      · rintro σ H' ⟨s, ds, cell, v5, rfl, hD', ha⟩
        walk_at "w"
        rw [List.length_map, List.take_length] at ha
        exact q D H' ds s hD ⟨hD', ha⟩
    · walk_at "w"
      refine w_rI (small_mul (by decide) (by rw [pow100]; omega)) ?_
      walk_at "w"
      refine w_rI (show (0 : Int) < 2147483647 by decide) ?_
      walk_at "w"
      refine w_lenL hc1 ?_
      rw [List.length_map]
      walk_at "w"
      have hm0 := Int.emod_nonneg (cell + 1 + 31 * k) (show (2147483647 : Int) ≠ 0 by decide)
      have hm1 := Int.emod_lt_of_pos (cell + 1 + 31 * k) (show (0 : Int) < 2147483647 by decide)
      generalize (cell + 1 + 31 * k) % 2147483647 = mx at *
      refine w_forR1y (by omega) ⟨fun i σ H' => Same H H' ∧ ∃ ds, ∃ mx : Int, ∃ v7, σ = [some (.ref a), some (.int k), some (.ref c), some (.int cell), some (.ref D), none, some (.int mx), v7] ∧ 0 ≤ mx ∧ mx < 2147483647 ∧ H' D = some (.lst ((ds : List Int).map V.int)) ∧ All2 (fun d s => 0 ≤ d ∧ d < s) ds (szs.take i), ?_, ?_, ?_⟩
      · exact ⟨s1, [], _, none, rfl, hm0, hm1, hD1, All2.nil⟩
      · clear hm0 hm1 mx
        rintro i σ H' hi ⟨s, ds, mx, v7, rfl, hm0, hm1, hD', ha⟩
        obtain ⟨sz, hsz⟩ : ∃ sz, szs[i]? = some sz := ⟨szs[i], List.getElem?_eq_getElem hi⟩
        obtain ⟨p1, p2⟩ := hz sz (List.mem_of_getElem? hsz)
        have hdl : ds.length ≤ 20 := by have := ha.len; rw [List.length_take] at this; omega
        have e1 := Int.emod_nonneg (mx * 48271 + 11 + (0 + (i : Int))) (show (2147483647 : Int) ≠ 0 by decide)
        have e2 := Int.emod_lt_of_pos (mx * 48271 + 11 + (0 + (i : Int))) (show (0 : Int) < 2147483647 by decide)
        walk_at "w"
        refine w_rI (small_mul (by rw [pow100]; omega) (by decide)) ?_
        walk_at "w"
        refine w_rI (show (0 : Int) < 2147483647 by decide) ?_
        generalize (mx * 48271 + 11 + (0 + (i : Int))) % 2147483647 = m2 at *
        walk_at "w"
        refine w_rI (small_mul (by rw [pow100]; omega) (by decide)) ?_
        walk_at "w"
        refine w_rI (show (0 : Int) < 2147483647 by decide) ?_
        have e3 := Int.emod_nonneg (m2 * 69621 + 3) (show (2147483647 : Int) ≠ 0 by decide)
        have e4 := Int.emod_lt_of_pos (m2 * 69621 + 3) (show (0 : Int) < 2147483647 by decide)
        generalize (m2 * 69621 + 3) % 2147483647 = m3 at *
        walk_at "w"
        refine w_tyL (SqL.of hD') ?_
        walk_at "w"
        refine w_rI (small_div (by decide) (by decide)) ?_
        walk_at "w"
        refine w_ixL (hc.same s) (by rw [zero_nat]; exact atI_nat (v := .int sz) (by rw [List.getElem?_map, hsz]; rfl)) ?_
        refine w_rI p1 ?_
        walk_at "w"
        refine w_append (K := K) hD' (by simp; omega) fun H2 h2 b2 t2 => ?_
        refine ⟨b2.same s hD, ds ++ [m3 / 7 % sz], _, _, rfl, e3, e4, by rw [List.map_append]; exact h2, ?_⟩
        rw [take_snoc hsz]
        exact All2.snoc ha ⟨Int.emod_nonneg _ (by omega), Int.emod_lt_of_pos _ p1⟩
      · rintro σ H' ⟨s, ds, mx, v7, rfl, hm0, hm1, hD', ha⟩
        walk_at "w"
        rw [List.take_length] at ha
        exact q D H' ds s hD ⟨hD', ha⟩
  refine w_ite (fun z => ?_) (fun z => ?_)
  · walk_at "w1"
    walk_at "w1"
    walk_at "w1"
    walk_at "w1"
    walk_at "w1"
    exact rest _
  · walk_at "w1"
    exact rest _

/-! KLawB -/
set_option Elab.async false
set_option linter.all false
set_option maxRecDepth 100000
set_option maxHeartbeats 1000000
theorem all2_cons {α β : Type} {R : α → β → Prop} {ds : List α} {s : β} {ss : List β} (h : All2 R ds (s :: ss)) : ∃ d ds', ds = d :: ds' ∧ R d s ∧ All2 R ds' ss := by
  rcases ds with _ | ⟨d, ds⟩
  · exact h.elim
  · exact ⟨d, ds, rfl, h.1, h.2⟩
theorem all2_nil {α β : Type} {R : α → β → Prop} {ds : List α} (h : All2 R ds []) : ds = [] := by
  rcases ds with _ | ⟨d, ds⟩
  · rfl
  · exact h.elim
theorem draw2 {K : Fg} {H : Hp} {D : Addr} {s0 s1 : Int} {ds : List Int} (h : DrawV K H D [s0, s1] ds) : ∃ d0 d1, H D = some (.lst [.int d0, .int d1]) ∧ (0 ≤ d0 ∧ d0 < s0) ∧ (0 ≤ d1 ∧ d1 < s1) := by
  obtain ⟨h1, h2⟩ := h
  obtain ⟨d0, ds, rfl, r0, h2⟩ := all2_cons h2
  obtain ⟨d1, ds, rfl, r1, h2⟩ := all2_cons h2
  obtain rfl := all2_nil h2
  exact ⟨d0, d1, h1, r0, r1⟩
theorem draw3 {K : Fg} {H : Hp} {D : Addr} {s0 s1 s2 : Int} {ds : List Int} (h : DrawV K H D [s0, s1, s2] ds) : ∃ d0 d1 d2, H D = some (.lst [.int d0, .int d1, .int d2]) ∧ (0 ≤ d0 ∧ d0 < s0) ∧ (0 ≤ d1 ∧ d1 < s1) ∧ (0 ≤ d2 ∧ d2 < s2) := by
  obtain ⟨h1, h2⟩ := h
  obtain ⟨d0, ds, rfl, r0, h2⟩ := all2_cons h2
  obtain ⟨d1, ds, rfl, r1, h2⟩ := all2_cons h2
  obtain ⟨d2, ds, rfl, r2, h2⟩ := all2_cons h2
  obtain rfl := all2_nil h2
  exact ⟨d0, d1, d2, h1, r0, r1, r2⟩
theorem draw5 {K : Fg} {H : Hp} {D : Addr} {s0 s1 s2 s3 s4 : Int} {ds : List Int} (h : DrawV K H D [s0, s1, s2, s3, s4] ds) : ∃ d0 d1 d2 d3 d4, H D = some (.lst [.int d0, .int d1, .int d2, .int d3, .int d4]) ∧ (0 ≤ d0 ∧ d0 < s0) ∧ (0 ≤ d1 ∧ d1 < s1) ∧ (0 ≤ d2 ∧ d2 < s2) ∧ (0 ≤ d3 ∧ d3 < s3) ∧ (0 ≤ d4 ∧ d4 < s4) := by
  obtain ⟨h1, h2⟩ := h
  obtain ⟨d0, ds, rfl, r0, h2⟩ := all2_cons h2
  obtain ⟨d1, ds, rfl, r1, h2⟩ := all2_cons h2
  obtain ⟨d2, ds, rfl, r2, h2⟩ := all2_cons h2
  obtain ⟨d3, ds, rfl, r3, h2⟩ := all2_cons h2
  obtain ⟨d4, ds, rfl, r4, h2⟩ := all2_cons h2
  obtain rfl := all2_nil h2
  exact ⟨d0, d1, d2, d3, d4, h1, r0, r1, r2, r3, r4⟩
/-- a new list of ints, then a draw with it -/
theorem w_draw {K : Fg} {H : Hp} {Q : VK} {a c : Addr} {ns : List Int} {szs : List Int} {k : Int} (hs : SqL K H a (ns.map V.int)) (hk : 0 ≤ k) (hk2 : k ≤ 1000) (hc : H c = some (.lst (szs.map V.int))) (hl : szs.length ≤ 20) (hz : ∀ s ∈ szs, 0 < s ∧ s ≤ 1000)
    (q : ∀ D H' ds, Same H H' → H D = none → DrawV K H' D szs ds → Q (.ref D) H') : sp__law_draw K [.ref a, .int k, .ref c] H Q E0 := ⟨a, ns, c, szs, k, rfl, hs, hk, hk2, SqL.of hc, hl, hz, q⟩
/-! ### the clip's numbers -/
theorem int_rat_le {a b : Int} (h : a ≤ b) : (a : Rat) ≤ (b : Rat) := Rat.intCast_le_intCast.mpr h
theorem len_nums {n m : Int} (h1 : 1 ≤ n) (h6 : n ≤ 6) (hm : m = 1 ∨ m = 2 ∨ m = 3) : Sx (Rat.divInt n m) ∧ 0 < Rat.divInt n m ∧ Rat.divInt n m ≤ 6 := by
  have a1 := int_rat_le h1
  have a6 := int_rat_le h6
  have e1 : ((1 : Int) : Rat) = 1 := rfl
  have e2 : ((2 : Int) : Rat) = 2 := rfl
  have e3 : ((3 : Int) : Rat) = 3 := rfl
  have e6 : ((6 : Int) : Rat) = 6 := rfl
  rw [e1] at a1
  rw [e6] at a6
  rw [Rat.divInt_eq_div]
  rcases hm with rfl | rfl | rfl
  · rw [e1]
    refine ⟨sx_mul.mpr ⟨n * 6, by rw [Rat.intCast_mul, e6]; grind⟩, by grind, by grind⟩
  · rw [e2]
    refine ⟨sx_mul.mpr ⟨n * 3, by rw [Rat.intCast_mul, e3]; grind⟩, by grind, by grind⟩
  · rw [e3]
    refine ⟨sx_mul.mpr ⟨n * 2, by rw [Rat.intCast_mul, e2]; grind⟩, by grind, by grind⟩
theorem slope_nums {n m : Int} (h1 : -4 ≤ n) (h6 : n ≤ 5) (hm : m = 1 ∨ m = 2) : Bd 4 (Rat.divInt n m) ∧ -5 ≤ Rat.divInt n m ∧ Rat.divInt n m ≤ 5 := by
  refine ⟨bd_divInt (by omega) (by omega) (by decide), ?_⟩
  have a1 := int_rat_le h1
  have a6 := int_rat_le h6
  have e1 : ((1 : Int) : Rat) = 1 := rfl
  have e2 : ((2 : Int) : Rat) = 2 := rfl
  have e4 : ((-4 : Int) : Rat) = -4 := rfl
  have e5 : ((5 : Int) : Rat) = 5 := rfl
  rw [e4] at a1
  rw [e5] at a6
  rw [Rat.divInt_eq_div]
  rcases hm with rfl | rfl
  · rw [e1]; constructor <;> grind
  · rw [e2]; constructor <;> grind
theorem bend_nums {n : Int} (h1 : -4 ≤ n) (h6 : n ≤ 4) : Bd 4 (Rat.divInt n 2) ∧ -2 ≤ Rat.divInt n 2 ∧ Rat.divInt n 2 ≤ 2 := by
  refine ⟨bd_divInt (by omega) (by omega) (by decide), ?_⟩
  have a1 := int_rat_le h1
  have a6 := int_rat_le h6
  have e2 : ((2 : Int) : Rat) = 2 := rfl
  have e4 : ((-4 : Int) : Rat) = -4 := rfl
  have e5 : ((4 : Int) : Rat) = 4 := rfl
  rw [e4] at a1
  rw [e5] at a6
  rw [Rat.divInt_eq_div, e2]
  constructor <;> grind
theorem num_int {K : Fg} {H : Hp} {p : Addr} {z : Int} (h : SqT K H p [.int z, .int 1]) : Num K H (.ref p) (z : Rat) := ⟨p, rfl, by rw [Rat.num_intCast, Rat.den_intCast]; exact h⟩
theorem bd_int {z : Int} {n : Nat} (h : z.natAbs < 2 ^ n) (h0 : 0 < n) : Bd n (z : Rat) := ⟨by rw [Rat.num_intCast]; exact h, by
  rw [Rat.den_intCast]
  exact Nat.one_lt_two_pow (by omega)⟩
theorem cont_snoc2 : ∀ (l : Trk) (p q : Pc), Cont (l ++ [p]) → q.a = p.at p.len → Cont (l ++ [p] ++ [q])
  | [], p, q, _, h => ⟨h, trivial⟩
  | [x], p, q, h, k => ⟨h.1, k, trivial⟩
  | x :: y :: l, p, q, h, k => ⟨h.1, cont_snoc2 (y :: l) p q h.2 k⟩
/-- the track so far, and the value at its end -/
structure Mk (tr : Trk) (i : Nat) (A : Rat) : Prop where
  len : tr.length = i
  all : ∀ p ∈ tr, PcOk p ∧ p.len ≤ 6
  cont : Cont tr
  ce : ∀ p : Pc, p.a = A → Cont (tr ++ [p])
  bd : Bd (4 + 30 * i) A
theorem tot_le : ∀ (tr : Trk), (∀ p ∈ tr, PcOk p ∧ p.len ≤ 6) → total tr ≤ 6 * (tr.length : Rat)
  | [], _ => by show (0 : Rat) ≤ 6 * ((0 : Nat) : Rat); have e : ((0 : Nat) : Rat) = 0 := rfl; rw [e]; grind
  | p :: r, h => by
    have h1 := (h p (by simp)).2
    have h2 := tot_le r fun q hq => h q (by simp [hq])
    show p.len + total r ≤ 6 * (((r.length + 1 : Nat)) : Rat)
    rw [Rat.natCast_add]
    have e : ((1 : Nat) : Rat) = 1 := rfl
    rw [e]; grind
theorem Mk.tot {tr : Trk} {i : Nat} {A : Rat} (m : Mk tr i A) (h : i ≤ 5) : total tr ≤ 30 ∧ 0 ≤ total tr ∧ Sx (total tr) := by
  have h1 := tot_le tr m.all
  have h2 : (tr.length : Rat) ≤ ((5 : Nat) : Rat) := Rat.natCast_le_natCast.mpr (by rw [m.len]; exact h)
  have e : ((5 : Nat) : Rat) = 5 := rfl
  rw [e] at h2
  exact ⟨by grind, total_nn fun p hp => (m.all p hp).1.pos, sx_total fun p hp => (m.all p hp).1.sx⟩
theorem Mk.step {tr : Trk} {i : Nat} {A : Rat} (m : Mk tr i A) {p : Pc} (ha : p.a = A) (h : PcOk p) (h6 : p.len ≤ 6) {B : Rat} (hB : B = p.at p.len) (b : Bd (4 + 30 * (i + 1)) B) : Mk (tr ++ [p]) (i + 1) B where
  len := by rw [List.length_append, m.len]; rfl
  all := fun q hq => by
    rcases List.mem_append.mp hq with e | e
    · exact m.all q e
    · simp at e; subst e; exact ⟨h, h6⟩
  cont := m.ce p ha
  ce := fun q hq => cont_snoc2 tr p q (m.ce p ha) (by rw [hq, hB])
  bd := b
theorem Mk.ok {tr : Trk} {i : Nat} {A : Rat} (m : Mk tr i A) (h : i ≤ 5) (h1 : 1 ≤ i) : TrOk tr where
  ne := fun z => by have := m.len; rw [z] at this; simp at this; omega
  all := fun p hp => (m.all p hp).1
  cont := m.cont
  tot := (m.tot h).1
  len := by rw [m.len]; omega
/-! ### _law_clip -/
def sp__law_clip (K : Fg) : Sp := fun vs H Q _ => ∃ a ns, ∃ k : Int, vs = [.ref a, .int k] ∧ SqL K H a ((ns : List Int).map V.int) ∧ 0 ≤ k ∧ k ≤ 500 ∧ ∀ v H' c, Same H H' → ClV K H' v c → ClOk c → Q v H'
theorem len__law_clip {K : Fg} (vs : List V) (H : Hp) (Q : VK) (E : XK) (h : sp__law_clip K vs H Q E) : vs.length = 2 := by
  obtain ⟨a, ns, k, rfl, _⟩ := h; rfl
theorem pure__law_clip {K : Fg} (vs : List V) (H : Hp) (Q : VK) (E : XK) (h : sp__law_clip K vs H Q E) : t__law_clip K (sp__law_draw K) (sp_number K) (sp_times K) (sp_plus K) { nx := fun _ H' => Q .non H', rt := Q } (start n__law_clip vs) H := by
  obtain ⟨a, ns, k, rfl, hs, hk, hk2, q⟩ := h
  unfold t__law_clip
  have e0 : start n__law_clip [.ref a, .int k] = [some (.ref a), some (.int k), none, none, none, none, none, none, none, none, none, none] := rfl
  rw [e0]
  walk_at "w"
  refine w_newL (by simp) fun c1 H1 hc1 s1 h1 _ => ?_
  walk_at "w"
  refine w_draw (szs := [5, 9]) (hs.same s1) hk (by omega) h1 (by simp) (by simp) fun hd H2 ds s2 hhd dv => ?_
  obtain ⟨d0, d1, h2, ⟨l0, u0⟩, ⟨l1, u1⟩⟩ := draw2 dv
  walk_at "w"
  refine w_newL (by simp) fun ps H3 hps s3 h3 _ => ?_
  walk_at "w"
  refine w_newT (K := K) (by simp) fun t4 H4 ht4 s4 q4 _ _ => ?_
  have n4 : Num K H4 (.ref t4) (0 : Rat) := Num.of q4
  have h42 := s4 _ _ (s3 _ _ h2)
  walk_at "w"; walk_at "ixl"
  walk_at "w"
  refine w_newT (K := K) (by simp) fun t5 H5 ht5 s5 q5 _ _ => ?_
  have n5 := num_int q5
  have h52 := s5 _ _ h42
  walk_at "w"; walk_at "ixl"
  walk_at "w"
  walk_at "sl"
  have s05 := (((s1.trans s2).trans s3).trans s4).trans s5
  obtain ⟨n, hn⟩ := Int.eq_ofNat_of_zero_le (show 0 ≤ 1 + d0 by omega)
  have hn5 : 1 ≤ n ∧ n ≤ 5 := by omega
  have hpn : H ps = none := ((s1.trans s2)).free hps
  rw [hn]
  refine w_forR1y (n := n) (by omega) ⟨fun i σ H' => Same H H' ∧ ∃ ws tr tv vv A v6 v7 v8 v9 v10, σ = [some (.ref a), some (.int k), some (.ref hd), some (.ref ps), some tv, some vv, v6, v7, v8, v9, v10, none] ∧ H' ps = some (.lst ws) ∧ All2 (PcV K H') ws tr ∧ Num K H' tv (total tr) ∧ Num K H' vv A ∧ Mk tr i A, ?_, ?_, ?_⟩
  · exact ⟨s05, [], [], _, _, _, none, none, none, none, none, rfl, s5 _ _ (s4 _ _ h3), All2.nil, n4.tx s5.tx, n5, ⟨rfl, by simp, trivial, fun p _ => trivial, (bd_int (n := 4) (by omega) (by decide)).mono (by omega)⟩⟩
  · rintro i σ H' hi ⟨s, ws, tr, tv, vv, A, v6, v7, v8, v9, v10, rfl, hw, ha, nt, nv, mk⟩
    have hi5 : i ≤ 4 := by omega
    walk_at "w"
    refine w_mod (by decide) ?_
    walk_at "w"
    refine w_newL (by simp) fun c6 H6 hc6 s6 h6 _ => ?_
    walk_at "w"
    have i3 := Int.emod_nonneg (0 + (i : Int)) (show (3 : Int) ≠ 0 by decide)
    have i3' := Int.emod_lt_of_pos (0 + (i : Int)) (show (0 : Int) < 3 by decide)
    refine w_draw (szs := [6, 3, 9, 9, 3]) (hs.same (s.trans s6)) (by omega) (by omega) h6 (by simp) (by simp) fun dg H7 ds s7 hdg dv => ?_
    obtain ⟨e0, e1, e2, e3, e4, h7, ⟨l0, u0⟩, ⟨l1, u1⟩, ⟨l2, u2⟩, ⟨l3, u3⟩, ⟨l4, u4⟩⟩ := draw5 dv
    have s67 := s6.trans s7
    walk_at "w"; walk_at "ixl"
    walk_at "w"
    refine w_mod (by decide) ?_
    walk_at "w"; walk_at "ixl"
    walk_at "w"
    have x0 := Int.emod_nonneg (e0 + (0 + (i : Int))) (show (6 : Int) ≠ 0 by decide)
    have x1 := Int.emod_lt_of_pos (e0 + (0 + (i : Int))) (show (0 : Int) < 6 by decide)
    obtain ⟨lsx, lpos, l6⟩ := len_nums (n := 1 + (e0 + (0 + (i : Int))) % 6) (m := 1 + e1) (by omega) (by omega) (by omega)
    refine ⟨_, _, rfl, by omega, Nat.lt_of_le_of_lt (show (1 + e1).natAbs ≤ 2 ^ 3 by omega) (Nat.pow_lt_pow_right (by decide) (by decide)), ?_⟩
    generalize Rat.divInt (1 + (e0 + (0 + (i : Int))) % 6) (1 + e1) = L at *
    intro lv H8 s8 nl8
    have bL : Bd 10 L := lsx.bd (M := 30) (by grind) (by grind) (by decide) (by decide) (by decide)
    have h8 := s8 _ _ h7
    walk_at "w"; walk_at "ixl"
    walk_at "w"
    refine w_mod (by decide) ?_
    walk_at "w"; walk_at "ixl"
    walk_at "w"
    refine w_rI (small_div (by decide) (by decide)) ?_
    walk_at "w"
    have y0 := Int.emod_nonneg (0 + (i : Int)) (show (2 : Int) ≠ 0 by decide)
    have y1 := Int.emod_lt_of_pos (0 + (i : Int)) (show (0 : Int) < 2 by decide)
    have y2 : 1 + e4 / 2 = 1 ∨ 1 + e4 / 2 = 2 := by omega
    obtain ⟨sbd, slo, shi⟩ := slope_nums (n := e2 - 4 + (0 + (i : Int)) % 2) (m := 1 + e4 / 2) (by omega) (by omega) y2
    refine ⟨_, _, rfl, by omega, Nat.lt_of_le_of_lt (show (1 + e4 / 2).natAbs ≤ 2 ^ 3 by omega) (Nat.pow_lt_pow_right (by decide) (by decide)), ?_⟩
    generalize Rat.divInt (e2 - 4 + (0 + (i : Int)) % 2) (1 + e4 / 2) = SL at *
    intro sv H9 s9 ns9
    have h9 := s9 _ _ h8
    walk_at "w"
    walk_at "sl"
    walk_at "ixl"
    walk_at "w"
    refine w_mod (by decide) ?_
    walk_at "w"
    have z0 := Int.emod_nonneg (e3 + (0 + (i : Int))) (show (9 : Int) ≠ 0 by decide)
    have z1 := Int.emod_lt_of_pos (e3 + (0 + (i : Int))) (show (0 : Int) < 9 by decide)
    obtain ⟨bbd, blo, bhi⟩ := bend_nums (n := (e3 + (0 + (i : Int))) % 9 - 4) (by omega) (by omega)
    refine ⟨_, _, rfl, by decide, Nat.lt_of_le_of_lt (show (2 : Int).natAbs ≤ 2 ^ 3 by decide) (Nat.pow_lt_pow_right (by decide) (by decide)), ?_⟩
    generalize Rat.divInt ((e3 + (0 + (i : Int))) % 9 - 4) 2 = BE at *
    intro bv H10 s10 nb10
    have h10 := s10 _ _ h9
    walk_at "w"; walk_at "ixl"
    walk_at "w"
    refine w_mod (by decide) ?_
    walk_at "w"
    walk_at "sl"
    have s610 := (((s67.trans s8).trans s9).trans s10)
    have tail : ∀ (σ : Sl) (bv : V) (C : Rat) (H11 : Hp), σ = [some (.ref a), some (.int k), some (.ref hd), some (.ref ps), some tv, some vv, some (.int (0 + (i : Int))), some (.ref dg), some lv, some sv, some bv, none] → Same H10 H11 → Num K H11 bv C → Bd 4 C → -2 ≤ C → C ≤ 2 →
        tSeq (tDrop (tBM K "list" rAppend (tVar 3) (tCons (tTup (tCons (tVar 8) (tCons (tTup (tCons (tVar 5) (tCons (tVar 9) (tCons (tVar 10) tNil)))) tNil))) tNil)))
          (tSeq (tAsg (tCall (sp_plus K) [] E0 (tCons (tVar 5) (tCons (tCall (sp_times K) [] E0 (tCons (tVar 8) (tCons (tCall (sp_plus K) [] E0 (tCons (tVar 9) (tCons (tCall (sp_times K) [] E0 (tCons (tVar 10) (tCons (tVar 8) tNil))) tNil))) tNil))) tNil))) (gName 5))
          (tAsg (tCall (sp_plus K) [] E0 (tCons (tVar 4) (tCons (tVar 8) tNil))) (gName 4)))
          { nx := fun σ H' => Same H H' ∧ ∃ ws tr tv vv A v6 v7 v8 v9 v10, σ = [some (.ref a), some (.int k), some (.ref hd), some (.ref ps), some tv, some vv, v6, v7, v8, v9, v10, none] ∧ H' ps = some (.lst ws) ∧ All2 (PcV K H') ws tr ∧ Num K H' tv (total tr) ∧ Num K H' vv A ∧ Mk tr (i + 1) A,
            ct := fun σ H' => Same H H' ∧ ∃ ws tr tv vv A v6 v7 v8 v9 v10, σ = [some (.ref a), some (.int k), some (.ref hd), some (.ref ps), some tv, some vv, v6, v7, v8, v9, v10, none] ∧ H' ps = some (.lst ws) ∧ All2 (PcV K H') ws tr ∧ Num K H' tv (total tr) ∧ Num K H' vv A ∧ Mk tr (i + 1) A,
            bk := fun _ _ => False, rt := Q } σ H11 := by
      rintro σ bv C H11 rfl s11 nC bC cl ch
      have s611 := s610.trans s11
      have hw11 := s611 _ _ hw
      have nt11 := nt.tx s611.tx
      have nv11 := nv.tx s611.tx
      have nl11 := nl8.tx ((s9.trans s10).trans s11).tx
      have ns11 := ns9.tx (s10.trans s11).tx
      walk_at "w"
      refine w_tyL (SqL.of hw11) ?_
      walk_at "w"
      refine w_newT (K := K) (by simp) fun pa H12 hpa s12 q12 _ _ => ?_
      walk_at "w"
      refine w_newT (K := K) (by simp) fun pb H13 hpb s13 q13 _ _ => ?_
      walk_at "w"
      have hwl : ws.length ≤ 5 := by have := ha.len; have := mk.len; omega
      refine w_append (K := K) (s13 _ _ (s12 _ _ hw11)) (by omega) fun H14 h14 b14 t14 => ?_
      have t11 : Tx K H11 H14 := (s12.trans s13).tx.trans t14
      have nt := nt11.tx t11
      have nv := nv11.tx t11
      have nl := nl11.tx t11
      have ns := ns11.tx t11
      have nc := nC.tx t11
      have s014 : Same H H14 := b14.same ((((s.trans s611).trans s12).trans s13)) hpn
      have hpc : PcV K H14 (.ref pb) ⟨L, A, SL, C⟩ := ⟨pb, pa, lv, vv, sv, bv, rfl, q13.tx t14, q12.tx (s13.tx.trans t14), nl, nv, ns, nc⟩
      have bL4 := bL.mono (show 10 ≤ 4400 by decide)
      have bS4 := sbd.mono (show 4 ≤ 4400 by decide)
      have bC4 := bC.mono (show 4 ≤ 4400 by decide)
      have bA4 : Bd 4400 A := mk.bd.mono (by omega)
      have m1 : Bd 14 (C * L) := bd_mul bC bL (by decide)
      have m2 : Bd 19 (SL + C * L) := bd_add sbd m1 (by decide)
      have m3 : Bd 29 (L * (SL + C * L)) := bd_mul bL m2 (by decide)
      have m4 : Bd (4 + 30 * (i + 1)) (A + L * (SL + C * L)) := bd_add mk.bd m3 (by omega)
      walk_at "w"
      walk_at "op2"
      intro r1 H15 s15 n15
      have m14 := m1.mono (show 14 ≤ 4400 by decide)
      walk_at "w"
      walk_at "op2"
      intro r2 H16 s16 n16
      have m24 := m2.mono (show 19 ≤ 4400 by decide)
      have nl16 := nl.tx (s15.trans s16).tx
      walk_at "w"
      walk_at "op2"
      intro r3 H17 s17 n17
      have m34 := m3.mono (show 29 ≤ 4400 by decide)
      have nv17 := nv.tx ((s15.trans s16).trans s17).tx
      walk_at "w"
      walk_at "op2"
      intro r4 H18 s18 n18
      have s1418 := ((s15.trans s16).trans s17).trans s18
      have nt18 := nt.tx s1418.tx
      have nl18 := nl.tx s1418.tx
      obtain ⟨ht1, ht2, ht3⟩ := mk.tot (by omega)
      have bT : Bd 4400 (total tr) := (ht3.bd (M := 30) (by grind) (by grind) (n := 10) (by decide) (by decide) (by decide)).mono (by decide)
      walk_at "w"
      walk_at "op2"
      intro r5 H19 s19 n19
      walk_at "w"
      have s1419 := s1418.trans s19
      have ok : PcOk ⟨L, A, SL, C⟩ := ⟨lsx, lpos, ⟨⟨slo, shi⟩, ⟨cl, ch⟩⟩, mk.bd.mono (by omega), sbd.mono (by decide), bC.mono (by decide)⟩
      refine ⟨s014.trans s1419, _, tr ++ [⟨L, A, SL, C⟩], _, _, _, _, _, _, _, _, rfl, s1419 _ _ h14, All2.snoc (ha.mono fun _ _ z => z.tx (s611.tx.trans (t11.trans s1419.tx))) (hpc.tx s1419.tx), ?_, n18.tx s19.tx, mk.step rfl ok l6 ?_ m4⟩
      · rw [total_snoc]; exact n19
      · show _ = A + L * (SL + C * L)
        rfl
    refine w_ite (fun z => ?_) (fun z => ?_)
    · walk_at "w1"
      walk_at "w1"
      walk_at "w1"
      walk_at "w1"
      walk_at "w1"
      walk_at "w1"
      walk_at "w1"
      refine w_newT (K := K) (by simp) fun zt H11 hzt s11 q11 _ _ => ?_
      have n11 : Num K H11 (.ref zt) (0 : Rat) := Num.of q11
      walk_at "w1"
      refine tail _ (.ref zt) 0 H11 rfl s11 n11 (bd_zero.mono (by decide)) (by decide) (by decide)
    · walk_at "w1"
      exact tail _ bv BE H10 rfl (Same.refl _) nb10 bbd blo bhi
  · rintro σ H' ⟨s, ws, tr, tv, vv, A, v6, v7, v8, v9, v10, rfl, hw, ha, nt, nv, mk⟩
    have ok := mk.ok hn5.2 hn5.1
    walk_at "w"
    refine w_newT (K := K) (by simp) fun p1 H1 hp1 s1 q1 _ _ => ?_
    walk_at "w"
    refine w_newT (K := K) (by simp) fun p2 H2 hp2 s2 q2 _ _ => ?_
    walk_at "w"
    refine w_newT (K := K) (by simp) fun p3 H3 hp3 s3 q3 _ _ => ?_
    walk_at "w"
    refine w_newT (K := K) (by simp) fun p4 H4 hp4 s4 q4 _ _ => ?_
    walk_at "w"
    refine w_newT (K := K) (by simp) fun p5 H5 hp5 s5 q5 _ _ => ?_
    walk_at "w"
    refine w_newT (K := K) (by simp) fun p6 H6 hp6 s6 q6 _ _ => ?_
    walk_at "w"
    refine w_newT (K := K) (by simp) fun p7 H7 hp7 s7 q7 _ _ => ?_
    have s17 := (((((s1.trans s2).trans s3).trans s4).trans s5).trans s6).trans s7
    walk_at "w"
    refine w_tupleOf (SqL.of (s17 _ _ hw)) fun p8 H8 hp8 s8 q8 _ _ => ?_
    walk_at "w"
    refine w_newT (K := K) (by simp) fun p9 H9 hp9 s9 q9 _ _ => ?_
    walk_at "w"
    refine w_newT (K := K) (by simp) fun p10 H10 hp10 s10 q10 _ _ => ?_
    walk_at "w"
    refine w_newT (K := K) (by simp) fun p11 H11 hp11 s11 q11 _ _ => ?_
    walk_at "w"
    refine w_newT (K := K) (by simp) fun p12 H12 hp12 s12 q12 _ _ => ?_
    have n1 : Num K H1 (.ref p1) (7 : Rat) := Num.of q1
    have n2 : Num K H2 (.ref p2) (0 : Rat) := Num.of q2
    have n3 : Num K H3 (.ref p3) (0 : Rat) := Num.of q3
    have s812 := (((s8.trans s9).trans s10).trans s11).trans s12
    have s212 := (((((s3.trans s4).trans s5).trans s6).trans s7)).trans s812
    have s112 := s2.trans s212
    have hT : 0 < total tr := by
      rcases htr : tr with _ | ⟨p, r⟩
      · exact absurd htr ok.ne
      · have h1 := ok.p p (by rw [htr]; simp)
        have h2 := total_nn (tr := r) fun q hq => ok.p q (by rw [htr]; simp [hq])
        show 0 < p.len + total r
        grind
    obtain ⟨ht1, ht2, ht3⟩ := mk.tot hn5.2
    have pk : PcOk ⟨total tr, 7, 0, 0⟩ := ⟨ht3, hT, ⟨⟨show (-5 : Rat) ≤ 0 by decide, show (0 : Rat) ≤ 5 by decide⟩, ⟨show (-2 : Rat) ≤ 0 by decide, show (0 : Rat) ≤ 2 by decide⟩⟩, (show Bd 4 (7 : Rat) from ⟨by decide, by decide⟩).mono (by decide), bd_zero.mono (by decide), bd_zero.mono (by decide)⟩
    have tk : TrOk [⟨total tr, 7, 0, 0⟩] := ⟨by simp, fun p hp => by simp at hp; subst hp; exact pk, trivial, by show total tr + 0 ≤ 30; grind, by simp⟩
    refine q (.ref p12) H12 ⟨total tr, [⟨total tr, 7, 0, 0⟩], tr⟩ ((s.trans s17).trans s812) ⟨p12, p10, p7, p9, tv, .ref p6, .ref p8, .ref p11, rfl, q12, q10.tx (s11.trans s12).tx, q7.tx s812.tx, q9.tx ((s10.trans s11).trans s12).tx, nt.tx (s17.trans s812).tx, ⟨p6, _, rfl, q6.tx (s7.trans s812).tx, ⟨?_, trivial⟩⟩, ⟨p8, ws, rfl, q8.tx (((s9.trans s10).trans s11).trans s12).tx, ha.mono fun _ _ z => z.tx (s17.trans s812).tx⟩⟩ ⟨tk, ok, rfl⟩
    exact ⟨p5, p4, tv, .ref p1, .ref p2, .ref p3, rfl, q5.tx ((s6.trans s7).trans s812).tx, q4.tx (((s5.trans s6).trans s7).trans s812).tx, nt.tx (s17.trans s812).tx, n1.tx s112.tx, n2.tx s212.tx, n3.tx ((((s4.trans s5).trans s6).trans s7).trans s812).tx⟩

/-! KLawC -/
set_option Elab.async false
set_option linter.all false
set_option maxRecDepth 100000
set_option maxHeartbeats 1000000
theorem draw6 {K : Fg} {H : Hp} {D : Addr} {s0 s1 s2 s3 s4 s5 : Int} {ds : List Int} (h : DrawV K H D [s0, s1, s2, s3, s4, s5] ds) : ∃ d0 d1 d2 d3 d4 d5, H D = some (.lst [.int d0, .int d1, .int d2, .int d3, .int d4, .int d5]) ∧ (0 ≤ d0 ∧ d0 < s0) ∧ (0 ≤ d1 ∧ d1 < s1) ∧ (0 ≤ d2 ∧ d2 < s2) ∧ (0 ≤ d3 ∧ d3 < s3) ∧ (0 ≤ d4 ∧ d4 < s4) ∧ (0 ≤ d5 ∧ d5 < s5) := by
  obtain ⟨h1, h2⟩ := h
  obtain ⟨d0, ds, rfl, r0, h2⟩ := all2_cons h2
  obtain ⟨d1, ds, rfl, r1, h2⟩ := all2_cons h2
  obtain ⟨d2, ds, rfl, r2, h2⟩ := all2_cons h2
  obtain ⟨d3, ds, rfl, r3, h2⟩ := all2_cons h2
  obtain ⟨d4, ds, rfl, r4, h2⟩ := all2_cons h2
  obtain ⟨d5, ds, rfl, r5, h2⟩ := all2_cons h2
  obtain rfl := all2_nil h2
  exact ⟨d0, d1, d2, d3, d4, d5, h1, r0, r1, r2, r3, r4, r5⟩
/-! ### _law_story -/
def NAMES : List Str := ["a", "dawn", "b2", "x_1", "end", "q", "noon", "zz"]
def nsOf (m : Nat) : List Str := "start" :: NAMES.take m
/-- the hidden times, in sixths, of m + 1 moments -/
structure HidOk (m : Nat) (hs : List Int) : Prop where
  len : hs.length = m + 1
  zero : hs[0]? = some 0
  bd : ∀ h ∈ hs, -100 ≤ h ∧ h ≤ 100
def sp__law_story (K : Fg) : Sp := fun vs H Q _ => ∃ a ns, ∃ k : Int, vs = [.ref a, .int k, .int 4] ∧ SqL K H a ((ns : List Int).map V.int) ∧ 0 ≤ k ∧ k ≤ 500 ∧
  ∀ p nl hl H' m hs, Same H H' → H nl = none → H hl = none → SqT K H' p [.ref nl, .ref hl] → H' nl = some (.lst ((nsOf m).map V.str)) → H' hl = some (.lst ((hs : List Int).map V.int)) → 1 ≤ m → m ≤ 4 → HidOk m hs → Q (.ref p) H'
theorem len__law_story {K : Fg} (vs : List V) (H : Hp) (Q : VK) (E : XK) (h : sp__law_story K vs H Q E) : vs.length = 3 := by
  obtain ⟨a, ns, k, rfl, _⟩ := h; rfl
theorem nsOf_snoc {i : Nat} (h : i < 8) : ∃ x, NAMES[i]? = some x ∧ nsOf (i + 1) = nsOf i ++ [x] := by
  refine ⟨NAMES[i]'h, List.getElem?_eq_getElem h, ?_⟩
  unfold nsOf
  rw [take_snoc (List.getElem?_eq_getElem h)]
  rfl
theorem pure__law_story {K : Fg} (vs : List V) (H : Hp) (Q : VK) (E : XK) (h : sp__law_story K vs H Q E) : t__law_story K (sp__law_draw K) { nx := fun _ H' => Q .non H', rt := Q } (start n__law_story vs) H := by
  obtain ⟨a, ns, k, rfl, hs, hk, hk2, q⟩ := h
  unfold t__law_story
  walk_at "w"
  refine w_newL (by simp) fun c1 H1 hc1 s1 h1 _ => ?_
  walk_at "w"
  refine w_draw (szs := [4, 7]) (hs.same s1) hk (by omega) h1 (by simp) (by simp) fun hd H2 ds s2 hhd dv => ?_
  obtain ⟨d0, d1, h2, ⟨l0, u0⟩, ⟨l1, u1⟩⟩ := draw2 dv
  walk_at "w"
  refine w_newL (by simp) fun nl H3 hnl s3 h3 _ => ?_
  walk_at "w"
  refine w_newL (by simp) fun hl H4 hhl s4 h4 _ => ?_
  have h24 := s4 _ _ (s3 _ _ h2)
  walk_at "w"; walk_at "ixl"
  walk_at "w"
  have s04 := ((s1.trans s2).trans s3).trans s4
  have hnn : H nl = none := (s1.trans s2).free hnl
  have hhn : H hl = none := ((s1.trans s2).trans s3).free hhl
  have hne : nl ≠ hl := fun z => by subst z; rw [h3] at hhl; exact nomatch hhl
  obtain ⟨n, hn⟩ := Int.eq_ofNat_of_zero_le (show 0 ≤ 1 + d0 by omega)
  have hn4 : 1 ≤ n ∧ n ≤ 4 := by omega
  rw [hn]
  refine w_forR1y (n := n) (by omega) ⟨fun i σ H' => Same H H' ∧ ∃ hid v6 v7, σ = [some (.ref a), some (.int k), some (.int 4), some (.ref hd), some (.ref nl), some (.ref hl), v6, v7] ∧ H' nl = some (.lst ((nsOf i).map V.str)) ∧ H' hl = some (.lst ((hid : List Int).map V.int)) ∧ HidOk i hid, ?_, ?_, ?_⟩
  · exact ⟨s04, [0], none, none, rfl, s4 _ _ h3, h4, ⟨rfl, rfl, by simp⟩⟩
  · rintro i σ H' hi ⟨s, hid, v6, v7, rfl, hn', hh', ok⟩
    walk_at "w"
    have i5 := Int.emod_nonneg (0 + (i : Int)) (show (5 : Int) ≠ 0 by decide)
    have i5' := Int.emod_lt_of_pos (0 + (i : Int)) (show (0 : Int) < 5 by decide)
    refine w_mod (by decide) ?_
    walk_at "w"
    refine w_newL (by simp) fun c6 H6 hc6 s6 h6 _ => ?_
    walk_at "w"
    refine w_draw (szs := [9, 90, 7]) (hs.same (s.trans s6)) (by omega) (by omega) h6 (by simp) (by simp) fun dg H7 ds s7 hdg dv => ?_
    obtain ⟨e0, e1, e2, h7, ⟨l0, u0⟩, ⟨l1, u1⟩, ⟨l2, u2⟩⟩ := draw3 dv
    have s67 := s6.trans s7
    walk_at "w"
    refine w_tyL (SqL.of (s67 _ _ hn')) ?_
    walk_at "w"
    refine w_newL (by simp) fun c8 H8 hc8 s8 h8 _ => ?_
    obtain ⟨x, hx, ex⟩ := nsOf_snoc (show i < 8 by omega)
    have h8 : H8 c8 = some (.lst (NAMES.map V.str)) := h8
    walk_at "w"
    refine w_ixL (SqL.of h8) (by rw [zero_nat]; exact atI_nat (v := .str x) (by rw [List.getElem?_map, hx]; rfl)) ?_
    walk_at "w"
    have s68 := s67.trans s8
    have nl1 : ((nsOf i).map V.str).length ≤ 10 := by simp [nsOf, NAMES]; omega
    refine w_append (K := K) (s68 _ _ hn') (by omega) fun H9 h9 b9 t9 => ?_
    have hh9 : H9 hl = some (.lst (hid.map V.int)) := (b9 _ hne.symm).trans (s68 _ _ hh')
    have h79 : H9 dg = _ := (b9 dg (fun z => by subst z; rw [s67 _ _ hn'] at h7; simp [nsOf] at h7)).trans (s8 _ _ h7)
    walk_at "w"
    refine w_tyL (SqL.of hh9) ?_
    walk_at "w"; walk_at "ixl"
    walk_at "w"
    refine w_rI (small_mul (by decide) (by rw [pow100]; omega)) ?_
    walk_at "w"
    have hl1 := ok.len
    refine w_append (K := K) hh9 (by simp; omega) fun H10 h10 b10 t10 => ?_
    refine ⟨b10.same (b9.same (s.trans s68) hnn) hhn, hid ++ [e1 - 30 + 5 * (0 + (i : Int))], _, _, rfl, ?_, by rw [List.map_append]; exact h10, ⟨by simp [hl1], ?_, ?_⟩⟩
    · rw [b10 _ hne, h9, ex, List.map_append]; rfl
    · rw [List.getElem?_append_left (by omega)]; exact ok.zero
    · intro h hh
      rcases List.mem_append.mp hh with e | e
      · exact ok.bd h e
      · simp at e; subst e; omega
  · rintro σ H' ⟨s, hid, v6, v7, rfl, hn', hh', ok⟩
    walk_at "w"
    refine w_newT (K := K) (by simp) fun p H5 hp s5 q5 _ _ => ?_
    exact q p nl hl H5 n hid (s.trans s5) hnn hhn q5 (s5 _ _ hn') (s5 _ _ hh') hn4.1 hn4.2 ok
/-! ### _law_facts -/
structure IFact where
  a : Nat
  b : Nat
  lo : Int
  hi : Int
def IFactV (K : Fg) (H : Hp) (v : V) (f : IFact) : Prop := ∃ p, v = .ref p ∧ SqT K H p [.int (f.a : Int), .int (f.b : Int), .int f.lo, .int f.hi]
theorem IFactV.tx {K : Fg} {H H' : Hp} {v : V} {f : IFact} (h : IFactV K H v f) (t : Tx K H H') : IFactV K H' v f := by
  obtain ⟨p, e, h1⟩ := h
  exact ⟨p, e, h1.tx t⟩
/-- the hidden times keep it -/
structure IOk (hs : List Int) (f : IFact) : Prop where
  ne : f.a ≠ f.b
  at_ : ∃ x y, hs[f.a]? = some x ∧ hs[f.b]? = some y ∧ f.lo ≤ y - x ∧ y - x ≤ f.hi
  bd : -1000 ≤ f.lo ∧ f.hi ≤ 1000
structure FsOk (m : Nat) (hs : List Int) (many : Nat) (fs : List IFact) : Prop where
  all : ∀ f ∈ fs, IOk hs f
  base : ∀ i, i < m → ∃ f, fs[i]? = some f ∧ f.a = 0 ∧ f.b = i + 1
  len : fs.length ≤ m + many
def sp__law_facts (K : Fg) : Sp := fun vs H Q _ => ∃ a ns nl hl m hs, ∃ k : Int, ∃ many : Nat, vs = [.ref a, .int k, .ref nl, .ref hl, .int (many : Int)] ∧ SqL K H a ((ns : List Int).map V.int) ∧ 0 ≤ k ∧ k ≤ 500 ∧ SqL K H nl ((nsOf m).map V.str) ∧ SqL K H hl ((hs : List Int).map V.int) ∧ 1 ≤ m ∧ m ≤ 4 ∧ HidOk m hs ∧ many ≤ 4 ∧
  ∀ D H' ws fs, Same H H' → H D = none → H' D = some (.lst ws) → All2 (IFactV K H') ws fs → FsOk m hs many fs → Q (.ref D) H'
theorem len__law_facts {K : Fg} (vs : List V) (H : Hp) (Q : VK) (E : XK) (h : sp__law_facts K vs H Q E) : vs.length = 5 := by
  obtain ⟨a, ns, nl, hl, m, hs, k, many, rfl, _⟩ := h; rfl
theorem nsOf_len {m : Nat} (h : m ≤ 4) : (nsOf m).length = m + 1 := by simp [nsOf, NAMES]; omega
theorem pure__law_facts {K : Fg} (vs : List V) (H : Hp) (Q : VK) (E : XK) (h : sp__law_facts K vs H Q E) : t__law_facts K (sp__law_draw K) { nx := fun _ H' => Q .non H', rt := Q } (start n__law_facts vs) H := by
  obtain ⟨a, ns, nl, hl, m, hs, k, many, rfl, hsc, hk, hk2, hnl, hhl, hm1, hm4, ok, hmany, q⟩ := h
  have hlen := ok.len
  have hid : ∀ i, i < m + 1 → ∃ h, hs[i]? = some h ∧ -100 ≤ h ∧ h ≤ 100 := fun i hi => by
    have hi' : i < hs.length := by omega
    exact ⟨hs[i], List.getElem?_eq_getElem hi', ok.bd _ (List.getElem_mem hi')⟩
  have hat : ∀ {i : Nat} {h : Int}, hs[i]? = some h → (hs.map V.int)[i]? = some (.int h) := fun {i h} e => by rw [List.getElem?_map, e]; rfl
  have hnlen : ((nsOf m).map V.str).length = m + 1 := by rw [List.length_map, nsOf_len hm4]
  unfold t__law_facts
  have e0 : start n__law_facts [.ref a, .int k, .ref nl, .ref hl, .int (many : Int)] = [some (.ref a), some (.int k), some (.ref nl), some (.ref hl), some (.int (many : Int)), none, none, none, none, none, none, none, none] := rfl
  rw [e0]
  walk_at "w"
  refine w_newL (by simp) fun D H1 hD s1 h1 _ => ?_
  walk_at "w"
  walk_at "sl"
  refine w_lenL (hnl.same s1) ?_
  rw [hnlen]
  walk_at "w"
  refine w_forR2y (n := m) (by omega) (by decide) (by omega) ⟨fun i σ H' => Same H H' ∧ ∃ ws fs v6 v7, σ = [some (.ref a), some (.int k), some (.ref nl), some (.ref hl), some (.int (many : Int)), some (.ref D), v6, v7, none, none, none, none, none] ∧ H' D = some (.lst ws) ∧ All2 (IFactV K H') ws fs ∧ FsOk i hs 0 fs ∧ fs.length = i, ?_, ?_, ?_⟩
  · exact ⟨s1, [], [], none, none, rfl, h1, All2.nil, ⟨by simp, fun i hi => by omega, by simp⟩, rfl⟩
  · rintro i σ H' hi ⟨s, ws, fs, v6, v7, rfl, hD', ha, fok, fl⟩
    have hwl := ha.len
    walk_at "w"
    have i5 := Int.emod_nonneg (1 + (i : Int)) (show (5 : Int) ≠ 0 by decide)
    have i5' := Int.emod_lt_of_pos (1 + (i : Int)) (show (0 : Int) < 5 by decide)
    refine w_mod (by decide) ?_
    walk_at "w"
    refine w_newL (by simp) fun c6 H6 hc6 s6 h6 _ => ?_
    walk_at "w"
    refine w_draw (szs := [40, 40, 4]) (hsc.same (s.trans s6)) (by omega) (by omega) h6 (by simp) (by simp) fun dg H7 ds s7 hdg dv => ?_
    obtain ⟨e0, e1, e2, h7, ⟨l0, u0⟩, ⟨l1, u1⟩, ⟨l2, u2⟩⟩ := draw3 dv
    have s67 := s6.trans s7
    have s07 := s.trans s67
    obtain ⟨hh, hhe, hb1, hb2⟩ := hid (i + 1) (by omega)
    have ei : (1 : Int) + (i : Int) = ((i + 1 : Nat) : Int) := by omega
    rw [ei]
    walk_at "w"
    refine w_tyL (SqL.of (s67 _ _ hD')) ?_
    walk_at "w"
    refine w_ixL (hhl.same s07) (atI_nat (hat hhe)) ?_
    walk_at "w"; walk_at "ixl"
    walk_at "w"
    refine w_ixL (hhl.same s07) (atI_nat (hat hhe)) ?_
    walk_at "w"; walk_at "ixl"
    walk_at "w"
    refine w_newT (K := K) (by simp) fun p H8 hp s8 q8 _ _ => ?_
    walk_at "w"
    refine w_append (K := K) (s8 _ _ (s67 _ _ hD')) (by omega) fun H9 h9 b9 t9 => ?_
    have t79 : Tx K H' H9 := (s67.trans s8).tx.trans t9
    refine ⟨b9.same (s07.trans s8) hD, _, fs ++ [⟨0, i + 1, hh - e0, hh + e1⟩], _, _, rfl, h9, All2.snoc (ha.mono fun _ _ z => z.tx t79) ⟨p, rfl, q8.tx t9⟩, ⟨?_, ?_, by simp; omega⟩, by simp [fl]⟩
    · intro f hf
      rcases List.mem_append.mp hf with e | e
      · exact fok.all f e
      · simp at e; subst e
        exact ⟨by simp, ⟨0, hh, ok.zero, hhe, by show hh - e0 ≤ hh - 0; omega, by show hh - 0 ≤ hh + e1; omega⟩, ⟨by show -1000 ≤ hh - e0; omega, by show hh + e1 ≤ 1000; omega⟩⟩
    · intro j hj
      by_cases c : j < i
      · obtain ⟨f, h1, h2⟩ := fok.base j c
        exact ⟨f, by rw [List.getElem?_append_left (by omega)]; exact h1, h2⟩
      · obtain rfl : j = i := by omega
        exact ⟨_, by rw [List.getElem?_append_right (by omega), fl]; simp; rfl, rfl, rfl⟩
  · rintro σ H' ⟨s, ws, fs, v6, v7, rfl, hD', ha, fok, fl⟩
    walk_at "w"
    refine w_forR1y (n := many) (by omega) ⟨fun i σ H' => Same H H' ∧ ∃ ws fs v6 v7 v8 v9 v10 v11 v12, σ = [some (.ref a), some (.int k), some (.ref nl), some (.ref hl), some (.int (many : Int)), some (.ref D), v6, v7, v8, v9, v10, v11, v12] ∧ H' D = some (.lst ws) ∧ All2 (IFactV K H') ws fs ∧ FsOk m hs i fs, ?_, ?_, ?_⟩
    · exact ⟨s, ws, fs, _, _, _, _, _, _, _, rfl, hD', ha, fok⟩
    · clear ha fok fl hD' s
      rintro i σ H' hi ⟨s, ws, fs, v6, v7, v8, v9, v10, v11, v12, rfl, hD', ha, fok⟩
      have hwl := ha.len
      have hfl := fok.len
      walk_at "w"
      have i5 := Int.emod_nonneg (0 + (i : Int)) (show (6 : Int) ≠ 0 by decide)
      have i5' := Int.emod_lt_of_pos (0 + (i : Int)) (show (0 : Int) < 6 by decide)
      refine w_mod (by decide) ?_
      walk_at "w"
      refine w_newL (by simp) fun c6 H6 hc6 s6 h6 _ => ?_
      walk_at "w"
      refine w_draw (szs := [9, 9, 20, 20, 4, 9]) (hsc.same (s.trans s6)) (by omega) (by omega) h6 (by simp) (by simp) fun dg H7 ds s7 hdg dv => ?_
      obtain ⟨e0, e1, e2, e3, e4, e5, h7, ⟨l0, u0⟩, ⟨l1, u1⟩, ⟨l2, u2⟩, ⟨l3, u3⟩, ⟨l4, u4⟩, ⟨l5, u5⟩⟩ := draw6 dv
      have s67 := s6.trans s7
      have s07 := s.trans s67
      have hm0 : (0 : Int) < ((m + 1 : Nat) : Int) := by omega
      walk_at "w"; walk_at "ixl"
      walk_at "w"
      refine w_lenL (hnl.same s07) ?_
      rw [hnlen]
      refine w_mod hm0 ?_
      obtain ⟨A, hA⟩ := Int.eq_ofNat_of_zero_le (Int.emod_nonneg (e0 + (0 + (i : Int))) (show ((m + 1 : Nat) : Int) ≠ 0 by omega))
      have hA1 := Int.emod_lt_of_pos (e0 + (0 + (i : Int))) hm0
      rw [hA] at hA1
      rw [hA]
      walk_at "w"; walk_at "ixl"
      walk_at "w"
      refine w_rI (small_mul (by decide) (by rw [pow100]; omega)) ?_
      walk_at "w"
      refine w_lenL (hnl.same s07) ?_
      rw [hnlen]
      refine w_mod hm0 ?_
      obtain ⟨B, hB⟩ := Int.eq_ofNat_of_zero_le (Int.emod_nonneg (e1 + 2 * (0 + (i : Int)) + 1) (show ((m + 1 : Nat) : Int) ≠ 0 by omega))
      have hB1 := Int.emod_lt_of_pos (e1 + 2 * (0 + (i : Int)) + 1) hm0
      rw [hB] at hB1
      rw [hB]
      obtain ⟨ha', haE, ha1, ha2⟩ := hid A (by omega)
      obtain ⟨hb', hbE, hb1, hb2⟩ := hid B (by omega)
      walk_at "w"
      walk_at "sl"
      walk_at "w"
      refine w_itn (fun z => ?_) (fun z => ?_)
      · have hAB : A ≠ B := fun e => z (by rw [e])
        walk_at "w"
        refine w_ixL (hhl.same s07) (atI_nat (hat hbE)) ?_
        walk_at "w"
        refine w_ixL (hhl.same s07) (atI_nat (hat haE)) ?_
        walk_at "w"; walk_at "ixl"
        walk_at "w"; walk_at "ixl"
        walk_at "w"
        have hm : (min 1 e4 = 0 ∨ min 1 e4 = 1) := by omega
        refine w_rI (small_mul (by rw [pow100]; omega) (by rw [pow100]; omega)) ?_
        have pl : 0 ≤ e2 * min 1 e4 ∧ e2 * min 1 e4 ≤ 20 := by rcases hm with e | e <;> rw [e] <;> omega
        generalize e2 * min 1 e4 = P at *
        walk_at "w"
        walk_at "sl"
        refine w_ixL (hhl.same s07) (atI_nat (hat hbE)) ?_
        walk_at "w"
        refine w_ixL (hhl.same s07) (atI_nat (hat haE)) ?_
        walk_at "w"; walk_at "ixl"
        walk_at "w"; walk_at "ixl"
        walk_at "w"
        refine w_rI (small_div (by decide) (by decide)) ?_
        walk_at "w"
        have hm2 : (min 1 (e4 / 2) = 0 ∨ min 1 (e4 / 2) = 1) := by omega
        refine w_rI (small_mul (by rw [pow100]; omega) (by rw [pow100]; omega)) ?_
        have pl2 : 0 ≤ e3 * min 1 (e4 / 2) ∧ e3 * min 1 (e4 / 2) ≤ 20 := by rcases hm2 with e | e <;> rw [e] <;> omega
        generalize e3 * min 1 (e4 / 2) = P2 at *
        walk_at "w"
        refine w_tyL (SqL.of (s67 _ _ hD')) ?_
        walk_at "sl"
        walk_at "w"
        refine w_newT (K := K) (by simp) fun p H8 hp s8 q8 _ _ => ?_
        walk_at "w"
        refine w_append (K := K) (s8 _ _ (s67 _ _ hD')) (by omega) fun H9 h9 b9 t9 => ?_
        have t79 : Tx K H' H9 := (s67.trans s8).tx.trans t9
        refine ⟨b9.same (s07.trans s8) hD, _, fs ++ [⟨A, B, hb' - ha' - P, hb' - ha' + P2⟩], _, _, _, _, _, _, _, rfl, h9, All2.snoc (ha.mono fun _ _ z => z.tx t79) ⟨p, rfl, q8.tx t9⟩, ⟨?_, ?_, by simp; omega⟩⟩
        · intro f hf
          rcases List.mem_append.mp hf with e | e
          · exact fok.all f e
          · simp at e; subst e
            exact ⟨hAB, ⟨ha', hb', haE, hbE, by show hb' - ha' - P ≤ hb' - ha'; omega, by show hb' - ha' ≤ hb' - ha' + P2; omega⟩, ⟨by show -1000 ≤ hb' - ha' - P; omega, by show hb' - ha' + P2 ≤ 1000; omega⟩⟩
        · intro j hj
          obtain ⟨f, h1, h2⟩ := fok.base j hj
          exact ⟨f, by rw [List.getElem?_append_left (List.getElem?_eq_some_iff.mp h1).1]; exact h1, h2⟩
      · walk_at "w"
        exact ⟨s07, ws, fs, _, _, _, _, _, _, _, rfl, s67 _ _ hD', ha.mono fun _ _ z => z.tx s67.tx, ⟨fok.all, fok.base, by omega⟩⟩
    · rintro σ H' ⟨s, ws, fs, v6, v7, v8, v9, v10, v11, v12, rfl, hD', ha, fok⟩
      walk_at "w"
      exact q D H' ws fs s hD hD' ha fok

/-! KLawD -/
set_option Elab.async false
set_option linter.all false
set_option maxRecDepth 100000
set_option maxHeartbeats 1000000
/-! ### least ways between moments, in whole sixths -/
def stage (M : Nat → Nat → Int) (k : Nat) : Nat → Nat → Int := fun i j => min (M i j) (M i k + M k j)
def cur (M : Nat → Nat → Int) (k a b : Nat) : Nat → Nat → Int := fun i j => if i < a ∨ (i = a ∧ j < b) then stage M k i j else M i j
/-- the invariant: at least what the hidden times h say, at most an arc, nought from each to itself, triangles over all below k -/
structure FW (n : Nat) (h : Nat → Int) (E : Nat → Nat → Int → Prop) (k : Nat) (M : Nat → Nat → Int) : Prop where
  ge : ∀ i j, i < n → j < n → h j - h i ≤ M i j
  arc : ∀ i j w, i < n → j < n → E i j w → M i j ≤ w
  self : ∀ i, i < n → M i i = 0
  tri : ∀ i j m, i < n → j < n → m < n → m < k → M i j ≤ M i m + M m j
theorem stage_col {M : Nat → Nat → Int} {k i : Nat} (h : M k k = 0) : stage M k i k = M i k := by unfold stage; omega
theorem stage_row {M : Nat → Nat → Int} {k j : Nat} (h : M k k = 0) : stage M k k j = M k j := by unfold stage; omega
theorem cur_col {M : Nat → Nat → Int} {k a b i : Nat} (h : M k k = 0) : cur M k a b i k = M i k := by unfold cur; split <;> simp [stage_col h]
theorem cur_row {M : Nat → Nat → Int} {k a b j : Nat} (h : M k k = 0) : cur M k a b k j = M k j := by unfold cur; split <;> simp [stage_row h]
theorem FW.stage {n k : Nat} {h : Nat → Int} {E : Nat → Nat → Int → Prop} {M : Nat → Nat → Int} (F : FW n h E k M) (hk : k < n) : FW n h E (k + 1) (Sc.stage M k) where
  ge := fun i j hi hj => by
    have h1 := F.ge i j hi hj
    have h2 := F.ge i k hi hk
    have h3 := F.ge k j hk hj
    unfold Sc.stage; omega
  arc := fun i j w hi hj e => by
    have := F.arc i j w hi hj e
    unfold Sc.stage; omega
  self := fun i hi => by
    have h0 := F.self i hi
    have h2 := F.ge i k hi hk
    have h3 := F.ge k i hk hi
    unfold Sc.stage; omega
  tri := fun i j m hi hj hm hmk => by
    have kk := F.self k hk
    by_cases c : m = k
    · subst c
      rw [stage_col kk, stage_row kk]
      unfold Sc.stage; omega
    · have hm' : m < k := by omega
      have t1 := F.tri i j m hi hj hm hm'
      have t2 := F.tri i k m hi hk hm hm'
      have t3 := F.tri k j m hk hj hm hm'
      have t4 := F.tri k k m hk hk hm hm'
      unfold Sc.stage; omega
theorem cur_zero {M : Nat → Nat → Int} {k : Nat} : cur M k 0 0 = M := by
  funext i j; unfold cur; rw [if_neg (by omega)]
theorem cur_next {M : Nat → Nat → Int} {k a b : Nat} : cur M k a (b + 1) = fun i j => if i = a ∧ j = b then Sc.stage M k a b else cur M k a b i j := by
  funext i j; unfold cur
  by_cases c : i = a ∧ j = b
  · rw [if_pos c, if_pos (by omega)]; rw [c.1, c.2]
  · rw [if_neg c]
    by_cases d : i < a ∨ (i = a ∧ j < b)
    · rw [if_pos d, if_pos (by omega)]
    · rw [if_neg d, if_neg (by omega)]
/-! ### the table on the heap -/
structure MatV (K : Fg) (H : Hp) (L : Addr) (rs : List Addr) (n : Nat) (M : Nat → Nat → Int) : Prop where
  top : H L = some (.lst (rs.map V.ref))
  len : rs.length = n
  nd : rs.Nodup
  nL : L ∉ rs
  row : ∀ i r, rs[i]? = some r → H r = some (.lst ((List.range n).map fun j => V.int (M i j)))
theorem MatV.congr {K : Fg} {H : Hp} {L : Addr} {rs : List Addr} {n : Nat} {M N : Nat → Nat → Int} (m : MatV K H L rs n M) (h : ∀ i j, i < n → j < n → M i j = N i j) : MatV K H L rs n N where
  top := m.top
  len := m.len
  nd := m.nd
  nL := m.nL
  row := fun i r hr => by
    have hi : i < n := by rw [← m.len]; exact (List.getElem?_eq_some_iff.mp hr).1
    rw [m.row i r hr]
    congr 2
    apply List.map_congr_left
    intro j hj
    rw [h i j hi (List.mem_range.mp hj)]
theorem MatV.same {K : Fg} {H H' : Hp} {L : Addr} {rs : List Addr} {n : Nat} {M : Nat → Nat → Int} (m : MatV K H L rs n M) (s : Same H H') : MatV K H' L rs n M where
  top := s _ _ m.top
  len := m.len
  nd := m.nd
  nL := m.nL
  row := fun i r hr => s _ _ (m.row i r hr)
theorem MatV.at {K : Fg} {H : Hp} {L : Addr} {rs : List Addr} {n : Nat} {M : Nat → Nat → Int} (m : MatV K H L rs n M) {i j : Nat} (hi : i < n) (hj : j < n) : ∃ r xs, (rs.map V.ref)[i]? = some (.ref r) ∧ rs[i]? = some r ∧ H r = some (.lst xs) ∧ xs[j]? = some (.int (M i j)) ∧ xs.length = n := by
  have hi' : i < rs.length := by rw [m.len]; exact hi
  refine ⟨rs[i], _, ?_, List.getElem?_eq_getElem hi', m.row i _ (List.getElem?_eq_getElem hi'), ?_, by simp⟩
  · rw [List.getElem?_map, List.getElem?_eq_getElem hi']; rfl
  · rw [List.getElem?_map, List.getElem?_range hj]; rfl
theorem MatV.put {K : Fg} {H H' : Hp} {L : Addr} {rs : List Addr} {n : Nat} {M : Nat → Nat → Int} (m : MatV K H L rs n M) {i j : Nat} {r : Addr} {xs : List V} {v : Int} (hr : rs[i]? = some r) (hj : j < n) (hx : H r = some (.lst xs)) (h' : H' r = some (.lst (xs.set j (.int v)))) (b : But r H H') :
    MatV K H' L rs n (fun a c => if a = i ∧ c = j then v else M a c) where
  top := by rw [b L (fun z => m.nL (z ▸ List.mem_of_getElem? hr))]; exact m.top
  len := m.len
  nd := m.nd
  nL := m.nL
  row := fun a q hq => by
    have ex := m.row i r hr
    rw [hx] at ex; injection ex with ex; injection ex with ex
    by_cases c : a = i
    · subst c
      rw [hr] at hq; injection hq with hq; subst hq
      rw [h', ex]
      congr 2
      apply List.ext_getElem?
      intro z
      rw [List.getElem?_set]
      by_cases e : j = z
      · subst e
        rw [if_pos rfl, if_pos (by simpa using hj), List.getElem?_map, List.getElem?_range hj]
        simp
      · rw [if_neg e]
        by_cases hz : z < n
        · rw [List.getElem?_map, List.getElem?_map, List.getElem?_range hz]
          show some (V.int (M a z)) = some (V.int (if a = a ∧ z = j then v else M a z))
          rw [if_neg (fun y => e y.2.symm)]
        · rw [List.getElem?_eq_none (by simp; omega), List.getElem?_eq_none (by simp; omega)]
    · have hne : q ≠ r := fun z => c (by
        subst z
        obtain ⟨h1, e1⟩ := List.getElem?_eq_some_iff.mp hq
        obtain ⟨h2, e2⟩ := List.getElem?_eq_some_iff.mp hr
        exact (List.getElem_inj m.nd).mp (e1.trans e2.symm))
      rw [b q hne, m.row a q hq]
      congr 2
      apply List.map_congr_left
      intro y _
      rw [if_neg (fun z => c z.1)]
/-! ### arcs of whole facts -/
def Arcs (fs : List IFact) (i j : Nat) (w : Int) : Prop := ∃ f ∈ fs, (f.a = i ∧ f.b = j ∧ w = f.hi) ∨ (f.b = i ∧ f.a = j ∧ w = -f.lo)
def hidF (hs : List Int) (i : Nat) : Int := hs.getD i 0
theorem hidF_at {hs : List Int} {i : Nat} {x : Int} (h : hs[i]? = some x) : hidF hs i = x := by
  unfold hidF; rw [List.getD_eq_getElem?_getD, h]; rfl
def put2 (M : Nat → Nat → Int) (a b : Nat) (v : Int) : Nat → Nat → Int := fun i j => if i = a ∧ j = b then v else M i j
theorem FW.add {n : Nat} {hs : List Int} {l : List IFact} {M : Nat → Nat → Int} {f : IFact} (F : FW n (hidF hs) (Arcs l) 0 M) (ok : IOk hs f) :
    FW n (hidF hs) (Arcs (l ++ [f])) 0 (put2 (put2 M f.a f.b (min (M f.a f.b) f.hi)) f.b f.a (min (put2 M f.a f.b (min (M f.a f.b) f.hi) f.b f.a) (0 - f.lo))) := by
  obtain ⟨x, y, hx, hy, h1, h2⟩ := ok.at_
  have ex := hidF_at hx
  have ey := hidF_at hy
  have ne := ok.ne
  have e0 : put2 M f.a f.b (min (M f.a f.b) f.hi) f.b f.a = M f.b f.a := by unfold put2; rw [if_neg (fun z => ne z.1.symm)]
  rw [e0]
  have sp : ∀ i j, put2 (put2 M f.a f.b (min (M f.a f.b) f.hi)) f.b f.a (min (M f.b f.a) (0 - f.lo)) i j = if i = f.b ∧ j = f.a then min (M f.b f.a) (0 - f.lo) else if i = f.a ∧ j = f.b then min (M f.a f.b) f.hi else M i j := fun i j => rfl
  refine ⟨fun i j hi hj => ?_, fun i j w hi hj e => ?_, fun i hi => ?_, fun _ _ _ _ _ _ h => by omega⟩
  · rw [sp]
    have g := F.ge i j hi hj
    by_cases c : i = f.b ∧ j = f.a
    · rw [if_pos c]; rw [c.1, c.2] at g ⊢; omega
    · rw [if_neg c]
      by_cases d : i = f.a ∧ j = f.b
      · rw [if_pos d]; rw [d.1, d.2] at g ⊢; omega
      · rw [if_neg d]; exact g
  · rw [sp]
    have old : ∀ i' j', (if i' = f.b ∧ j' = f.a then min (M f.b f.a) (0 - f.lo) else if i' = f.a ∧ j' = f.b then min (M f.a f.b) f.hi else M i' j') ≤ M i' j' := by
      intro i' j'
      by_cases c : i' = f.b ∧ j' = f.a
      · rw [if_pos c, c.1, c.2]; omega
      · rw [if_neg c]
        by_cases d : i' = f.a ∧ j' = f.b
        · rw [if_pos d, d.1, d.2]; omega
        · rw [if_neg d]; exact Int.le_refl _
    obtain ⟨g, hg, eg⟩ := e
    rcases List.mem_append.mp hg with m | m
    · exact Int.le_trans (old i j) (F.arc i j w hi hj ⟨g, m, eg⟩)
    · simp at m; subst m
      rcases eg with ⟨rfl, rfl, rfl⟩ | ⟨rfl, rfl, rfl⟩
      · rw [if_neg (fun z => ne z.1), if_pos ⟨rfl, rfl⟩]; omega
      · rw [if_pos ⟨rfl, rfl⟩]; omega
  · rw [sp, if_neg (fun z => ne (z.2.symm.trans z.1)), if_neg (fun z => ne (z.1.symm.trans z.2))]
    exact F.self i hi
/-! ### _law_far -/
def sp__law_far (K : Fg) : Sp := fun vs H Q _ => ∃ fl ws fs hs, ∃ m : Nat, vs = [.int ((m + 1 : Nat) : Int), .ref fl] ∧ SqL K H fl ws ∧ All2 (IFactV K H) ws fs ∧ m ≤ 4 ∧ HidOk m hs ∧ (∀ f ∈ fs, IOk hs f) ∧ fs.length ≤ 100 ∧
  ∀ L H' rs M, Same H H' → H L = none → MatV K H' L rs (m + 1) M → FW (m + 1) (hidF hs) (Arcs fs) (m + 1) M → Q (.ref L) H'
theorem len__law_far {K : Fg} (vs : List V) (H : Hp) (Q : VK) (E : XK) (h : sp__law_far K vs H Q E) : vs.length = 2 := by
  obtain ⟨fl, ws, fs, hs, m, rfl, _⟩ := h; rfl
section
variable {K : Fg} {H : Hp} {L : Addr} {rs : List Addr} {n i j : Nat} {M : Nat → Nat → Int} {Q : VK}
theorem ixN_at {n j : Nat} (hj : j < n) : ixN n (j : Int) = some j := by
  unfold ixN
  rw [if_pos (by omega), if_pos (by omega)]
  simp
/-- far[i] -/
theorem w_mrow (m : MatV K H L rs n M) (hi : i < n) (q : ∀ r xs, rs[i]? = some r → H r = some (.lst xs) → xs.length = n → Q (.ref r) H) : rIxL K (.ref L) (.int (i : Int)) H Q := by
  by_cases hn : 0 < n
  · obtain ⟨r, xs, h1, h2, h3, h4, h5⟩ := m.at hi hn
    exact w_ixL (SqL.of m.top) (atI_nat h1) (q r xs h2 h3 h5)
  · omega
theorem w_mcell {r : Addr} (m : MatV K H L rs n M) (hr : rs[i]? = some r) (hj : j < n) (q : Q (.int (M i j)) H) : rIxL K (.ref r) (.int (j : Int)) H Q := by
  have hi : i < n := by rw [← m.len]; exact (List.getElem?_eq_some_iff.mp hr).1
  obtain ⟨r', xs, h1, h2, h3, h4, h5⟩ := m.at hi hj
  rw [hr] at h2; injection h2 with h2; subst h2
  exact w_ixL (SqL.of h3) (atI_nat h4) q
theorem w_mput {r : Addr} {v : Int} {R : Hp → Prop} (m : MatV K H L rs n M) (hr : rs[i]? = some r) (hj : j < n) (k : ∀ H', MatV K H' L rs n (put2 M i j v) → But r H H' → Tx K H H' → R H') : rSetL (.ref r) (.int (j : Int)) (.int v) H R := by
  have hi : i < n := by rw [← m.len]; exact (List.getElem?_eq_some_iff.mp hr).1
  obtain ⟨r', xs, h1, h2, h3, h4, h5⟩ := m.at hi hj
  rw [hr] at h2; injection h2 with h2; subst h2
  refine w_setL (K := K) h3 (by rw [h5]; exact ixN_at hj) fun H' h' b t => k H' (m.put hr hj h3 h' b) b t
end
theorem flat_one (x : V) (n : Nat) : (List.replicate n [x]).flatten = (List.range n).map fun _ => x := by
  induction n with
  | zero => rfl
  | succ n ih => rw [List.replicate_succ', List.flatten_append, ih, List.range_succ, List.map_append]; rfl
theorem pure__law_far {K : Fg} (vs : List V) (H : Hp) (Q : VK) (E : XK) (h : sp__law_far K vs H Q E) : t__law_far K { nx := fun _ H' => Q .non H', rt := Q } (start n__law_far vs) H := by
  obtain ⟨fl, ws, fs, hs, m, rfl, hfl, hfs, hm, hok, fok, hln, q⟩ := h
  have hwl := hfs.len
  have hp : CPow 10 9 := ⟨by decide, by decide, by decide⟩
  unfold t__law_far
  have e0 : start n__law_far [.int ((m + 1 : Nat) : Int), .ref fl] = [some (.int ((m + 1 : Nat) : Int)), some (.ref fl), none, none, none, none, none, none, none] := rfl
  rw [e0]
  walk_at "w"
  refine w_lcR1 ?_
  walk_at "w"
  refine w_lcRy (n := m + 1) (by omega) fun D hD => ⟨fun i H' => Same H H' ∧ ∃ rs : List Addr, H' D = some (.lst (rs.map V.ref)) ∧ rs.length = i ∧ rs.Nodup ∧ D ∉ rs ∧ (∀ r ∈ rs, H r = none) ∧ ∀ (i : Nat) (r : Addr), rs[i]? = some r → H' r = some (.lst ((List.range (m + 1)).map fun _ => V.int 1000000000)), ?_, ?_, ?_⟩
  · intro H' h0 s _
    exact ⟨s, [], h0, rfl, List.nodup_nil, by simp, by simp, by simp⟩
  · rintro i H' hi ⟨s, rs, hD', hl, nd, nD, fr, hrow⟩
    walk_at "w"
    refine ⟨rfl, ?_⟩
    refine w_yes ?_
    refine w_itrue ?_
    walk_at "w"
    refine w_rI hp ?_
    walk_at "w"
    refine w_newL (by simp) fun c2 H2 hc2 s2 h2 _ => ?_
    walk_at "w"
    refine ⟨c2, ((m + 1 : Nat) : Int), _, rfl, rfl, h2, by omega, by omega, Nat.le_trans (show 1 * ((m + 1 : Nat) : Int).toNat ≤ 5 by omega) (by decide), fun r hr => ?_⟩
    rw [Int.toNat_natCast, flat_one]
    have s3 : Same H2 (upd H2 r (.lst ((List.range (m + 1)).map fun _ => V.int (10 ^ (9 : Int).toNat)))) := Same.new hr
    have s23 := s2.trans s3
    refine w_lcapp (K := K) (s23 _ _ hD') (by simp; omega) fun H5 h5 b5 t5 => ?_
    have hrD : r ≠ D := fun z => by subst z; rw [s2 _ _ hD'] at hr; exact nomatch hr
    have hold : ∀ r' ∈ rs, H' r' ≠ none := fun r' hr' => by
      obtain ⟨i', hi', e⟩ := List.mem_iff_getElem.mp hr'
      rw [hrow i' r' (by rw [List.getElem?_eq_getElem hi', e])]; simp
    have hrn : H' r = none := s2.free hr
    refine ⟨b5.same (s.trans s23) hD, rs ++ [r], by rw [List.map_append]; exact h5, by simp [hl], ?_, ?_, ?_, ?_⟩
    · rw [List.nodup_append]
      refine ⟨nd, List.nodup_cons.mpr ⟨by simp, List.nodup_nil⟩, ?_⟩
      intro x hx y hy
      simp at hy; subst hy
      exact fun z => hold x hx (by rw [z]; exact hrn)
    · intro z
      rcases List.mem_append.mp z with z | z
      · exact nD z
      · simp at z; exact hrD z.symm
    · intro x hx
      rcases List.mem_append.mp hx with z | z
      · exact fr x z
      · simp at z; subst z; exact s.free hrn
    · intro j x hx
      by_cases c : j < rs.length
      · rw [List.getElem?_append_left c] at hx
        have hxm := List.mem_of_getElem? hx
        rw [b5 x (fun z => nD (z ▸ hxm))]
        exact s23 _ _ (hrow j x hx)
      · rw [List.getElem?_append_right (by omega)] at hx
        have hj : j - rs.length = 0 := by
          by_cases e : j - rs.length = 0
          · exact e
          · rw [List.getElem?_eq_none (by simp; omega)] at hx; exact nomatch hx
        rw [hj] at hx; simp at hx; subst hx
        rw [b5 _ hrD]
        exact upd_same
  · rintro H1 ⟨s1, rs, hD1, hl, nd, nD, fr, hrow⟩
    have mat : MatV K H1 D rs (m + 1) (fun _ _ => 1000000000) := ⟨hD1, hl, nd, nD, hrow⟩
    have put_same : ∀ {r : Addr} {Ha Hb : Hp} {i : Nat}, rs[i]? = some r → Same H Ha → But r Ha Hb → Same H Hb := fun hr s b => b.same s (fr _ (List.mem_of_getElem? hr))
    walk_at "w"
    refine w_forR1y (n := m + 1) (by omega) ⟨fun i σ H' => Same H H' ∧ ∃ v3, σ = [some (.int ((m + 1 : Nat) : Int)), some (.ref fl), some (.ref D), v3, none, none, none, none, none] ∧ MatV K H' D rs (m + 1) (fun a c => if a = c ∧ a < i then 0 else 1000000000), ?_, ?_, ?_⟩
    · exact ⟨s1, none, rfl, mat.congr fun i j _ _ => by rw [if_neg (by omega)]⟩
    · rintro i σ H' hi ⟨s, v3, rfl, mt⟩
      rw [zero_nat]
      walk_at "w"
      refine w_mrow mt hi fun r xs hr hx hxl => ?_
      walk_at "w"
      refine w_mput mt hr hi fun H2 mt2 b2 t2 => ?_
      refine ⟨put_same hr s b2, _, rfl, mt2.congr fun a c _ _ => ?_⟩
      unfold put2
      by_cases e : a = i ∧ c = i
      · rw [if_pos e, if_pos (by omega)]
      · rw [if_neg e]
        show (if a = c ∧ a < i then (0 : Int) else 1000000000) = if a = c ∧ a < i + 1 then 0 else 1000000000
        by_cases e2 : a = c ∧ a < i
        · rw [if_pos e2, if_pos (by omega)]
        · rw [if_neg e2, if_neg (by omega)]
    · rintro σ H' ⟨s, v3, rfl, mt⟩
      walk_at "w"
      refine w_forLv rfl (hfl.same s) ⟨fun i σ H' => Same H H' ∧ ∃ M v4 v5 v6 v7, σ = [some (.int ((m + 1 : Nat) : Int)), some (.ref fl), some (.ref D), v3, v4, v5, v6, v7, none] ∧ MatV K H' D rs (m + 1) M ∧ FW (m + 1) (hidF hs) (Arcs (fs.take i)) 0 M, ?_, ?_, ?_, ?_⟩
      · refine ⟨s, _, _, _, _, _, rfl, mt, ⟨fun i j hi hj => ?_, fun i j w _ _ e => ?_, fun i hi => by simp [hi], fun _ _ _ _ _ _ h => by omega⟩⟩
        · have b1 : -100 ≤ hidF hs i ∧ hidF hs i ≤ 100 := by
            have : i < hs.length := by rw [hok.len]; exact hi
            rw [hidF_at (List.getElem?_eq_getElem this)]
            exact hok.bd _ (List.getElem_mem this)
          have b2 : -100 ≤ hidF hs j ∧ hidF hs j ≤ 100 := by
            have : j < hs.length := by rw [hok.len]; exact hj
            rw [hidF_at (List.getElem?_eq_getElem this)]
            exact hok.bd _ (List.getElem_mem this)
          show hidF hs j - hidF hs i ≤ if i = j ∧ i < m + 1 then 0 else 1000000000
          by_cases c : i = j
          · subst c; rw [if_pos ⟨rfl, hi⟩]; omega
          · rw [if_neg (fun z => c z.1)]; omega
        · obtain ⟨f, hf, _⟩ := e
          simp at hf
      · rintro i σ H' _ ⟨s, _⟩; exact hfl.same s
      · clear mt s
        rintro i x σ H' hx ⟨s, M, v4, v5, v6, v7, rfl, mt, fw⟩
        obtain ⟨f, hf, p, rfl, hp⟩ := hfs.get hx
        have ok := fok f (List.mem_of_getElem? hf)
        have na : f.a < m + 1 := by obtain ⟨x, y, e1, e2, _⟩ := ok.at_; rw [← hok.len]; exact (List.getElem?_eq_some_iff.mp e1).1
        have nb : f.b < m + 1 := by obtain ⟨x, y, e1, e2, _⟩ := ok.at_; rw [← hok.len]; exact (List.getElem?_eq_some_iff.mp e2).1
        refine w_gtup (hp.tx s.tx) rfl ?_
        walk_at "w"
        refine w_mrow mt na fun r xs hr hx hxl => ?_
        walk_at "w"
        refine w_mcell mt hr nb ?_
        walk_at "w"
        refine w_mrow mt na fun r' xs' hr' hx' hxl' => ?_
        rw [hr] at hr'; injection hr' with hr'; subst hr'
        walk_at "w"
        refine w_mput mt hr nb fun H2 mt2 b2 t2 => ?_
        have s2 := put_same hr s b2
        walk_at "w"
        refine w_mrow mt2 nb fun r3 xs3 hr3 hx3 hxl3 => ?_
        walk_at "w"
        refine w_mcell mt2 hr3 na ?_
        walk_at "w"
        refine w_mrow mt2 nb fun r4 xs4 hr4 hx4 hxl4 => ?_
        rw [hr3] at hr4; injection hr4 with hr4; subst hr4
        walk_at "w"
        refine w_mput mt2 hr3 na fun H3 mt3 b3 t3 => ?_
        refine ⟨put_same hr3 s2 b3, _, _, _, _, _, rfl, mt3, ?_⟩
        rw [take_snoc hf]
        exact fw.add ok
      · clear mt s
        rintro σ H' ⟨s, M, v4, v5, v6, v7, rfl, mt, fw⟩
        rw [hwl, List.take_length] at fw
        walk_at "w"
        refine w_forR1y (n := m + 1) (by omega) ⟨fun i σ H' => Same H H' ∧ ∃ M v4 v5 v8, σ = [some (.int ((m + 1 : Nat) : Int)), some (.ref fl), some (.ref D), v3, v4, v5, v6, v7, v8] ∧ MatV K H' D rs (m + 1) M ∧ FW (m + 1) (hidF hs) (Arcs fs) i M, ?_, ?_, ?_⟩
        · exact ⟨s, M, _, _, _, rfl, mt, fw⟩
        · clear mt s fw M v4 v5
          rintro k σ H' hk ⟨s, M, v4, v5, v8, rfl, mt, fw⟩
          have kk := fw.self k hk
          rw [zero_nat]
          walk_at "w"
          refine w_forR1y (n := m + 1) (by omega) ⟨fun i σ H' => Same H H' ∧ ∃ v4 v5, σ = [some (.int ((m + 1 : Nat) : Int)), some (.ref fl), some (.ref D), v3, v4, v5, v6, v7, some (.int (k : Int))] ∧ MatV K H' D rs (m + 1) (cur M k i 0), ?_, ?_, ?_⟩
          · exact ⟨s, _, _, rfl, by rw [cur_zero]; exact mt⟩
          · clear mt s v4 v5
            rintro i σ H' hi ⟨s, v4, v5, rfl, mt⟩
            rw [zero_nat]
            walk_at "w"
            refine w_forR1y (n := m + 1) (by omega) ⟨fun j σ H' => Same H H' ∧ ∃ v5, σ = [some (.int ((m + 1 : Nat) : Int)), some (.ref fl), some (.ref D), v3, some (.int (i : Int)), v5, v6, v7, some (.int (k : Int))] ∧ MatV K H' D rs (m + 1) (cur M k i j), ?_, ?_, ?_⟩
            · exact ⟨s, _, rfl, mt⟩
            · clear mt s v4 v5
              rintro j σ H' hj ⟨s, v5, rfl, mt⟩
              rw [zero_nat]
              walk_at "w"
              refine w_mrow mt hi fun r xs hr hx hxl => ?_
              walk_at "w"
              refine w_mcell mt hr hj ?_
              walk_at "w"
              refine w_mrow mt hi fun r' xs' hr' hx' hxl' => ?_
              rw [hr] at hr'; injection hr' with hr'; subst hr'
              walk_at "w"
              refine w_mcell mt hr hk ?_
              walk_at "w"
              refine w_mrow mt hk fun r3 xs3 hr3 hx3 hxl3 => ?_
              walk_at "w"
              refine w_mcell mt hr3 hj ?_
              walk_at "w"
              refine w_mrow mt hi fun r' xs' hr' hx' hxl' => ?_
              rw [hr] at hr'; injection hr' with hr'; subst hr'
              walk_at "w"
              refine w_mput mt hr hj fun H2 mt2 b2 t2 => ?_
              refine ⟨put_same hr s b2, _, rfl, ?_⟩
              rw [cur_next]
              rw [cur_col kk, cur_row kk] at mt2
              have e : cur M k i j i j = M i j := by unfold cur; rw [if_neg (by omega)]
              rw [e] at mt2
              exact mt2
            · rintro σ H' ⟨s, v5, rfl, mt⟩
              refine ⟨s, _, _, rfl, mt.congr fun a c ha hc => ?_⟩
              unfold cur
              by_cases e : a < i ∨ (a = i ∧ c < m + 1)
              · rw [if_pos e, if_pos (by omega)]
              · rw [if_neg e, if_neg (by omega)]
          · rintro σ H' ⟨s, v4', v5', rfl, mt⟩
            refine ⟨s, stage M k, _, _, _, rfl, mt.congr fun a c ha hc => ?_, fw.stage hk⟩
            unfold cur
            rw [if_pos (.inl ha)]
        · rintro σ H' ⟨s, M, v4, v5, v8, rfl, mt, fw⟩
          walk_at "w"
          exact q D H' rs M s hD mt fw

/-! KLawE -/
set_option Elab.async false
set_option linter.all false
set_option maxRecDepth 100000
set_option maxHeartbeats 1000000
/-! ### names by number, times of names -/
def nm (i : Nat) : Str := (nsOf 4).getD i "start"
theorem nm_at : ∀ m, m < 5 → ∀ i, i < m + 1 → (nsOf m)[i]? = some (nm i) := by decide +kernel
theorem nm_idx : ∀ i, i < 5 → (nsOf 4).idxOf (nm i) = i := by decide +kernel
theorem nm_zero : nm 0 = "start" := by decide +kernel
theorem nm_ok : ∀ i, i < 5 → PyData.strOk (nm i) = true := by decide +kernel
theorem nm_inj {i j : Nat} (hi : i < 5) (hj : j < 5) (h : nm i = nm j) : i = j := by
  rw [← nm_idx i hi, ← nm_idx j hj, h]
theorem nsOf_get {m : Nat} (hm : m ≤ 4) {x : Str} (h : x ∈ nsOf m) : ∃ i, i < m + 1 ∧ x = nm i := by
  obtain ⟨i, hi, rfl⟩ := List.mem_iff_getElem.mp h
  rw [nsOf_len hm] at hi
  refine ⟨i, hi, ?_⟩
  have e := nm_at m (by omega) i hi
  rw [List.getElem?_eq_getElem (by rw [nsOf_len hm]; exact hi)] at e
  injection e
theorem nm_mem {m i : Nat} (hm : m ≤ 4) (hi : i < m + 1) : nm i ∈ nsOf m := List.mem_of_getElem? (nm_at m (by omega) i hi)
def tmH (hs : List Int) (x : Str) : Rat := Rat.divInt (hidF hs ((nsOf 4).idxOf x)) 6
theorem tmH_nm {hs : List Int} {i : Nat} (hi : i < 5) : tmH hs (nm i) = Rat.divInt (hidF hs i) 6 := by unfold tmH; rw [nm_idx i hi]
def fOf (f : IFact) : Fact := ⟨nm f.a, nm f.b, Rat.divInt f.lo 6, Rat.divInt f.hi 6⟩
theorem six_eq (z : Int) : Rat.divInt z 6 * ((6 : Nat) : Rat) = (z : Rat) := by
  rw [Rat.divInt_eq_div]
  have e : ((6 : Int) : Rat) = 6 := rfl
  have e2 : ((6 : Nat) : Rat) = 6 := rfl
  rw [e, e2]; grind
theorem six_mx {z : Int} (h1 : -6000 ≤ z) (h2 : z ≤ 6000) : Mx 6 6000 (Rat.divInt z 6) := ⟨z, six_eq z, by omega⟩
theorem six_le {x y : Int} : Rat.divInt x 6 ≤ Rat.divInt y 6 ↔ x ≤ y := by
  have h1 := six_eq x
  have h2 := six_eq y
  have e2 : ((6 : Nat) : Rat) = 6 := rfl
  rw [e2] at h1 h2
  rw [← Rat.intCast_le_intCast]
  constructor <;> intro h <;> grind
theorem six_sub {x y : Int} : Rat.divInt x 6 - Rat.divInt y 6 = Rat.divInt (x - y) 6 := by
  have h1 := six_eq x
  have h2 := six_eq y
  have h3 := six_eq (x - y)
  have e2 : ((6 : Nat) : Rat) = 6 := rfl
  rw [e2] at h1 h2 h3
  rw [Rat.intCast_sub] at h3
  grind
section
variable {m many : Nat} {hs : List Int} {fs : List IFact}
theorem IOk.lt {f : IFact} (ok : IOk hs f) (h : HidOk m hs) : f.a < m + 1 ∧ f.b < m + 1 := by
  obtain ⟨x, y, e1, e2, _⟩ := ok.at_
  have h1 := (List.getElem?_eq_some_iff.mp e1).1
  have h2 := (List.getElem?_eq_some_iff.mp e2).1
  rw [h.len] at h1 h2
  exact ⟨h1, h2⟩
theorem IOk.keeps {f : IFact} (ok : IOk hs f) (h : HidOk m hs) (hm : m ≤ 4) : (fOf f).lo ≤ tmH hs (fOf f).b - tmH hs (fOf f).a ∧ tmH hs (fOf f).b - tmH hs (fOf f).a ≤ (fOf f).hi := by
  obtain ⟨l1, l2⟩ := ok.lt h
  obtain ⟨x, y, e1, e2, h1, h2⟩ := ok.at_
  show Rat.divInt f.lo 6 ≤ tmH hs (nm f.b) - tmH hs (nm f.a) ∧ tmH hs (nm f.b) - tmH hs (nm f.a) ≤ Rat.divInt f.hi 6
  rw [tmH_nm (by omega), tmH_nm (by omega), hidF_at e1, hidF_at e2, six_sub, six_le, six_le]
  exact ⟨h1, h2⟩
theorem fit_of (h : HidOk m hs) (hm : m ≤ 4) (ok : ∀ f ∈ fs, IOk hs f) : Fit (fs.map fOf) (tmH hs) := fun g hg => by
  obtain ⟨f, hf, rfl⟩ := List.mem_map.mp hg
  exact (ok f hf).keeps h hm
theorem FsOk.net (F : FsOk m hs many fs) (h : HidOk m hs) (hm : m ≤ 4) : Net (nsOf m) (fs.map fOf) := by
  have st : ("start" : Str) ∈ nsOf m := nm_zero ▸ nm_mem hm (by omega)
  have base : ∀ x ∈ nsOf m, x = "start" ∨ ∃ d1 d2, Arc (fs.map fOf) "start" x d1 ∧ Arc (fs.map fOf) x "start" d2 := by
    intro x hx
    obtain ⟨i, hi, rfl⟩ := nsOf_get hm hx
    rcases i with _ | i
    · exact .inl nm_zero
    · obtain ⟨f, hf, ha, hb⟩ := F.base i (by omega)
      have hm' : fOf f ∈ fs.map fOf := List.mem_map.mpr ⟨f, List.mem_of_getElem? hf, rfl⟩
      have e1 : (fOf f).a = "start" := by show nm f.a = _; rw [ha]; exact nm_zero
      have e2 : (fOf f).b = nm (i + 1) := by show nm f.b = _; rw [hb]
      exact .inr ⟨(fOf f).hi, -(fOf f).lo, ⟨fOf f, hm', true, by rw [← e1, ← e2]; rfl⟩, ⟨fOf f, hm', false, by rw [← e1, ← e2]; rfl⟩⟩
  refine ⟨st, fun g hg => ?_, fun x hx => ?_, fun x hx => ?_, ⟨tmH hs, fit_of h hm F.all⟩⟩
  · obtain ⟨f, hf, rfl⟩ := List.mem_map.mp hg
    obtain ⟨l1, l2⟩ := (F.all f hf).lt h
    exact ⟨nm_mem hm l1, nm_mem hm l2⟩
  · rcases base x hx with rfl | ⟨d1, d2, a1, a2⟩
    · exact ⟨0, 0, rfl, rfl⟩
    · exact ⟨1, 0 + d2, x, 0, d2, ⟨rfl, rfl⟩, a2, rfl⟩
  · rcases base x hx with rfl | ⟨d1, d2, a1, a2⟩
    · exact ⟨0, 0, rfl, rfl⟩
    · exact ⟨1, 0 + d1, "start", 0, d1, ⟨rfl, rfl⟩, a1, rfl⟩
theorem FsOk.bookOk (F : FsOk m hs many fs) (h : HidOk m hs) (hm : m ≤ 4) (hl : fs.length ≤ 40) : BookOk (nsOf m) (fs.map fOf) where
  net := F.net h hm
  nl := by rw [nsOf_len hm]; omega
  fl := by rw [List.length_map]; exact hl
  mx := fun g hg => by
    obtain ⟨f, hf, rfl⟩ := List.mem_map.mp hg
    have ok := F.all f hf
    obtain ⟨b1, b2⟩ := ok.bd
    obtain ⟨x, y, e1, e2, h1, h2⟩ := ok.at_
    exact ⟨six_mx (by omega) (by omega), six_mx (by omega) (by omega)⟩
  so := fun z hz => by
    obtain ⟨i, hi, rfl⟩ := nsOf_get hm hz
    exact nm_ok i (by omega)
theorem FsOk.take (F : FsOk m hs many fs) {i : Nat} (h : m ≤ i) (hi : i ≤ fs.length) : FsOk m hs (i - m) (fs.take i) where
  all := fun f hf => F.all f (List.mem_of_mem_take hf)
  base := fun j hj => by
    obtain ⟨f, h1, h2⟩ := F.base j hj
    exact ⟨f, by rw [List.getElem?_take, if_pos (by omega)]; exact h1, h2⟩
  len := by rw [List.length_take]; omega
theorem FsOk.ge (F : FsOk m hs many fs) : m ≤ fs.length := by
  rcases m with _ | m
  · omega
  · obtain ⟨f, h1, _⟩ := F.base m (by omega)
    have := (List.getElem?_eq_some_iff.mp h1).1
    omega
end
/-! ### tell, of a whole fact -/
theorem w_tellI {K : Fg} {H : Hp} {A : BA} {m many : Nat} {hs : List Int} {l : List IFact} {f : IFact} {v w : V} {Q : VK} (b : BookV K H A (nsOf m) (l.map fOf)) (F : FsOk m hs many l) (h : HidOk m hs) (hm : m ≤ 4) (hl : l.length < 40) (ok : IOk hs f)
    (nv : Num K H v (Rat.divInt f.lo 6)) (nw : Num K H w (Rat.divInt f.hi 6)) (q : ∀ i H', Kp K A.ls H H' → BookV K H' A (nsOf m) ((l ++ [f]).map fOf) → Q (.int i) H') : sp_tell K [.ref A.B, .str (nm f.a), .str (nm f.b), v, w] H Q E0 := by
  obtain ⟨l1, l2⟩ := ok.lt h
  have bo := F.bookOk h hm (by omega)
  have ft := fit_of h hm F.all
  have kp := ok.keeps h hm
  obtain ⟨b1, b2⟩ := ok.bd
  obtain ⟨x, y, e1, e2, h1, h2⟩ := ok.at_
  have hx := nm_mem hm l1
  have hy := nm_mem hm l2
  have s1 := bo.net.sound ft hx hy
  have s2 := bo.net.sound2 ft hx hy
  have k1 : Rat.divInt f.lo 6 ≤ tmH hs (nm f.b) - tmH hs (nm f.a) := kp.1
  have k2 : tmH hs (nm f.b) - tmH hs (nm f.a) ≤ Rat.divInt f.hi 6 := kp.2
  refine ⟨A, nsOf m, l.map fOf, nm f.a, nm f.b, v, w, _, _, rfl, b, bo, hx, hy, fun z => ok.ne (nm_inj (by omega) (by omega) z), by rw [List.length_map]; exact hl, nv, nw, six_mx (by omega) (by omega), six_mx (by omega) (by omega), six_le.mpr (by omega), Rat.le_trans k1 s1, Rat.le_trans s2 k2, ?_⟩
  intro i H' kk bb
  refine q i H' kk ?_
  rw [List.map_append]
  exact bb
/-! ### _law_book -/
def sp__law_book (K : Fg) : Sp := fun vs H Q _ => ∃ nl fl ws fs hs m many, vs = [.ref nl, .ref fl] ∧ SqL K H nl ((nsOf m).map V.str) ∧ SqL K H fl ws ∧ All2 (IFactV K H) ws fs ∧ 1 ≤ m ∧ m ≤ 4 ∧ HidOk m hs ∧ FsOk m hs many fs ∧ many ≤ 10 ∧
  ∀ A H', Same H H' → H A.B = none → (∀ a ∈ A.ls, H a = none) → BookV K H' A (nsOf m) (fs.map fOf) → Q (.ref A.B) H'
theorem len__law_book {K : Fg} (vs : List V) (H : Hp) (Q : VK) (E : XK) (h : sp__law_book K vs H Q E) : vs.length = 2 := by
  obtain ⟨nl, fl, ws, fs, hs, m, many, rfl, _⟩ := h; rfl
theorem pure__law_book {K : Fg} (vs : List V) (H : Hp) (Q : VK) (E : XK) (h : sp__law_book K vs H Q E) : t__law_book K (sp_Book_init K) (sp__law_six K) (sp_add K) (sp_tell K) { nx := fun _ H' => Q .non H', rt := Q } (start n__law_book vs) H := by
  obtain ⟨nl, fl, ws, fs, hs, m, many, rfl, hnl, hfl, hfs, hm1, hm4, hok, fok, hmany, q⟩ := h
  have hwl := hfs.len
  have hge := fok.ge
  have hle := fok.len
  have hnlen : ((nsOf m).map V.str).length = m + 1 := by rw [List.length_map, nsOf_len hm4]
  have hname : ∀ {i : Nat}, i < m + 1 → ((nsOf m).map V.str)[i]? = some (.str (nm i)) := fun {i} hi => by rw [List.getElem?_map, nm_at m (by omega) i hi]; rfl
  unfold t__law_book
  walk_at "w"
  refine w_make ?_ (fun R R' mo h => mo _ _ h)
  walk_at "w"
  intro x dx H2 hx s2 h2
  refine ⟨x, dx, rfl, h2, ?_⟩
  rintro A H3 rfl n1 n2 n3 kp3 b3
  refine ⟨rfl, ?_⟩
  have frs : ∀ a ∈ A.ls, H a = none := fun a ha => by
    simp only [BA.ls, List.mem_cons, List.not_mem_nil, or_false] at ha
    rcases ha with e | e | e
    · subst e; exact s2.free n1
    · subst e; exact s2.free n2
    · subst e; exact s2.free n3
  have s03 : Same H H3 := fun a o e => kp3.2 a o (by simp; intro z; subst z; rw [hx] at e; exact nomatch e) (s2 a o e)
  walk_at "w"
  refine w_lenL (hnl.same s03) ?_
  rw [hnlen]
  walk_at "w"
  refine w_forR2y (n := m) (by omega) (by decide) (by omega) ⟨fun i σ H' => Same H H' ∧ ∃ v3 v4, σ = [some (.ref nl), some (.ref fl), some (.ref A.B), v3, v4, none, none, none, none] ∧ BookV K H' A (nsOf i) ((fs.take i).map fOf), ?_, ?_, ?_⟩
  · exact ⟨s03, none, none, rfl, b3⟩
  · rintro i σ H' hi ⟨s, v3, v4, rfl, b⟩
    have ei : (1 : Int) + (i : Int) = ((i + 1 : Nat) : Int) := by omega
    rw [ei]
    walk_at "w"
    refine w_forLx ?_
    walk_at "w"
    refine w_lenL (hnl.same s) ?_
    rw [hnlen]
    walk_at "w"
    rw [show ((m + 1 : Nat) : Int) - 1 = (m : Int) by omega]
    refine w_slL (hfl.same s) fun c H4 hc s4 h4 _ => ?_
    rw [cutV_nat_to ws m (by omega)] at h4
    have b4 := b.same s4
    have hcA : c ∉ A.ls := b.fresh hc
    have htl : (ws.take m).length = m := by rw [List.length_take]; omega
    refine w_forLy (SqL.of h4) ⟨fun j σ H' => Same H H' ∧ H' c = some (.lst (ws.take m)) ∧ ∃ v4, σ = [some (.ref nl), some (.ref fl), some (.ref A.B), some (.int ((i + 1 : Nat) : Int)), v4, none, none, none, none] ∧ BookV K H' A (nsOf (if j ≤ i then i else i + 1)) ((fs.take (if j ≤ i then i else i + 1)).map fOf), ?_, ?_, ?_, ?_⟩
    · exact ⟨s.trans s4, h4, _, rfl, by rw [if_pos (Nat.zero_le _)]; exact b4⟩
    · rintro j σ H' _ ⟨_, h, _⟩; exact SqL.of h
    · clear b4 h4 s4
      rintro j v σ H' hv ⟨s', hc', v4, rfl, b⟩
      have hj : j < m := by rw [← htl]; exact (List.getElem?_eq_some_iff.mp hv).1
      have hv' : ws[j]? = some v := by rw [List.getElem?_take, if_pos hj] at hv; exact hv
      obtain ⟨f, hf, p, rfl, hp⟩ := hfs.get hv'
      obtain ⟨f', hf', fa, fb⟩ := fok.base j hj
      rw [hf] at hf'; injection hf' with hf'; subst hf'
      have hp' := hp.tx s'.tx
      walk_at "w"; walk_at "ix"
      walk_at "w"
      refine w_ite (fun z => ?_) (fun z => ?_)
      · have z : (f.b : Int) = ((i + 1 : Nat) : Int) := by injection z
        have hij : j = i := by omega
        subst hij
        rw [if_pos (Nat.le_refl _)] at b
        have ok := fok.all f (List.mem_of_getElem? hf)
        obtain ⟨bd1, bd2⟩ := ok.bd
        obtain ⟨x1, y1, e1, e2, g1, g2⟩ := ok.at_
        walk_at "w"
        refine w_mk b.ins rfl ?_
        walk_at "w"
        refine w_ixL (hnl.same s') (atI_nat (hname (by omega))) ?_
        walk_at "w"; walk_at "ix"
        walk_at "w"
        refine ⟨f.lo, rfl, fun r1 H5 s5 m5 => ?_⟩
        have hp5 := hp'.tx s5.tx
        walk_at "w"; walk_at "ix"
        walk_at "w"
        refine ⟨f.hi, rfl, fun r2 H6 s6 m6 => ?_⟩
        walk_at "w"
        refine ⟨A, nsOf j, (fs.take j).map fOf, nm (j + 1), r1, r2, _, _, rfl, b.same (s5.trans s6), ?_, ?_, ?_, m5.tx s6.tx, m6, six_mx (by omega) (by omega), six_mx (by omega) (by omega), six_le.mpr (by omega), ?_⟩
        · intro hmem
          obtain ⟨i2, hi2, e⟩ := nsOf_get (by omega) hmem
          have := nm_inj (by omega) (by omega) e
          omega
        · rw [nsOf_len (by omega)]; omega
        · rw [List.length_map, List.length_take]; omega
        · intro iz H7 kp7 b7
          have s56 := s5.trans s6
          refine ⟨?_, kp7.2 _ _ hcA (s56 _ _ hc'), _, rfl, ?_⟩
          · exact fun a o e => kp7.2 a o (fun z => by rw [frs a z] at e; exact nomatch e) ((s'.trans s56) a o e)
          · rw [if_neg (by omega)]
            obtain ⟨xx, hxx, enn⟩ := nsOf_snoc (show j < 8 by omega)
            have exx : xx = nm (j + 1) := by
              have h1 := nm_at (j + 1) (by omega) (j + 1) (by omega)
              rw [enn, List.getElem?_append_right (by rw [nsOf_len (by omega)]; exact Nat.le_refl _), nsOf_len (by omega)] at h1
              simp at h1
              exact h1
            rw [enn, exx, take_snoc hf, List.map_append]
            have ef : [f].map fOf = [⟨"start", nm (j + 1), Rat.divInt f.lo 6, Rat.divInt f.hi 6⟩] := by
              show [(⟨nm f.a, nm f.b, _, _⟩ : Fact)] = _
              rw [fa, fb, nm_zero]
            rw [ef]
            exact b7
      · have hij : j ≠ i := fun e => z (by subst e; rw [fb])
        walk_at "w"
        refine ⟨s', hc', _, rfl, ?_⟩
        by_cases c1 : j ≤ i
        · rw [if_pos c1] at b; rw [if_pos (show j + 1 ≤ i by omega)]; exact b
        · rw [if_neg c1] at b; rw [if_neg (show ¬ j + 1 ≤ i by omega)]; exact b
    · rintro σ H' ⟨s', hc', v4, rfl, b⟩
      rw [htl, if_neg (show ¬ m ≤ i by omega)] at b
      exact ⟨s', _, _, rfl, b⟩
  · rintro σ H' ⟨s, v3, v4, rfl, b⟩
    walk_at "w"
    refine w_forLx ?_
    walk_at "w"
    refine w_lenL (hnl.same s) ?_
    rw [hnlen]
    walk_at "w"
    rw [show ((m + 1 : Nat) : Int) - 1 = (m : Int) by omega]
    walk_at "w"
    refine w_slL (hfl.same s) fun c H4 hc s4 h4 _ => ?_
    rw [cutV_nat_from ws m (by omega)] at h4
    have b4 := b.same s4
    have hcA : c ∉ A.ls := b.fresh hc
    refine w_forLy (SqL.of h4) ⟨fun j σ H' => Same H H' ∧ H' c = some (.lst (ws.drop m)) ∧ ∃ v5 v6 v7 v8, σ = [some (.ref nl), some (.ref fl), some (.ref A.B), v3, v4, v5, v6, v7, v8] ∧ BookV K H' A (nsOf m) ((fs.take (m + j)).map fOf), ?_, ?_, ?_, ?_⟩
    · exact ⟨s.trans s4, h4, _, _, _, _, rfl, b4⟩
    · rintro j σ H' _ ⟨_, h, _⟩; exact SqL.of h
    · clear b4 h4 s4 b
      rintro j v σ H' hv ⟨s', hc', v5, v6, v7, v8, rfl, b⟩
      have hv' : ws[m + j]? = some v := by rw [List.getElem?_drop] at hv; exact hv
      obtain ⟨f, hf, p, rfl, hp⟩ := hfs.get hv'
      have hmj : m + j < fs.length := (List.getElem?_eq_some_iff.mp hf).1
      have ok := fok.all f (List.mem_of_getElem? hf)
      obtain ⟨l1, l2⟩ := ok.lt hok
      refine w_gtup (hp.tx s'.tx) rfl ?_
      walk_at "w"
      refine w_mk b.ins rfl ?_
      walk_at "w"
      refine w_ixL (hnl.same s') (atI_nat (hname l1)) ?_
      walk_at "w"
      refine w_ixL (hnl.same s') (atI_nat (hname l2)) ?_
      walk_at "w"
      refine ⟨f.lo, rfl, fun r1 H5 s5 m5 => ?_⟩
      walk_at "w"
      refine ⟨f.hi, rfl, fun r2 H6 s6 m6 => ?_⟩
      walk_at "w"
      have s56 := s5.trans s6
      refine w_tellI (b.same s56) (fok.take (i := m + j) (by omega) (by omega)) hok hm4 (by rw [List.length_take]; omega) ok (m5.tx s6.tx) m6 fun iz H7 kp7 b7 => ?_
      refine ⟨fun a o e => kp7.2 a o (fun z => by rw [frs a z] at e; exact nomatch e) ((s'.trans s56) a o e), kp7.2 _ _ hcA (s56 _ _ hc'), _, _, _, _, rfl, ?_⟩
      rw [show m + (j + 1) = m + j + 1 by omega, take_snoc hf]
      exact b7
    · rintro σ H' ⟨s', hc', v5, v6, v7, v8, rfl, b⟩
      walk_at "w"
      rw [List.length_drop, hwl, show m + (fs.length - m) = fs.length by omega, List.take_length] at b
      exact q A H' s' hx frs b

/-! KLawF -/
set_option Elab.async false
set_option linter.all false
set_option maxRecDepth 100000
set_option maxHeartbeats 1000000
/-! ### _law_scene -/
theorem up_side : ¬ ("side" : Str) = "up" := by decide
def two (c1 c2 : Clip) (i1 i2 : Nat) : List Show := [⟨"up", c1, nm i1⟩, ⟨"side", c2, nm i2⟩]
theorem isSh_up {c1 c2 : Clip} {i1 i2 : Nat} : IsSh (two c1 c2 i1 i2) "up" ⟨"up", c1, nm i1⟩ := ⟨0, rfl, rfl, fun j s h e => by
  rcases j with _ | _ | j
  · rfl
  · simp [two] at h; subst h; exact absurd e up_side
  · simp [two] at h⟩
theorem isSh_side {c1 c2 : Clip} {i1 i2 : Nat} : IsSh (two c1 c2 i1 i2) "side" ⟨"side", c2, nm i2⟩ := ⟨1, rfl, rfl, fun j s h e => by
  rcases j with _ | _ | j
  · simp [two] at h; subst h; exact absurd e.symm up_side
  · rfl
  · simp [two] at h⟩
theorem two_ok {c1 c2 : Clip} {i1 i2 m : Nat} (h1 : ClOk c1) (h2 : ClOk c2) (hm : m ≤ 4) (l1 : i1 < m + 1) (l2 : i2 < m + 1) : SceneOk (nsOf m) (two c1 c2 i1 i2) where
  clip := fun s hs => by
    simp [two] at hs
    rcases hs with rfl | rfl
    · exact h1
    · exact h2
  cue := fun s hs => by
    simp [two] at hs
    rcases hs with rfl | rfl
    · exact nm_mem hm l1
    · exact nm_mem hm l2
  len := by simp [two]
def sp__law_scene (K : Fg) : Sp := fun vs H Q _ => ∃ a ns, vs = [.ref a, .int 0] ∧ SqL K H a ((ns : List Int).map V.int) ∧
  ∀ p nl hl fl cl cu H' S A m hs ws fs c1 c2 i1 i2, Same H H' → SqT K H' p [.ref nl, .ref hl, .ref fl, .ref (SA.S S), .ref cl, .ref cu] → H' nl = some (.lst ((nsOf m).map V.str)) → H' hl = some (.lst ((hs : List Int).map V.int)) → H' fl = some (.lst ws) → All2 (IFactV K H') ws fs →
    1 ≤ m → m ≤ 4 → HidOk m hs → FsOk m hs 4 fs → nl ∉ BA.ls A → hl ∉ A.ls → fl ∉ A.ls → (∀ x ∈ A.ls, H x = none) → BookV K H' A (nsOf m) (fs.map fOf) → SceneV K H' S A (two c1 c2 i1 i2) → ClOk c1 → ClOk c2 → i1 < m + 1 → i2 < m + 1 → Q (.ref p) H'
theorem len__law_scene {K : Fg} (vs : List V) (H : Hp) (Q : VK) (E : XK) (h : sp__law_scene K vs H Q E) : vs.length = 2 := by
  obtain ⟨a, ns, rfl, _⟩ := h; rfl
theorem pure__law_scene {K : Fg} (vs : List V) (H : Hp) (Q : VK) (E : XK) (h : sp__law_scene K vs H Q E) : t__law_scene K (sp__law_story K) (sp__law_facts K) (sp__law_book K) (sp_Scene_init K) (sp__law_clip K) (sp__law_draw K) (sp_show K) { nx := fun _ H' => Q .non H', rt := Q } (start n__law_scene vs) H := by
  obtain ⟨a, ns, rfl, hsc, q⟩ := h
  unfold t__law_scene
  have e0 : start n__law_scene [.ref a, .int 0] = [some (.ref a), some (.int 0), none, none, none, none, none, none, none, none] := rfl
  rw [e0]
  walk_at "w"
  refine ⟨a, ns, 0, rfl, hsc, by decide, by decide, ?_⟩
  intro p nl hl H1 m hs s1 hnl0 hhl0 hp hnl hhl hm1 hm4 hok
  refine w_gtup hp rfl ?_
  have hnlen : ((nsOf m).map V.str).length = m + 1 := by rw [List.length_map, nsOf_len hm4]
  have hname : ∀ {i : Nat}, i < m + 1 → ((nsOf m).map V.str)[i]? = some (.str (nm i)) := fun {i} hi => by rw [List.getElem?_map, nm_at m (by omega) i hi]; rfl
  walk_at "w"
  refine ⟨a, ns, nl, hl, m, hs, 6, 4, rfl, hsc.same s1, by decide, by decide, SqL.of hnl, SqL.of hhl, hm1, hm4, hok, by decide, ?_⟩
  intro fl H2 ws fs s2 hfl0 hfl hfs fok
  have s02 := s1.trans s2
  have hnl2 := s2 _ _ hnl
  have hhl2 := s2 _ _ hhl
  walk_at "w"
  refine ⟨nl, fl, ws, fs, hs, m, 4, rfl, SqL.of hnl2, SqL.of hfl, hfs, hm1, hm4, hok, fok, by decide, ?_⟩
  intro A H3 s3 hB hfr b3
  have s03 := s02.trans s3
  have hfl3 := s3 _ _ hfl
  have hnl3 := s3 _ _ hnl2
  have hhl3 := s3 _ _ hhl2
  have dj : ∀ {x : Addr} {o : HO}, H2 x = some o → x ∉ A.ls := fun {x o} e z => by rw [hfr x z] at e; exact nomatch e
  have frs : ∀ x ∈ A.ls, H x = none := fun x hx => s02.free (hfr x hx)
  walk_at "w"
  refine w_make ?_ (fun R R' mo h => by obtain ⟨v, e1, h1⟩ := h; exact ⟨v, e1, mo _ _ h1⟩)
  walk_at "w"
  intro x dx H4 hx s4 h4
  refine ⟨x, dx, A, rfl, h4, ?_⟩
  rintro S H5 rfl hls kp5 ins5 ls5
  refine ⟨rfl, ?_⟩
  have s35 : Same H3 H5 := fun y o e => kp5.2 y o (by simp; intro z; subst z; rw [hx] at e; exact nomatch e) (s4 y o e)
  have b5 := b3.same s35
  have sc5 : SceneV K H5 S A [] := ⟨ins5, ⟨[], ls5, All2.nil⟩, fun z => by
    have := b3.fresh hx
    exact this z, fun z => b3.fresh (s4.free hls) z⟩
  have s05 := s03.trans s35
  walk_at "w"
  refine ⟨a, ns, 0 + 3, rfl, hsc.same s05, by decide, by decide, fun v1 H6 c1 s6 cv1 ok1 => ?_⟩
  walk_at "w"
  refine ⟨a, ns, 0 + 8, rfl, hsc.same (s05.trans s6), by decide, by decide, fun v2 H7 c2 s7 cv2 ok2 => ?_⟩
  walk_at "w"
  refine w_newL (by simp) fun cl H8 hcl s8 h8 _ => ?_
  walk_at "w"
  refine w_newL (by simp) fun c9 H9 hc9 s9 h9 _ => ?_
  walk_at "w"
  have s69 := ((s6.trans s7).trans s8).trans s9
  refine w_draw (szs := [9, 9]) (hsc.same (s05.trans s69)) (by decide) (by decide) h9 (by simp) (by simp) fun dg H10 ds s10 hdg dv => ?_
  obtain ⟨d0, d1, h10, ⟨l0, u0⟩, ⟨l1, u1⟩⟩ := draw2 dv
  have s610 := s69.trans s10
  have s310 := s35.trans s610
  have hnl10 := s310 _ _ hnl3
  have hm0 : (0 : Int) < ((m + 1 : Nat) : Int) := by omega
  walk_at "w"; walk_at "ixl"
  walk_at "w"
  refine w_lenL (SqL.of hnl10) ?_
  rw [hnlen]
  refine w_mod hm0 ?_
  walk_at "w"; walk_at "ixl"
  walk_at "w"
  refine w_lenL (SqL.of hnl10) ?_
  rw [hnlen]
  refine w_mod hm0 ?_
  obtain ⟨i1, e1⟩ := Int.eq_ofNat_of_zero_le (Int.emod_nonneg d0 (show ((m + 1 : Nat) : Int) ≠ 0 by omega))
  have li1 := Int.emod_lt_of_pos d0 hm0
  rw [e1] at li1
  obtain ⟨i2, e2⟩ := Int.eq_ofNat_of_zero_le (Int.emod_nonneg d1 (show ((m + 1 : Nat) : Int) ≠ 0 by omega))
  have li2 := Int.emod_lt_of_pos d1 hm0
  rw [e2] at li2
  rw [e1, e2]
  walk_at "w"
  refine w_newL (by simp) fun cu H11 hcu s11 h11 _ => ?_
  have s511 := s610.trans s11
  have s311 := s35.trans s511
  have sc11 := sc5.same s511
  have b11 := b5.same s511
  have h8' : H11 cl = some (.lst [v1, v2]) := ((s9.trans s10).trans s11) _ _ h8
  have hnl11 := s11 _ _ hnl10
  walk_at "w"
  walk_at "sl"
  refine w_mk sc11.ins rfl ?_
  walk_at "w"; walk_at "ixl"
  walk_at "w"; walk_at "ixl"
  refine w_ixL (SqL.of hnl11) (atI_nat (hname (by omega))) ?_
  walk_at "w"
  have s611 := ((((s7.trans s8).trans s9).trans s10).trans s11)
  refine ⟨S, A, [], nsOf m, fs.map fOf, "up", v1, c1, nm i1, rfl, sc11, b11, cv1.tx s611.tx, nm_mem hm4 (by omega), by simp, by simp, ?_⟩
  intro H12 kp12 sc12
  have k3 : ∀ {y : Addr} {o : HO}, y ∉ [S.ls] → H11 y = some o → H12 y = some o := fun {y o} n e => kp12.2 y o n e
  have hls3 : H3 S.ls = none := s4.free hls
  have nls : ∀ {y : Addr} {o : HO}, H3 y = some o → y ∉ [S.ls] := fun {y o} e => by
    simp; intro z; subst z; rw [hls3] at e; exact nomatch e
  have s312 : Same H3 H12 := fun y o e => k3 (nls e) (s311 y o e)
  have b12 : BookV K H12 A (nsOf m) (fs.map fOf) := b3.same s312
  have hls5 : ∀ {y : Addr} {o : HO}, H5 y = some o → y ≠ S.ls → H12 y = some o := fun {y o} e n => k3 (by simpa using n) (s511 y o e)
  have lsn : ∀ {y : Addr}, H5 y = none → y ∉ [S.ls] := fun {y} e => by simp; intro z; subst z; rw [ls5] at e; exact nomatch e
  have hcl12 : H12 cl = some (.lst [v1, v2]) := k3 (lsn ((s6.trans s7).free hcl)) h8'
  have hcu12 := k3 (lsn (s610.free hcu)) h11
  have hnl12 := s312 _ _ hnl3
  walk_at "w"
  refine w_mk sc12.ins rfl ?_
  walk_at "w"; walk_at "ixl"
  walk_at "w"; walk_at "ixl"
  refine w_ixL (SqL.of hnl12) (atI_nat (hname (by omega))) ?_
  walk_at "w"
  refine ⟨S, A, _, nsOf m, fs.map fOf, "side", v2, c2, nm i2, rfl, sc12, b12, cv2.tx ((((s8.trans s9).trans s10).trans s11).tx.trans kp12.1), nm_mem hm4 (by omega), by simp, by simp [up_side], ?_⟩
  intro H13 kp13 sc13
  have s313 : Same H3 H13 := fun y o e => kp13.2 y o (nls e) (s312 y o e)
  have hcl13 : H13 cl = some (.lst [v1, v2]) := kp13.2 _ _ (lsn ((s6.trans s7).free hcl)) hcl12
  have hcu13 := kp13.2 _ _ (lsn (s610.free hcu)) hcu12
  walk_at "w"
  refine w_newT (K := K) (by simp) fun pp H14 hpp s14 q14 _ _ => ?_
  have s314 := s313.trans s14
  exact q pp nl hl fl cl cu H14 S A m hs ws fs c1 c2 i1 i2 (s03.trans s314) q14 (s314 _ _ hnl3) (s314 _ _ hhl3) (s314 _ _ hfl3) (hfs.mono fun _ _ z => z.tx (s3.trans s314).tx) hm1 hm4 hok fok (dj hnl2) (dj hhl2) (dj hfl) frs (b3.same s314) (sc13.same s14) ok1 ok2 (by omega) (by omega)
/-! ### _law_so -/
def sp__law_so (K : Fg) : Sp := fun vs H Q _ => ∃ S A ss ns fs qv q c t x y f lo hi, vs = [.ref S.S, qv, .ref c] ∧ SceneV K H S A ss ∧ SceneOk ns ss ∧ BookV K H A ns fs ∧ QnV K H qv q ∧ QE ns ss q x y f lo hi ∧ FitV K H c ns t ∧ (∀ z ∈ ns, Bd 950 (t z)) ∧ ns.length ≤ 9 ∧
  ∀ H', Same H H' → Q (.bl (decide (wi lo hi (f (t y - t x))))) H'
theorem len__law_so {K : Fg} (vs : List V) (H : Hp) (Q : VK) (E : XK) (h : sp__law_so K vs H Q E) : vs.length = 3 := by
  obtain ⟨S, A, ss, ns, fs, qv, q, c, t, x, y, f, lo, hi, rfl, _⟩ := h; rfl
theorem dput_fit {K : Fg} {H : Hp} {kvs : List (Key × V)} {es : List (Str × Rat)} {x : Str} {v : V} {r : Rat} (h : All2 (KvR (Num K H)) kvs es) (n : Num K H v r) : All2 (KvR (Num K H)) (putK kvs (.inr x) v) (pt es x r) := h.pt n
theorem neg_num {K : Fg} {H : Hp} {p : Addr} {q : Rat} (h : SqT K H p [.int (0 - q.num), .int (q.den : Int)]) : Num K H (.ref p) (-q) := ⟨p, rfl, by
  rw [Rat.neg_num, Rat.neg_den]
  have e : (0 : Int) - q.num = -q.num := by omega
  rw [e] at h; exact h⟩
theorem pure__law_so {K : Fg} (vs : List V) (H : Hp) (Q : VK) (E : XK) (h : sp__law_so K vs H Q E) : t__law_so K (sp_plus K) (sp_lies_within K) (sp_value K) { nx := fun _ H' => Q .non H', rt := Q } (start n__law_so vs) H := by
  obtain ⟨S, A, ss, ns, fs, qv, q, c, t, x, y, f, lo, hi, rfl, sc, so, b, qn, qe, fv, bt, hn9, k⟩ := h
  have o := qe.o
  have blo := o.bl.mono (show 700 ≤ 4400 by decide)
  have bhi := o.bh.mono (show 700 ≤ 4400 by decide)
  have bx := bt _ o.x
  have b_y := bt _ o.y
  have bd : Bd 1901 (t y - t x) := bd_sub b_y bx (by decide)
  unfold t__law_so
  cases qe with
  | span o =>
    obtain ⟨p, q, lv, hv, rfl, h1, h2, h3, h4⟩ := qn
    have fv' := fv
    obtain ⟨ws, hc, hws⟩ := fv'
    have hwl := hws.len
    walk_at "w"; walk_at "ix"
    walk_at "w"
    refine w_ite (fun _ => ?_) (fun z => absurd rfl z)
    walk_at "w"
    refine w_dnewK fun d H1 hd s1 hd1 b1 => ?_
    walk_at "w"
    refine w_forLv rfl (SqL.of (s1 _ _ hc)) ⟨fun i σ H' => Same H H' ∧ ∃ kvs v4 v5, σ = [some (.ref S.S), some (.ref p), some (.ref c), some (.ref d), v4, v5, none, none, none, none, none] ∧ H' d = some (.dK kvs) ∧ All2 (KvR (Num K H')) kvs (ptAll [] ((ns.take i).map fun x => (x, t x))) ∧ kvs.length ≤ i, ?_, ?_, ?_, ?_⟩
    · exact ⟨s1, [], none, none, rfl, hd1, All2.nil, Nat.le_refl _⟩
    · rintro i σ H' _ ⟨s, _⟩; exact SqL.of (s _ _ hc)
    · rintro i v σ H' hv ⟨s, kvs, v4, v5, rfl, hkv, ha, hl⟩
      obtain ⟨e, he, p2, nv, rfl, hp2, hn2⟩ := hws.get hv
      rw [List.getElem?_map] at he
      rcases hz : ns[i]? with _ | z
      · rw [hz] at he; exact nomatch he
      rw [hz] at he; injection he with he; subst he
      have hi : i < ws.length := (List.getElem?_eq_some_iff.mp hv).1
      refine w_gtup (hp2.tx s.tx) rfl ?_
      walk_at "w"
      refine w_dput (K := K) hkv ?_ fun H2 h2 b2 t2 => ?_
      · have := (List.getElem?_eq_some_iff.mp hz).1
        omega
      · refine ⟨b2.same s hd, _, _, _, rfl, h2, ?_, ?_⟩
        · rw [take_snoc hz, List.map_append]
          show All2 _ _ (List.foldl _ _ (_ ++ _))
          rw [List.foldl_append]
          exact dput_fit (ha.mono fun _ _ z => ⟨z.1, z.2.tx t2⟩) (hn2.tx (s.tx.trans t2))
        · have h5 := length_putK kvs (.inr z) nv
          show (putK kvs (.inr z) nv).length ≤ i + 1
          omega
    · rintro σ H' ⟨s, kvs, v4, v5, rfl, hkv, ha, hl⟩
      rw [hwl, List.length_map, List.take_length] at ha
      have lkx := lk_ptAll t ns [] x (.inl o.x)
      have lky := lk_ptAll t ns [] y (.inl o.y)
      have get : ∀ z, lk (ptAll [] (ns.map fun x => (x, t x))) z = some (t z) → ∃ v, valV kvs (.inr z) = some v ∧ Num K H' v (t z) := fun z hz => by
        rcases ha.lk z with ⟨j1, j2⟩ | ⟨v, e, j1, j2, r⟩
        · rw [hz] at j2; exact nomatch j2
        · rw [hz] at j2; injection j2 with j2; subst j2
          exact ⟨v, j1, r⟩
      obtain ⟨vx, jx, nx⟩ := get x lkx
      obtain ⟨vy, jy, ny⟩ := get y lky
      have h1 := h1.tx s.tx
      walk_at "w"; walk_at "ix"
      refine w_gtup (h2.tx s.tx) rfl ?_
      have nx' := nx
      obtain ⟨px, rfl, hpx⟩ := nx'
      walk_at "w"
      refine w_dget (.inl hkv) jy ?_
      walk_at "w"
      refine w_dget (.inl hkv) jx ?_
      walk_at "w"; walk_at "ix"
      walk_at "w"
      refine w_dget (.inl hkv) jx ?_
      walk_at "w"; walk_at "ix"
      walk_at "w"
      refine w_newT (K := K) (by simp) fun pn H2 hpn s2 q2 _ _ => ?_
      have nneg := neg_num q2
      have bneg := bd_neg bx
      have ny2 := ny.tx s2.tx
      walk_at "w"
      walk_at "op2"
      intro r H3 s3 m3
      have e : t y + -t x = t y - t x := by grind
      rw [e] at m3
      have s03 := (s.trans s2).trans s3
      walk_at "w"
      exact ⟨_, _, _, _, lo, hi, rfl, m3, h3.tx s03.tx, h4.tx s03.tx, bd.mono (by decide), blo, bhi, k H3 s03⟩
  | @value nm mo lo hi s o is gap =>
    obtain ⟨p, lv, hv, rfl, h1, h2, h3⟩ := qn
    walk_at "w"; walk_at "ix"
    walk_at "w"
    refine w_ite (fun z => absurd z value_span) (fun _ => ?_)
    walk_at "w"
    refine w_mk sc.ins rfl ?_
    walk_at "w"; walk_at "ix"
    walk_at "w"; walk_at "ix"
    walk_at "w"
    refine ⟨S, A, ss, ns, fs, nm, s, y, c, t, rfl, sc, b, is, so, o.y, fv, bt, ?_⟩
    intro r H1 s1 m1
    have h1 := h1.tx s1.tx
    have bs : Bd 4400 (shownF s.clip.lamp (t y - t s.cue)) := (so.clip s is.mem).lamp.bd_shown (bd.mono (by decide))
    walk_at "w"; walk_at "ix"
    walk_at "w"; walk_at "ix"
    walk_at "w"
    exact ⟨_, _, _, _, lo, hi, rfl, m1, h2.tx s1.tx, h3.tx s1.tx, bs, blo, bhi, k H1 s1⟩

/-! KLawG -/
set_option Elab.async false
set_option linter.all false
set_option maxRecDepth 100000
set_option maxHeartbeats 2000000
/-! ### what stands when the law has its scene -/
def FtV (K : Fg) (H : Hp) (P : Addr → Prop) (ns : List Str) (v : V) (t : Str → Rat) : Prop := ∃ c, v = .ref c ∧ P c ∧ FitV K H c ns t
theorem FtV.kp {K : Fg} {H H' : Hp} {P : Addr → Prop} {X : List Addr} {ns : List Str} {v : V} {t : Str → Rat} (h : FtV K H P ns v t) (k : Kp K X H H') (n : ∀ a, P a → a ∉ X) : FtV K H' P ns v t := by
  obtain ⟨c, e, p, f⟩ := h
  exact ⟨c, e, p, f.kp k (n c p)⟩
/-- a fit of the facts, with few bits -/
structure FtOk (m : Nat) (fs : List IFact) (t : Str → Rat) : Prop where
  fit : Fit (fs.map fOf) t
  bd : ∀ z ∈ nsOf m, Bd 950 (t z)
structure Base where
  a : Addr
  ns : List Int
  nl : Addr
  hl : Addr
  fl : Addr
  cl : Addr
  cu : Addr
  L : Addr
  rs : List Addr
  S : SA
  A : BA
  m : Nat
  hs : List Int
  fs : List IFact
  M : Nat → Nat → Int
  c1 : Clip
  c2 : Clip
  i1 : Nat
  i2 : Nat
def Base.ss (B : Base) : List Show := two B.c1 B.c2 B.i1 B.i2
structure Base.Ok (B : Base) (K : Fg) (H : Hp) : Prop where
  sc : SqL K H B.a (B.ns.map V.int)
  nl : H B.nl = some (.lst ((nsOf B.m).map V.str))
  nlA : B.nl ∉ B.A.ls
  hl : H B.hl = some (.lst (B.hs.map V.int))
  mat : MatV K H B.L B.rs (B.m + 1) B.M
  bk : BookV K H B.A (nsOf B.m) (B.fs.map fOf)
  scn : SceneV K H B.S B.A B.ss
structure Base.Math (B : Base) : Prop where
  m1 : 1 ≤ B.m
  m4 : B.m ≤ 4
  hid : HidOk B.m B.hs
  fok : FsOk B.m B.hs 4 B.fs
  fw : FW (B.m + 1) (hidF B.hs) (Arcs B.fs) (B.m + 1) B.M
  k1 : ClOk B.c1
  k2 : ClOk B.c2
  l1 : B.i1 < B.m + 1
  l2 : B.i2 < B.m + 1
theorem Base.Ok.same {B : Base} {K : Fg} {H H' : Hp} (o : B.Ok K H) (s : Same H H') : B.Ok K H' := ⟨o.sc.same s, s _ _ o.nl, o.nlA, s _ _ o.hl, o.mat.same s, o.bk.same s, o.scn.same s⟩
theorem Base.Math.sok {B : Base} (M : B.Math) : SceneOk (nsOf B.m) B.ss := two_ok M.k1 M.k2 M.m4 M.l1 M.l2
theorem Base.Math.bok {B : Base} (M : B.Math) : BookOk (nsOf B.m) (B.fs.map fOf) := M.fok.bookOk M.hid M.m4 (by have := M.fok.len; have := M.m4; omega)
/-! ### far, in sixths -/
theorem divInt_neg (z : Int) : Rat.divInt (-z) 6 = -Rat.divInt z 6 := by
  have h1 := six_eq z
  have h2 := six_eq (-z)
  have e2 : ((6 : Nat) : Rat) = 6 := rfl
  rw [e2] at h1 h2
  rw [Rat.intCast_neg] at h2
  grind
theorem FW.le {B : Base} (M : B.Math) : ∀ (k : Nat) {i j : Nat} {q : Rat}, i < B.m + 1 → j < B.m + 1 → Wn (B.fs.map fOf) k (nm i) (nm j) q → Rat.divInt (B.M i j) 6 ≤ q
  | 0, i, j, q, hi, hj, ⟨h1, h2⟩ => by
    have m4 := M.m4
    have e := nm_inj (by omega) (by omega) h1
    subst e; subst h2
    rw [M.fw.self i hi]; decide
  | k + 1, i, j, q, hi, hj, ⟨c, r, d, h1, h2, h3⟩ => by
    have m4 := M.m4
    obtain ⟨g, hg, s, e⟩ := h2
    obtain ⟨f, hf, rfl⟩ := List.mem_map.mp hg
    have ok := M.fok.all f hf
    obtain ⟨l1, l2⟩ := ok.lt M.hid
    have key : ∀ (x : Nat) (w : Int), x < B.m + 1 → c = nm x → d = Rat.divInt w 6 → Arcs B.fs x j w → Rat.divInt (B.M i j) 6 ≤ q := by
      intro x w hx ec ed arc
      subst ec; subst ed; subst h3
      have ih := FW.le M k hi hx h1
      have t := M.fw.tri i j x hi hj hx hx
      have a := M.fw.arc x j w hx hj arc
      have t2 : Rat.divInt (B.M i j) 6 ≤ Rat.divInt (B.M i x + w) 6 := six_le.mpr (by omega)
      have t3 : Rat.divInt (B.M i x + w) 6 = Rat.divInt (B.M i x) 6 + Rat.divInt w 6 := by
        have := six_sub (x := B.M i x + w) (y := w)
        rw [show B.M i x + w - w = B.M i x by omega] at this
        grind
      grind
    unfold Sc.arc at e
    cases s with
    | true =>
      simp at e
      obtain ⟨e1, e2, e3⟩ := e
      have e1 : nm f.a = c := e1
      have e2 : nm f.b = nm j := e2
      have ej := nm_inj (by omega) (by omega) e2
      exact key f.a f.hi l1 e1.symm e3.symm ⟨f, hf, .inl ⟨rfl, ej, rfl⟩⟩
    | false =>
      simp at e
      obtain ⟨e1, e2, e3⟩ := e
      have e1 : nm f.b = c := e1
      have e2 : nm f.a = nm j := e2
      have ej := nm_inj (by omega) (by omega) e2
      have e3 : -Rat.divInt f.lo 6 = d := e3
      exact key f.b (-f.lo) l2 e1.symm (by rw [divInt_neg]; exact e3.symm) ⟨f, hf, .inr ⟨rfl, ej, rfl⟩⟩
theorem dst_six {ns : List Str} {fs : List Fact} (ok : BookOk ns fs) {x y : Str} (hx : x ∈ ns) (hy : y ∈ ns) : ∃ z : Int, dst fs x y = Rat.divInt z 6 ∧ z.natAbs ≤ 54000 := by
  obtain ⟨⟨k, w⟩, h2⟩ := ok.net.isD hx hy
  obtain ⟨k', q', e1, e2, e3⟩ := w.few ok.net hx
  have e4 := h2 _ _ e2
  have e5 : q' = dst fs x y := Rat.le_antisymm e3 e4
  have nl := ok.nl
  obtain ⟨z, hz, bz⟩ := (e2.mx ok.mx).mono (show k' * 6000 ≤ 54000 by omega)
  refine ⟨z, ?_, bz⟩
  rw [← e5]
  have := six_eq z
  have e : ((6 : Nat) : Rat) = 6 := rfl
  rw [e] at hz this
  grind
/-- far between two moments: it lies in the span, and it is small -/
theorem far_in {B : Base} (M : B.Math) {i j : Nat} (hi : i < B.m + 1) (hj : j < B.m + 1) : Rat.divInt (B.M i j) 6 ≤ dst (B.fs.map fOf) (nm i) (nm j) ∧ B.M i j ≤ 54000 ∧ 0 ≤ B.M i j + B.M j i := by
  have hx := nm_mem M.m4 hi
  have hy := nm_mem M.m4 hj
  obtain ⟨⟨k, w⟩, _⟩ := M.bok.net.isD hx hy
  have h1 := FW.le M k hi hj w
  obtain ⟨z, ez, bz⟩ := dst_six M.bok hx hy
  refine ⟨h1, ?_, ?_⟩
  · rw [ez] at h1
    have := six_le.mp h1
    omega
  · have := M.fw.ge i j hi hj
    have := M.fw.ge j i hj hi
    omega
theorem draw7 {K : Fg} {H : Hp} {D : Addr} {s0 s1 s2 s3 s4 s5 s6 : Int} {ds : List Int} (h : DrawV K H D [s0, s1, s2, s3, s4, s5, s6] ds) : ∃ d0 d1 d2 d3 d4 d5 d6, H D = some (.lst [.int d0, .int d1, .int d2, .int d3, .int d4, .int d5, .int d6]) ∧ (0 ≤ d0 ∧ d0 < s0) ∧ (0 ≤ d1 ∧ d1 < s1) ∧ (0 ≤ d2 ∧ d2 < s2) ∧ (0 ≤ d3 ∧ d3 < s3) ∧ (0 ≤ d4 ∧ d4 < s4) ∧ (0 ≤ d5 ∧ d5 < s5) ∧ (0 ≤ d6 ∧ d6 < s6) := by
  obtain ⟨h1, h2⟩ := h
  obtain ⟨d0, ds, rfl, r0, h2⟩ := all2_cons h2
  obtain ⟨d1, ds, rfl, r1, h2⟩ := all2_cons h2
  obtain ⟨d2, ds, rfl, r2, h2⟩ := all2_cons h2
  obtain ⟨d3, ds, rfl, r3, h2⟩ := all2_cons h2
  obtain ⟨d4, ds, rfl, r4, h2⟩ := all2_cons h2
  obtain ⟨d5, ds, rfl, r5, h2⟩ := all2_cons h2
  obtain ⟨d6, ds, rfl, r6, h2⟩ := all2_cons h2
  obtain rfl := all2_nil h2
  exact ⟨d0, d1, d2, d3, d4, d5, d6, h1, r0, r1, r2, r3, r4, r5, r6⟩
theorem atI_two {P : V → Prop} {v1 v2 : V} {i : Int} (h0 : 0 ≤ i) (h1 : i < 2) (p1 : P v1) (p2 : P v2) : ∃ v, atI [v1, v2] i = some v ∧ P v := by
  have : i = 0 ∨ i = 1 := by omega
  rcases this with rfl | rfl
  · exact ⟨v1, rfl, p1⟩
  · exact ⟨v2, rfl, p2⟩
/-! ### the claims and the fits so far -/
structure Sofar (K : Fg) (Hb : Hp) (B : Base) (cm ft : Addr) (H : Hp) (n : Nat) : Prop where
  same : Same Hb H
  ne : cm ≠ ft
  nc : Hb cm = none
  nf : Hb ft = none
  claims : ∃ ws cls, H cm = some (.lst ws) ∧ All2 (ClmV K H (fun c => Hb c = none ∧ c ≠ cm ∧ c ≠ ft) (nsOf B.m)) ws cls ∧ (∀ cl ∈ cls, ClmOk (nsOf B.m) B.ss (B.fs.map fOf) cl) ∧ ws.length ≤ n
  fits : ∃ ws ts, H ft = some (.lst ws) ∧ All2 (FtV K H (fun c => Hb c = none ∧ c ≠ cm ∧ c ≠ ft) (nsOf B.m)) ws ts ∧ (∀ t ∈ ts, FtOk B.m B.fs t) ∧ ws.length ≤ n + 3
theorem Sofar.go {K : Fg} {Hb H H' : Hp} {B : Base} {cm ft : Addr} {n : Nat} (o : Sofar K Hb B cm ft H n) (s : Same H H') : Sofar K Hb B cm ft H' n where
  same := o.same.trans s
  ne := o.ne
  nc := o.nc
  nf := o.nf
  claims := by
    obtain ⟨ws, cls, h1, h2, h3, h4⟩ := o.claims
    exact ⟨ws, cls, s _ _ h1, h2.mono fun _ _ z => z.same s, h3, h4⟩
  fits := by
    obtain ⟨ws, ts, h1, h2, h3, h4⟩ := o.fits
    exact ⟨ws, ts, s _ _ h1, h2.mono fun _ _ z => z.kp (Kp.of (X := []) s) (by simp), h3, h4⟩
theorem Sofar.fresh {K : Fg} {Hb H : Hp} {B : Base} {cm ft : Addr} {n : Nat} (o : Sofar K Hb B cm ft H n) {c : Addr} (h : H c = none) : Hb c = none ∧ c ≠ cm ∧ c ≠ ft := by
  obtain ⟨ws, cls, h1, _⟩ := o.claims
  obtain ⟨ws', ts, h2, _⟩ := o.fits
  exact ⟨o.same.free h, fun z => (by subst z; rw [h1] at h; exact nomatch h), fun z => (by subst z; rw [h2] at h; exact nomatch h)⟩
/-- a claim more -/
theorem w_claim {K : Fg} {Hb H H' : Hp} {B : Base} {cm ft : Addr} {n : Nat} {P : V → Hp → Prop} {v : V} {cl : Cl} (o : Sofar K Hb B cm ft H n) (s : Same H H') (hn : n ≤ 1000) (h : ClmV K H' (fun c => H c = none) (nsOf B.m) v cl) (ok : ClmOk (nsOf B.m) B.ss (B.fs.map fOf) cl)
    (k : ∀ H5, But cm H' H5 → Tx K H' H5 → Sofar K Hb B cm ft H5 (n + 1) → P .non H5) : rAppend (.ref cm) [v] H' P := by
  have o' := o.go s
  obtain ⟨ws, cls, h1, h2, h3, h4⟩ := o'.claims
  refine w_append (K := K) h1 (by omega) fun H5 h5 b5 t5 => k H5 b5 t5 ?_
  have kp : Kp K [cm] H' H5 := Kp.but b5 t5 (by simp)
  obtain ⟨wf, ts, g1, g2, g3, g4⟩ := o'.fits
  refine ⟨b5.same o'.same o.nc, o.ne, o.nc, o.nf, ⟨_, cls ++ [cl], h5, All2.snoc (h2.mono fun _ _ z => z.kp kp fun a pa => by simpa using pa.2.1) (((h.imp fun a ha => o.fresh ha)).kp kp fun a pa => by simpa using pa.2.1), ?_, by simp; omega⟩, ⟨wf, ts, (b5 ft o.ne.symm).trans g1, g2.mono fun _ _ z => z.kp kp fun a pa => by simpa using pa.2.1, g3, by omega⟩⟩
  intro c hc
  rcases List.mem_append.mp hc with e | e
  · exact h3 c e
  · simp at e; subst e; exact ok
/-- a fit more -/
theorem w_fit {K : Fg} {Hb H H' : Hp} {B : Base} {cm ft : Addr} {n : Nat} {P : V → Hp → Prop} {c : Addr} {t : Str → Rat} (o : Sofar K Hb B cm ft H n) (s : Same H H') (hn : n ≤ 1000) (hc : H c = none) (h : FitV K H' c (nsOf B.m) t) (ok : FtOk B.m B.fs t)
    (k : ∀ H5, But ft H' H5 → Tx K H' H5 → Sofar K Hb B cm ft H5 (n + 1) → P .non H5) : rAppend (.ref ft) [.ref c] H' P := by
  have o' := o.go s
  obtain ⟨ws, ts, h1, h2, h3, h4⟩ := o'.fits
  refine w_append (K := K) h1 (by omega) fun H5 h5 b5 t5 => k H5 b5 t5 ?_
  have kp : Kp K [ft] H' H5 := Kp.but b5 t5 (by simp)
  obtain ⟨wf, cls, g1, g2, g3, g4⟩ := o'.claims
  refine ⟨b5.same o'.same o.nf, o.ne, o.nc, o.nf, ⟨wf, cls, (b5 cm o.ne).trans g1, g2.mono fun _ _ z => z.kp kp fun a pa => by simpa using pa.2.2, g3, by omega⟩, ⟨_, ts ++ [t], h5, All2.snoc (h2.mono fun _ _ z => z.kp kp fun a pa => by simpa using pa.2.2) ((show FtV K H' (fun c => Hb c = none ∧ c ≠ cm ∧ c ≠ ft) (nsOf B.m) (.ref c) t from ⟨c, rfl, o.fresh hc, h⟩).kp kp fun a pa => by simpa using pa.2.2), ?_, by simp; omega⟩⟩
  intro c hc
  rcases List.mem_append.mp hc with e | e
  · exact h3 c e
  · simp at e; subst e; exact ok
theorem quarter_bd {z : Int} (h1 : -10 ≤ z) (h2 : z ≤ 10) : Bd 6 (Rat.divInt z 4) := bd_divInt (by omega) (by decide) (by decide)
theorem third_nums {z : Int} (h1 : 1 ≤ z) (h2 : z ≤ 100) : Bd 8 (Rat.divInt z 3) ∧ 1 / 3 ≤ Rat.divInt z 3 := by
  refine ⟨bd_divInt (by omega) (by decide) (by decide), ?_⟩
  rw [Rat.divInt_eq_div]
  have e3 : ((3 : Int) : Rat) = 3 := rfl
  have e1 : ((1 : Int) : Rat) = 1 := rfl
  have := int_rat_le h1
  rw [e1] at this
  rw [e3]; grind
theorem six_bd {z : Int} (h : z.natAbs ≤ 100000) : Bd 61 (Rat.divInt z 6) := bd_divInt (by omega) (by decide) (by decide)

/-! KLawH -/
set_option Elab.async false
set_option linter.all false
set_option maxRecDepth 100000
set_option maxHeartbeats 4000000
/-! ### one turn of the law's first loop -/
def tTurn (K : Fg) : TS := (tSeq (tAsg (tCall (sp__law_draw K) [] E0 (tCons (tVar 0) (tCons (tOp (rI0 fun i j => .int (i + j)) (tC (.int 13)) (tVar 11)) (tCons (tLst (tCons (tC (.int 9)) (tCons (tC (.int 9)) (tCons (tC (.int 60)) (tCons (tC (.int 9)) (tCons (tC (.int 9)) (tCons (tC (.int 9)) (tCons (tC (.int 2)) tNil)))))))) tNil)))) (gName 12))
  (tSeq (tAsg (tOp (rI (fun _ j => 0 < j) fun i j => .int (i % j)) (tOp (rIxL K) (tVar 12) (tC (.int 0))) (tCB (rLenQ K) (tCons (tVar 1) tNil))) (gName 13))
  (tSeq (tAsg (tOp (rI (fun _ j => 0 < j) fun i j => .int (i % j)) (tOp (rI0 fun i j => .int (i + j)) (tOp (rI0 fun i j => .int (i + j)) (tVar 13) (tC (.int 1))) (tOp (rI (fun _ j => 0 < j) fun i j => .int (i % j)) (tOp (rIxL K) (tVar 12) (tC (.int 1))) (tOp (rI0 fun i j => .int (i - j)) (tCB (rLenQ K) (tCons (tVar 1) tNil)) (tC (.int 1))))) (tCB (rLenQ K) (tCons (tVar 1) tNil))) (gName 14))
  (tSeq (tAsg (tOp (rI0 fun i j => .int (i - j)) (tOp (rI (fun _ j => 0 < j) fun i j => .int (i % j)) (tOp (rIxL K) (tVar 12) (tC (.int 2))) (tOp (rI0 fun i j => .int (i + j)) (tOp (rI0 fun i j => .int (i + j)) (tOp (rIxL K) (tOp (rIxL K) (tVar 8) (tVar 13)) (tVar 14)) (tOp (rIxL K) (tOp (rIxL K) (tVar 8) (tVar 14)) (tVar 13))) (tC (.int 1)))) (tOp (rIxL K) (tOp (rIxL K) (tVar 8) (tVar 14)) (tVar 13))) (gName 15))
  (tSeq (tDrop (tBM K "list" rAppend (tVar 10) (tCons (tMeth (He.ga K "Book") "fit_with" (sp_fit_with K) [] E0 (tVar 7) (tCons (tOp (rIxL K) (tVar 1) (tVar 13)) (tCons (tOp (rIxL K) (tVar 1) (tVar 14)) (tCons (tCall (sp__law_six K) [] E0 (tCons (tVar 15) tNil)) tNil)))) tNil)))
  (tSeq (tAsg (tOp (rI0 fun i j => .int (i - j)) (tOp (rI0 fun i j => .int (i + j)) (tOp (rIxL K) (tLst (tCons (tOp (rI0 fun i j => .int (i - j)) (tC (.int 0)) (tOp (rIxL K) (tOp (rIxL K) (tVar 8) (tVar 14)) (tVar 13))) (tCons (tOp (rIxL K) (tOp (rIxL K) (tVar 8) (tVar 13)) (tVar 14)) tNil))) (tOp (rI (fun _ j => 0 < j) fun i j => .int (i % j)) (tOp (rIxL K) (tVar 12) (tC (.int 3))) (tC (.int 2)))) (tOp (rIxL K) (tVar 12) (tC (.int 4)))) (tC (.int 4))) (gName 16))
  (tSeq (tDrop (tBM K "list" rAppend (tVar 9) (tCons (tCall (sp_answer K) [] E0 (tCons (tVar 4) (tCons (tTup (tCons (tC (.str "span")) (tCons (tTup (tCons (tOp (rIxL K) (tVar 1) (tVar 13)) (tCons (tOp (rIxL K) (tVar 1) (tVar 14)) (tCons (tCall (sp__law_six K) [] E0 (tCons (tVar 16) tNil)) (tCons (tCall (sp__law_six K) [] E0 (tCons (tOp (rI0 fun i j => .int (i + j)) (tVar 16) (tOp (rI CMulW fun i j => .int (i * j)) (tC (.int 4)) (tOp (rIxL K) (tVar 12) (tC (.int 5))))) tNil)) tNil))))) tNil))) tNil))) tNil)))
  (tSeq (tAsg (tOp (rIxL K) (tLst (tCons (tC (.str "up")) (tCons (tC (.str "side")) tNil))) (tOp (rIxL K) (tVar 12) (tC (.int 6)))) (gName 17))
  (tSeq (tAsg (tMeth (He.ga K "Scene") "bounds" (sp_bounds K) [] E0 (tVar 4) (tCons (tVar 17) (tCons (tOp (rIxL K) (tVar 1) (tVar 14)) tNil))) (gTup K 2 (gCons (gName 18) (gCons (gName 19) gNil))))
  (tSeq (tAsg (tCall (sp_plus K) [] E0 (tCons (tOp (rIxL K) (tLst (tCons (tVar 18) (tCons (tVar 19) tNil))) (tOp (rI (fun _ j => 0 < j) fun i j => .int (i % j)) (tOp (rIxL K) (tVar 12) (tC (.int 4))) (tC (.int 2)))) (tCons (tCall (sp_number K) [] E0 (tCons (tOp (rI0 fun i j => .int (i - j)) (tOp (rIxL K) (tVar 12) (tC (.int 3))) (tC (.int 4))) (tCons (tC (.int 4)) tNil))) tNil))) (gName 20))
  (tDrop (tBM K "list" rAppend (tVar 9) (tCons (tCall (sp_answer K) [] E0 (tCons (tVar 4) (tCons (tTup (tCons (tC (.str "value")) (tCons (tVar 17) (tCons (tOp (rIxL K) (tVar 1) (tVar 14)) (tCons (tVar 20) (tCons (tCall (sp_plus K) [] E0 (tCons (tVar 20) (tCons (tCall (sp_number K) [] E0 (tCons (tOp (rI0 fun i j => .int (i + j)) (tC (.int 1)) (tOp (rI CMulW fun i j => .int (i * j)) (tOp (rIxL K) (tVar 12) (tC (.int 5))) (tOp (rIxL K) (tVar 12) (tC (.int 5))))) (tCons (tC (.int 3)) tNil))) tNil))) tNil)))))) tNil))) tNil)))))))))))))
def sgT (B : Base) (cm ft : Addr) (w : List (Option V)) : Sl := [some (.ref B.a), some (.ref B.nl), some (.ref B.hl), some (.ref B.fl), some (.ref B.S.S), some (.ref B.cl), some (.ref B.cu), some (.ref B.A.B), some (.ref B.L), some (.ref cm), some (.ref ft)] ++ w
theorem law_turn {K : Fg} {Hb H : Hp} {B : Base} {cm ft : Addr} {j : Nat} {D : Ends} {v12 v13 v14 v15 v16 v17 v18 v19 v20 : Option V} (o : B.Ok K Hb) (M : B.Math) (so : Sofar K Hb B cm ft H (3 * j)) (hj : j < 4)
    (k : ∀ σ' H', Sofar K Hb B cm ft H' (3 * (j + 1)) → (∃ v12 v13 v14 v15 v16 v17 v18 v19 v20, σ' = sgT B cm ft [some (.int (0 + (j : Int))), v12, v13, v14, v15, v16, v17, v18, v19, v20, none, none, none, none, none, none, none, none]) → D.nx σ' H') :
    tTurn K D (sgT B cm ft [some (.int (0 + (j : Int))), v12, v13, v14, v15, v16, v17, v18, v19, v20, none, none, none, none, none, none, none, none]) H := by
  have m1 := M.m1
  have m4 := M.m4
  have hnlen : ((nsOf B.m).map V.str).length = B.m + 1 := by rw [List.length_map, nsOf_len m4]
  have hname : ∀ {i : Nat}, i < B.m + 1 → ((nsOf B.m).map V.str)[i]? = some (.str (nm i)) := fun {i} hi => by rw [List.getElem?_map, nm_at B.m (by omega) i hi]; rfl
  have hm0 : (0 : Int) < ((B.m + 1 : Nat) : Int) := by omega
  have o0 := o.same so.same
  unfold tTurn sgT
  simp only [List.cons_append, List.nil_append]
  walk_at "w"
  refine w_newL (by simp) fun c1 H1 hc1 s1 h1 _ => ?_
  walk_at "w"
  refine w_draw (szs := [9, 9, 60, 9, 9, 9, 2]) (o0.sc.same s1) (by omega) (by omega) h1 (by simp) (by simp) fun dg H2 ds s2 hdg dv => ?_
  obtain ⟨d0, d1, d2, d3, d4, d5, d6, h2, ⟨l0, u0⟩, ⟨l1, u1⟩, ⟨l2, u2⟩, ⟨l3, u3⟩, ⟨l4, u4⟩, ⟨l5, u5⟩, ⟨l6, u6⟩⟩ := draw7 dv
  have s02 := s1.trans s2
  have so2 := so.go s02
  have o2 := o0.same s02
  have hnl2 := o2.nl
  walk_at "w"
  walk_at "sl"
  walk_at "ixl"
  walk_at "w"
  refine w_lenL (SqL.of hnl2) ?_
  rw [hnlen]
  refine w_mod hm0 ?_
  obtain ⟨F, hF⟩ := Int.eq_ofNat_of_zero_le (Int.emod_nonneg d0 (show ((B.m + 1 : Nat) : Int) ≠ 0 by omega))
  have lF := Int.emod_lt_of_pos d0 hm0
  rw [hF] at lF
  rw [hF]
  have lF : F < B.m + 1 := by omega
  walk_at "w"
  walk_at "sl"
  walk_at "ixl"
  walk_at "w"
  refine w_lenL (SqL.of hnl2) ?_
  rw [hnlen]
  walk_at "w"
  refine w_mod (by omega) ?_
  walk_at "w"
  refine w_lenL (SqL.of hnl2) ?_
  rw [hnlen]
  refine w_mod hm0 ?_
  obtain ⟨G, hG⟩ := Int.eq_ofNat_of_zero_le (Int.emod_nonneg ((F : Int) + 1 + d1 % (((B.m + 1 : Nat) : Int) - 1)) (show ((B.m + 1 : Nat) : Int) ≠ 0 by omega))
  have lG := Int.emod_lt_of_pos ((F : Int) + 1 + d1 % (((B.m + 1 : Nat) : Int) - 1)) hm0
  rw [hG] at lG
  rw [hG]
  have lG : G < B.m + 1 := by omega
  obtain ⟨f1, f2, f3⟩ := far_in M lF lG
  obtain ⟨g1, g2, g3⟩ := far_in M lG lF
  walk_at "w"
  walk_at "sl"
  walk_at "ixl"
  walk_at "w"
  refine w_mrow o2.mat lF fun rF xs hrF hx hxl => ?_
  walk_at "w"
  refine w_mcell o2.mat hrF lG ?_
  walk_at "w"
  refine w_mrow o2.mat lG fun rG xs hrG hx hxl => ?_
  walk_at "w"
  refine w_mcell o2.mat hrG lF ?_
  walk_at "w"
  refine w_mod (by omega) ?_
  walk_at "w"
  refine w_mrow o2.mat lG fun rG' xs hrG' hx hxl => ?_
  rw [hrG] at hrG'; injection hrG' with hrG'; subst hrG'
  walk_at "w"
  refine w_mcell o2.mat hrG lF ?_
  have p0 := Int.emod_nonneg d2 (show B.M F G + B.M G F + 1 ≠ 0 by omega)
  have p1 := Int.emod_lt_of_pos d2 (show 0 < B.M F G + B.M G F + 1 by omega)
  walk_at "w"
  walk_at "sl"
  obtain ⟨PS, hPS⟩ : ∃ PS, PS = d2 % (B.M F G + B.M G F + 1) - B.M G F := ⟨_, rfl⟩
  rw [← hPS]
  have ps1 : -B.M G F ≤ PS := by omega
  have ps2 : PS ≤ B.M F G := by omega
  have psb : PS.natAbs ≤ 100000 := by omega
  have q1 : -dst (B.fs.map fOf) (nm G) (nm F) ≤ Rat.divInt PS 6 := by
    have := six_le.mpr ps1
    rw [divInt_neg] at this
    grind
  have q2 : Rat.divInt PS 6 ≤ dst (B.fs.map fOf) (nm F) (nm G) := Rat.le_trans (six_le.mpr ps2) f1
  have xF := nm_mem m4 lF
  have xG := nm_mem m4 lG
  obtain ⟨wf, ts, hft2, _, _, _⟩ := so2.fits
  refine w_tyL (SqL.of hft2) ?_
  walk_at "w"
  refine w_mk o2.bk.ins rfl ?_
  walk_at "w"
  refine w_ixL (SqL.of hnl2) (atI_nat (hname lF)) ?_
  walk_at "w"
  refine w_ixL (SqL.of hnl2) (atI_nat (hname lG)) ?_
  walk_at "w"
  refine ⟨PS, rfl, fun r3 H3 s3 m3 => ?_⟩
  walk_at "w"
  refine ⟨B.A, nsOf B.m, B.fs.map fOf, nm F, nm G, r3, Rat.divInt PS 6, rfl, o2.bk.same s3, M.bok, xF, xG, m3, (six_bd psb).mono (by decide), q1, q2, fun c4 H4 s4 hc4 fv4 => ?_⟩
  obtain ⟨e1, e2, e3, e4⟩ := fitW_ok M.bok xF xG q1 q2 ((six_bd psb).mono (by decide))
  walk_at "w"
  refine w_fit so2 (s3.trans s4) (by omega) (s3.free hc4) fv4 ⟨e4, e3⟩ fun H5 b5 t5 so5 => ?_
  have o5 := o.same so5.same
  obtain ⟨_, dgc, dgf⟩ := (so.go s1).fresh hdg
  have h5 : H5 dg = some (.lst [.int d0, .int d1, .int d2, .int d3, .int d4, .int d5, .int d6]) := (b5 dg dgf).trans ((s3.trans s4) _ _ h2)
  have hnl5 := o5.nl
  walk_at "w"
  refine w_mrow o5.mat lG fun rG' xs hrG' hx hxl => ?_
  rw [hrG] at hrG'; injection hrG' with hrG'; subst hrG'
  walk_at "w"
  refine w_mcell o5.mat hrG lF ?_
  walk_at "w"
  refine w_mrow o5.mat lF fun rF' xs hrF' hx hxl => ?_
  rw [hrF] at hrF'; injection hrF' with hrF'; subst hrF'
  walk_at "w"
  refine w_mcell o5.mat hrF lG ?_
  walk_at "w"
  refine w_newL (by simp) fun c6 H6 hc6 s6 h6 _ => ?_
  have h56 := s6 _ _ h5
  walk_at "w"; walk_at "ixl"
  walk_at "w"
  refine w_mod (by decide) ?_
  obtain ⟨vlow, hvlow, low, rfl, blow⟩ := atI_two (P := fun v => ∃ z : Int, v = .int z ∧ z.natAbs ≤ 60000) (v1 := .int (0 - B.M G F)) (v2 := .int (B.M F G)) (i := d3 % 2) (Int.emod_nonneg d3 (by decide)) (Int.emod_lt_of_pos d3 (by decide)) ⟨_, rfl, by omega⟩ ⟨_, rfl, by omega⟩
  refine w_ixL (SqL.of h6) hvlow ?_
  walk_at "w"; walk_at "ixl"
  walk_at "w"
  walk_at "sl"
  obtain ⟨LO, hLO⟩ : ∃ LO, LO = low + d4 - 4 := ⟨_, rfl⟩
  rw [← hLO]
  have bLO : LO.natAbs ≤ 70000 := by omega
  have so6 := so5.go s6
  have o6 := o5.same s6
  obtain ⟨wc6, cls6, hcm6, _, _, _⟩ := so6.claims
  refine w_tyL (SqL.of hcm6) ?_
  walk_at "w"
  refine w_ixL (SqL.of o6.nl) (atI_nat (hname lF)) ?_
  walk_at "w"
  refine w_ixL (SqL.of o6.nl) (atI_nat (hname lG)) ?_
  walk_at "w"
  refine ⟨LO, rfl, fun r7 H7 s7 m7 => ?_⟩
  have h57 := s7 _ _ h56
  walk_at "w"; walk_at "ixl"
  walk_at "w"
  refine w_rI (small_mul (by decide) (by rw [pow100]; omega)) ?_
  walk_at "w"
  refine ⟨LO + 4 * d5, rfl, fun r8 H8 s8 m8 => ?_⟩
  walk_at "w"
  refine w_newT (K := K) (by simp) fun p9 H9 hp9 s9 q9 _ _ => ?_
  walk_at "w"
  refine w_newT (K := K) (by simp) fun p10 H10 hp10 s10 q10 _ _ => ?_
  walk_at "w"
  have s610 := ((s7.trans s8).trans s9).trans s10
  have o10 := o6.same s610
  have qe : QE (nsOf B.m) B.ss (.span (nm F) (nm G) (Rat.divInt LO 6) (Rat.divInt (LO + 4 * d5) 6)) (nm F) (nm G) (fun z => z) (Rat.divInt LO 6) (Rat.divInt (LO + 4 * d5) 6) :=
    .span ⟨xF, xG, six_le.mpr (by omega), (six_bd (by omega)).mono (by decide), (six_bd (by omega)).mono (by decide)⟩
  refine ⟨B.S, B.A, B.ss, nsOf B.m, B.fs.map fOf, .ref p10, .span (nm F) (nm G) (Rat.divInt LO 6) (Rat.divInt (LO + 4 * d5) 6), _, _, _, _, _, rfl, o10.scn, M.sok, o10.bk, M.bok, ⟨p10, p9, r7, r8, rfl, q10, q9.tx s10.tx, m7.tx ((s8.trans s9).trans s10).tx, m8.tx (s9.trans s10).tx⟩, qe, fun v11 H11 cl11 s11 cm11 ck11 => ?_⟩
  walk_at "w"
  refine w_claim (so6.go s610) s11 (by omega) cm11 ck11 fun H12 b12 t12 so12 => ?_
  have o12 := o.same so12.same
  have h12 : H12 dg = some (.lst [.int d0, .int d1, .int d2, .int d3, .int d4, .int d5, .int d6]) := (b12 dg dgc).trans ((s610.trans s11) _ _ h56)
  walk_at "w"
  refine w_newL (by simp) fun c13 H13 hc13 s13 h13 _ => ?_
  have h1213 := s13 _ _ h12
  walk_at "w"; walk_at "ixl"
  obtain ⟨vnm, hvnm, nmx, sh, rfl, is⟩ := atI_two (P := fun v => ∃ nmx sh, v = .str nmx ∧ IsSh B.ss nmx sh) (v1 := .str "up") (v2 := .str "side") (i := d6) l6 u6 ⟨_, _, rfl, isSh_up⟩ ⟨_, _, rfl, isSh_side⟩
  refine w_ixL (SqL.of h13) hvnm ?_
  walk_at "w"
  walk_at "sl"
  have o13 := o12.same s13
  refine w_mk o13.scn.ins rfl ?_
  walk_at "w"
  refine w_ixL (SqL.of o13.nl) (atI_nat (hname lG)) ?_
  walk_at "w"
  refine ⟨B.S, B.A, B.ss, nsOf B.m, B.fs.map fOf, nmx, sh, nm G, rfl, o13.scn, o13.bk, M.bok, is, M.sok, xG, ?_⟩
  rintro v14 H14 lst grt s14 ⟨p14, va, vb, rfl, hp14, na, nb⟩ il ig bda bdb
  have h14 := s14 _ _ h1213
  refine w_gtup hp14 rfl ?_
  walk_at "w"
  refine w_newL (by simp) fun c15 H15 hc15 s15 h15 _ => ?_
  have h1415 := s15 _ _ h14
  walk_at "w"; walk_at "ixl"
  walk_at "w"
  refine w_mod (by decide) ?_
  obtain ⟨vlim, hvlim, lim, nlim, blim⟩ := atI_two (P := fun v => ∃ r, Num K H15 v r ∧ Bd 486 r) (v1 := va) (v2 := vb) (i := d4 % 2) (Int.emod_nonneg d4 (by decide)) (Int.emod_lt_of_pos d4 (by decide)) ⟨lst, na.tx s15.tx, bda⟩ ⟨grt, nb.tx s15.tx, bdb⟩
  refine w_ixL (SqL.of h15) hvlim ?_
  walk_at "w"; walk_at "ixl"
  walk_at "w"
  refine ⟨_, _, rfl, by decide, Nat.lt_of_le_of_lt (show (4 : Int).natAbs ≤ 2 ^ 3 by decide) (Nat.pow_lt_pow_right (by decide) (by decide)), ?_⟩
  intro r16 H16 s16 m16
  have bq := quarter_bd (z := d3 - 4) (by omega) (by omega)
  have nlim16 := nlim.tx s16.tx
  walk_at "w"
  walk_at "op2"
  intro r17 H17 s17 m17
  have bLIM : Bd 500 (lim + Rat.divInt (d3 - 4) 4) := bd_add blim bq (by decide)
  obtain ⟨LIM, hLIM⟩ : ∃ LIM, LIM = lim + Rat.divInt (d3 - 4) 4 := ⟨_, rfl⟩
  rw [← hLIM] at m17 bLIM
  have s1417 := (s15.trans s16).trans s17
  have h17 := s1417 _ _ h14
  walk_at "w"
  walk_at "sl"
  have so17 := so12.go ((s13.trans s14).trans s1417)
  have o17 := o.same so17.same
  obtain ⟨wc17, cls17, hcm17, _, _, _⟩ := so17.claims
  refine w_tyL (SqL.of hcm17) ?_
  walk_at "w"
  refine w_ixL (SqL.of o17.nl) (atI_nat (hname lG)) ?_
  walk_at "w"; walk_at "ixl"
  walk_at "w"; walk_at "ixl"
  refine w_rI (small_mul (by rw [pow100]; omega) (by rw [pow100]; omega)) ?_
  walk_at "w"
  have d55 : 0 ≤ d5 * d5 ∧ d5 * d5 ≤ 64 := by
    have : d5 = 0 ∨ d5 = 1 ∨ d5 = 2 ∨ d5 = 3 ∨ d5 = 4 ∨ d5 = 5 ∨ d5 = 6 ∨ d5 = 7 ∨ d5 = 8 := by omega
    rcases this with rfl | rfl | rfl | rfl | rfl | rfl | rfl | rfl | rfl <;> decide
  refine ⟨_, _, rfl, by decide, Nat.lt_of_le_of_lt (show (3 : Int).natAbs ≤ 2 ^ 3 by decide) (Nat.pow_lt_pow_right (by decide) (by decide)), ?_⟩
  intro r18 H18 s18 m18
  obtain ⟨bth, gth⟩ := third_nums (z := 1 + d5 * d5) (by omega) (by omega)
  have m17' := m17.tx s18.tx
  walk_at "w"
  walk_at "op2"
  intro r19 H19 s19 m19
  walk_at "w"
  refine w_newT (K := K) (by simp) fun p20 H20 hp20 s20 q20 _ _ => ?_
  walk_at "w"
  have s1720 := (s18.trans s19).trans s20
  have o20 := o17.same s1720
  have bHI : Bd 600 (LIM + Rat.divInt (1 + d5 * d5) 3) := bd_add bLIM bth (by decide)
  have xc := M.sok.cue sh is.mem
  have qe2 : QE (nsOf B.m) B.ss (.value nmx (nm G) LIM (LIM + Rat.divInt (1 + d5 * d5) 3)) sh.cue (nm G) (shownF sh.clip.lamp) LIM (LIM + Rat.divInt (1 + d5 * d5) 3) :=
    .value ⟨xc, xG, by grind, bLIM.mono (by decide), bHI.mono (by decide)⟩ is (by grind)
  refine ⟨B.S, B.A, B.ss, nsOf B.m, B.fs.map fOf, .ref p20, .value nmx (nm G) LIM (LIM + Rat.divInt (1 + d5 * d5) 3), _, _, _, _, _, rfl, o20.scn, M.sok, o20.bk, M.bok, ⟨p20, r17, r19, rfl, q20, m17.tx s1720.tx, m19.tx s20.tx⟩, qe2, fun v21 H21 cl21 s21 cm21 ck21 => ?_⟩
  walk_at "w"
  refine w_claim (so17.go s1720) s21 (by omega) cm21 ck21 fun H22 b22 t22 so22 => ?_
  exact k _ H22 so22 ⟨_, _, _, _, _, _, _, _, _, rfl⟩

/-! KLawI -/
set_option Elab.async false
set_option linter.all false
set_option maxRecDepth 100000
set_option maxHeartbeats 4000000
def clW : Cl → Str
  | .sure b _ _ _ => wordOf (some b)
  | .opn _ _ _ => "open"
def clQ : Cl → Qn
  | .sure _ q _ _ => q
  | .opn q _ _ => q
theorem ClmV.front {K : Fg} {H : Hp} {P : Addr → Prop} {ns : List Str} {v : V} : ∀ {cl : Cl}, ClmV K H P ns v cl → ∃ p qv r, v = .ref p ∧ SqT K H p [.str (clW cl), qv, .ref r] ∧ QnV K H qv (clQ cl) ∧ (∀ (H' : Hp) (p' : Addr), Same H H' → SqT K H' p' [.str (clW cl), qv, .ref r] → ClmV K H' P ns (.ref p') cl) ∧ ∀ q t1 t2, cl = .opn q t1 t2 → ∃ c1 c2, SqT K H r [.ref c1, .ref c2] ∧ FitV K H c1 ns t1 ∧ FitV K H c2 ns t2
  | .sure _ _ _ _, ⟨p, qv, r, c1, c2, e, h1, h2, h3, h4, h5, h6, h7⟩ => ⟨p, qv, r, e, h1, h3, fun H' p' s q => ⟨p', qv, r, c1, c2, rfl, q, h2.tx s.tx, h3.tx s.tx, h4.same s, h5.same s, h6, h7⟩, fun _ _ _ z => nomatch z⟩
  | .opn _ _ _, ⟨p, qv, r, c1, c2, e, h1, h2, h3, h4, h5, h6, h7⟩ => ⟨p, qv, r, e, h1, h3, fun H' p' s q => ⟨p', qv, r, c1, c2, rfl, q, h2.tx s.tx, h3.tx s.tx, h4.same s, h5.same s, h6, h7⟩, fun _ _ _ z => by injection z with z1 z2 z3; subst z2; subst z3; exact ⟨c1, c2, h2, h4, h5⟩⟩
theorem open_always : ¬ ("open" : Str) = "always" := by decide
theorem open_never : ¬ ("open" : Str) = "never" := by decide
theorem nev_alw : ¬ ("never" : Str) = "always" := by decide
theorem alw_nev : ¬ ("always" : Str) = "never" := by decide
theorem ClmOk.sound {ns : List Str} {ss : List Show} {fs : List Fact} : ∀ {cl : Cl}, ClmOk ns ss fs cl → ∃ x y f lo hi, QE ns ss (clQ cl) x y f lo hi ∧ ∀ t, Fit fs t → (clW cl = "always" → wi lo hi (f (t y - t x))) ∧ (clW cl = "never" → ¬ wi lo hi (f (t y - t x)))
  | .sure b q l1 l2, ⟨x, y, f, lo, hi, h, l, lst, grt, qe, ch1, ch2, _, _, hlh, il, ig, hs⟩ => ⟨x, y, f, lo, hi, qe, fun t ft => by
    have e1 := ch1.wn.fit ft
    have e2 := ch2.wn.fit ft
    have g1 := il.2 (t y - t x) (by grind) e1
    have g2 := ig.2 (t y - t x) (by grind) e1
    cases b with
    | true =>
      obtain ⟨c1, c2⟩ := said_true hs
      exact ⟨fun _ => ⟨Rat.le_trans c1 g1, Rat.le_trans g2 c2⟩, fun z => absurd z alw_nev⟩
    | false =>
      have c := said_false hs
      refine ⟨fun z => absurd z nev_alw, fun _ z => ?_⟩
      obtain ⟨z1, z2⟩ := z
      rcases c with c | c <;> grind⟩
  | .opn q t1 t2, ⟨x, y, f, lo, hi, qe, _⟩ => ⟨x, y, f, lo, hi, qe, fun t _ => ⟨fun z => absurd z open_always, fun z => absurd z open_never⟩⟩
def tLoop2 (K : Fg) : TS := tFor (iList K (tVar 9)) (gTup K 3 (gCons (gName 21) (gCons (gName 22) (gCons (gName 23) gNil)))) (tFor (iList K (tVar 10)) (gName 24) (tSeq (tAsg (tCall (sp__law_so K) [] E0 (tCons (tVar 4) (tCons (tVar 22) (tCons (tVar 24) tNil)))) (gName 25))
  (tIfS (tOr (tAnd (tTest (tOp rEq (tVar 21) (tC (.str "always")))) (tNot (tB (tVar 25)))) (tAnd (tTest (tOp rEq (tVar 21) (tC (.str "never")))) (tB (tVar 25)))) (tRet (tC (.bl false))) tNext)))
theorem law_loop2 {K : Fg} {Hb H : Hp} {B : Base} {cm ft : Addr} {n : Nat} {D : Ends} {v11 v12 v13 v14 v15 v16 v17 v18 v19 v20 : Option V} (o : B.Ok K Hb) (M : B.Math) (so : Sofar K Hb B cm ft H n)
    (k : ∀ σ' H', Same H H' → (∃ v21 v22 v23 v24 v25, σ' = sgT B cm ft [v11, v12, v13, v14, v15, v16, v17, v18, v19, v20, v21, v22, v23, v24, v25, none, none, none]) → D.nx σ' H') :
    tLoop2 K D (sgT B cm ft [v11, v12, v13, v14, v15, v16, v17, v18, v19, v20, none, none, none, none, none, none, none, none]) H := by
  obtain ⟨wc, cls, hcm, hcl, hok, hwl⟩ := so.claims
  obtain ⟨wf, ts, hft, hfl, hfo, hwf⟩ := so.fits
  have m4 := M.m4
  unfold tLoop2 sgT
  simp only [List.cons_append, List.nil_append]
  refine w_forLv rfl (SqL.of hcm) ⟨fun i σ H' => Same H H' ∧ ∃ v21 v22 v23 v24 v25, σ = [some (.ref B.a), some (.ref B.nl), some (.ref B.hl), some (.ref B.fl), some (.ref B.S.S), some (.ref B.cl), some (.ref B.cu), some (.ref B.A.B), some (.ref B.L), some (.ref cm), some (.ref ft), v11, v12, v13, v14, v15, v16, v17, v18, v19, v20, v21, v22, v23, v24, v25, none, none, none], ?_, ?_, ?_, ?_⟩
  · exact ⟨Same.refl _, _, _, _, _, _, rfl⟩
  · rintro i σ H' _ ⟨s, _⟩; exact SqL.of (s _ _ hcm)
  · rintro i v σ He hv ⟨s, v21, v22, v23, v24, v25, rfl⟩
    obtain ⟨cl, hcl', rcl⟩ := hcl.get hv
    have rcl := rcl.same s
    have ck := hok cl (List.mem_of_getElem? hcl')
    obtain ⟨p, qv, r, rfl, hp, qn, _⟩ := rcl.front
    obtain ⟨x, y, f, lo, hi, qe, snd⟩ := ck.sound
    refine w_gtup hp rfl ?_
    walk_at "w"
    walk_at "sl"
    refine w_forLv rfl (SqL.of (s _ _ hft)) ⟨fun i σ H' => Same He H' ∧ ∃ v24 v25, σ = [some (.ref B.a), some (.ref B.nl), some (.ref B.hl), some (.ref B.fl), some (.ref B.S.S), some (.ref B.cl), some (.ref B.cu), some (.ref B.A.B), some (.ref B.L), some (.ref cm), some (.ref ft), v11, v12, v13, v14, v15, v16, v17, v18, v19, v20, some (.str (clW cl)), some qv, some (.ref r), v24, v25, none, none, none], ?_, ?_, ?_, ?_⟩
    · exact ⟨Same.refl _, _, _, rfl⟩
    · rintro i σ H' _ ⟨s2, _⟩; exact SqL.of (s2 _ _ (s _ _ hft))
    · clear rcl hp
      rintro i2 w σ H2 hw ⟨s0, v24, v25, rfl⟩
      have s2 := s.trans s0
      obtain ⟨t, ht, c, rfl, pc, fv⟩ := hfl.get hw
      have fo := hfo t (List.mem_of_getElem? ht)
      have o2 := o.same (so.same.trans s2)
      walk_at "w"
      walk_at "sl"
      have qn2 := qn.tx s0.tx
      refine ⟨B.S, B.A, B.ss, nsOf B.m, B.fs.map fOf, qv, clQ cl, c, t, x, y, f, lo, hi, rfl, o2.scn, M.sok, o2.bk, qn2, qe, fv.same s2, fo.bd, by rw [nsOf_len m4]; omega, fun H3 s3 => ?_⟩
      obtain ⟨hA, hN⟩ := snd t fo.fit
      have s23 := s2.trans s3
      walk_at "w"
      walk_at "sl"
      have fin : ∀ v24 v25 : Option V, (Same He H3 ∧ ∃ v24' v25', [some (V.ref B.a), some (.ref B.nl), some (.ref B.hl), some (.ref B.fl), some (.ref B.S.S), some (.ref B.cl), some (.ref B.cu), some (.ref B.A.B), some (.ref B.L), some (.ref cm), some (.ref ft), v11, v12, v13, v14, v15, v16, v17, v18, v19, v20, some (.str (clW cl)), some qv, some (.ref r), v24, v25, none, none, none] = [some (V.ref B.a), some (.ref B.nl), some (.ref B.hl), some (.ref B.fl), some (.ref B.S.S), some (.ref B.cl), some (.ref B.cu), some (.ref B.A.B), some (.ref B.L), some (.ref cm), some (.ref ft), v11, v12, v13, v14, v15, v16, v17, v18, v19, v20, some (.str (clW cl)), some qv, some (.ref r), v24', v25', none, none, none]) := fun a b => ⟨s0.trans s3, a, b, rfl⟩
      refine w_ite (fun z => ?_) (fun z => ?_)
      · have z : clW cl = "always" := by injection z
        have e : decide (wi lo hi (f (t y - t x))) = true := decide_eq_true (hA z)
        rw [e]
        walk_at "w"
        refine w_itb (fun z => nomatch z) (fun _ => ?_)
        walk_at "w"
        refine w_ite (fun z2 => ?_) (fun z2 => ?_)
        · have z2 : clW cl = "never" := by injection z2
          exact absurd (z.symm.trans z2) alw_nev
        · refine w_itb (fun z => nomatch z) (fun _ => ?_)
          walk_at "w"
          exact fin _ _
      · refine w_itb (fun z => nomatch z) (fun _ => ?_)
        walk_at "w"
        refine w_ite (fun z2 => ?_) (fun z2 => ?_)
        · have z2 : clW cl = "never" := by injection z2
          have e : decide (wi lo hi (f (t y - t x))) = false := decide_eq_false (hN z2)
          rw [e]
          walk_at "w"
          refine w_itb (fun z => nomatch z) (fun _ => ?_)
          walk_at "w"
          exact fin _ _
        · refine w_itb (fun z => nomatch z) (fun _ => ?_)
          walk_at "w"
          exact fin _ _
    · rintro σ H2 ⟨s2, v24, v25, rfl⟩
      exact ⟨s.trans s2, _, _, _, _, _, rfl⟩
  · rintro σ H' ⟨s, v21, v22, v23, v24, v25, rfl⟩
    exact k _ H' s ⟨_, _, _, _, _, rfl⟩

/-! KLawJ -/
set_option Elab.async false
set_option linter.all false
set_option maxRecDepth 100000
set_option maxHeartbeats 4000000
theorem FsOk.app {m many : Nat} {hs : List Int} {fs l : List IFact} (F : FsOk m hs many fs) (h : ∀ f ∈ l, IOk hs f) : FsOk m hs (many + l.length) (fs ++ l) where
  all := fun f hf => by
    rcases List.mem_append.mp hf with e | e
    · exact F.all f e
    · exact h f e
  base := fun i hi => by
    obtain ⟨f, h1, h2⟩ := F.base i hi
    exact ⟨f, by rw [List.getElem?_append_left (List.getElem?_eq_some_iff.mp h1).1]; exact h1, h2⟩
  len := by have := F.len; rw [List.length_append]; omega
def tLoop3 (K : Fg) : TS := tFor (iList K (tSl (rSlL K) (tCall (sp__law_facts K) [] E0 (tCons (tVar 0) (tCons (tC (.int 17)) (tCons (tVar 1) (tCons (tVar 2) (tCons (tC (.int 3)) tNil)))))) (tPart (tOp (rI0 fun i j => .int (i - j)) (tCB (rLenQ K) (tCons (tVar 1) tNil)) (tC (.int 1)))) tNoPart)) (gTup K 4 (gCons (gName 13) (gCons (gName 14) (gCons (gName 16) (gCons (gName 26) gNil))))) (tSeq (tDrop (tMeth (He.ga K "Book") "tell" (sp_tell K) [] E0 (tVar 7) (tCons (tOp (rIxL K) (tVar 1) (tVar 13)) (tCons (tOp (rIxL K) (tVar 1) (tVar 14)) (tCons (tCall (sp__law_six K) [] E0 (tCons (tVar 16) tNil)) (tCons (tCall (sp__law_six K) [] E0 (tCons (tVar 26) tNil)) tNil))))))
  (tFor (iList K (tVar 9)) (gTup K 3 (gCons (gName 21) (gCons (gName 22) (gCons (gName 23) gNil)))) (tSeq (tAsg (tC (.bl true)) (gName 27))
  (tSeq (tIfS (tTest (tOp rEq (tVar 21) (tC (.str "open")))) (tAsg (tAndV (tMeth (He.ga K "Book") "is_fit" (sp_is_fit K) [] E0 (tVar 7) (tCons (tOp (rIxT K) (tVar 23) (tC (.int 0))) tNil)) (tMeth (He.ga K "Book") "is_fit" (sp_is_fit K) [] E0 (tVar 7) (tCons (tOp (rIxT K) (tVar 23) (tC (.int 1))) tNil))) (gName 27)) tNext)
  (tIfS (tTest (tOp rNe (tCall (sp_judge K) [] E0 (tCons (tVar 4) (tCons (tTup (tCons (tVar 21) (tCons (tVar 22) (tCons (tVar 23) tNil)))) tNil))) (tVar 27))) (tRet (tC (.bl false))) tNext)))))
theorem law_loop3 {K : Fg} {Hb H : Hp} {B : Base} {cm ft : Addr} {n : Nat} {D : Ends} {v11 v12 v13 v14 v15 v16 v17 v18 v19 v20 v21 v22 v23 v24 v25 : Option V} (o : B.Ok K Hb) (M : B.Math) (so : Sofar K Hb B cm ft H n)
    (k : ∀ σ' H', D.nx σ' H') :
    tLoop3 K D (sgT B cm ft [v11, v12, v13, v14, v15, v16, v17, v18, v19, v20, v21, v22, v23, v24, v25, none, none, none]) H := by
  obtain ⟨wc, cls, hcm, hcl, hok, hwl⟩ := so.claims
  have m1 := M.m1
  have m4 := M.m4
  have hnlen : ((nsOf B.m).map V.str).length = B.m + 1 := by rw [List.length_map, nsOf_len m4]
  have hname : ∀ {i : Nat}, i < B.m + 1 → ((nsOf B.m).map V.str)[i]? = some (.str (nm i)) := fun {i} hi => by rw [List.getElem?_map, nm_at B.m (by omega) i hi]; rfl
  have o0 := o.same so.same
  have cmA : cm ∉ B.A.ls := o.bk.fresh so.nc
  unfold tLoop3 sgT
  simp only [List.cons_append, List.nil_append]
  refine w_forLx ?_
  walk_at "w"
  refine ⟨B.a, B.ns, B.nl, B.hl, B.m, B.hs, 17, 3, rfl, o0.sc, by decide, by decide, SqL.of o0.nl, SqL.of o0.hl, m1, m4, M.hid, by decide, ?_⟩
  intro D1 H1 ws fs2 s1 hD1 hD1' hfs2 fok2
  have o1 := o0.same s1
  have hwl2 := hfs2.len
  have hge := fok2.ge
  have hle2 := fok2.len
  have hle1 := M.fok.len
  walk_at "w"
  refine w_lenL (SqL.of o1.nl) ?_
  rw [hnlen]
  walk_at "w"
  rw [show ((B.m + 1 : Nat) : Int) - 1 = (B.m : Int) by omega]
  walk_at "w"
  refine w_slL (SqL.of hD1') fun c H2 hc s2 h2 _ => ?_
  rw [cutV_nat_from ws B.m (by omega)] at h2
  have o2 := o1.same s2
  have cA : c ∉ B.A.ls := o1.bk.fresh hc
  have s02 := s1.trans s2
  -- what stands through the loop: all but the book's own lists
  have nlA := o.nlA
  have extra : ∀ f ∈ fs2.drop B.m, IOk B.hs f := fun f hf => fok2.all f (List.mem_of_mem_drop hf)
  refine w_forLy (SqL.of h2) ⟨fun i σ H' => Kp K B.A.ls H2 H' ∧ BookV K H' B.A (nsOf B.m) ((B.fs ++ (fs2.drop B.m).take i).map fOf) ∧ ∃ v13 v14 v16 v21 v22 v23 v26 v27, σ = [some (.ref B.a), some (.ref B.nl), some (.ref B.hl), some (.ref B.fl), some (.ref B.S.S), some (.ref B.cl), some (.ref B.cu), some (.ref B.A.B), some (.ref B.L), some (.ref cm), some (.ref ft), v11, v12, v13, v14, v15, v16, v17, v18, v19, v20, v21, v22, v23, v24, v25, v26, v27, none], ?_, ?_, ?_, ?_⟩
  · exact ⟨Kp.refl _, by simpa using o2.bk, _, _, _, _, _, _, _, _, rfl⟩
  · rintro i σ H' _ ⟨kp, _⟩; exact SqL.of (kp.2 _ _ cA h2)
  · rintro i v σ H3 hv ⟨kp, bk, v13, v14, v16, v21, v22, v23, v26, v27, rfl⟩
    have hv' : ws[B.m + i]? = some v := by rw [List.getElem?_drop] at hv; exact hv
    obtain ⟨f, hf, p, rfl, hp⟩ := hfs2.get hv'
    have hf' : (fs2.drop B.m)[i]? = some f := by rw [List.getElem?_drop]; exact hf
    have hmi : B.m + i < fs2.length := (List.getElem?_eq_some_iff.mp hf).1
    have ok := fok2.all f (List.mem_of_getElem? hf)
    obtain ⟨l1, l2⟩ := ok.lt M.hid
    have hnl3 := kp.2 _ _ nlA o2.nl
    refine w_gtup (hp.tx (s2.tx.trans kp.1)) rfl ?_
    walk_at "w"
    walk_at "sl"
    refine w_mk bk.ins rfl ?_
    walk_at "w"
    refine w_ixL (SqL.of hnl3) (atI_nat (hname l1)) ?_
    walk_at "w"
    refine w_ixL (SqL.of hnl3) (atI_nat (hname l2)) ?_
    walk_at "w"
    refine ⟨f.lo, rfl, fun r1 H5 s5 m5 => ?_⟩
    walk_at "w"
    refine ⟨f.hi, rfl, fun r2 H6 s6 m6 => ?_⟩
    walk_at "w"
    have s56 := s5.trans s6
    have tl : ((fs2.drop B.m).take i).length ≤ 3 := by rw [List.length_take, List.length_drop]; omega
    have Fi := M.fok.app (l := (fs2.drop B.m).take i) fun f hf => extra f (List.mem_of_mem_take hf)
    refine w_tellI (bk.same s56) Fi M.hid m4 (by rw [List.length_append]; omega) ok (m5.tx s6.tx) m6 fun iz H7 kp7 b7 => ?_
    rw [List.append_assoc, ← take_snoc hf'] at b7
    have kp27 : Kp K B.A.ls H2 H7 := (kp.trans (Kp.of s56)).trans kp7
    have tl1 : ((fs2.drop B.m).take (i + 1)).length ≤ 3 := by rw [List.length_take, List.length_drop]; omega
    have Fj := M.fok.app (l := (fs2.drop B.m).take (i + 1)) fun f hf => extra f (List.mem_of_mem_take hf)
    have bo := Fj.bookOk M.hid m4 (by rw [List.length_append]; omega)
    have hcm7 : H7 cm = some (.lst wc) := kp27.2 _ _ cmA (s02 _ _ hcm)
    have hcl7 : All2 (ClmV K H7 (fun c => Hb c = none ∧ c ≠ cm ∧ c ≠ ft) (nsOf B.m)) wc cls := hcl.mono fun _ _ z => (z.same s02).kp kp27 fun a pa => o.bk.fresh pa.1
    have sc7 : SceneV K H7 B.S B.A B.ss := o2.scn.kp kp27
    have ck7 : ∀ cl ∈ cls, ClmOk (nsOf B.m) B.ss ((B.fs ++ (fs2.drop B.m).take (i + 1)).map fOf) cl := fun cl h => by rw [List.map_append]; exact (hok cl h).ext _
    generalize B.fs ++ (fs2.drop B.m).take (i + 1) = gs at *
    walk_at "w"
    refine w_forLv rfl (SqL.of hcm7) ⟨fun i σ H' => Same H7 H' ∧ ∃ v21 v22 v23 v27, σ = [some (.ref B.a), some (.ref B.nl), some (.ref B.hl), some (.ref B.fl), some (.ref B.S.S), some (.ref B.cl), some (.ref B.cu), some (.ref B.A.B), some (.ref B.L), some (.ref cm), some (.ref ft), v11, v12, some (.int (f.a : Int)), some (.int (f.b : Int)), v15, some (.int f.lo), v17, v18, v19, v20, v21, v22, v23, v24, v25, some (.int f.hi), v27, none], ?_, ?_, ?_, ?_⟩
    · exact ⟨Same.refl _, _, _, _, _, rfl⟩
    · rintro i σ H' _ ⟨s, _⟩; exact SqL.of (s _ _ hcm7)
    · rintro i2 v σ H8 hv2 ⟨s8, v21, v22, v23, v27, rfl⟩
      obtain ⟨cl, hcl', rcl⟩ := hcl7.get hv2
      have rcl8 := rcl.same s8
      have ck := ck7 cl (List.mem_of_getElem? hcl')
      obtain ⟨p, qv, r, rfl, hp, qn, re, re2⟩ := rcl8.front
      have b8 := b7.same s8
      have sc8 := sc7.same s8
      have hd : ∃ rr, nsOf B.m = ("start" : Str) :: rr := ⟨_, rfl⟩
      refine w_gtup hp rfl ?_
      walk_at "w"
      walk_at "sl"
      have judge : ∀ (σ : Sl) (H9 : Hp) (due : Bool), Same H8 H9 → σ = [some (.ref B.a), some (.ref B.nl), some (.ref B.hl), some (.ref B.fl), some (.ref B.S.S), some (.ref B.cl), some (.ref B.cu), some (.ref B.A.B), some (.ref B.L), some (.ref cm), some (.ref ft), v11, v12, some (.int (f.a : Int)), some (.int (f.b : Int)), v15, some (.int f.lo), v17, v18, v19, v20, some (.str (clW cl)), some qv, some (.ref r), v24, v25, some (.int f.hi), some (.bl due), none] →
          (∀ b, Judged (gs.map fOf) cl b → b = due) → ∀ (D : Ends), (∀ σ' H', Same H7 H' → σ' = σ → D.nx σ' H') →
          tIfS (tTest (tOp rNe (tCall (sp_judge K) [] E0 (tCons (tVar 4) (tCons (tTup (tCons (tVar 21) (tCons (tVar 22) (tCons (tVar 23) tNil)))) tNil))) (tVar 27))) (tRet (tC (.bl false))) tNext D σ H9 := by
        rintro σ H9 due s9 rfl hj D kk
        walk_at "w"
        refine w_newT (K := K) (by simp) fun p10 H10 hp10 s10 q10 _ _ => ?_
        walk_at "w"
        have s910 := s9.trans s10
        refine ⟨B.S, B.A, B.ss, nsOf B.m, gs.map fOf, .ref p10, cl, _, rfl, sc8.same s910, M.sok, b8.same s910, bo, hd, re H10 p10 s910 q10, ck, fun H11 bb s11 jd => ?_⟩
        have e := hj bb jd
        subst e
        walk_at "w"
        refine w_itn (fun z => absurd rfl z) (fun _ => ?_)
        walk_at "w"
        exact kk _ _ ((s8.trans s910).trans s11) rfl
      cases cl with
      | sure w q l1' l2' =>
        have hw : decide (V.str (clW (.sure w q l1' l2')) = V.str "open") = false := by
          cases w
          · exact decide_eq_false never_open
          · exact decide_eq_false always_open
        rw [hw]
        refine w_itb (fun z => nomatch z) (fun _ => ?_)
        walk_at "w1"
        refine judge _ H8 true (Same.refl _) rfl (fun b jd => jd) _ fun σ' H' s' e => ?_
        subst e
        exact ⟨s', _, _, _, _, rfl⟩
      | opn q t1 t2 =>
        obtain ⟨x, y, ff, lo, hi, qe, z1, z2, bt1, bt2, w1, w2⟩ := ck
        obtain ⟨c1, c2, g2, fv1, fv2⟩ := re2 q t1 t2 rfl
        refine w_ite (fun _ => ?_) (fun z => absurd rfl z)
        walk_at "w"
        refine w_mk b8.ins rfl ?_
        walk_at "w"; walk_at "ix"
        walk_at "w"
        refine ⟨B.A, nsOf B.m, gs.map fOf, c1, t1, rfl, b8, bo, hd, fv1, z1, fun z hz => (bt1 z hz).mono (by decide), fun bb1 H9 s9 hb1 => ?_⟩
        walk_at "w"
        cases bb1 with
        | false =>
          refine w_itb (fun z => nomatch z) (fun _ => ?_)
          walk_at "w1"
          walk_at "sl"
          refine judge _ H9 false s9 rfl (fun b jd => ?_) _ fun σ' H' s' e => ?_
          · cases b
            · rfl
            · exact absurd (hb1.mpr (jd.mp rfl).1) (by simp)
          · subst e
            exact ⟨s', _, _, _, _, rfl⟩
        | true =>
          refine w_itb (fun _ => ?_) (fun z => nomatch z)
          have b9 := b8.same s9
          have g29 := g2.tx s9.tx
          walk_at "w"
          refine w_mk b9.ins rfl ?_
          walk_at "w"; walk_at "ix"
          walk_at "w"
          refine ⟨B.A, nsOf B.m, gs.map fOf, c2, t2, rfl, b9, bo, hd, fv2.same s9, z2, fun z hz => (bt2 z hz).mono (by decide), fun bb2 H10 s10 hb2 => ?_⟩
          walk_at "w1"
          walk_at "sl"
          refine judge _ H10 bb2 (s9.trans s10) rfl (fun b jd => ?_) _ fun σ' H' s' e => ?_
          · cases b
            · cases bb2
              · rfl
              · exact jd.mpr ⟨hb1.mp rfl, hb2.mp rfl⟩
            · cases bb2
              · exact absurd (hb2.mpr (jd.mp rfl).2) (by simp)
              · rfl
          · subst e
            exact ⟨s', _, _, _, _, rfl⟩
    · rintro σ H8 ⟨s8, v21, v22, v23, v27, rfl⟩
      exact ⟨kp27.trans (Kp.of s8), b7.same s8, _, _, _, _, _, _, _, _, rfl⟩
  · rintro σ H' ⟨kp, bk, v13, v14, v16, v21, v22, v23, v26, v27, rfl⟩
    exact k _ H'

/-! KLawK -/
set_option Elab.async false
set_option linter.all false
set_option maxRecDepth 100000
set_option maxHeartbeats 4000000
def tLoops (K : Fg) : TS := tSeq (tFor (iRng1 (tCons (tC (.int 4)) tNil)) (gName 11) (tTurn K)) (tSeq (tLoop2 K) (tSeq (tLoop3 K) (tRet (tC (.bl true)))))
theorem law_loops {K : Fg} {Hb H : Hp} {B : Base} {cm ft : Addr} {Q : VK} (o : B.Ok K Hb) (M : B.Math) (so : Sofar K Hb B cm ft H 0) (k : ∀ H', Q (.bl true) H') :
    tLoops K { nx := fun _ H' => Q .non H', rt := Q } (sgT B cm ft [none, none, none, none, none, none, none, none, none, none, none, none, none, none, none, none, none, none]) H := by
  unfold tLoops
  walk_at "w"
  refine w_forR1y (n := 4) (by decide) ⟨fun j σ H' => Sofar K Hb B cm ft H' (3 * j) ∧ ∃ v11 v12 v13 v14 v15 v16 v17 v18 v19 v20, σ = sgT B cm ft [v11, v12, v13, v14, v15, v16, v17, v18, v19, v20, none, none, none, none, none, none, none, none], ?_, ?_, ?_⟩
  · exact ⟨so, _, _, _, _, _, _, _, _, _, _, rfl⟩
  · rintro j σ H' hj ⟨so, v11, v12, v13, v14, v15, v16, v17, v18, v19, v20, rfl⟩
    refine w_gname ?_
    show tTurn K _ (sgT B cm ft [some (.int (0 + (j : Int))), v12, v13, v14, v15, v16, v17, v18, v19, v20, none, none, none, none, none, none, none, none]) H'
    refine law_turn o M so hj fun σ' H2 so2 h => ?_
    obtain ⟨v12, v13, v14, v15, v16, v17, v18, v19, v20, rfl⟩ := h
    exact ⟨so2, _, _, _, _, _, _, _, _, _, _, rfl⟩
  · rintro σ H' ⟨so, v11, v12, v13, v14, v15, v16, v17, v18, v19, v20, rfl⟩
    show tSeq (tLoop2 K) (tSeq (tLoop3 K) (tRet (tC (.bl true)))) _ _ _
    refine w_seq ?_
    refine law_loop2 o M so fun σ' H2 s2 h => ?_
    obtain ⟨v21, v22, v23, v24, v25, rfl⟩ := h
    show tSeq (tLoop3 K) (tRet (tC (.bl true))) _ _ _
    refine w_seq ?_
    refine law_loop3 o M (so.go s2) fun σ' H3 => ?_
    exact k H3
def sp_law (K : Fg) : Sp := fun vs H Q _ => ∃ a ns, vs = [.ref a] ∧ SqL K H a ((ns : List Int).map V.int) ∧ ∀ H', Q (.bl true) H'
theorem len_law {K : Fg} (vs : List V) (H : Hp) (Q : VK) (E : XK) (h : sp_law K vs H Q E) : vs.length = 1 := by
  obtain ⟨a, ns, rfl, _⟩ := h; rfl
theorem pure_law {K : Fg} (vs : List V) (H : Hp) (Q : VK) (E : XK) (h : sp_law K vs H Q E) : t_law K (sp__law_scene K) (sp_Scene_book K) (sp__law_far K) (sp__law_six K) (sp_latest K) (sp_earliest K) (sp__law_draw K) (sp_fit_with K) (sp_answer K) (sp_bounds K) (sp_number K) (sp_plus K) (sp__law_so K) (sp__law_facts K) (sp_tell K) (sp_is_fit K) (sp_judge K) { nx := fun _ H' => Q .non H', rt := Q } (start n_law vs) H := by
  obtain ⟨a, ns, rfl, hs, k⟩ := h
  unfold t_law
  have e0 : start n_law [.ref a] = [some (.ref a), none, none, none, none, none, none, none, none, none, none, none, none, none, none, none, none, none, none, none, none, none, none, none, none, none, none, none, none] := rfl
  rw [e0]
  walk_at "w"
  refine ⟨a, ns, rfl, hs, ?_⟩
  intro p nl hl fl cl cu H1 S A m hs' ws fs c1 c2 i1 i2 s1 hp hnl hhl hfl hfs m1 m4 hok fok nlA hlA flA frs bk scn k1 k2 l1 l2
  have hnlen : ((nsOf m).map V.str).length = m + 1 := by rw [List.length_map, nsOf_len m4]
  have bok : BookOk (nsOf m) (fs.map fOf) := fok.bookOk hok m4 (by have := fok.len; omega)
  refine w_gtup hp rfl ?_
  walk_at "w"
  walk_at "sl"
  refine w_pk scn.ins ?_
  refine ⟨S, A, _, rfl, scn, ?_⟩
  walk_at "w"
  refine w_lenL (SqL.of hnl) ?_
  rw [hnlen]
  walk_at "w"
  refine ⟨fl, ws, fs, hs', m, rfl, SqL.of hfl, hfs, m4, hok, fok.all, by have := fok.len; omega, ?_⟩
  intro L H2 rs FM s2 hL mat fw
  have s02 := s1.trans s2
  have bk2 := bk.same s2
  walk_at "w"
  walk_at "sl"
  refine w_newL (by simp) fun cm H3 hcm s3 h3 _ => ?_
  have bk3 := bk2.same s3
  walk_at "w"
  refine w_mk bk3.ins rfl ?_
  walk_at "w"
  refine ⟨A, nsOf m, fs.map fOf, rfl, bk3, bok, fun ce H4 s4 hce fe => ?_⟩
  have bk4 := bk3.same s4
  walk_at "w"
  refine w_mk bk4.ins rfl ?_
  walk_at "w"
  refine ⟨A, nsOf m, fs.map fOf, rfl, bk4, bok, fun cl2 H5 s5 hcl2 fl2 => ?_⟩
  have s35 := s4.trans s5
  have s25 := s3.trans s35
  have hnl5 := (s2.trans s25) _ _ hnl
  have hhl5 := (s2.trans s25) _ _ hhl
  walk_at "w"
  refine w_lcR1 ?_
  walk_at "w"
  refine w_lenL (SqL.of hnl5) ?_
  rw [hnlen]
  walk_at "w"
  refine w_lcRy (n := m + 1) (by omega) fun ch hch => ⟨fun i H' => Same H5 H' ∧ ∃ acc, H' ch = some (.lst acc) ∧ acc.length = i ∧ All2 (PairV K H') acc (((nsOf m).take i).map fun x => (x, tmH hs' x)), ?_, ?_, ?_⟩
  · intro H' h0 s _
    exact ⟨s, [], h0, rfl, All2.nil⟩
  · rintro i H' hi ⟨s, acc, hc', hl', ha⟩
    have hz := nm_at m (by omega) i hi
    have hhi : i < hs'.length := by rw [hok.len]; exact hi
    walk_at "w"
    refine ⟨rfl, ?_⟩
    refine w_yes ?_
    refine w_itrue ?_
    walk_at "w"
    refine w_ixL (SqL.of (s _ _ hnl5)) (by rw [zero_nat]; exact atI_nat (v := .str (nm i)) (by rw [List.getElem?_map, hz]; rfl)) ?_
    walk_at "w"
    refine w_ixL (SqL.of (s _ _ hhl5)) (by rw [zero_nat]; exact atI_nat (v := .int hs'[i]) (by rw [List.getElem?_map, List.getElem?_eq_getElem hhi]; rfl)) ?_
    walk_at "w"
    refine ⟨hs'[i], rfl, fun r H6 s6 m6 => ?_⟩
    walk_at "w"
    refine w_newT (K := K) (by simp) fun q7 H7 hq7 s7 q7' _ _ => ?_
    have s67 := s6.trans s7
    refine w_lcapp (K := K) (s67 _ _ hc') (by omega) fun H8 h8 b8 t8 => ⟨b8.same (s.trans s67) hch, _, h8, by simp [hl'], ?_⟩
    rw [take_snoc hz, List.map_append]
    refine All2.snoc (ha.mono fun _ _ z => z.tx (s67.tx.trans t8)) ⟨q7, r, rfl, q7'.tx t8, ?_⟩
    show Num K H8 r (tmH hs' (nm i))
    rw [tmH_nm (by omega), hidF_at (List.getElem?_eq_getElem hhi)]
    exact m6.tx (s7.tx.trans t8)
  · rintro H6 ⟨s6, acc, hc', hl', ha⟩
    walk_at "w"
    refine w_newL (by simp) fun ft H7 hft s7 h7 _ => ?_
    have s37 := (s35.trans s6).trans s7
    have s57 := s6.trans s7
    rw [← nsOf_len m4, List.take_length] at ha
    let B : Base := ⟨a, ns, nl, hl, fl, cl, cu, L, rs, S, A, m, hs', fs, FM, c1, c2, i1, i2⟩
    have ok : B.Ok K H2 := ⟨hs.same s02, s2 _ _ hnl, nlA, s2 _ _ hhl, mat, bk2, scn.same s2⟩
    have Mt : B.Math := ⟨m1, m4, hok, fok, fw, k1, k2, l1, l2⟩
    have hcm7 : H7 cm = some (.lst []) := s37 _ _ h3
    have hne : cm ≠ ft := fun z => by subst z; rw [(s35.trans s6) _ _ h3] at hft; exact nomatch hft
    have hP : ∀ {c : Addr} {Ha Hx : Hp} {o : HO}, Ha c = none → Same H3 Ha → Hx c = some o → Same Hx H6 → (H2 c = none ∧ c ≠ cm ∧ c ≠ ft) := fun {c Ha Hx o} e1 sa e2 sx => ⟨s3.free (sa.free e1), fun z => (by subst z; rw [sa _ _ h3] at e1; exact nomatch e1), fun z => (by subst z; rw [sx _ _ e2] at hft; exact nomatch hft)⟩
    obtain ⟨we, fe1, fe2⟩ := fe
    obtain ⟨wl, fl1, fl2'⟩ := fl2
    have fitE : FitV K H7 ce (nsOf m) (fun x => -dst (fs.map fOf) x "start") := (show FitV K H4 ce _ _ from ⟨we, fe1, fe2⟩).same (s5.trans s57)
    have fitL : FitV K H7 cl2 (nsOf m) (fun x => dst (fs.map fOf) "start" x) := (show FitV K H5 cl2 _ _ from ⟨wl, fl1, fl2'⟩).same s57
    have fitH : FitV K H7 ch (nsOf m) (tmH hs') := (show FitV K H6 ch _ _ from ⟨acc, hc', ha⟩).same s7
    have so : Sofar K H2 B cm ft H7 0 := by
      refine ⟨s3.trans s37, hne, hcm, (s25.trans s6).free hft, ⟨[], [], hcm7, All2.nil, by simp, Nat.le_refl _⟩, ⟨_, [fun x => -dst (fs.map fOf) x "start", fun x => dst (fs.map fOf) "start" x, tmH hs'], h7, ⟨⟨ce, rfl, hP hce (Same.refl _) fe1 (s5.trans s6), fitE⟩, ⟨cl2, rfl, hP hcl2 s4 fl1 s6, fitL⟩, ⟨ch, rfl, hP hch s35 hc' (Same.refl _), fitH⟩, trivial⟩, ?_, by simp⟩⟩
      intro t ht
      simp at ht
      rcases ht with rfl | rfl | rfl
      · exact ⟨bok.net.earliest, fun z hz => bd_neg ((bok.bd61 hz bok.net.st).mono (by decide))⟩
      · exact ⟨bok.net.latest, fun z hz => (bok.bd61 bok.net.st hz).mono (by decide)⟩
      · refine ⟨fit_of hok m4 fok.all, fun z hz => ?_⟩
        obtain ⟨i, hi, rfl⟩ := nsOf_get m4 hz
        have hhi : i < hs'.length := by rw [hok.len]; exact hi
        rw [tmH_nm (by omega), hidF_at (List.getElem?_eq_getElem hhi)]
        have := hok.bd _ (List.getElem_mem hhi)
        exact (six_bd (by omega)).mono (by decide)
    refine w_gname ?_
    walk_at "sl"
    show tLoops K _ (sgT B cm ft [none, none, none, none, none, none, none, none, none, none, none, none, none, none, none, none, none, none]) H7
    exact law_loops ok Mt so k
end Sc

/-! KEnd -/
set_option Elab.async false
set_option linter.all false
set_option maxRecDepth 100000
set_option maxHeartbeats 4000000
/-! From the head's facts to the law's def. -/
namespace Sc
open PySem PySem.Spec PyProof.Rows L2
theorem prop_ok {K : PySem.W.Frag} {c x : Str} (h : isProp K c x = true) : PropOf K (He.ga K c) x (propA K c x) (getA K c x) := by
  obtain ⟨h1, h⟩ := He.ba h
  obtain ⟨h2, h⟩ := He.ba h
  obtain ⟨h3, h4⟩ := He.ba h
  refine ⟨He.eqO_ok h1, He.eqO_ok h2, of_decide_eq_true h3, ?_⟩
  unfold getA
  split at h4
  · rename_i a r e
    rw [e]
    exact ⟨r, rfl⟩
  · exact nomatch h4
theorem words_ok {K : PySem.W.Frag} (h : wordsB K = true) : WordsAt K (He.ga K "WORDS") := by
  unfold wordsB at h
  split at h
  · rename_i c es ep sl e
    obtain ⟨h1, h⟩ := He.ba h
    obtain ⟨h2, h⟩ := He.ba h
    obtain ⟨h3, h⟩ := He.ba h
    split at h
    · rename_i k1 z1 t1 k2 z2 t2 k3 z3 t3 el
      obtain ⟨a1, h⟩ := He.ba h
      obtain ⟨a2, h⟩ := He.ba h
      obtain ⟨a3, h⟩ := He.ba h
      obtain ⟨a4, h⟩ := He.ba h
      obtain ⟨a5, a6⟩ := He.ba h
      have a1 := of_decide_eq_true a1
      have a2 := of_decide_eq_true a2
      have a3 := of_decide_eq_true a3
      have a4 := of_decide_eq_true a4
      have a5 := of_decide_eq_true a5
      have a6 := of_decide_eq_true a6
      have h1 := of_decide_eq_true h1
      subst a1 a2 a3 a4 a5 a6 h1
      have hes : es = #[⟨1, .bool true, .str "always" t1⟩, ⟨0, .bool false, .str "never" t2⟩, ⟨reduceHash 0xFCA86420, .none, .str "open" t3⟩] := by
        apply Array.toList_inj.mp
        rw [el]
      subst hes
      have hsl : sl = #[] := Array.isEmpty_iff.mp h2
      subst hsl
      exact ⟨ep, t1, t2, t3, e⟩
    · exact nomatch h
  · exact nomatch h

section
variable {P : Program} {w : World} {K : PySem.W.Frag} {h : Heap} {mg : Str → Option Value} {base : Heap}
theorem txt_of (X : K.In h) (G : h.Ns mainGlobals mg) (c : SaysQ fa ex fn K) : Txt K mg := by
  have m := c.more
  unfold ex at m
  simp only [Bool.and_eq_true] at m
  obtain ⟨⟨b1, b2, b3, b4, b5⟩, ⟨⟨wb, g1⟩, g2, g3, g4, g5, g6⟩, p1, p2, p3⟩ := m
  exact {
    f_len := He.free_ok X G (c.fact 66 (f := .free "len") rfl)
    f_range := He.free_ok X G (c.fact 67 (f := .free "range") rfl)
    f_abs := He.free_ok X G (c.fact 68 (f := .free "abs") rfl)
    f_min := He.free_ok X G (c.fact 69 (f := .free "min") rfl)
    f_list := He.free_ok X G (c.fact 70 (f := .free "list") rfl)
    f_tuple := He.free_ok X G (c.fact 71 (f := .free "tuple") rfl)
    f_dict := He.free_ok X G (c.fact 72 (f := .free "dict") rfl)
    i_FACTS := He.int_ok X G (c.fact 74 (f := .int "FACTS" 40) rfl)
    i_MOMENTS := He.int_ok X G (c.fact 73 (f := .int "MOMENTS" 8) rfl)
    i_SHOWS := He.int_ok X G (c.fact 75 (f := .int "SHOWS" 6) rfl)
    i_GREAT := He.int_ok X G (c.fact 76 (f := .int "GREAT" 1000) rfl)
    g_ZERO := He.glo_ok X G g1
    g_TWO := He.glo_ok X G g2
    g_NOUGHT_scenes := He.glo_ok X G g3
    g_NOUGHT_papers := He.glo_ok X G g4
    g_NOUGHT_books := He.glo_ok X G g5
    g_WORDS := He.glo_ok X G g6
    t_ZERO := fun H => He.tupB_ok b1 H
    t_TWO := fun H => He.tupB_ok b2 H
    t_NOUGHT_scenes := fun H => He.tupB_ok b3 H
    t_NOUGHT_papers := fun H => He.tupB_ok b4 H
    t_NOUGHT_books := fun H => He.tupB_ok b5 H
    words := words_ok wb
    c_Book := He.cls_ok (c.fact 78 (f := .cls "Book") rfl)
    c_Scene := He.cls_ok (c.fact 81 (f := .cls "Scene") rfl)
    no_Book_names := He.noat_ok (c.fact 83 (f := .noat "Book" "_names") rfl)
    no_Book_facts := He.noat_ok (c.fact 84 (f := .noat "Book" "_facts") rfl)
    no_Book_past := He.noat_ok (c.fact 85 (f := .noat "Book" "_past") rfl)
    no_Scene_book := He.noat_ok (c.fact 86 (f := .noat "Scene" "_book") rfl)
    no_Scene_shows := He.noat_ok (c.fact 87 (f := .noat "Scene" "_shows") rfl)
  }
theorem props_of (c : SaysQ fa ex fn K) : isProp K "Scene" "book" = true ∧ isProp K "Scene" "shows" = true ∧ isProp K "Book" "facts" = true := by
  have m := c.more
  unfold ex at m
  simp only [Bool.and_eq_true] at m
  exact m.2.2
theorem law_binds {f : Addr} {fd : FuncData} (F : Fun K "law" "law" s_law f fd) (s : Shared) (v : Value) : BindsTo s fd ⟨[v], []⟩ [("_law_script", v)] := by
  obtain ⟨oc, od, kV, doc, pm, an, cdv, ct, osl, rfl, lk, hcd⟩ := F.ex
  exact .of_eq rfl
theorem law_fn (X : K.In h) (G : h.Ns mainGlobals mg) (c : SaysQ fa ex fn K) : ∃ fd : FuncData, mg ("law" : Str) = some (.ref (He.ga K "law")) ∧ (∀ (s : Shared) (v : Value), BindsTo s fd ⟨[v], []⟩ [("_law_script", v)]) ∧ ∀ (P : Program) (w : World) (base : Heap), FnOk P w K mg base CX0 14 (He.ga K "law") fd ["_law_script"] (sp_law K) := by
  have T := txt_of X G c
  obtain ⟨pr1, pr2, pr3⟩ := props_of c
  obtain ⟨fd_common_divisor, F_common_divisor⟩ := c.def_ 0 (d := ⟨.g "common_divisor", "common_divisor", "common_divisor", s_common_divisor⟩) rfl
  obtain ⟨fd_compare, F_compare⟩ := c.def_ 6 (d := ⟨.g "compare", "compare", "compare", s_compare⟩) rfl
  obtain ⟨fd_track_of_clips, F_track_of_clips⟩ := c.def_ 13 (d := ⟨.g "track_of_clips", "track_of", "track_of", s_track_of_clips⟩) rfl
  obtain ⟨fd_has_property, F_has_property⟩ := c.def_ 31 (d := ⟨.g "has_property", "has_property", "has_property", s_has_property⟩) rfl
  obtain ⟨fd_Scene_init, F_Scene_init⟩ := c.def_ 32 (d := ⟨.m "Scene" "__init__", "__init__", "Scene.__init__", s_Scene_init⟩) rfl
  obtain ⟨fd_Scene_book, F_Scene_book⟩ := c.def_ 33 (d := ⟨.p "Scene" "book", "book", "Scene.book", s_Scene_book⟩) rfl
  obtain ⟨fd_Scene_shows, F_Scene_shows⟩ := c.def_ 34 (d := ⟨.p "Scene" "shows", "shows", "Scene.shows", s_Scene_shows⟩) rfl
  obtain ⟨fd_Book_contains, F_Book_contains⟩ := c.def_ 74 (d := ⟨.m "Book" "__contains__", "__contains__", "Book.__contains__", s_Book_contains⟩) rfl
  obtain ⟨fd_Book_check_moments, F_Book_check_moments⟩ := c.def_ 60 (d := ⟨.m "Book" "check_moments", "check_moments", "Book.check_moments", s_Book_check_moments⟩) rfl
  obtain ⟨fd_Book_facts, F_Book_facts⟩ := c.def_ 59 (d := ⟨.p "Book" "facts", "facts", "Book.facts", s_Book_facts⟩) rfl
  obtain ⟨fd_Book_init, F_Book_init⟩ := c.def_ 58 (d := ⟨.m "Book" "__init__", "__init__", "Book.__init__", s_Book_init⟩) rfl
  obtain ⟨fd_Book_check_room, F_Book_check_room⟩ := c.def_ 62 (d := ⟨.m "Book" "check_room", "check_room", "Book.check_room", s_Book_check_room⟩) rfl
  obtain ⟨fd_Book_remember, F_Book_remember⟩ := c.def_ 63 (d := ⟨.m "Book" "remember", "remember", "Book.remember", s_Book_remember⟩) rfl
  obtain ⟨fd__law_cell, F__law_cell⟩ := c.def_ 75 (d := ⟨.g "_law_cell", "_law_cell", "_law_cell", s__law_cell⟩) rfl
  obtain ⟨fd__law_six, F__law_six⟩ := c.def_ 77 (d := ⟨.g "_law_six", "_law_six", "_law_six", s__law_six⟩) rfl
  obtain ⟨fd__law_far, F__law_far⟩ := c.def_ 81 (d := ⟨.g "_law_far", "_law_far", "_law_far", s__law_far⟩) rfl
  obtain ⟨fd__law_num, F__law_num⟩ := c.def_ 82 (d := ⟨.g "_law_num", "_law_num", "_law_num", s__law_num⟩) rfl
  obtain ⟨fd__law_less, F__law_less⟩ := c.def_ 85 (d := ⟨.g "_law_less", "_law_less", "_law_less", s__law_less⟩) rfl
  obtain ⟨fd_number, F_number⟩ := c.def_ 1 (d := ⟨.g "number", "number", "number", s_number⟩) rfl
  obtain ⟨fd_is_less, F_is_less⟩ := c.def_ 7 (d := ⟨.g "is_less", "is_less", "is_less", s_is_less⟩) rfl
  obtain ⟨fd_clamped, F_clamped⟩ := c.def_ 24 (d := ⟨.g "clamped", "clamped", "clamped", s_clamped⟩) rfl
  obtain ⟨fd_Scene_show, F_Scene_show⟩ := c.def_ 35 (d := ⟨.m "Scene" "show", "show", "Scene.show", s_Scene_show⟩) rfl
  obtain ⟨fd_Scene_shown, F_Scene_shown⟩ := c.def_ 36 (d := ⟨.m "Scene" "shown", "shown", "Scene.shown", s_Scene_shown⟩) rfl
  obtain ⟨fd_is_better, F_is_better⟩ := c.def_ 54 (d := ⟨.g "is_better", "is_better", "is_better", s_is_better⟩) rfl
  obtain ⟨fd_lies_within, F_lies_within⟩ := c.def_ 40 (d := ⟨.g "lies_within", "lies_within", "lies_within", s_lies_within⟩) rfl
  obtain ⟨fd_is_too_great, F_is_too_great⟩ := c.def_ 52 (d := ⟨.g "is_too_great", "is_too_great", "is_too_great", s_is_too_great⟩) rfl
  obtain ⟨fd__law_draw, F__law_draw⟩ := c.def_ 76 (d := ⟨.g "_law_draw", "_law_draw", "_law_draw", s__law_draw⟩) rfl
  obtain ⟨fd__law_add, F__law_add⟩ := c.def_ 83 (d := ⟨.g "_law_add", "_law_add", "_law_add", s__law_add⟩) rfl
  obtain ⟨fd__law_mul, F__law_mul⟩ := c.def_ 84 (d := ⟨.g "_law_mul", "_law_mul", "_law_mul", s__law_mul⟩) rfl
  obtain ⟨fd__law_holds, F__law_holds⟩ := c.def_ 88 (d := ⟨.g "_law_holds", "_law_holds", "_law_holds", s__law_holds⟩) rfl
  obtain ⟨fd_plus, F_plus⟩ := c.def_ 2 (d := ⟨.g "plus", "plus", "plus", s_plus⟩) rfl
  obtain ⟨fd_minus, F_minus⟩ := c.def_ 3 (d := ⟨.g "minus", "minus", "minus", s_minus⟩) rfl
  obtain ⟨fd_times, F_times⟩ := c.def_ 4 (d := ⟨.g "times", "times", "times", s_times⟩) rfl
  obtain ⟨fd_over, F_over⟩ := c.def_ 5 (d := ⟨.g "over", "over", "over", s_over⟩) rfl
  obtain ⟨fd_least_of, F_least_of⟩ := c.def_ 8 (d := ⟨.g "least_of", "least_of", "least_of", s_least_of⟩) rfl
  obtain ⟨fd_greatest_of, F_greatest_of⟩ := c.def_ 9 (d := ⟨.g "greatest_of", "greatest_of", "greatest_of", s_greatest_of⟩) rfl
  obtain ⟨fd_ascending, F_ascending⟩ := c.def_ 10 (d := ⟨.g "ascending", "ascending", "ascending", s_ascending⟩) rfl
  obtain ⟨fd_show_of, F_show_of⟩ := c.def_ 41 (d := ⟨.g "show_of", "show_of", "show_of", s_show_of⟩) rfl
  obtain ⟨fd_Book_check_numbers, F_Book_check_numbers⟩ := c.def_ 61 (d := ⟨.m "Book" "check_numbers", "check_numbers", "Book.check_numbers", s_Book_check_numbers⟩) rfl
  obtain ⟨fd__law_story, F__law_story⟩ := c.def_ 78 (d := ⟨.g "_law_story", "_law_story", "_law_story", s__law_story⟩) rfl
  obtain ⟨fd__law_facts, F__law_facts⟩ := c.def_ 79 (d := ⟨.g "_law_facts", "_law_facts", "_law_facts", s__law_facts⟩) rfl
  obtain ⟨fd__law_clip, F__law_clip⟩ := c.def_ 86 (d := ⟨.g "_law_clip", "_law_clip", "_law_clip", s__law_clip⟩) rfl
  obtain ⟨fd_value_in, F_value_in⟩ := c.def_ 11 (d := ⟨.g "value_in", "value_in", "value_in", s_value_in⟩) rfl
  obtain ⟨fd_slope_in, F_slope_in⟩ := c.def_ 12 (d := ⟨.g "slope_in", "slope_in", "slope_in", s_slope_in⟩) rfl
  obtain ⟨fd_piece_at, F_piece_at⟩ := c.def_ 14 (d := ⟨.g "piece_at", "piece_at", "piece_at", s_piece_at⟩) rfl
  obtain ⟨fd_turning_place_clips, F_turning_place_clips⟩ := c.def_ 16 (d := ⟨.g "turning_place_clips", "turning_place", "turning_place", s_turning_place_clips⟩) rfl
  obtain ⟨fd_turning_place_scenes, F_turning_place_scenes⟩ := c.def_ 27 (d := ⟨.g "turning_place_scenes", "turning_place", "turning_place", s_turning_place_scenes⟩) rfl
  obtain ⟨fd_ends_of_books, F_ends_of_books⟩ := c.def_ 53 (d := ⟨.g "ends_of_books", "ends_of", "ends_of", s_ends_of_books⟩) rfl
  obtain ⟨fd_ends_of_papers, F_ends_of_papers⟩ := c.def_ 42 (d := ⟨.g "ends_of_papers", "ends_of", "ends_of", s_ends_of_papers⟩) rfl
  obtain ⟨fd_chain_length, F_chain_length⟩ := c.def_ 48 (d := ⟨.g "chain_length", "chain_length", "chain_length", s_chain_length⟩) rfl
  obtain ⟨fd_Book_is_fit, F_Book_is_fit⟩ := c.def_ 73 (d := ⟨.m "Book" "is_fit", "is_fit", "Book.is_fit", s_Book_is_fit⟩) rfl
  obtain ⟨fd_Book_add, F_Book_add⟩ := c.def_ 64 (d := ⟨.m "Book" "add", "add", "Book.add", s_Book_add⟩) rfl
  obtain ⟨fd_value_at, F_value_at⟩ := c.def_ 15 (d := ⟨.g "value_at", "value_at", "value_at", s_value_at⟩) rfl
  obtain ⟨fd_turning_points, F_turning_points⟩ := c.def_ 17 (d := ⟨.g "turning_points", "turning_points", "turning_points", s_turning_points⟩) rfl
  obtain ⟨fd_later_form, F_later_form⟩ := c.def_ 21 (d := ⟨.g "later_form", "later_form", "later_form", s_later_form⟩) rfl
  obtain ⟨fd_one_step_more, F_one_step_more⟩ := c.def_ 55 (d := ⟨.g "one_step_more", "one_step_more", "one_step_more", s_one_step_more⟩) rfl
  obtain ⟨fd_values_between_clips, F_values_between_clips⟩ := c.def_ 18 (d := ⟨.g "values_between_clips", "values_between", "values_between", s_values_between_clips⟩) rfl
  obtain ⟨fd_normal_track, F_normal_track⟩ := c.def_ 22 (d := ⟨.g "normal_track", "normal_track", "normal_track", s_normal_track⟩) rfl
  obtain ⟨fd_shown_at, F_shown_at⟩ := c.def_ 25 (d := ⟨.g "shown_at", "shown_at", "shown_at", s_shown_at⟩) rfl
  obtain ⟨fd_best_chains, F_best_chains⟩ := c.def_ 56 (d := ⟨.g "best_chains", "best_chains", "best_chains", s_best_chains⟩) rfl
  obtain ⟨fd_least_value, F_least_value⟩ := c.def_ 19 (d := ⟨.g "least_value", "least_value", "least_value", s_least_value⟩) rfl
  obtain ⟨fd_greatest_value, F_greatest_value⟩ := c.def_ 20 (d := ⟨.g "greatest_value", "greatest_value", "greatest_value", s_greatest_value⟩) rfl
  obtain ⟨fd_normal, F_normal⟩ := c.def_ 23 (d := ⟨.g "normal", "normal", "normal", s_normal⟩) rfl
  obtain ⟨fd_Scene_value, F_Scene_value⟩ := c.def_ 37 (d := ⟨.m "Scene" "value", "value", "Scene.value", s_Scene_value⟩) rfl
  obtain ⟨fd_Book_best, F_Book_best⟩ := c.def_ 66 (d := ⟨.m "Book" "best", "best", "Book.best", s_Book_best⟩) rfl
  obtain ⟨fd_middle_number, F_middle_number⟩ := c.def_ 43 (d := ⟨.g "middle_number", "middle_number", "middle_number", s_middle_number⟩) rfl
  obtain ⟨fd_earliest_of, F_earliest_of⟩ := c.def_ 57 (d := ⟨.g "earliest_of", "earliest_of", "earliest_of", s_earliest_of⟩) rfl
  obtain ⟨fd_Book_latest, F_Book_latest⟩ := c.def_ 70 (d := ⟨.m "Book" "latest", "latest", "Book.latest", s_Book_latest⟩) rfl
  obtain ⟨fd_track_of_scenes, F_track_of_scenes⟩ := c.def_ 26 (d := ⟨.g "track_of_scenes", "track_of", "track_of", s_track_of_scenes⟩) rfl
  obtain ⟨fd_values_between_scenes, F_values_between_scenes⟩ := c.def_ 30 (d := ⟨.g "values_between_scenes", "values_between", "values_between", s_values_between_scenes⟩) rfl
  obtain ⟨fd_Book_span, F_Book_span⟩ := c.def_ 67 (d := ⟨.m "Book" "span", "span", "Book.span", s_Book_span⟩) rfl
  obtain ⟨fd_Book_chain, F_Book_chain⟩ := c.def_ 68 (d := ⟨.m "Book" "chain", "chain", "Book.chain", s_Book_chain⟩) rfl
  obtain ⟨fd_is_true_in, F_is_true_in⟩ := c.def_ 50 (d := ⟨.g "is_true_in", "is_true_in", "is_true_in", s_is_true_in⟩) rfl
  obtain ⟨fd_Book_earliest, F_Book_earliest⟩ := c.def_ 69 (d := ⟨.m "Book" "earliest", "earliest", "Book.earliest", s_Book_earliest⟩) rfl
  obtain ⟨fd__law_so, F__law_so⟩ := c.def_ 89 (d := ⟨.g "_law_so", "_law_so", "_law_so", s__law_so⟩) rfl
  obtain ⟨fd_turning_positions, F_turning_positions⟩ := c.def_ 28 (d := ⟨.g "turning_positions", "turning_positions", "turning_positions", s_turning_positions⟩) rfl
  obtain ⟨fd_Scene_bounds, F_Scene_bounds⟩ := c.def_ 38 (d := ⟨.m "Scene" "bounds", "bounds", "Scene.bounds", s_Scene_bounds⟩) rfl
  obtain ⟨fd_Book_says, F_Book_says⟩ := c.def_ 72 (d := ⟨.m "Book" "says", "says", "Book.says", s_Book_says⟩) rfl
  obtain ⟨fd_Book_fit_with, F_Book_fit_with⟩ := c.def_ 71 (d := ⟨.m "Book" "fit_with", "fit_with", "Book.fit_with", s_Book_fit_with⟩) rfl
  obtain ⟨fd_holds_surely, F_holds_surely⟩ := c.def_ 49 (d := ⟨.g "holds_surely", "holds_surely", "holds_surely", s_holds_surely⟩) rfl
  obtain ⟨fd_Book_tell, F_Book_tell⟩ := c.def_ 65 (d := ⟨.m "Book" "tell", "tell", "Book.tell", s_Book_tell⟩) rfl
  obtain ⟨fd_points_between, F_points_between⟩ := c.def_ 29 (d := ⟨.g "points_between", "points_between", "points_between", s_points_between⟩) rfl
  obtain ⟨fd_Scene_says, F_Scene_says⟩ := c.def_ 39 (d := ⟨.m "Scene" "says", "says", "Scene.says", s_Scene_says⟩) rfl
  obtain ⟨fd_judge, F_judge⟩ := c.def_ 51 (d := ⟨.g "judge", "judge", "judge", s_judge⟩) rfl
  obtain ⟨fd__law_book, F__law_book⟩ := c.def_ 80 (d := ⟨.g "_law_book", "_law_book", "_law_book", s__law_book⟩) rfl
  obtain ⟨fd_numbers_of, F_numbers_of⟩ := c.def_ 44 (d := ⟨.g "numbers_of", "numbers_of", "numbers_of", s_numbers_of⟩) rfl
  obtain ⟨fd_said_of, F_said_of⟩ := c.def_ 46 (d := ⟨.g "said_of", "said_of", "said_of", s_said_of⟩) rfl
  obtain ⟨fd__law_scene, F__law_scene⟩ := c.def_ 87 (d := ⟨.g "_law_scene", "_law_scene", "_law_scene", s__law_scene⟩) rfl
  obtain ⟨fd_open_numbers, F_open_numbers⟩ := c.def_ 45 (d := ⟨.g "open_numbers", "open_numbers", "open_numbers", s_open_numbers⟩) rfl
  obtain ⟨fd_answer, F_answer⟩ := c.def_ 47 (d := ⟨.g "answer", "answer", "answer", s_answer⟩) rfl
  obtain ⟨fd_law, F_law⟩ := c.def_ 90 (d := ⟨.g "law", "law", "law", s_law⟩) rfl
  refine ⟨fd_law, He.glo_ok X G (c.fact 65 (f := .glo "law") rfl), law_binds F_law, fun P w base => ?_⟩
  have K_common_divisor := ok_common_divisor (sp := sp_common_divisor) (P := P) (w := w) (base := base) T  F_common_divisor (fun vs H Q E h => len_common_divisor vs H Q E h) (fun vs H Q E h => pure_common_divisor vs H Q E h)
  have G_common_divisor : Cal P w K mg base 1 "common_divisor" ["first", "second"] (sp_common_divisor) := ⟨⟨_, _, K_common_divisor, He.glo_ok X G (c.fact 0 (f := .glo "common_divisor") rfl), F_common_divisor.kp, bi_common_divisor F_common_divisor⟩⟩
  have K_compare := ok_compare (sp := sp_compare K) (P := P) (w := w) (base := base) T  F_compare (fun vs H Q E h => len_compare vs H Q E h) (fun vs H Q E h => pure_compare vs H Q E h)
  have G_compare : Cal P w K mg base 1 "compare" ["first", "second"] (sp_compare K) := ⟨⟨_, _, K_compare, He.glo_ok X G (c.fact 6 (f := .glo "compare") rfl), F_compare.kp, bi_compare F_compare⟩⟩
  have K_track_of_clips := ok_track_of_clips (sp := sp_track_of K) (P := P) (w := w) (base := base) T  F_track_of_clips (fun vs H Q E h => len_track_of vs H Q E h) (fun vs H Q E h => pure_track_of_clips vs H Q E h)
  have G_track_of_clips : Cal P w K mg base 1 "track_of_clips" ["clip", "prop"] (sp_track_of K) := ⟨⟨_, _, K_track_of_clips, He.glo_ok X G (c.fact 13 (f := .glo "track_of_clips") rfl), F_track_of_clips.kp, bi_track_of_clips F_track_of_clips⟩⟩
  have K_has_property := ok_has_property (sp := sp_has_property K) (P := P) (w := w) (base := base) T  F_has_property (fun vs H Q E h => len_has_property vs H Q E h) (fun vs H Q E h => pure_has_property vs H Q E h)
  have G_has_property : Cal P w K mg base 1 "has_property" ["clip", "prop"] (sp_has_property K) := ⟨⟨_, _, K_has_property, He.glo_ok X G (c.fact 31 (f := .glo "has_property") rfl), F_has_property.kp, bi_has_property F_has_property⟩⟩
  have K_Scene_init := ok_Scene_init (sp := sp_Scene_init K) (P := P) (w := w) (base := base) T  F_Scene_init (fun vs H Q E h => len_Scene_init vs H Q E h) (fun vs H Q E h => pure_Scene_init T vs H Q E h)
  have G_Scene_init : NCal P w K mg base 1 (He.ga K "Scene") "Scene" ["self", "book"] (sp_Scene_init K) := ⟨T.c_Scene, ⟨_, _, K_Scene_init, He.mkr_ok (c.fact 82 (f := .mkr "Scene") rfl), He.glo_ok X G (c.fact 80 (f := .glo "Scene") rfl), bi_Scene_init F_Scene_init⟩⟩
  have K_Scene_book := ok_Scene_book (sp := sp_Scene_book K) (P := P) (w := w) (base := base) T  F_Scene_book (fun vs H Q E h => len_Scene_book vs H Q E h) (fun vs H Q E h => pure_Scene_book T vs H Q E h)
  have G_Scene_book : PCal P w K mg base 1 (He.ga K "Scene") "book" (sp_Scene_book K) := ⟨T.c_Scene, ⟨_, _, _, K_Scene_book, prop_ok pr1, bi_Scene_book F_Scene_book⟩⟩
  have K_Scene_shows := ok_Scene_shows (sp := sp_Scene_shows K) (P := P) (w := w) (base := base) T  F_Scene_shows (fun vs H Q E h => len_Scene_shows vs H Q E h) (fun vs H Q E h => pure_Scene_shows T vs H Q E h)
  have G_Scene_shows : PCal P w K mg base 1 (He.ga K "Scene") "shows" (sp_Scene_shows K) := ⟨T.c_Scene, ⟨_, _, _, K_Scene_shows, prop_ok pr2, bi_Scene_shows F_Scene_shows⟩⟩
  have K_Book_contains := ok_Book_contains (sp := sp_contains K) (P := P) (w := w) (base := base) T  F_Book_contains (fun vs H Q E h => len_contains vs H Q E h) (fun vs H Q E h => pure_Book_contains T vs H Q E h)
  have G_Book_contains : MCal P w K mg base 1 (He.ga K "Book") "__contains__" ["self", "name"] (sp_contains K) := ⟨T.c_Book, ⟨_, _, K_Book_contains, He.meth_ok (c.fact 109 (f := .meth "Book" "__contains__") rfl), bi_Book_contains F_Book_contains⟩⟩
  have K_Book_check_moments := ok_Book_check_moments (sp := sp_check_moments K) (P := P) (w := w) (base := base) T  F_Book_check_moments (fun vs H Q E h => len_check_moments vs H Q E h) (fun vs H Q E h => pure_Book_check_moments T vs H Q E h)
  have G_Book_check_moments : MCal P w K mg base 1 (He.ga K "Book") "check_moments" ["self", "first", "second"] (sp_check_moments K) := ⟨T.c_Book, ⟨_, _, K_Book_check_moments, He.meth_ok (c.fact 95 (f := .meth "Book" "check_moments") rfl), bi_Book_check_moments F_Book_check_moments⟩⟩
  have K_Book_facts := ok_Book_facts (sp := sp_facts K) (P := P) (w := w) (base := base) T  F_Book_facts (fun vs H Q E h => len_facts vs H Q E h) (fun vs H Q E h => pure_Book_facts T vs H Q E h)
  have G_Book_facts : PCal P w K mg base 1 (He.ga K "Book") "facts" (sp_facts K) := ⟨T.c_Book, ⟨_, _, _, K_Book_facts, prop_ok pr3, bi_Book_facts F_Book_facts⟩⟩
  have K_Book_init := ok_Book_init (sp := sp_Book_init K) (P := P) (w := w) (base := base) T  F_Book_init (fun vs H Q E h => len_Book_init vs H Q E h) (fun vs H Q E h => pure_Book_init T vs H Q E h)
  have G_Book_init : NCal P w K mg base 1 (He.ga K "Book") "Book" ["self"] (sp_Book_init K) := ⟨T.c_Book, ⟨_, _, K_Book_init, He.mkr_ok (c.fact 79 (f := .mkr "Book") rfl), He.glo_ok X G (c.fact 77 (f := .glo "Book") rfl), bi_Book_init F_Book_init⟩⟩
  have K_Book_check_room := ok_Book_check_room (sp := sp_check_room K) (P := P) (w := w) (base := base) T  F_Book_check_room (fun vs H Q E h => len_check_room vs H Q E h) (fun vs H Q E h => pure_Book_check_room T vs H Q E h)
  have G_Book_check_room : MCal P w K mg base 1 (He.ga K "Book") "check_room" ["self"] (sp_check_room K) := ⟨T.c_Book, ⟨_, _, K_Book_check_room, He.meth_ok (c.fact 97 (f := .meth "Book" "check_room") rfl), bi_Book_check_room F_Book_check_room⟩⟩
  have K_Book_remember := ok_Book_remember (sp := sp_remember K) (P := P) (w := w) (base := base) T  F_Book_remember (fun vs H Q E h => len_remember vs H Q E h) (fun vs H Q E h => pure_Book_remember T vs H Q E h)
  have G_Book_remember : MCal P w K mg base 1 (He.ga K "Book") "remember" ["self", "name"] (sp_remember K) := ⟨T.c_Book, ⟨_, _, K_Book_remember, He.meth_ok (c.fact 98 (f := .meth "Book" "remember") rfl), bi_Book_remember F_Book_remember⟩⟩
  have K__law_cell := ok__law_cell (sp := sp__law_cell K) (P := P) (w := w) (base := base) T  F__law_cell (fun vs H Q E h => len__law_cell vs H Q E h) (fun vs H Q E h => pure__law_cell vs H Q E h)
  have G__law_cell : Cal P w K mg base 1 "_law_cell" ["_law_script", "_law_k"] (sp__law_cell K) := ⟨⟨_, _, K__law_cell, He.glo_ok X G (c.fact 50 (f := .glo "_law_cell") rfl), F__law_cell.kp, bi__law_cell F__law_cell⟩⟩
  have K__law_six := ok__law_six (sp := sp__law_six K) (P := P) (w := w) (base := base) T  F__law_six (fun vs H Q E h => len__law_six vs H Q E h) (fun vs H Q E h => pure__law_six vs H Q E h)
  have G__law_six : Cal P w K mg base 1 "_law_six" ["_law_value"] (sp__law_six K) := ⟨⟨_, _, K__law_six, He.glo_ok X G (c.fact 52 (f := .glo "_law_six") rfl), F__law_six.kp, bi__law_six F__law_six⟩⟩
  have K__law_far := ok__law_far (sp := sp__law_far K) (P := P) (w := w) (base := base) T  F__law_far (fun vs H Q E h => len__law_far vs H Q E h) (fun vs H Q E h => pure__law_far vs H Q E h)
  have G__law_far : Cal P w K mg base 1 "_law_far" ["_law_many", "_law_facts_here"] (sp__law_far K) := ⟨⟨_, _, K__law_far, He.glo_ok X G (c.fact 56 (f := .glo "_law_far") rfl), F__law_far.kp, bi__law_far F__law_far⟩⟩
  have K__law_num := ok__law_num (sp := sp_number K) (P := P) (w := w) (base := base) T  F__law_num (fun vs H Q E h => len_number vs H Q E h) (fun vs H Q E h => pure__law_num vs H Q E h)
  have G__law_num : Cal P w K mg base 1 "_law_num" ["_law_top", "_law_bottom"] (sp_number K) := ⟨⟨_, _, K__law_num, He.glo_ok X G (c.fact 57 (f := .glo "_law_num") rfl), F__law_num.kp, bi__law_num F__law_num⟩⟩
  have K__law_less := ok__law_less (sp := sp_is_less K) (P := P) (w := w) (base := base) T  F__law_less (fun vs H Q E h => len_is_less vs H Q E h) (fun vs H Q E h => pure__law_less vs H Q E h)
  have G__law_less : Cal P w K mg base 1 "_law_less" ["_law_one", "_law_other"] (sp_is_less K) := ⟨⟨_, _, K__law_less, He.glo_ok X G (c.fact 60 (f := .glo "_law_less") rfl), F__law_less.kp, bi__law_less F__law_less⟩⟩
  have K_number := ok_number (sp := sp_number K) (P := P) (w := w) (base := base) T G_common_divisor F_number (fun vs H Q E h => len_number vs H Q E h) (fun vs H Q E h => pure_number vs H Q E h)
  have G_number : Cal P w K mg base 2 "number" ["top", "bottom"] (sp_number K) := ⟨⟨_, _, K_number, He.glo_ok X G (c.fact 1 (f := .glo "number") rfl), F_number.kp, bi_number F_number⟩⟩
  have K_is_less := ok_is_less (sp := sp_is_less K) (P := P) (w := w) (base := base) T G_compare F_is_less (fun vs H Q E h => len_is_less vs H Q E h) (fun vs H Q E h => pure_is_less vs H Q E h)
  have G_is_less : Cal P w K mg base 2 "is_less" ["first", "second"] (sp_is_less K) := ⟨⟨_, _, K_is_less, He.glo_ok X G (c.fact 7 (f := .glo "is_less") rfl), F_is_less.kp, bi_is_less F_is_less⟩⟩
  have K_clamped := ok_clamped (sp := sp_clamped K) (P := P) (w := w) (base := base) T G_compare F_clamped (fun vs H Q E h => len_clamped vs H Q E h) (fun vs H Q E h => pure_clamped T vs H Q E h)
  have G_clamped : Cal P w K mg base 2 "clamped" ["clip", "number"] (sp_clamped K) := ⟨⟨_, _, K_clamped, He.glo_ok X G (c.fact 24 (f := .glo "clamped") rfl), F_clamped.kp, bi_clamped F_clamped⟩⟩
  have K_Scene_show := ok_Scene_show (sp := sp_show K) (P := P) (w := w) (base := base) T G_has_property G_Book_contains F_Scene_show (fun vs H Q E h => len_show vs H Q E h) (fun vs H Q E h => pure_Scene_show T vs H Q E h)
  have G_Scene_show : MCal P w K mg base 2 (He.ga K "Scene") "show" ["self", "name", "clip", "prop", "cue"] (sp_show K) := ⟨T.c_Scene, ⟨_, _, K_Scene_show, He.meth_ok (c.fact 89 (f := .meth "Scene" "show") rfl), bi_Scene_show F_Scene_show⟩⟩
  have K_Scene_shown := ok_Scene_shown (sp := sp_shown K) (P := P) (w := w) (base := base) T G_Book_contains F_Scene_shown (fun vs H Q E h => len_shown vs H Q E h) (fun vs H Q E h => pure_Scene_shown T vs H Q E h)
  have G_Scene_shown : MCal P w K mg base 2 (He.ga K "Scene") "shown" ["self", "name", "moment"] (sp_shown K) := ⟨T.c_Scene, ⟨_, _, K_Scene_shown, He.meth_ok (c.fact 90 (f := .meth "Scene" "shown") rfl), bi_Scene_shown F_Scene_shown⟩⟩
  have K_is_better := ok_is_better (sp := sp_is_better K) (P := P) (w := w) (base := base) T G_compare F_is_better (fun vs H Q E h => len_is_better vs H Q E h) (fun vs H Q E h => pure_is_better vs H Q E h)
  have G_is_better : Cal P w K mg base 2 "is_better" ["found", "other"] (sp_is_better K) := ⟨⟨_, _, K_is_better, He.glo_ok X G (c.fact 46 (f := .glo "is_better") rfl), F_is_better.kp, bi_is_better F_is_better⟩⟩
  have K_lies_within := ok_lies_within (sp := sp_lies_within K) (P := P) (w := w) (base := base) T G_compare F_lies_within (fun vs H Q E h => len_lies_within vs H Q E h) (fun vs H Q E h => pure_lies_within vs H Q E h)
  have G_lies_within : Cal P w K mg base 2 "lies_within" ["number", "low", "high"] (sp_lies_within K) := ⟨⟨_, _, K_lies_within, He.glo_ok X G (c.fact 32 (f := .glo "lies_within") rfl), F_lies_within.kp, bi_lies_within F_lies_within⟩⟩
  have K_is_too_great := ok_is_too_great (sp := sp_is_too_great K) (P := P) (w := w) (base := base) T G_compare F_is_too_great (fun vs H Q E h => len_is_too_great vs H Q E h) (fun vs H Q E h => pure_is_too_great vs H Q E h)
  have G_is_too_great : Cal P w K mg base 2 "is_too_great" ["number"] (sp_is_too_great K) := ⟨⟨_, _, K_is_too_great, He.glo_ok X G (c.fact 44 (f := .glo "is_too_great") rfl), F_is_too_great.kp, bi_is_too_great F_is_too_great⟩⟩
  have K__law_draw := ok__law_draw (sp := sp__law_draw K) (P := P) (w := w) (base := base) T G__law_cell F__law_draw (fun vs H Q E h => len__law_draw vs H Q E h) (fun vs H Q E h => pure__law_draw vs H Q E h)
  have G__law_draw : Cal P w K mg base 2 "_law_draw" ["_law_script", "_law_k", "_law_sizes"] (sp__law_draw K) := ⟨⟨_, _, K__law_draw, He.glo_ok X G (c.fact 51 (f := .glo "_law_draw") rfl), F__law_draw.kp, bi__law_draw F__law_draw⟩⟩
  have K__law_add := ok__law_add (sp := sp_plus K) (P := P) (w := w) (base := base) T G__law_num F__law_add (fun vs H Q E h => len_op2 vs H Q E h) (fun vs H Q E h => pure__law_add vs H Q E h)
  have G__law_add : Cal P w K mg base 2 "_law_add" ["_law_one", "_law_other"] (sp_plus K) := ⟨⟨_, _, K__law_add, He.glo_ok X G (c.fact 58 (f := .glo "_law_add") rfl), F__law_add.kp, bi__law_add F__law_add⟩⟩
  have K__law_mul := ok__law_mul (sp := sp_times K) (P := P) (w := w) (base := base) T G__law_num F__law_mul (fun vs H Q E h => len_op2 vs H Q E h) (fun vs H Q E h => pure__law_mul vs H Q E h)
  have G__law_mul : Cal P w K mg base 2 "_law_mul" ["_law_one", "_law_other"] (sp_times K) := ⟨⟨_, _, K__law_mul, He.glo_ok X G (c.fact 59 (f := .glo "_law_mul") rfl), F__law_mul.kp, bi__law_mul F__law_mul⟩⟩
  have K__law_holds := ok__law_holds (sp := sp_lies_within K) (P := P) (w := w) (base := base) T G__law_less F__law_holds (fun vs H Q E h => len_lies_within vs H Q E h) (fun vs H Q E h => pure__law_holds vs H Q E h)
  have G__law_holds : Cal P w K mg base 2 "_law_holds" ["_law_value", "_law_low", "_law_high"] (sp_lies_within K) := ⟨⟨_, _, K__law_holds, He.glo_ok X G (c.fact 63 (f := .glo "_law_holds") rfl), F__law_holds.kp, bi__law_holds F__law_holds⟩⟩
  have K_plus := ok_plus (sp := sp_plus K) (P := P) (w := w) (base := base) T G_number F_plus (fun vs H Q E h => len_op2 vs H Q E h) (fun vs H Q E h => pure_plus vs H Q E h)
  have G_plus : Cal P w K mg base 3 "plus" ["first", "second"] (sp_plus K) := ⟨⟨_, _, K_plus, He.glo_ok X G (c.fact 2 (f := .glo "plus") rfl), F_plus.kp, bi_plus F_plus⟩⟩
  have K_minus := ok_minus (sp := sp_minus K) (P := P) (w := w) (base := base) T G_number F_minus (fun vs H Q E h => len_op2 vs H Q E h) (fun vs H Q E h => pure_minus vs H Q E h)
  have G_minus : Cal P w K mg base 3 "minus" ["first", "second"] (sp_minus K) := ⟨⟨_, _, K_minus, He.glo_ok X G (c.fact 3 (f := .glo "minus") rfl), F_minus.kp, bi_minus F_minus⟩⟩
  have K_times := ok_times (sp := sp_times K) (P := P) (w := w) (base := base) T G_number F_times (fun vs H Q E h => len_op2 vs H Q E h) (fun vs H Q E h => pure_times vs H Q E h)
  have G_times : Cal P w K mg base 3 "times" ["first", "second"] (sp_times K) := ⟨⟨_, _, K_times, He.glo_ok X G (c.fact 4 (f := .glo "times") rfl), F_times.kp, bi_times F_times⟩⟩
  have K_over := ok_over (sp := sp_over K) (P := P) (w := w) (base := base) T G_number F_over (fun vs H Q E h => len_op2 vs H Q E h) (fun vs H Q E h => pure_over vs H Q E h)
  have G_over : Cal P w K mg base 3 "over" ["first", "second"] (sp_over K) := ⟨⟨_, _, K_over, He.glo_ok X G (c.fact 5 (f := .glo "over") rfl), F_over.kp, bi_over F_over⟩⟩
  have K_least_of := ok_least_of (sp := sp_least_of K) (P := P) (w := w) (base := base) T G_is_less F_least_of (fun vs H Q E h => len_ext vs H Q E h) (fun vs H Q E h => pure_least_of vs H Q E h)
  have G_least_of : Cal P w K mg base 3 "least_of" ["values"] (sp_least_of K) := ⟨⟨_, _, K_least_of, He.glo_ok X G (c.fact 8 (f := .glo "least_of") rfl), F_least_of.kp, bi_least_of F_least_of⟩⟩
  have K_greatest_of := ok_greatest_of (sp := sp_greatest_of K) (P := P) (w := w) (base := base) T G_is_less F_greatest_of (fun vs H Q E h => len_ext vs H Q E h) (fun vs H Q E h => pure_greatest_of vs H Q E h)
  have G_greatest_of : Cal P w K mg base 3 "greatest_of" ["values"] (sp_greatest_of K) := ⟨⟨_, _, K_greatest_of, He.glo_ok X G (c.fact 9 (f := .glo "greatest_of") rfl), F_greatest_of.kp, bi_greatest_of F_greatest_of⟩⟩
  have K_ascending := ok_ascending (sp := sp_ascending K) (P := P) (w := w) (base := base) T G_is_less F_ascending (fun vs H Q E h => len_ascending vs H Q E h) (fun vs H Q E h => pure_ascending vs H Q E h)
  have G_ascending : Cal P w K mg base 3 "ascending" ["values"] (sp_ascending K) := ⟨⟨_, _, K_ascending, He.glo_ok X G (c.fact 10 (f := .glo "ascending") rfl), F_ascending.kp, bi_ascending F_ascending⟩⟩
  have K_show_of := ok_show_of (sp := sp_show_of K) (P := P) (w := w) (base := base) T G_Scene_shows F_show_of (fun vs H Q E h => len_show_of vs H Q E h) (fun vs H Q E h => pure_show_of vs H Q E h)
  have G_show_of : Cal P w K mg base 3 "show_of" ["scene", "name"] (sp_show_of K) := ⟨⟨_, _, K_show_of, He.glo_ok X G (c.fact 33 (f := .glo "show_of") rfl), F_show_of.kp, bi_show_of F_show_of⟩⟩
  have K_Book_check_numbers := ok_Book_check_numbers (sp := sp_check_numbers K) (P := P) (w := w) (base := base) T G_compare G_is_too_great F_Book_check_numbers (fun vs H Q E h => len_check_numbers vs H Q E h) (fun vs H Q E h => pure_Book_check_numbers vs H Q E h)
  have G_Book_check_numbers : MCal P w K mg base 3 (He.ga K "Book") "check_numbers" ["self", "least", "most"] (sp_check_numbers K) := ⟨T.c_Book, ⟨_, _, K_Book_check_numbers, He.meth_ok (c.fact 96 (f := .meth "Book" "check_numbers") rfl), bi_Book_check_numbers F_Book_check_numbers⟩⟩
  have K__law_story := ok__law_story (sp := sp__law_story K) (P := P) (w := w) (base := base) T G__law_draw F__law_story (fun vs H Q E h => len__law_story vs H Q E h) (fun vs H Q E h => pure__law_story vs H Q E h)
  have G__law_story : Cal P w K mg base 3 "_law_story" ["_law_script", "_law_at", "_law_most"] (sp__law_story K) := ⟨⟨_, _, K__law_story, He.glo_ok X G (c.fact 53 (f := .glo "_law_story") rfl), F__law_story.kp, bi__law_story F__law_story⟩⟩
  have K__law_facts := ok__law_facts (sp := sp__law_facts K) (P := P) (w := w) (base := base) T G__law_draw F__law_facts (fun vs H Q E h => len__law_facts vs H Q E h) (fun vs H Q E h => pure__law_facts vs H Q E h)
  have G__law_facts : Cal P w K mg base 3 "_law_facts" ["_law_script", "_law_at", "_law_names", "_law_hidden", "_law_many"] (sp__law_facts K) := ⟨⟨_, _, K__law_facts, He.glo_ok X G (c.fact 54 (f := .glo "_law_facts") rfl), F__law_facts.kp, bi__law_facts F__law_facts⟩⟩
  have K__law_clip := ok__law_clip (sp := sp__law_clip K) (P := P) (w := w) (base := base) T G__law_draw G__law_num G__law_mul G__law_add F__law_clip (fun vs H Q E h => len__law_clip vs H Q E h) (fun vs H Q E h => pure__law_clip vs H Q E h)
  have G__law_clip : Cal P w K mg base 3 "_law_clip" ["_law_script", "_law_at"] (sp__law_clip K) := ⟨⟨_, _, K__law_clip, He.glo_ok X G (c.fact 61 (f := .glo "_law_clip") rfl), F__law_clip.kp, bi__law_clip F__law_clip⟩⟩
  have K_value_in := ok_value_in (sp := sp_value_in K) (P := P) (w := w) (base := base) T G_times G_plus F_value_in (fun vs H Q E h => len_value_in vs H Q E h) (fun vs H Q E h => pure_value_in vs H Q E h)
  have G_value_in : Cal P w K mg base 4 "value_in" ["piece", "place"] (sp_value_in K) := ⟨⟨_, _, K_value_in, He.glo_ok X G (c.fact 11 (f := .glo "value_in") rfl), F_value_in.kp, bi_value_in F_value_in⟩⟩
  have K_slope_in := ok_slope_in (sp := sp_slope_in K) (P := P) (w := w) (base := base) T G_times G_plus F_slope_in (fun vs H Q E h => len_slope_in vs H Q E h) (fun vs H Q E h => pure_slope_in T vs H Q E h)
  have G_slope_in : Cal P w K mg base 4 "slope_in" ["piece", "place"] (sp_slope_in K) := ⟨⟨_, _, K_slope_in, He.glo_ok X G (c.fact 12 (f := .glo "slope_in") rfl), F_slope_in.kp, bi_slope_in F_slope_in⟩⟩
  have K_piece_at := ok_piece_at (sp := sp_piece_at K) (P := P) (w := w) (base := base) T G_plus G_compare G_minus F_piece_at (fun vs H Q E h => len_piece_at vs H Q E h) (fun vs H Q E h => pure_piece_at T vs H Q E h)
  have G_piece_at : Cal P w K mg base 4 "piece_at" ["track", "position", "back"] (sp_piece_at K) := ⟨⟨_, _, K_piece_at, He.glo_ok X G (c.fact 14 (f := .glo "piece_at") rfl), F_piece_at.kp, bi_piece_at F_piece_at⟩⟩
  have K_turning_place_clips := ok_turning_place_clips (sp := sp_turning K) (P := P) (w := w) (base := base) T G_times G_minus G_over G_is_less F_turning_place_clips (fun vs H Q E h => len_turning vs H Q E h) (fun vs H Q E h => pure_turning_place_clips T vs H Q E h)
  have G_turning_place_clips : Cal P w K mg base 4 "turning_place_clips" ["piece"] (sp_turning K) := ⟨⟨_, _, K_turning_place_clips, He.glo_ok X G (c.fact 16 (f := .glo "turning_place_clips") rfl), F_turning_place_clips.kp, bi_turning_place_clips F_turning_place_clips⟩⟩
  have K_turning_place_scenes := ok_turning_place_scenes (sp := sp_turning K) (P := P) (w := w) (base := base) T G_plus G_minus G_over G_compare F_turning_place_scenes (fun vs H Q E h => len_turning vs H Q E h) (fun vs H Q E h => pure_turning_place_scenes T vs H Q E h)
  have G_turning_place_scenes : Cal P w K mg base 4 "turning_place_scenes" ["piece"] (sp_turning K) := ⟨⟨_, _, K_turning_place_scenes, He.glo_ok X G (c.fact 27 (f := .glo "turning_place_scenes") rfl), F_turning_place_scenes.kp, bi_turning_place_scenes F_turning_place_scenes⟩⟩
  have K_ends_of_books := ok_ends_of_books (sp := sp_ends_of_books K) (P := P) (w := w) (base := base) T G_minus F_ends_of_books (fun vs H Q E h => len_ends_of_books vs H Q E h) (fun vs H Q E h => pure_ends_of_books T vs H Q E h)
  have G_ends_of_books : Cal P w K mg base 4 "ends_of_books" ["fact", "turn"] (sp_ends_of_books K) := ⟨⟨_, _, K_ends_of_books, He.glo_ok X G (c.fact 45 (f := .glo "ends_of_books") rfl), F_ends_of_books.kp, bi_ends_of_books F_ends_of_books⟩⟩
  have K_ends_of_papers := ok_ends_of_papers (sp := sp_ends_of_papers K) (P := P) (w := w) (base := base) T G_show_of F_ends_of_papers (fun vs H Q E h => len_ends_of_papers vs H Q E h) (fun vs H Q E h => pure_ends_of_papers vs H Q E h)
  have G_ends_of_papers : Cal P w K mg base 4 "ends_of_papers" ["scene", "question"] (sp_ends_of_papers K) := ⟨⟨_, _, K_ends_of_papers, He.glo_ok X G (c.fact 34 (f := .glo "ends_of_papers") rfl), F_ends_of_papers.kp, bi_ends_of_papers F_ends_of_papers⟩⟩
  have K_chain_length := ok_chain_length (sp := sp_chain_length K) (P := P) (w := w) (base := base) T G_minus G_plus F_chain_length (fun vs H Q E h => len_chain_length vs H Q E h) (fun vs H Q E h => pure_chain_length T vs H Q E h)
  have G_chain_length : Cal P w K mg base 4 "chain_length" ["facts", "chain", "first", "second"] (sp_chain_length K) := ⟨⟨_, _, K_chain_length, He.glo_ok X G (c.fact 40 (f := .glo "chain_length") rfl), F_chain_length.kp, bi_chain_length F_chain_length⟩⟩
  have K_Book_is_fit := ok_Book_is_fit (sp := sp_is_fit K) (P := P) (w := w) (base := base) T G_minus G_compare F_Book_is_fit (fun vs H Q E h => len_is_fit vs H Q E h) (fun vs H Q E h => pure_Book_is_fit T vs H Q E h)
  have G_Book_is_fit : MCal P w K mg base 4 (He.ga K "Book") "is_fit" ["self", "fit"] (sp_is_fit K) := ⟨T.c_Book, ⟨_, _, K_Book_is_fit, He.meth_ok (c.fact 108 (f := .meth "Book" "is_fit") rfl), bi_Book_is_fit F_Book_is_fit⟩⟩
  have K_Book_add := ok_Book_add (sp := sp_add K) (P := P) (w := w) (base := base) T G_Book_check_numbers G_Book_check_room G_Book_remember F_Book_add (fun vs H Q E h => len_add vs H Q E h) (fun vs H Q E h => pure_Book_add T vs H Q E h)
  have G_Book_add : MCal P w K mg base 4 (He.ga K "Book") "add" ["self", "name", "least", "most"] (sp_add K) := ⟨T.c_Book, ⟨_, _, K_Book_add, He.meth_ok (c.fact 99 (f := .meth "Book" "add") rfl), bi_Book_add F_Book_add⟩⟩
  have K_value_at := ok_value_at (sp := sp_value_at K) (P := P) (w := w) (base := base) T G_track_of_clips G_piece_at G_value_in F_value_at (fun vs H Q E h => len_value_at vs H Q E h) (fun vs H Q E h => pure_value_at vs H Q E h)
  have G_value_at : Cal P w K mg base 5 "value_at" ["clip", "prop", "position"] (sp_value_at K) := ⟨⟨_, _, K_value_at, He.glo_ok X G (c.fact 15 (f := .glo "value_at") rfl), F_value_at.kp, bi_value_at F_value_at⟩⟩
  have K_turning_points := ok_turning_points (sp := sp_turning_points K) (P := P) (w := w) (base := base) T G_turning_place_clips G_plus F_turning_points (fun vs H Q E h => len_turning_points vs H Q E h) (fun vs H Q E h => pure_turning_points T vs H Q E h)
  have G_turning_points : Cal P w K mg base 5 "turning_points" ["track"] (sp_turning_points K) := ⟨⟨_, _, K_turning_points, He.glo_ok X G (c.fact 17 (f := .glo "turning_points") rfl), F_turning_points.kp, bi_turning_points F_turning_points⟩⟩
  have K_later_form := ok_later_form (sp := sp_later_form K) (P := P) (w := w) (base := base) T G_slope_in G_value_in F_later_form (fun vs H Q E h => len_later_form vs H Q E h) (fun vs H Q E h => pure_later_form vs H Q E h)
  have G_later_form : Cal P w K mg base 5 "later_form" ["piece", "place"] (sp_later_form K) := ⟨⟨_, _, K_later_form, He.glo_ok X G (c.fact 21 (f := .glo "later_form") rfl), F_later_form.kp, bi_later_form F_later_form⟩⟩
  have K_one_step_more := ok_one_step_more (sp := sp_one_step_more K) (P := P) (w := w) (base := base) T G_ends_of_books G_plus G_is_better F_one_step_more (fun vs H Q E h => len_one_step_more vs H Q E h) (fun vs H Q E h => pure_one_step_more vs H Q E h)
  have G_one_step_more : Cal P w K mg base 5 "one_step_more" ["facts", "layer"] (sp_one_step_more K) := ⟨⟨_, _, K_one_step_more, He.glo_ok X G (c.fact 47 (f := .glo "one_step_more") rfl), F_one_step_more.kp, bi_one_step_more F_one_step_more⟩⟩
  have K_values_between_clips := ok_values_between_clips (sp := sp_vbc K) (P := P) (w := w) (base := base) T G_track_of_clips G_turning_points G_is_less G_ascending G_value_at F_values_between_clips (fun vs H Q E h => len_vbc vs H Q E h) (fun vs H Q E h => pure_values_between_clips vs H Q E h)
  have G_values_between_clips : Cal P w K mg base 6 "values_between_clips" ["clip", "prop", "first", "second"] (sp_vbc K) := ⟨⟨_, _, K_values_between_clips, He.glo_ok X G (c.fact 18 (f := .glo "values_between_clips") rfl), F_values_between_clips.kp, bi_values_between_clips F_values_between_clips⟩⟩
  have K_normal_track := ok_normal_track (sp := sp_normal_track K) (P := P) (w := w) (base := base) T G_later_form G_plus F_normal_track (fun vs H Q E h => len_normal_track vs H Q E h) (fun vs H Q E h => pure_normal_track vs H Q E h)
  have G_normal_track : Cal P w K mg base 6 "normal_track" ["track"] (sp_normal_track K) := ⟨⟨_, _, K_normal_track, He.glo_ok X G (c.fact 22 (f := .glo "normal_track") rfl), F_normal_track.kp, bi_normal_track F_normal_track⟩⟩
  have K_shown_at := ok_shown_at (sp := sp_shown_at K) (P := P) (w := w) (base := base) T G_clamped G_value_at F_shown_at (fun vs H Q E h => len_shown_at vs H Q E h) (fun vs H Q E h => pure_shown_at vs H Q E h)
  have G_shown_at : Cal P w K mg base 6 "shown_at" ["clip", "prop", "number"] (sp_shown_at K) := ⟨⟨_, _, K_shown_at, He.glo_ok X G (c.fact 25 (f := .glo "shown_at") rfl), F_shown_at.kp, bi_shown_at F_shown_at⟩⟩
  have K_best_chains := ok_best_chains (sp := sp_best_chains K) (P := P) (w := w) (base := base) T G_one_step_more G_compare F_best_chains (fun vs H Q E h => len_best_chains vs H Q E h) (fun vs H Q E h => pure_best_chains T vs H Q E h)
  have G_best_chains : Cal P w K mg base 6 "best_chains" ["facts", "many", "first"] (sp_best_chains K) := ⟨⟨_, _, K_best_chains, He.glo_ok X G (c.fact 48 (f := .glo "best_chains") rfl), F_best_chains.kp, bi_best_chains F_best_chains⟩⟩
  have K_least_value := ok_least_value (sp := sp_least_value K) (P := P) (w := w) (base := base) T G_values_between_clips G_least_of F_least_value (fun vs H Q E h => len_ends vs H Q E h) (fun vs H Q E h => pure_least_value vs H Q E h)
  have G_least_value : Cal P w K mg base 7 "least_value" ["clip", "prop", "first", "second"] (sp_least_value K) := ⟨⟨_, _, K_least_value, He.glo_ok X G (c.fact 19 (f := .glo "least_value") rfl), F_least_value.kp, bi_least_value F_least_value⟩⟩
  have K_greatest_value := ok_greatest_value (sp := sp_greatest_value K) (P := P) (w := w) (base := base) T G_values_between_clips G_greatest_of F_greatest_value (fun vs H Q E h => len_ends vs H Q E h) (fun vs H Q E h => pure_greatest_value vs H Q E h)
  have G_greatest_value : Cal P w K mg base 7 "greatest_value" ["clip", "prop", "first", "second"] (sp_greatest_value K) := ⟨⟨_, _, K_greatest_value, He.glo_ok X G (c.fact 20 (f := .glo "greatest_value") rfl), F_greatest_value.kp, bi_greatest_value F_greatest_value⟩⟩
  have K_normal := ok_normal (sp := sp_normal K) (P := P) (w := w) (base := base) T G_normal_track F_normal (fun vs H Q E h => len_normal vs H Q E h) (fun vs H Q E h => pure_normal vs H Q E h)
  have G_normal : Cal P w K mg base 7 "normal" ["clip"] (sp_normal K) := ⟨⟨_, _, K_normal, He.glo_ok X G (c.fact 23 (f := .glo "normal") rfl), F_normal.kp, bi_normal F_normal⟩⟩
  have K_Scene_value := ok_Scene_value (sp := sp_value K) (P := P) (w := w) (base := base) T G_Scene_shown G_minus G_shown_at F_Scene_value (fun vs H Q E h => len_value vs H Q E h) (fun vs H Q E h => pure_Scene_value vs H Q E h)
  have G_Scene_value : MCal P w K mg base 7 (He.ga K "Scene") "value" ["self", "name", "moment", "fit"] (sp_value K) := ⟨T.c_Scene, ⟨_, _, K_Scene_value, He.meth_ok (c.fact 91 (f := .meth "Scene" "value") rfl), bi_Scene_value F_Scene_value⟩⟩
  have K_Book_best := ok_Book_best (sp := sp_best K) (P := P) (w := w) (base := base) T G_Book_check_moments G_best_chains F_Book_best (fun vs H Q E h => len_best vs H Q E h) (fun vs H Q E h => pure_Book_best T vs H Q E h)
  have G_Book_best : MCal P w K mg base 7 (He.ga K "Book") "best" ["self", "first", "second"] (sp_best K) := ⟨T.c_Book, ⟨_, _, K_Book_best, He.meth_ok (c.fact 101 (f := .meth "Book" "best") rfl), bi_Book_best F_Book_best⟩⟩
  have K_middle_number := ok_middle_number (sp := sp_middle_number K) (P := P) (w := w) (base := base) T G_shown_at G_compare G_plus G_over G_lies_within F_middle_number (fun vs H Q E h => len_middle_number vs H Q E h) (fun vs H Q E h => pure_middle_number vs H Q E h)
  have G_middle_number : Cal P w K mg base 7 "middle_number" ["clip", "prop", "first", "second", "low", "high"] (sp_middle_number K) := ⟨⟨_, _, K_middle_number, He.glo_ok X G (c.fact 35 (f := .glo "middle_number") rfl), F_middle_number.kp, bi_middle_number F_middle_number⟩⟩
  have K_earliest_of := ok_earliest_of (sp := sp_earliest_of K) (P := P) (w := w) (base := base) T G_best_chains G_minus F_earliest_of (fun vs H Q E h => len_earliest_of vs H Q E h) (fun vs H Q E h => pure_earliest_of T vs H Q E h)
  have G_earliest_of : Cal P w K mg base 7 "earliest_of" ["names", "facts"] (sp_earliest_of K) := ⟨⟨_, _, K_earliest_of, He.glo_ok X G (c.fact 49 (f := .glo "earliest_of") rfl), F_earliest_of.kp, bi_earliest_of F_earliest_of⟩⟩
  have K_Book_latest := ok_Book_latest (sp := sp_latest K) (P := P) (w := w) (base := base) T G_best_chains F_Book_latest (fun vs H Q E h => len_latest vs H Q E h) (fun vs H Q E h => pure_Book_latest T vs H Q E h)
  have G_Book_latest : MCal P w K mg base 7 (He.ga K "Book") "latest" ["self"] (sp_latest K) := ⟨T.c_Book, ⟨_, _, K_Book_latest, He.meth_ok (c.fact 105 (f := .meth "Book" "latest") rfl), bi_Book_latest F_Book_latest⟩⟩
  have K_track_of_scenes := ok_track_of_scenes (sp := sp_track_of_n K) (P := P) (w := w) (base := base) T G_normal F_track_of_scenes (fun vs H Q E h => len_track_of_n vs H Q E h) (fun vs H Q E h => pure_track_of_scenes vs H Q E h)
  have G_track_of_scenes : Cal P w K mg base 8 "track_of_scenes" ["clip", "prop"] (sp_track_of_n K) := ⟨⟨_, _, K_track_of_scenes, He.glo_ok X G (c.fact 26 (f := .glo "track_of_scenes") rfl), F_track_of_scenes.kp, bi_track_of_scenes F_track_of_scenes⟩⟩
  have K_values_between_scenes := ok_values_between_scenes (sp := sp_vbs K) (P := P) (w := w) (base := base) T G_clamped G_greatest_value G_least_value F_values_between_scenes (fun vs H Q E h => len_vbs vs H Q E h) (fun vs H Q E h => pure_values_between_scenes vs H Q E h)
  have G_values_between_scenes : Cal P w K mg base 8 "values_between_scenes" ["clip", "prop", "low", "high"] (sp_vbs K) := ⟨⟨_, _, K_values_between_scenes, He.glo_ok X G (c.fact 30 (f := .glo "values_between_scenes") rfl), F_values_between_scenes.kp, bi_values_between_scenes F_values_between_scenes⟩⟩
  have K_Book_span := ok_Book_span (sp := sp_span K) (P := P) (w := w) (base := base) T G_Book_best G_minus F_Book_span (fun vs H Q E h => len_span vs H Q E h) (fun vs H Q E h => pure_Book_span T vs H Q E h)
  have G_Book_span : MCal P w K mg base 8 (He.ga K "Book") "span" ["self", "first", "second"] (sp_span K) := ⟨T.c_Book, ⟨_, _, K_Book_span, He.meth_ok (c.fact 102 (f := .meth "Book" "span") rfl), bi_Book_span F_Book_span⟩⟩
  have K_Book_chain := ok_Book_chain (sp := sp_chain K) (P := P) (w := w) (base := base) T G_Book_best F_Book_chain (fun vs H Q E h => len_chain vs H Q E h) (fun vs H Q E h => pure_Book_chain T vs H Q E h)
  have G_Book_chain : MCal P w K mg base 8 (He.ga K "Book") "chain" ["self", "first", "second"] (sp_chain K) := ⟨T.c_Book, ⟨_, _, K_Book_chain, He.meth_ok (c.fact 103 (f := .meth "Book" "chain") rfl), bi_Book_chain F_Book_chain⟩⟩
  have K_is_true_in := ok_is_true_in (sp := sp_is_true_in K) (P := P) (w := w) (base := base) T G_minus G_lies_within G_Scene_value F_is_true_in (fun vs H Q E h => len_is_true_in vs H Q E h) (fun vs H Q E h => pure_is_true_in vs H Q E h)
  have G_is_true_in : Cal P w K mg base 8 "is_true_in" ["scene", "question", "fit"] (sp_is_true_in K) := ⟨⟨_, _, K_is_true_in, He.glo_ok X G (c.fact 42 (f := .glo "is_true_in") rfl), F_is_true_in.kp, bi_is_true_in F_is_true_in⟩⟩
  have K_Book_earliest := ok_Book_earliest (sp := sp_earliest K) (P := P) (w := w) (base := base) T G_earliest_of F_Book_earliest (fun vs H Q E h => len_earliest vs H Q E h) (fun vs H Q E h => pure_Book_earliest T vs H Q E h)
  have G_Book_earliest : MCal P w K mg base 8 (He.ga K "Book") "earliest" ["self"] (sp_earliest K) := ⟨T.c_Book, ⟨_, _, K_Book_earliest, He.meth_ok (c.fact 104 (f := .meth "Book" "earliest") rfl), bi_Book_earliest F_Book_earliest⟩⟩
  have K__law_so := ok__law_so (sp := sp__law_so K) (P := P) (w := w) (base := base) T G__law_add G__law_holds G_Scene_value F__law_so (fun vs H Q E h => len__law_so vs H Q E h) (fun vs H Q E h => pure__law_so vs H Q E h)
  have G__law_so : Cal P w K mg base 8 "_law_so" ["_law_scene_here", "_law_question", "_law_fit"] (sp__law_so K) := ⟨⟨_, _, K__law_so, He.glo_ok X G (c.fact 64 (f := .glo "_law_so") rfl), F__law_so.kp, bi__law_so F__law_so⟩⟩
  have K_turning_positions := ok_turning_positions (sp := sp_turning_positions K) (P := P) (w := w) (base := base) T G_track_of_scenes G_turning_place_scenes G_plus F_turning_positions (fun vs H Q E h => len_turning_positions vs H Q E h) (fun vs H Q E h => pure_turning_positions T vs H Q E h)
  have G_turning_positions : Cal P w K mg base 9 "turning_positions" ["clip", "prop"] (sp_turning_positions K) := ⟨⟨_, _, K_turning_positions, He.glo_ok X G (c.fact 28 (f := .glo "turning_positions") rfl), F_turning_positions.kp, bi_turning_positions F_turning_positions⟩⟩
  have K_Scene_bounds := ok_Scene_bounds (sp := sp_bounds K) (P := P) (w := w) (base := base) T G_Scene_shown G_Book_span G_values_between_scenes F_Scene_bounds (fun vs H Q E h => len_bounds vs H Q E h) (fun vs H Q E h => pure_Scene_bounds T vs H Q E h)
  have G_Scene_bounds : MCal P w K mg base 9 (He.ga K "Scene") "bounds" ["self", "name", "moment"] (sp_bounds K) := ⟨T.c_Scene, ⟨_, _, K_Scene_bounds, He.meth_ok (c.fact 92 (f := .meth "Scene" "bounds") rfl), bi_Scene_bounds F_Scene_bounds⟩⟩
  have K_Book_says := ok_Book_says (sp := sp_bsays K) (P := P) (w := w) (base := base) T G_Book_span G_compare F_Book_says (fun vs H Q E h => len_bsays vs H Q E h) (fun vs H Q E h => pure_Book_says T vs H Q E h)
  have G_Book_says : MCal P w K mg base 9 (He.ga K "Book") "says" ["self", "first", "second", "least", "most"] (sp_bsays K) := ⟨T.c_Book, ⟨_, _, K_Book_says, He.meth_ok (c.fact 107 (f := .meth "Book" "says") rfl), bi_Book_says F_Book_says⟩⟩
  have K_Book_fit_with := ok_Book_fit_with (sp := sp_fit_with K) (P := P) (w := w) (base := base) T G_Book_span G_compare G_earliest_of F_Book_fit_with (fun vs H Q E h => len_fit_with vs H Q E h) (fun vs H Q E h => pure_Book_fit_with T vs H Q E h)
  have G_Book_fit_with : MCal P w K mg base 9 (He.ga K "Book") "fit_with" ["self", "first", "second", "number"] (sp_fit_with K) := ⟨T.c_Book, ⟨_, _, K_Book_fit_with, He.meth_ok (c.fact 106 (f := .meth "Book" "fit_with") rfl), bi_Book_fit_with F_Book_fit_with⟩⟩
  have K_holds_surely := ok_holds_surely (sp := sp_holds_surely K) (P := P) (w := w) (base := base) T G_Scene_book G_Book_facts G_chain_length G_minus G_show_of G_values_between_scenes G_compare F_holds_surely (fun vs H Q E h => len_holds_surely vs H Q E h) (fun vs H Q E h => pure_holds_surely T vs H Q E h)
  have G_holds_surely : Cal P w K mg base 9 "holds_surely" ["scene", "claim", "ends"] (sp_holds_surely K) := ⟨⟨_, _, K_holds_surely, He.glo_ok X G (c.fact 41 (f := .glo "holds_surely") rfl), F_holds_surely.kp, bi_holds_surely F_holds_surely⟩⟩
  have K_Book_tell := ok_Book_tell (sp := sp_tell K) (P := P) (w := w) (base := base) T G_Book_check_moments G_Book_check_numbers G_Book_check_room G_Book_span G_compare G_Book_remember F_Book_tell (fun vs H Q E h => len_tell vs H Q E h) (fun vs H Q E h => pure_Book_tell T vs H Q E h)
  have G_Book_tell : MCal P w K mg base 9 (He.ga K "Book") "tell" ["self", "first", "second", "least", "most"] (sp_tell K) := ⟨T.c_Book, ⟨_, _, K_Book_tell, He.meth_ok (c.fact 100 (f := .meth "Book" "tell") rfl), bi_Book_tell F_Book_tell⟩⟩
  have K_points_between := ok_points_between (sp := sp_points_between K) (P := P) (w := w) (base := base) T G_turning_positions G_compare F_points_between (fun vs H Q E h => len_points_between vs H Q E h) (fun vs H Q E h => pure_points_between vs H Q E h)
  have G_points_between : Cal P w K mg base 10 "points_between" ["clip", "prop", "low", "high"] (sp_points_between K) := ⟨⟨_, _, K_points_between, He.glo_ok X G (c.fact 29 (f := .glo "points_between") rfl), F_points_between.kp, bi_points_between F_points_between⟩⟩
  have K_Scene_says := ok_Scene_says (sp := sp_ssays K) (P := P) (w := w) (base := base) T G_Scene_bounds G_compare F_Scene_says (fun vs H Q E h => len_ssays vs H Q E h) (fun vs H Q E h => pure_Scene_says vs H Q E h)
  have G_Scene_says : MCal P w K mg base 10 (He.ga K "Scene") "says" ["self", "name", "moment", "low", "high"] (sp_ssays K) := ⟨T.c_Scene, ⟨_, _, K_Scene_says, He.meth_ok (c.fact 93 (f := .meth "Scene" "says") rfl), bi_Scene_says F_Scene_says⟩⟩
  have K_judge := ok_judge (sp := sp_judge K) (P := P) (w := w) (base := base) T G_ends_of_papers G_Scene_book G_Book_contains G_holds_surely G_Book_is_fit G_is_true_in F_judge (fun vs H Q E h => len_judge vs H Q E h) (fun vs H Q E h => pure_judge vs H Q E h)
  have G_judge : Cal P w K mg base 10 "judge" ["scene", "claim"] (sp_judge K) := ⟨⟨_, _, K_judge, He.glo_ok X G (c.fact 43 (f := .glo "judge") rfl), F_judge.kp, bi_judge F_judge⟩⟩
  have K__law_book := ok__law_book (sp := sp__law_book K) (P := P) (w := w) (base := base) T G_Book_init G__law_six G_Book_add G_Book_tell F__law_book (fun vs H Q E h => len__law_book vs H Q E h) (fun vs H Q E h => pure__law_book vs H Q E h)
  have G__law_book : Cal P w K mg base 10 "_law_book" ["_law_names", "_law_facts_here"] (sp__law_book K) := ⟨⟨_, _, K__law_book, He.glo_ok X G (c.fact 55 (f := .glo "_law_book") rfl), F__law_book.kp, bi__law_book F__law_book⟩⟩
  have K_numbers_of := ok_numbers_of (sp := sp_numbers_of K) (P := P) (w := w) (base := base) T G_points_between G_shown_at G_lies_within G_compare G_middle_number F_numbers_of (fun vs H Q E h => len_numbers_of vs H Q E h) (fun vs H Q E h => pure_numbers_of vs H Q E h)
  have G_numbers_of : Cal P w K mg base 11 "numbers_of" ["show", "span", "low", "high"] (sp_numbers_of K) := ⟨⟨_, _, K_numbers_of, He.glo_ok X G (c.fact 36 (f := .glo "numbers_of") rfl), F_numbers_of.kp, bi_numbers_of F_numbers_of⟩⟩
  have K_said_of := ok_said_of (sp := sp_said_of K) (P := P) (w := w) (base := base) T G_Scene_book G_Book_says G_Scene_says F_said_of (fun vs H Q E h => len_said_of vs H Q E h) (fun vs H Q E h => pure_said_of vs H Q E h)
  have G_said_of : Cal P w K mg base 11 "said_of" ["scene", "question"] (sp_said_of K) := ⟨⟨_, _, K_said_of, He.glo_ok X G (c.fact 38 (f := .glo "said_of") rfl), F_said_of.kp, bi_said_of F_said_of⟩⟩
  have K__law_scene := ok__law_scene (sp := sp__law_scene K) (P := P) (w := w) (base := base) T G__law_story G__law_facts G__law_book G_Scene_init G__law_clip G__law_draw G_Scene_show F__law_scene (fun vs H Q E h => len__law_scene vs H Q E h) (fun vs H Q E h => pure__law_scene vs H Q E h)
  have G__law_scene : Cal P w K mg base 11 "_law_scene" ["_law_script", "_law_at"] (sp__law_scene K) := ⟨⟨_, _, K__law_scene, He.glo_ok X G (c.fact 62 (f := .glo "_law_scene") rfl), F__law_scene.kp, bi__law_scene F__law_scene⟩⟩
  have K_open_numbers := ok_open_numbers (sp := sp_open_numbers K) (P := P) (w := w) (base := base) T G_compare G_show_of G_numbers_of F_open_numbers (fun vs H Q E h => len_open_numbers vs H Q E h) (fun vs H Q E h => pure_open_numbers vs H Q E h)
  have G_open_numbers : Cal P w K mg base 12 "open_numbers" ["scene", "question", "span"] (sp_open_numbers K) := ⟨⟨_, _, K_open_numbers, He.glo_ok X G (c.fact 37 (f := .glo "open_numbers") rfl), F_open_numbers.kp, bi_open_numbers F_open_numbers⟩⟩
  have K_answer := ok_answer (sp := sp_answer K) (P := P) (w := w) (base := base) T G_said_of G_ends_of_papers G_Scene_book G_Book_chain G_Book_span G_open_numbers G_Book_fit_with F_answer (fun vs H Q E h => len_answer vs H Q E h) (fun vs H Q E h => pure_answer T vs H Q E h)
  have G_answer : Cal P w K mg base 13 "answer" ["scene", "question"] (sp_answer K) := ⟨⟨_, _, K_answer, He.glo_ok X G (c.fact 39 (f := .glo "answer") rfl), F_answer.kp, bi_answer F_answer⟩⟩
  exact ok_law (P := P) (w := w) (base := base) T G__law_scene G_Scene_book G__law_far G__law_six G_Book_latest G_Book_earliest G__law_draw G_Book_fit_with G_answer G_Scene_bounds G__law_num G__law_add G__law_so G__law_facts G_Book_tell G_Book_is_fit G_judge F_law (fun vs H Q E h => len_law vs H Q E h) (fun vs H Q E h => pure_law vs H Q E h)
end
end Sc

/-! KFin -/
set_option Elab.async false
set_option linter.all false
set_option maxRecDepth 100000
set_option maxHeartbeats 0
open PySem PySem.W PySem.Calls PyProof.Rows
theorem PySem.Challenge.cw_surecues_k62_whole_claims_that_hold_are_holds : PySem.Challenge.rw_surecues_k62_whole_claims_that_hold_are.Holds := by
  w_on; o_law
  refine HandSHeadRun.head_any (r := OpenLaw.row PySem.Challenge.rw_surecues_k62_whole_claims_that_hold_are) (q := view (OpenLaw.row PySem.Challenge.rw_surecues_k62_whole_claims_that_hold_are).prog [100]) (H := Sc.hk) (ob := Sc.ob) (M := 6000) (loose := Sc.loose)
    (d := HandSHeadRun.topDef (OpenLaw.row PySem.Challenge.rw_surecues_k62_whole_claims_that_hold_are).prog 100) (kwd := []) Sc.ob_eq
    (by kernel_rfl) (fun s => by kernel_rfl) Sc.run (by kernel_rfl) (by kernel_rfl) (by kernel_rfl) (by rfl) (by first | assumption | decide +kernel) (by decide +kernel) ⟨rfl, rfl, rfl, rfl, rfl, by decide +kernel⟩ ?hw ?hc
  case hw => w_witness2
  case hc =>
    refine L2.walk_ofE (l := PySem.Challenge.rw_surecues_k62_whole_claims_that_hold_are) (n := 63) (k := 14) (x := "_law_script") (CX := L2.CX0) rfl (by decide) (by kernel_rfl) ⟨rfl, by decide, by decide⟩ ?F (fun _ _ _ _ z => z)
    intro w mg fa h Y G hmg0
    obtain ⟨K, KX, c⟩ := Y
    have hmg : mg ("law" : PySem.Str) = some (.ref fa) := by
      have e : (HandSHeadRun.topDef (OpenLaw.row PySem.Challenge.rw_surecues_k62_whole_claims_that_hold_are).prog 100).name = ("law" : PySem.Str) := by kernel_rfl
      rw [← e]
      exact hmg0
    obtain ⟨fd, hg, hb, hF⟩ := Sc.law_fn KX G c
    have e := hmg.symm.trans hg
    cases e
    exact ⟨K, fd, Sc.sp_law K, KX, hb, fun H a ns hl _ hS => ⟨a, ns, rfl, hS, fun _ => rfl⟩, fun base _ _ => hF _ w base⟩

