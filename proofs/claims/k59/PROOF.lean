import PyProof.Rows.All
import Wide.All
import OpenK.AllK
import Wide.FinOn
import HandS.ForMost
import HandS.Exc
import HandS.ExcOwn
import HandS.ExcCtx
import HandS.HotCalls
import HandS.Evl
import HandS.Defaults
import HandS.More
import HandS.Head2
import HandS.HeadEnd
import HandS.HeadHook4
import HandS.EndBits
import HandS.ExcIs
import PySem.Challenge.RW_threecrossings_k59_whole_desks_carried
import KE.KStateDown
import Wide.Once
import HandS.Head0
import HandS.Head1
import HandS.IsInst
import HandS.Deep
import HandS.Zip
import HandS.Style
import HandS.NoneIn
import HandS.TryOnly
import KE.SortData
import KE.DataMinMax
import PyProof.Rows.RowBridgeK
import KE.KUnpack
import KE.KUnpackStar
import KE.KDictWalk
import KE.GoesDict
import HandS.Iter
import HandS.DictComp
import HandS.Codes
import HandS.Wide
set_option Elab.async false
set_option linter.all false
set_option maxRecDepth 100000
set_option maxHeartbeats 4000000
namespace K59
open PySem PySem.Spec PyProof.Rows L2
/-! promises by positional values: one kind for every def -/
/-- a def with no default -/
def Bd (ps : List Str) (fd : FuncData) : Prop := ∀ (s : Shared) (us : List Value), us.length = ps.length → BindsTo s fd ⟨us, []⟩ (ps.zip us)
section
variable {P : Program} {w : World} {K : PySem.W.Frag} {mg : Str → Option Value} {base : Heap}
abbrev FR (P : Program) (w : World) (K : PySem.W.Frag) (mg : Str → Option Value) (base : Heap) (k : Nat) (f : Addr) (sp : Sp) : Prop := FnR P w K mg base (L2N.CX P w) k f sp
theorem fr_of {CX : CXT} {k : Nat} {f : Addr} {fd : FuncData} {ps : List Str} {sp : Sp} (hb : Bd ps fd) (F : FnOk P w K mg base CX k f fd ps sp) (hc : ∀ o H s E u s', CX o H s E u s' → L2N.CX P w o H s E u s') : FR P w K mg base k f sp := by
  intro A outer s H us vs Q E hr e0 r hs
  have hl : us.length = ps.length := by rw [← r.length]; exact F.len _ _ _ _ hs
  refine codeAny_mono (F.run A outer s H ⟨us, []⟩ us vs Q E hr e0 (hb s us hl) r hs) fun z s' q => ?_
  cases z with
  | error e => exact hc _ _ _ _ _ _ q
  | ok fl => cases fl <;> exact q
/-- a def that lets nothing out -/
theorem okN {x qual : Str} {params : Arguments} {body : List Stmt} {scope : Scope} {f : Addr} {N ps : List Str} {k : Nat} {sp : Sp} (F : ∃ fd, FunD K x qual params body scope [] [] f fd) (S : FnScope N ps scope)
    (hb : ∀ (kV doc pm : Value) (an : Option Addr) (cdv ct : Value) (us : List Value), us.length = ps.length → bindArgs (PySem.W.fnOf x qual params body scope .none kV doc pm an cdv ct) ⟨us, []⟩ = pure (ps.zip us))
    (len : ∀ vs H Q E, sp vs H Q E → vs.length = ps.length)
    (hbody : ∀ (cdv : Value) (A : Around) (outer : List Env) (s : Shared) (H : Hp) (vs : List V) (Q : VK) (E : XK), Room k (A.deeper (envOfC qual scope s.heap.objs.size f cdv)) → sp vs H Q E →
      ∃ t, PSs (cxOf CX0 P w K mg base N qual scope f cdv A outer s H E).nox body t ∧ t { nx := fun _ H' => Q .non H', rt := Q } (start N vs) H) : FR P w K mg base (k + 1) f sp := by
  obtain ⟨fd, F⟩ := F
  refine fr_of (CX := CX0) (fun s us hl => FunD.bindsA F hb s us hl) (F.ok S len fun cdv A outer s H vs Q E hr hsp => ?_) (fun _ _ _ _ _ _ z => z.elim)
  obtain ⟨t, h, q⟩ := hbody cdv A outer s H vs Q E hr hsp
  exact ⟨t, h.nox, q⟩
/-- a def that may raise -/
theorem okX {x qual : Str} {params : Arguments} {body : List Stmt} {scope : Scope} {f : Addr} {N ps : List Str} {k : Nat} {sp : Sp} (F : ∃ fd, FunD K x qual params body scope [] [] f fd) (S : FnScope N ps scope)
    (hb : ∀ (kV doc pm : Value) (an : Option Addr) (cdv ct : Value) (us : List Value), us.length = ps.length → bindArgs (PySem.W.fnOf x qual params body scope .none kV doc pm an cdv ct) ⟨us, []⟩ = pure (ps.zip us))
    (len : ∀ vs H Q E, sp vs H Q E → vs.length = ps.length)
    (hbody : ∀ (cdv : Value) (A : Around) (outer : List Env) (s : Shared) (H : Hp) (vs : List V) (Q : VK) (E : XK), Room k (A.deeper (envOfC qual scope s.heap.objs.size f cdv)) → sp vs H Q E →
      ∃ t, PSs (cxOf (L2N.CX P w) P w K mg base N qual scope f cdv A outer s H E) body t ∧ t { nx := fun _ H' => Q .non H', rt := Q } (start N vs) H) : FR P w K mg base (k + 1) f sp := by
  obtain ⟨fd, F⟩ := F
  exact fr_of (CX := L2N.CX P w) (fun s us hl => FunD.bindsA F hb s us hl) (F.ok S len fun cdv A outer s H vs Q E hr hsp => hbody cdv A outer s H vs Q E hr hsp) (fun _ _ _ _ _ _ z => z)
end
/-! calls -/
theorem psN {X : Cx} : Passes (L2N.CX X.prog X.w) X E0 := fun _ _ _ _ _ _ _ h => by
  obtain ⟨_, _, _, _, _, _, _, _, _, _, _, _, z⟩ := h
  exact z.elim
section
variable {X : Cx} {k : Nat} {f C : Addr} {sp : Sp} {E : XK} {x m : Str} {p pos apos : Pos} {e o : Expr} {es : List Expr} {ta : TE} {t : TA}
def tCl (sp : Sp) (E : XK) (t : TA) : TE := fun σ H Q => t σ H fun vs H1 => sp vs H1 Q E
def tMe (C : Addr) (m : Str) (sp : Sp) (E : XK) (ta : TE) (t : TA) : TE := fun σ H Q => ta σ H fun x H1 => ∃ a dx fs, x = .ref a ∧ H1 a = some (.ins C dx fs) ∧ fs.lookup m = none ∧ t σ H1 fun vs H2 => sp (x :: vs) H2 Q E
def tMk (C : Addr) (sp : Sp) (E : XK) (t : TA) : TE := fun σ H Q => t σ H fun vs H1 => ∀ x dx, H1 x = none → H1 dx = none → dx ≠ x →
  sp (.ref x :: vs) (upd (upd H1 dx (.own x)) x (.ins C dx [])) (fun v H2 => v = .non ∧ Q (.ref x) H2) E
theorem cl (F : FR X.prog X.w X.K X.mg X.base k f sp) (hr : Room k X.A) (hm : X.mg x = some (.ref f) ∧ PySem.W.keepIn X.K (.ref f) = true) (hx : Passes (L2N.CX X.prog X.w) X E) (ha : PA X (e :: es) t) (hg : Gl X x := by rfl)
    (hdb : (x == ("__debug__" : Str)) = false := by decide) (he : starEach (e :: es) X.env = (false, eval e X.env) :: starEach es X.env := by rfl) (hpl : (backTo pos (starEach es X.env)).any (·.1) = false := by rfl) :
    PE X (.Call (.Name x p) (e :: es) [] pos) (tCl sp E t) := by
  refine ⟨fun pins s σ H Q I h => ?_⟩
  refine wpAny_Call_Name_kw (ld_glob I hg hm.1 ?_ hdb)
  refine PySem.W.callWith_K (h₀ := X.base) I.ok.mod.kin hm.2 (thn (ha.run pos pins s σ H _ I h) fun us s1 ⟨vs, H1, I1, r, q⟩ => ⟨I1.kIn, ?_⟩) he hpl
  exact wpAny_call (run_fnR F hr hx I1 r q)
theorem me {pl : Sem Bool} (he : PE X o ta) (c : Cls X.K C) (hm : Meth X.K C m f) (F : FR X.prog X.w X.K X.mg X.base k f sp) (hr : Room k X.A) (hx : Passes (L2N.CX X.prog X.w) X E) (ha : PA X (e :: es) t)
    (hst : starEach (e :: es) X.env = (false, eval e X.env) :: starEach es X.env := by rfl) (hpl : (backTo pos (starEach es X.env)).any (·.1) = false := by rfl)
    (ht : eval (.Call (.Attribute o m apos) (e :: es) [] pos) X.env = (do
      let ov ← eval o X.env
      standAt apos.atName
      let (f, first) ← holding [ov] (getMethod ov m pl)
      callWith pos f first (backTo pos (starEach (e :: es) X.env)) (backToKw pos (keywordEach [] X.env))) := by rfl) :
    PE X (.Call (.Attribute o m apos) (e :: es) [] pos) (tMe C m sp E ta t) := pe_methR he c hm F hr hx ha hst hpl ht
theorem me0 {pl : Sem Bool} (he : PE X o ta) (c : Cls X.K C) (hm : Meth X.K C m f) (F : FR X.prog X.w X.K X.mg X.base k f sp) (hr : Room k X.A) (hx : Passes (L2N.CX X.prog X.w) X E)
    (ht : eval (.Call (.Attribute o m apos) [] [] pos) X.env = (do
      let ov ← eval o X.env
      standAt apos.atName
      let (f, first) ← holding [ov] (getMethod ov m pl)
      callWith pos f first (backTo pos (starEach [] X.env)) (backToKw pos (keywordEach [] X.env))) := by rfl) :
    PE X (.Call (.Attribute o m apos) [] [] pos) (tMe C m sp E ta tNil) := by
  refine ⟨fun pins s σ H Q I h => ?_⟩
  refine PySem.W.methodCall_KW (pl := pl) (thn (he.run pins s σ H _ I h) fun u s1 ⟨x, H1, I1, rx, a, dx, fs, ex, ea, l, q⟩ => ?_) ht
  subst ex
  obtain rfl : u = Value.ref a := rx
  refine getmeth_ok I1 ea c hm l ?_
  exact PySem.W.callWith_K0 (first := [.ref a]) I1.kIn hm.kp (wpAny_call (run_fnR (us := [.ref a]) (vs := [.ref a]) F hr hx I1 (.cons rfl .nil) q))
theorem run_mk {pins : List (Addr × Obj)} {σ : L2.St} {H : Hp} {s : Shared} {Q : VK} {us : List Value} {vs : List V} (M : Mk X.K C f) (F : FR X.prog X.w X.K X.mg X.base k f sp) (hr : Room (k + 1) X.A)
    (hx : Passes (L2N.CX X.prog X.w) X E) (I : Inv X pins σ H s) (r : Vals vs us)
    (h : ∀ x dx, H x = none → H dx = none → dx ≠ x → sp (.ref x :: vs) (upd (upd H dx (.own x)) x (.ins C dx [])) (fun v H2 => v = .non ∧ Q (.ref x) H2) E) :
    wpAny (model X.prog X.w) X.A (call (.ref C) us) (EP X pins σ Q) X.xe s := by
  have hq := h (s.heap.objs.size + 1) s.heap.objs.size (I.hok.fresh (Nat.le_succ _)) (I.hok.fresh (Nat.le_refl _)) (Nat.ne_of_lt (Nat.lt_succ_self _))
  have I2 := Inv.made (C := C) I
  have r2 : Vals (V.ref (s.heap.objs.size + 1) :: vs) (Value.ref (s.heap.objs.size + 1) :: us) := .cons rfl r
  refine wpAny_call (make_map (f := f) I.kIn M.makes M.init (beq_iff_eq.mp M.fn) (codeAny_mono (F _ X.stack _ _ _ _ _ E (hr.make C us []) (I2.env0.make C us []) r2 hq) fun r s' hq' => ?_))
  cases r with
  | error e => exact hx pins σ _ _ e s' I2 hq'
  | ok fl =>
    cases fl with
    | ret u =>
      obtain ⟨v, H', I3, rv, ev, q3⟩ := I2.after hq'
      subst ev
      exact ⟨rv, ⟨V.ref (s.heap.objs.size + 1), H', I3, rfl, q3⟩⟩
    | next => exact False.elim hq'
    | brk => exact False.elim hq'
    | cont => exact False.elim hq'
theorem mk (M : Mk X.K C f) (F : FR X.prog X.w X.K X.mg X.base k f sp) (hr : Room (k + 1) X.A) (hm : X.mg x = some (.ref C)) (hx : Passes (L2N.CX X.prog X.w) X E)
    (ha : PA X (e :: es) t) (hg : Gl X x := by rfl) (hdb : (x == ("__debug__" : Str)) = false := by decide) (he : starEach (e :: es) X.env = (false, eval e X.env) :: starEach es X.env := by rfl) (hpl : (backTo pos (starEach es X.env)).any (·.1) = false := by rfl) :
    PE X (.Call (.Name x p) (e :: es) [] pos) (tMk C sp E t) := by
  refine ⟨fun pins s σ H Q I h => ?_⟩
  refine wpAny_Call_Name_kw (ld_glob I hg hm ?_ hdb)
  refine PySem.W.callWith_K (h₀ := X.base) I.ok.mod.kin M.kp (thn (ha.run pos pins s σ H _ I h) fun us s1 ⟨vs, H1, I1, r, q⟩ => ⟨I1.kIn, ?_⟩) he hpl
  exact run_mk M F hr hx I1 r q
theorem mk0 (M : Mk X.K C f) (F : FR X.prog X.w X.K X.mg X.base k f sp) (hr : Room (k + 1) X.A) (hm : X.mg x = some (.ref C)) (hx : Passes (L2N.CX X.prog X.w) X E) (hg : Gl X x := by rfl)
    (hdb : (x == ("__debug__" : Str)) = false := by decide) : PE X (.Call (.Name x p) [] [] pos) (tMk C sp E tNil) := by
  refine ⟨fun pins s σ H Q I h => ?_⟩
  refine wpAny_Call_Name_kw (ld_glob I hg hm ?_ hdb)
  exact PySem.W.callWith_K0 I.kIn M.kp (run_mk (us := []) M F hr hx I .nil h)
end
end K59

set_option Elab.async false
set_option linter.all false
set_option maxRecDepth 100000
set_option maxHeartbeats 4000000
namespace K59
open PySem PySem.Spec PyProof.Rows L2 He
/-! the text by places -/
def top (i : Nat) : Stmt := PySem.Challenge.pw_threecrossings_k59_whole_desks_carried.main.body.getD i (.Pass ⟨0, 0, 0, 0⟩)
def s_is_card : Stmt := top 26
def d_is_card : DefD := ⟨("is_card", none), "is_card", "is_card", defArgs s_is_card, defBody s_is_card, defScope s_is_card, [], []⟩
def s_is_row : Stmt := top 27
def d_is_row : DefD := ⟨("is_row", none), "is_row", "is_row", defArgs s_is_row, defBody s_is_row, defScope s_is_row, [], []⟩
def s_need_row : Stmt := top 28
def d_need_row : DefD := ⟨("need_row", none), "need_row", "need_row", defArgs s_need_row, defBody s_need_row, defScope s_need_row, [], []⟩
def s_wrong_in : Stmt := top 29
def d_wrong_in : DefD := ⟨("wrong_in", none), "wrong_in", "wrong_in", defArgs s_wrong_in, defBody s_wrong_in, defScope s_wrong_in, [], []⟩
def s_crossing_threes : Stmt := top 30
def d_crossing_threes : DefD := ⟨("crossing_threes", none), "crossing_threes", "crossing_threes", defArgs s_crossing_threes, defBody s_crossing_threes, defScope s_crossing_threes, [], []⟩
def s_is_three : Stmt := top 31
def d_is_three : DefD := ⟨("is_three", none), "is_three", "is_three", defArgs s_is_three, defBody s_is_three, defScope s_is_three, [], []⟩
def s_need_three : Stmt := top 32
def d_need_three : DefD := ⟨("need_three", none), "need_three", "need_three", defArgs s_need_three, defBody s_need_three, defScope s_need_three, [], []⟩
def s_is_letter : Stmt := top 37
def d_is_letter : DefD := ⟨("is_letter", none), "is_letter", "is_letter", defArgs s_is_letter, defBody s_is_letter, defScope s_is_letter, [], []⟩
def s_need_letter : Stmt := top 38
def d_need_letter : DefD := ⟨("need_letter", none), "need_letter", "need_letter", defArgs s_need_letter, defBody s_need_letter, defScope s_need_letter, [], []⟩
def s_Hand_init : Stmt := inClass (top 39) 0
def d_Hand_init : DefD := ⟨("Hand", some "__init__"), "__init__", "Hand.__init__", defArgs s_Hand_init, defBody s_Hand_init, defScope s_Hand_init, [], []⟩
def s_Hand_begin : Stmt := inClass (top 39) 1
def d_Hand_begin : DefD := ⟨("Hand", some "begin"), "begin", "Hand.begin", defArgs s_Hand_begin, defBody s_Hand_begin, defScope s_Hand_begin, [], []⟩
def s_Hand_may_go : Stmt := inClass (top 39) 2
def d_Hand_may_go : DefD := ⟨("Hand", some "may_go"), "may_go", "Hand.may_go", defArgs s_Hand_may_go, defBody s_Hand_may_go, defScope s_Hand_may_go, [], []⟩
def s_Hand_go : Stmt := inClass (top 39) 3
def d_Hand_go : DefD := ⟨("Hand", some "go"), "go", "Hand.go", defArgs s_Hand_go, defBody s_Hand_go, defScope s_Hand_go, [], []⟩
def s_Hand_hear : Stmt := inClass (top 39) 4
def d_Hand_hear : DefD := ⟨("Hand", some "hear"), "hear", "Hand.hear", defArgs s_Hand_hear, defBody s_Hand_hear, defScope s_Hand_hear, [], []⟩
def s_Hand_hear_mine : Stmt := inClass (top 39) 5
def d_Hand_hear_mine : DefD := ⟨("Hand", some "hear_mine"), "hear_mine", "Hand.hear_mine", defArgs s_Hand_hear_mine, defBody s_Hand_hear_mine, defScope s_Hand_hear_mine, [], []⟩
def s_Hand_hear_over : Stmt := inClass (top 39) 6
def d_Hand_hear_over : DefD := ⟨("Hand", some "hear_over"), "hear_over", "Hand.hear_over", defArgs s_Hand_hear_over, defBody s_Hand_hear_over, defScope s_Hand_hear_over, [], []⟩
def s_Hand_hear_back : Stmt := inClass (top 39) 7
def d_Hand_hear_back : DefD := ⟨("Hand", some "hear_back"), "hear_back", "Hand.hear_back", defArgs s_Hand_hear_back, defBody s_Hand_hear_back, defScope s_Hand_hear_back, [], []⟩
def s_Hand_card : Stmt := inClass (top 39) 8
def d_Hand_card : DefD := ⟨("Hand", some "card"), "card", "Hand.card", defArgs s_Hand_card, defBody s_Hand_card, defScope s_Hand_card, [], []⟩
def s_Hand_aside : Stmt := inClass (top 39) 10
def d_Hand_aside : DefD := ⟨("Hand", some "aside"), "aside", "Hand.aside", defArgs s_Hand_aside, defBody s_Hand_aside, defScope s_Hand_aside, [], []⟩
def s_Hand_heard : Stmt := inClass (top 39) 11
def d_Hand_heard : DefD := ⟨("Hand", some "heard"), "heard", "Hand.heard", defArgs s_Hand_heard, defBody s_Hand_heard, defScope s_Hand_heard, [], []⟩
def s_may_change : Stmt := top 45
def d_may_change : DefD := ⟨("may_change", none), "may_change", "may_change", defArgs s_may_change, defBody s_may_change, defScope s_may_change, [], []⟩
def s_led_by : Stmt := top 46
def d_led_by : DefD := ⟨("led_by", none), "led_by", "led_by", defArgs s_led_by, defBody s_led_by, defScope s_led_by, [], []⟩
def s_is_history : Stmt := top 47
def d_is_history : DefD := ⟨("is_history", none), "is_history", "is_history", defArgs s_is_history, defBody s_is_history, defScope s_is_history, [], []⟩
def s_need_history : Stmt := top 48
def d_need_history : DefD := ⟨("need_history", none), "need_history", "need_history", defArgs s_need_history, defBody s_need_history, defScope s_need_history, [], []⟩
def s_way_of : Stmt := top 49
def d_way_of : DefD := ⟨("way_of", none), "way_of", "way_of", defArgs s_way_of, defBody s_way_of, defScope s_way_of, [], []⟩
def s_way_by : Stmt := top 50
def d_way_by : DefD := ⟨("way_by", none), "way_by", "way_by", defArgs s_way_by, defBody s_way_by, defScope s_way_by, [], []⟩
def s_Net_init : Stmt := inClass (top 52) 0
def d_Net_init : DefD := ⟨("Net", some "__init__"), "__init__", "Net.__init__", defArgs s_Net_init, defBody s_Net_init, defScope s_Net_init, [], []⟩
def s_Net_add : Stmt := inClass (top 52) 1
def d_Net_add : DefD := ⟨("Net", some "add"), "add", "Net.add", defArgs s_Net_add, defBody s_Net_add, defScope s_Net_add, [], []⟩
def s_Net_need_hand : Stmt := inClass (top 52) 2
def d_Net_need_hand : DefD := ⟨("Net", some "need_hand"), "need_hand", "Net.need_hand", defArgs s_Net_need_hand, defBody s_Net_need_hand, defScope s_Net_need_hand, [], []⟩
def s_Net_note : Stmt := inClass (top 52) 3
def d_Net_note : DefD := ⟨("Net", some "note"), "note", "Net.note", defArgs s_Net_note, defBody s_Net_note, defScope s_Net_note, [], []⟩
def s_Net_go : Stmt := inClass (top 52) 4
def d_Net_go : DefD := ⟨("Net", some "go"), "go", "Net.go", defArgs s_Net_go, defBody s_Net_go, defScope s_Net_go, [], []⟩
def s_Net_step : Stmt := inClass (top 52) 5
def d_Net_step : DefD := ⟨("Net", some "step"), "step", "Net.step", defArgs s_Net_step, defBody s_Net_step, defScope s_Net_step, [], []⟩
def s_Net_exchange : Stmt := inClass (top 52) 6
def d_Net_exchange : DefD := ⟨("Net", some "exchange"), "exchange", "Net.exchange", defArgs s_Net_exchange, defBody s_Net_exchange, defScope s_Net_exchange, [], []⟩
def s_Net_come : Stmt := inClass (top 52) 7
def d_Net_come : DefD := ⟨("Net", some "come"), "come", "Net.come", defArgs s_Net_come, defBody s_Net_come, defScope s_Net_come, [], []⟩
def s_Net_free_hands : Stmt := inClass (top 52) 8
def d_Net_free_hands : DefD := ⟨("Net", some "free_hands"), "free_hands", "Net.free_hands", defArgs s_Net_free_hands, defBody s_Net_free_hands, defScope s_Net_free_hands, [], []⟩
def s_Net_rest : Stmt := inClass (top 52) 9
def d_Net_rest : DefD := ⟨("Net", some "rest"), "rest", "Net.rest", defArgs s_Net_rest, defBody s_Net_rest, defScope s_Net_rest, [], []⟩
def s_Net_first_row : Stmt := inClass (top 52) 10
def d_Net_first_row : DefD := ⟨("Net", some "first_row"), "first_row", "Net.first_row", defArgs s_Net_first_row, defBody s_Net_first_row, defScope s_Net_first_row, [], []⟩
def s_Net_row : Stmt := inClass (top 52) 11
def d_Net_row : DefD := ⟨("Net", some "row"), "row", "Net.row", defArgs s_Net_row, defBody s_Net_row, defScope s_Net_row, [], []⟩
def s_Net_history : Stmt := inClass (top 52) 12
def d_Net_history : DefD := ⟨("Net", some "history"), "history", "Net.history", defArgs s_Net_history, defBody s_Net_history, defScope s_Net_history, [], []⟩
def s_Net_cards : Stmt := inClass (top 52) 13
def d_Net_cards : DefD := ⟨("Net", some "cards"), "cards", "Net.cards", defArgs s_Net_cards, defBody s_Net_cards, defScope s_Net_cards, [], []⟩
def s_Net_lane : Stmt := inClass (top 52) 14
def d_Net_lane : DefD := ⟨("Net", some "lane"), "lane", "Net.lane", defArgs s_Net_lane, defBody s_Net_lane, defScope s_Net_lane, [], []⟩
def s_Net_lying : Stmt := inClass (top 52) 15
def d_Net_lying : DefD := ⟨("Net", some "lying"), "lying", "Net.lying", defArgs s_Net_lying, defBody s_Net_lying, defScope s_Net_lying, [], []⟩
def s_Net_way : Stmt := inClass (top 52) 16
def d_Net_way : DefD := ⟨("Net", some "way"), "way", "Net.way", defArgs s_Net_way, defBody s_Net_way, defScope s_Net_way, [], []⟩
def s_Net_open_threes : Stmt := inClass (top 52) 17
def d_Net_open_threes : DefD := ⟨("Net", some "open_threes"), "open_threes", "Net.open_threes", defArgs s_Net_open_threes, defBody s_Net_open_threes, defScope s_Net_open_threes, [], []⟩
def s_need : Stmt := top 57
def d_need : DefD := ⟨("need", none), "need", "need", defArgs s_need, defBody s_need, defScope s_need, [], []⟩
def s_number_in : Stmt := top 58
def d_number_in : DefD := ⟨("number_in", none), "number_in", "number_in", defArgs s_number_in, defBody s_number_in, defScope s_number_in, [], []⟩
def s_do_rise : Stmt := top 59
def d_do_rise : DefD := ⟨("do_rise", none), "do_rise", "do_rise", defArgs s_do_rise, defBody s_do_rise, defScope s_do_rise, [], []⟩
def s_joined : Stmt := top 60
def d_joined : DefD := ⟨("joined", none), "joined", "joined", defArgs s_joined, defBody s_joined, defScope s_joined, [], []⟩
def s_text_of : Stmt := top 61
def d_text_of : DefD := ⟨("text_of", none), "text_of", "text_of", defArgs s_text_of, defBody s_text_of, defScope s_text_of, [], []⟩
def s_show_history : Stmt := top 62
def d_show_history : DefD := ⟨("show_history", none), "show_history", "show_history", defArgs s_show_history, defBody s_show_history, defScope s_show_history, [], []⟩
def s_words_of : Stmt := top 65
def d_words_of : DefD := ⟨("words_of", none), "words_of", "words_of", defArgs s_words_of, defBody s_words_of, defScope s_words_of, [], []⟩
def s_listed : Stmt := top 66
def d_listed : DefD := ⟨("listed", none), "listed", "listed", defArgs s_listed, defBody s_listed, defScope s_listed, [], []⟩
def s_Desk_init : Stmt := inClass (top 67) 0
def d_Desk_init : DefD := ⟨("Desk", some "__init__"), "__init__", "Desk.__init__", defArgs s_Desk_init, defBody s_Desk_init, defScope s_Desk_init, [], []⟩
def s_Desk_say : Stmt := inClass (top 67) 1
def d_Desk_say : DefD := ⟨("Desk", some "say"), "say", "Desk.say", defArgs s_Desk_say, defBody s_Desk_say, defScope s_Desk_say, [], []⟩
def s_Desk_do_deed : Stmt := inClass (top 67) 2
def d_Desk_do_deed : DefD := ⟨("Desk", some "do_deed"), "do_deed", "Desk.do_deed", defArgs s_Desk_do_deed, defBody s_Desk_do_deed, defScope s_Desk_do_deed, [], []⟩
def s_Desk_answer : Stmt := inClass (top 67) 3
def d_Desk_answer : DefD := ⟨("Desk", some "answer"), "answer", "Desk.answer", defArgs s_Desk_answer, defBody s_Desk_answer, defScope s_Desk_answer, [], []⟩
def s__law_pot : Stmt := top 69
def d__law_pot : DefD := ⟨("_law_pot", none), "_law_pot", "_law_pot", defArgs s__law_pot, defBody s__law_pot, defScope s__law_pot, [], []⟩
def s__law_dip : Stmt := top 70
def d__law_dip : DefD := ⟨("_law_dip", none), "_law_dip", "_law_dip", defArgs s__law_dip, defBody s__law_dip, defScope s__law_dip, [], []⟩
def s__law_cards : Stmt := top 71
def d__law_cards : DefD := ⟨("_law_cards", none), "_law_cards", "_law_cards", defArgs s__law_cards, defBody s__law_cards, defScope s__law_cards, [], []⟩
def s__law_row : Stmt := top 72
def d__law_row : DefD := ⟨("_law_row", none), "_law_row", "_law_row", defArgs s__law_row, defBody s__law_row, defScope s__law_row, [], []⟩
def s__law_kinds : Stmt := top 73
def d__law_kinds : DefD := ⟨("_law_kinds", none), "_law_kinds", "_law_kinds", defArgs s__law_kinds, defBody s__law_kinds, defScope s__law_kinds, [], []⟩
def s__law_said : Stmt := top 74
def d__law_said : DefD := ⟨("_law_said", none), "_law_said", "_law_said", defArgs s__law_said, defBody s__law_said, defScope s__law_said, [], []⟩
def s__law_done : Stmt := top 75
def d__law_done : DefD := ⟨("_law_done", none), "_law_done", "_law_done", defArgs s__law_done, defBody s__law_done, defScope s__law_done, [], []⟩
def s__law_words : Stmt := top 76
def d__law_words : DefD := ⟨("_law_words", none), "_law_words", "_law_words", defArgs s__law_words, defBody s__law_words, defScope s__law_words, [], []⟩
def s__law_threes : Stmt := top 77
def d__law_threes : DefD := ⟨("_law_threes", none), "_law_threes", "_law_threes", defArgs s__law_threes, defBody s__law_threes, defScope s__law_threes, [], []⟩
def s__law_carried : Stmt := top 78
def d__law_carried : DefD := ⟨("_law_carried", none), "_law_carried", "_law_carried", defArgs s__law_carried, defBody s__law_carried, defScope s__law_carried, [], []⟩
def s__law_alike : Stmt := top 79
def d__law_alike : DefD := ⟨("_law_alike", none), "_law_alike", "_law_alike", defArgs s__law_alike, defBody s__law_alike, defScope s__law_alike, [], []⟩
def s__law_rest_right : Stmt := top 80
def d__law_rest_right : DefD := ⟨("_law_rest_right", none), "_law_rest_right", "_law_rest_right", defArgs s__law_rest_right, defBody s__law_rest_right, defScope s__law_rest_right, [], []⟩
def s_law : Stmt := top 81
def d_law : DefD := ⟨("law", none), "law", "law", defArgs s_law, defBody s_law, defScope s_law, [], []⟩
def fa0 : List Fa := [.glo "_wall", .glo "CrossError", .glo "NoRow", .glo "NoThree", .glo "NoHistory", .glo "NotWhole", .glo "Unlike", .glo "Twice", .glo "Idle", .glo "NoLetter"]
def fa1 : List Fa := [.glo "NoHand", .glo "Empty", .glo "NoCard", .glo "Full", .glo "TooMany", .glo "NoTelling", .glo "Barred", .glo "NoBooks", .glo "NotSmall", .glo "NoText"]
def fa2 : List Fa := [.glo "NoSaying", .glo "NoNet", .glo "is_card", .glo "is_row", .glo "need_row", .glo "wrong_in", .glo "crossing_threes", .glo "is_three", .glo "need_three", .glo "is_letter"]
def fa3 : List Fa := [.glo "need_letter", .glo "Hand", .glo "may_change", .glo "led_by", .glo "is_history", .glo "need_history", .glo "way_of", .glo "way_by", .glo "Net", .glo "need"]
def fa4 : List Fa := [.glo "number_in", .glo "do_rise", .glo "joined", .glo "text_of", .glo "show_history", .glo "NUMBERS", .glo "words_of", .glo "listed", .glo "Desk", .glo "_law_pot"]
def fa5 : List Fa := [.glo "_law_dip", .glo "_law_cards", .glo "_law_row", .glo "_law_kinds", .glo "_law_said", .glo "_law_done", .glo "_law_words", .glo "_law_threes", .glo "_law_carried", .glo "_law_alike"]
def fa6 : List Fa := [.glo "_law_rest_right", .glo "law", .int "MOST_CARD" 999999999, .int "MOST_CARDS" 24, .str "MINE" "mine", .str "OVER" "over", .str "BACK" "back", .str "LOW" "low", .str "HIGH" "high", .str "OPEN" "open"]
def fa7 : List Fa := [.str "NEVER" "never", .str "FIGURES" "0123456789", .int "MOST_FIGURES" 9, .str "NOTHING" "-", .free "ValueError", .free "all", .free "bool", .free "enumerate", .free "int", .free "isinstance"]
def fa8 : List Fa := [.free "len", .free "list", .free "max", .free "min", .free "range", .free "set", .free "sorted", .free "str", .free "sum", .free "tuple"]
def fa9 : List Fa := [.free "zip", .cls "Hand", .mkr "Hand", .noat "Hand" "card_held", .noat "Hand" "sent_away", .noat "Hand" "put_aside", .noat "Hand" "heard_last", .noat "Hand" "has_begun", .meth "Hand" "__init__", .meth "Hand" "begin"]
def fa10 : List Fa := [.meth "Hand" "may_go", .meth "Hand" "go", .meth "Hand" "hear", .meth "Hand" "hear_mine", .meth "Hand" "hear_over", .meth "Hand" "hear_back", .meth "Hand" "card", .meth "Hand" "aside", .meth "Hand" "heard", .cls "Net"]
def fa11 : List Fa := [.mkr "Net", .noat "Net" "folk", .noat "Net" "lanes_kept", .noat "Net" "logs_kept", .noat "Net" "first_cards", .noat "Net" "now_cards", .noat "Net" "done_pairs", .meth "Net" "__init__", .meth "Net" "add", .meth "Net" "need_hand"]
def fa12 : List Fa := [.meth "Net" "note", .meth "Net" "go", .meth "Net" "step", .meth "Net" "exchange", .meth "Net" "come", .meth "Net" "free_hands", .meth "Net" "rest", .meth "Net" "first_row", .meth "Net" "row", .meth "Net" "history"]
def fa13 : List Fa := [.meth "Net" "cards", .meth "Net" "lane", .meth "Net" "lying", .meth "Net" "way", .meth "Net" "open_threes", .cls "Desk", .mkr "Desk", .noat "Desk" "net_there", .meth "Desk" "__init__", .meth "Desk" "say"]
def fa14 : List Fa := [.meth "Desk" "do_deed", .meth "Desk" "answer", .exc "Idle", .exc "NoHand", .exc "Empty", .exc "NoCard", .exm "Idle" "CrossError" true, .exm "NoHand" "CrossError" true, .exm "Empty" "CrossError" true, .exm "NoCard" "CrossError" true]
def fa : List Fa := fa0 ++ (fa1 ++ (fa2 ++ (fa3 ++ (fa4 ++ (fa5 ++ (fa6 ++ (fa7 ++ (fa8 ++ (fa9 ++ (fa10 ++ (fa11 ++ (fa12 ++ (fa13 ++ (fa14))))))))))))))
def fn0 : List DefD := [d_is_card, d_is_row, d_need_row, d_wrong_in, d_crossing_threes, d_is_three, d_need_three, d_is_letter, d_need_letter, d_Hand_init]
def fn1 : List DefD := [d_Hand_begin, d_Hand_may_go, d_Hand_go, d_Hand_hear, d_Hand_hear_mine, d_Hand_hear_over, d_Hand_hear_back, d_Hand_card, d_Hand_aside, d_Hand_heard]
def fn2 : List DefD := [d_may_change, d_led_by, d_is_history, d_need_history, d_way_of, d_way_by, d_Net_init, d_Net_add, d_Net_need_hand, d_Net_note]
def fn3 : List DefD := [d_Net_go, d_Net_step, d_Net_exchange, d_Net_come, d_Net_free_hands, d_Net_rest, d_Net_first_row, d_Net_row, d_Net_history, d_Net_cards]
def fn4 : List DefD := [d_Net_lane, d_Net_lying, d_Net_way, d_Net_open_threes, d_need, d_number_in, d_do_rise, d_joined, d_text_of, d_show_history]
def fn5 : List DefD := [d_words_of, d_listed, d_Desk_init, d_Desk_say, d_Desk_do_deed, d_Desk_answer, d__law_pot, d__law_dip, d__law_cards, d__law_row]
def fn6 : List DefD := [d__law_kinds, d__law_said, d__law_done, d__law_words, d__law_threes, d__law_carried, d__law_alike, d__law_rest_right, d_law]
def fn : List DefD := fn0 ++ (fn1 ++ (fn2 ++ (fn3 ++ (fn4 ++ (fn5 ++ (fn6))))))
def numK0 : List Str := ["go", "step", "come", "rest", "row", "first", "cards", "history", "lie", "lane"]
def numK1 : List Str := ["free", "way", "open"]
def numK : List Str := numK0 ++ (numK1)
def numV0 : List (Str × Dv) := [("go", .int 1), ("step", .int 2), ("come", .int 1), ("rest", .int 0), ("row", .int 0), ("first", .int 0), ("cards", .int 0), ("history", .int 0), ("lie", .int 0), ("lane", .int 2)]
def numV1 : List (Str × Dv) := [("free", .int 0), ("way", .int 3), ("open", .int 0)]
def numV : List (Str × Dv) := numV0 ++ (numV1)
def ts : List Tab := [(fun K => ga K "NUMBERS", numK)]
def xcl0 : List Str := ["CrossError", "NoRow", "NoThree", "NoHistory", "NotWhole", "Unlike", "Twice", "Idle", "NoLetter", "NoHand"]
def xcl1 : List Str := ["Empty", "NoCard", "Full", "TooMany", "NoTelling", "Barred", "NoBooks", "NotSmall", "NoText", "NoSaying"]
def xcl2 : List Str := ["NoNet"]
def xcl : List Str := xcl0 ++ (xcl1 ++ (xcl2))
/-- what isinstance asks of an error of the class D -/
def excB (K : PySem.W.Frag) (D : Addr) : Bool := eqO (PySem.W.findIn K (.ref D) "__getattribute__") (some (some (.builtin "BaseException.__getattribute__"))) && (eqO (PySem.W.findIn K (.ref D) "__getattr__") (some none) && (decide (PySem.W.subIn K (.ref D) (.type "BaseException") = some true) &&
  (PySem.W.hasDictIn K D && (eqO (PySem.W.findIn K (.ref D) "__class__") (some (some (.builtin "object.__class__"))) && (eqO (PySem.W.specialIn K (.builtin "object.__class__") "__get__") (some (some (.builtin "getset_descriptor.__get__"))) &&
  (decide (PySem.W.takesIn K (.builtin "object.__class__") = some true) && decide (PySem.W.mroIn K D (.type "object") = some true)))))))
def kitB (K : PySem.W.Frag) (D : Addr) : Bool := decide (PySem.W.kitOne K (.ref D) (.type "ValueError") = some true) && (decide (PySem.W.kitOne K (.ref D) (.ref (ga K "CrossError")) = some true) && xcl.all fun c => (PySem.W.kitOne K (.ref D) (.ref (ga K c))).isSome)
def exE (K : PySem.W.Frag) (x : Str) : Bool := excB K (ga K x) && kitB K (ga K x)
def ex (K : PySem.W.Frag) : Bool := valsB K (ga K "NUMBERS") numV && (exE K "Idle" && exE K "NoHand" && exE K "Empty" && exE K "NoCard")
structure Txt (w : World) (K : PySem.W.Frag) (mg : Str → Option Value) : Prop where
  ok : ∃ h : Heap, K.In h ∧ h.Ns mainGlobals mg ∧ SaysX fa fn ts [] ex w h K
section
variable {w : World} {K : PySem.W.Frag} {mg : Str → Option Value}
theorem Txt.sd (T : Txt w K mg) : SaysD fa fn K := by
  obtain ⟨h, _, _, S⟩ := T.ok
  exact S.t.d
theorem Txt.exq (T : Txt w K mg) : ex K = true := by
  obtain ⟨h, _, _, S⟩ := T.ok
  exact S.more
theorem Txt.numD (T : Txt w K mg) : ∃ es n, KDict K w (ga K "NUMBERS") es n := by
  obtain ⟨h, _, _, S⟩ := T.ok
  exact S.t.tab 0 rfl
theorem Txt.c__wall (T : Txt w K mg) : mg "_wall" = some (.ref (ga K "_wall")) := by
  obtain ⟨h, X, G, S⟩ := T.ok
  exact glo_ok X G (S.t.d.fact 0 (f := .glo "_wall") rfl)
theorem Txt.c_CrossError (T : Txt w K mg) : mg "CrossError" = some (.ref (ga K "CrossError")) := by
  obtain ⟨h, X, G, S⟩ := T.ok
  exact glo_ok X G (S.t.d.fact 1 (f := .glo "CrossError") rfl)
theorem Txt.c_NoRow (T : Txt w K mg) : mg "NoRow" = some (.ref (ga K "NoRow")) := by
  obtain ⟨h, X, G, S⟩ := T.ok
  exact glo_ok X G (S.t.d.fact 2 (f := .glo "NoRow") rfl)
theorem Txt.c_NoThree (T : Txt w K mg) : mg "NoThree" = some (.ref (ga K "NoThree")) := by
  obtain ⟨h, X, G, S⟩ := T.ok
  exact glo_ok X G (S.t.d.fact 3 (f := .glo "NoThree") rfl)
theorem Txt.c_NoHistory (T : Txt w K mg) : mg "NoHistory" = some (.ref (ga K "NoHistory")) := by
  obtain ⟨h, X, G, S⟩ := T.ok
  exact glo_ok X G (S.t.d.fact 4 (f := .glo "NoHistory") rfl)
theorem Txt.c_NotWhole (T : Txt w K mg) : mg "NotWhole" = some (.ref (ga K "NotWhole")) := by
  obtain ⟨h, X, G, S⟩ := T.ok
  exact glo_ok X G (S.t.d.fact 5 (f := .glo "NotWhole") rfl)
theorem Txt.c_Unlike (T : Txt w K mg) : mg "Unlike" = some (.ref (ga K "Unlike")) := by
  obtain ⟨h, X, G, S⟩ := T.ok
  exact glo_ok X G (S.t.d.fact 6 (f := .glo "Unlike") rfl)
theorem Txt.c_Twice (T : Txt w K mg) : mg "Twice" = some (.ref (ga K "Twice")) := by
  obtain ⟨h, X, G, S⟩ := T.ok
  exact glo_ok X G (S.t.d.fact 7 (f := .glo "Twice") rfl)
theorem Txt.c_Idle (T : Txt w K mg) : mg "Idle" = some (.ref (ga K "Idle")) := by
  obtain ⟨h, X, G, S⟩ := T.ok
  exact glo_ok X G (S.t.d.fact 8 (f := .glo "Idle") rfl)
theorem Txt.c_NoLetter (T : Txt w K mg) : mg "NoLetter" = some (.ref (ga K "NoLetter")) := by
  obtain ⟨h, X, G, S⟩ := T.ok
  exact glo_ok X G (S.t.d.fact 9 (f := .glo "NoLetter") rfl)
theorem Txt.c_NoHand (T : Txt w K mg) : mg "NoHand" = some (.ref (ga K "NoHand")) := by
  obtain ⟨h, X, G, S⟩ := T.ok
  exact glo_ok X G (S.t.d.fact 10 (f := .glo "NoHand") rfl)
theorem Txt.c_Empty (T : Txt w K mg) : mg "Empty" = some (.ref (ga K "Empty")) := by
  obtain ⟨h, X, G, S⟩ := T.ok
  exact glo_ok X G (S.t.d.fact 11 (f := .glo "Empty") rfl)
theorem Txt.c_NoCard (T : Txt w K mg) : mg "NoCard" = some (.ref (ga K "NoCard")) := by
  obtain ⟨h, X, G, S⟩ := T.ok
  exact glo_ok X G (S.t.d.fact 12 (f := .glo "NoCard") rfl)
theorem Txt.c_Full (T : Txt w K mg) : mg "Full" = some (.ref (ga K "Full")) := by
  obtain ⟨h, X, G, S⟩ := T.ok
  exact glo_ok X G (S.t.d.fact 13 (f := .glo "Full") rfl)
theorem Txt.c_TooMany (T : Txt w K mg) : mg "TooMany" = some (.ref (ga K "TooMany")) := by
  obtain ⟨h, X, G, S⟩ := T.ok
  exact glo_ok X G (S.t.d.fact 14 (f := .glo "TooMany") rfl)
theorem Txt.c_NoTelling (T : Txt w K mg) : mg "NoTelling" = some (.ref (ga K "NoTelling")) := by
  obtain ⟨h, X, G, S⟩ := T.ok
  exact glo_ok X G (S.t.d.fact 15 (f := .glo "NoTelling") rfl)
theorem Txt.c_Barred (T : Txt w K mg) : mg "Barred" = some (.ref (ga K "Barred")) := by
  obtain ⟨h, X, G, S⟩ := T.ok
  exact glo_ok X G (S.t.d.fact 16 (f := .glo "Barred") rfl)
theorem Txt.c_NoBooks (T : Txt w K mg) : mg "NoBooks" = some (.ref (ga K "NoBooks")) := by
  obtain ⟨h, X, G, S⟩ := T.ok
  exact glo_ok X G (S.t.d.fact 17 (f := .glo "NoBooks") rfl)
theorem Txt.c_NotSmall (T : Txt w K mg) : mg "NotSmall" = some (.ref (ga K "NotSmall")) := by
  obtain ⟨h, X, G, S⟩ := T.ok
  exact glo_ok X G (S.t.d.fact 18 (f := .glo "NotSmall") rfl)
theorem Txt.c_NoText (T : Txt w K mg) : mg "NoText" = some (.ref (ga K "NoText")) := by
  obtain ⟨h, X, G, S⟩ := T.ok
  exact glo_ok X G (S.t.d.fact 19 (f := .glo "NoText") rfl)
theorem Txt.c_NoSaying (T : Txt w K mg) : mg "NoSaying" = some (.ref (ga K "NoSaying")) := by
  obtain ⟨h, X, G, S⟩ := T.ok
  exact glo_ok X G (S.t.d.fact 20 (f := .glo "NoSaying") rfl)
theorem Txt.c_NoNet (T : Txt w K mg) : mg "NoNet" = some (.ref (ga K "NoNet")) := by
  obtain ⟨h, X, G, S⟩ := T.ok
  exact glo_ok X G (S.t.d.fact 21 (f := .glo "NoNet") rfl)
theorem Txt.g_is_card (T : Txt w K mg) : mg "is_card" = some (.ref (ga K "is_card")) ∧ PySem.W.keepIn K (.ref (ga K "is_card")) = true := by
  obtain ⟨h, X, G, S⟩ := T.ok
  obtain ⟨fd, F⟩ := S.t.d.def_ 0 (d := d_is_card) rfl
  exact ⟨glo_ok X G (S.t.d.fact 22 (f := .glo "is_card") rfl), F.kp⟩
theorem Txt.g_is_row (T : Txt w K mg) : mg "is_row" = some (.ref (ga K "is_row")) ∧ PySem.W.keepIn K (.ref (ga K "is_row")) = true := by
  obtain ⟨h, X, G, S⟩ := T.ok
  obtain ⟨fd, F⟩ := S.t.d.def_ 1 (d := d_is_row) rfl
  exact ⟨glo_ok X G (S.t.d.fact 23 (f := .glo "is_row") rfl), F.kp⟩
theorem Txt.g_need_row (T : Txt w K mg) : mg "need_row" = some (.ref (ga K "need_row")) ∧ PySem.W.keepIn K (.ref (ga K "need_row")) = true := by
  obtain ⟨h, X, G, S⟩ := T.ok
  obtain ⟨fd, F⟩ := S.t.d.def_ 2 (d := d_need_row) rfl
  exact ⟨glo_ok X G (S.t.d.fact 24 (f := .glo "need_row") rfl), F.kp⟩
theorem Txt.g_wrong_in (T : Txt w K mg) : mg "wrong_in" = some (.ref (ga K "wrong_in")) ∧ PySem.W.keepIn K (.ref (ga K "wrong_in")) = true := by
  obtain ⟨h, X, G, S⟩ := T.ok
  obtain ⟨fd, F⟩ := S.t.d.def_ 3 (d := d_wrong_in) rfl
  exact ⟨glo_ok X G (S.t.d.fact 25 (f := .glo "wrong_in") rfl), F.kp⟩
theorem Txt.g_crossing_threes (T : Txt w K mg) : mg "crossing_threes" = some (.ref (ga K "crossing_threes")) ∧ PySem.W.keepIn K (.ref (ga K "crossing_threes")) = true := by
  obtain ⟨h, X, G, S⟩ := T.ok
  obtain ⟨fd, F⟩ := S.t.d.def_ 4 (d := d_crossing_threes) rfl
  exact ⟨glo_ok X G (S.t.d.fact 26 (f := .glo "crossing_threes") rfl), F.kp⟩
theorem Txt.g_is_three (T : Txt w K mg) : mg "is_three" = some (.ref (ga K "is_three")) ∧ PySem.W.keepIn K (.ref (ga K "is_three")) = true := by
  obtain ⟨h, X, G, S⟩ := T.ok
  obtain ⟨fd, F⟩ := S.t.d.def_ 5 (d := d_is_three) rfl
  exact ⟨glo_ok X G (S.t.d.fact 27 (f := .glo "is_three") rfl), F.kp⟩
theorem Txt.g_need_three (T : Txt w K mg) : mg "need_three" = some (.ref (ga K "need_three")) ∧ PySem.W.keepIn K (.ref (ga K "need_three")) = true := by
  obtain ⟨h, X, G, S⟩ := T.ok
  obtain ⟨fd, F⟩ := S.t.d.def_ 6 (d := d_need_three) rfl
  exact ⟨glo_ok X G (S.t.d.fact 28 (f := .glo "need_three") rfl), F.kp⟩
theorem Txt.g_is_letter (T : Txt w K mg) : mg "is_letter" = some (.ref (ga K "is_letter")) ∧ PySem.W.keepIn K (.ref (ga K "is_letter")) = true := by
  obtain ⟨h, X, G, S⟩ := T.ok
  obtain ⟨fd, F⟩ := S.t.d.def_ 7 (d := d_is_letter) rfl
  exact ⟨glo_ok X G (S.t.d.fact 29 (f := .glo "is_letter") rfl), F.kp⟩
theorem Txt.g_need_letter (T : Txt w K mg) : mg "need_letter" = some (.ref (ga K "need_letter")) ∧ PySem.W.keepIn K (.ref (ga K "need_letter")) = true := by
  obtain ⟨h, X, G, S⟩ := T.ok
  obtain ⟨fd, F⟩ := S.t.d.def_ 8 (d := d_need_letter) rfl
  exact ⟨glo_ok X G (S.t.d.fact 30 (f := .glo "need_letter") rfl), F.kp⟩
theorem Txt.c_Hand (T : Txt w K mg) : mg "Hand" = some (.ref (ga K "Hand")) := by
  obtain ⟨h, X, G, S⟩ := T.ok
  exact glo_ok X G (S.t.d.fact 31 (f := .glo "Hand") rfl)
theorem Txt.g_may_change (T : Txt w K mg) : mg "may_change" = some (.ref (ga K "may_change")) ∧ PySem.W.keepIn K (.ref (ga K "may_change")) = true := by
  obtain ⟨h, X, G, S⟩ := T.ok
  obtain ⟨fd, F⟩ := S.t.d.def_ 20 (d := d_may_change) rfl
  exact ⟨glo_ok X G (S.t.d.fact 32 (f := .glo "may_change") rfl), F.kp⟩
theorem Txt.g_led_by (T : Txt w K mg) : mg "led_by" = some (.ref (ga K "led_by")) ∧ PySem.W.keepIn K (.ref (ga K "led_by")) = true := by
  obtain ⟨h, X, G, S⟩ := T.ok
  obtain ⟨fd, F⟩ := S.t.d.def_ 21 (d := d_led_by) rfl
  exact ⟨glo_ok X G (S.t.d.fact 33 (f := .glo "led_by") rfl), F.kp⟩
theorem Txt.g_is_history (T : Txt w K mg) : mg "is_history" = some (.ref (ga K "is_history")) ∧ PySem.W.keepIn K (.ref (ga K "is_history")) = true := by
  obtain ⟨h, X, G, S⟩ := T.ok
  obtain ⟨fd, F⟩ := S.t.d.def_ 22 (d := d_is_history) rfl
  exact ⟨glo_ok X G (S.t.d.fact 34 (f := .glo "is_history") rfl), F.kp⟩
theorem Txt.g_need_history (T : Txt w K mg) : mg "need_history" = some (.ref (ga K "need_history")) ∧ PySem.W.keepIn K (.ref (ga K "need_history")) = true := by
  obtain ⟨h, X, G, S⟩ := T.ok
  obtain ⟨fd, F⟩ := S.t.d.def_ 23 (d := d_need_history) rfl
  exact ⟨glo_ok X G (S.t.d.fact 35 (f := .glo "need_history") rfl), F.kp⟩
theorem Txt.g_way_of (T : Txt w K mg) : mg "way_of" = some (.ref (ga K "way_of")) ∧ PySem.W.keepIn K (.ref (ga K "way_of")) = true := by
  obtain ⟨h, X, G, S⟩ := T.ok
  obtain ⟨fd, F⟩ := S.t.d.def_ 24 (d := d_way_of) rfl
  exact ⟨glo_ok X G (S.t.d.fact 36 (f := .glo "way_of") rfl), F.kp⟩
theorem Txt.g_way_by (T : Txt w K mg) : mg "way_by" = some (.ref (ga K "way_by")) ∧ PySem.W.keepIn K (.ref (ga K "way_by")) = true := by
  obtain ⟨h, X, G, S⟩ := T.ok
  obtain ⟨fd, F⟩ := S.t.d.def_ 25 (d := d_way_by) rfl
  exact ⟨glo_ok X G (S.t.d.fact 37 (f := .glo "way_by") rfl), F.kp⟩
theorem Txt.c_Net (T : Txt w K mg) : mg "Net" = some (.ref (ga K "Net")) := by
  obtain ⟨h, X, G, S⟩ := T.ok
  exact glo_ok X G (S.t.d.fact 38 (f := .glo "Net") rfl)
theorem Txt.g_need (T : Txt w K mg) : mg "need" = some (.ref (ga K "need")) ∧ PySem.W.keepIn K (.ref (ga K "need")) = true := by
  obtain ⟨h, X, G, S⟩ := T.ok
  obtain ⟨fd, F⟩ := S.t.d.def_ 44 (d := d_need) rfl
  exact ⟨glo_ok X G (S.t.d.fact 39 (f := .glo "need") rfl), F.kp⟩
theorem Txt.g_number_in (T : Txt w K mg) : mg "number_in" = some (.ref (ga K "number_in")) ∧ PySem.W.keepIn K (.ref (ga K "number_in")) = true := by
  obtain ⟨h, X, G, S⟩ := T.ok
  obtain ⟨fd, F⟩ := S.t.d.def_ 45 (d := d_number_in) rfl
  exact ⟨glo_ok X G (S.t.d.fact 40 (f := .glo "number_in") rfl), F.kp⟩
theorem Txt.g_do_rise (T : Txt w K mg) : mg "do_rise" = some (.ref (ga K "do_rise")) ∧ PySem.W.keepIn K (.ref (ga K "do_rise")) = true := by
  obtain ⟨h, X, G, S⟩ := T.ok
  obtain ⟨fd, F⟩ := S.t.d.def_ 46 (d := d_do_rise) rfl
  exact ⟨glo_ok X G (S.t.d.fact 41 (f := .glo "do_rise") rfl), F.kp⟩
theorem Txt.g_joined (T : Txt w K mg) : mg "joined" = some (.ref (ga K "joined")) ∧ PySem.W.keepIn K (.ref (ga K "joined")) = true := by
  obtain ⟨h, X, G, S⟩ := T.ok
  obtain ⟨fd, F⟩ := S.t.d.def_ 47 (d := d_joined) rfl
  exact ⟨glo_ok X G (S.t.d.fact 42 (f := .glo "joined") rfl), F.kp⟩
theorem Txt.g_text_of (T : Txt w K mg) : mg "text_of" = some (.ref (ga K "text_of")) ∧ PySem.W.keepIn K (.ref (ga K "text_of")) = true := by
  obtain ⟨h, X, G, S⟩ := T.ok
  obtain ⟨fd, F⟩ := S.t.d.def_ 48 (d := d_text_of) rfl
  exact ⟨glo_ok X G (S.t.d.fact 43 (f := .glo "text_of") rfl), F.kp⟩
theorem Txt.g_show_history (T : Txt w K mg) : mg "show_history" = some (.ref (ga K "show_history")) ∧ PySem.W.keepIn K (.ref (ga K "show_history")) = true := by
  obtain ⟨h, X, G, S⟩ := T.ok
  obtain ⟨fd, F⟩ := S.t.d.def_ 49 (d := d_show_history) rfl
  exact ⟨glo_ok X G (S.t.d.fact 44 (f := .glo "show_history") rfl), F.kp⟩
theorem Txt.c_NUMBERS (T : Txt w K mg) : mg "NUMBERS" = some (.ref (ga K "NUMBERS")) := by
  obtain ⟨h, X, G, S⟩ := T.ok
  exact glo_ok X G (S.t.d.fact 45 (f := .glo "NUMBERS") rfl)
theorem Txt.g_words_of (T : Txt w K mg) : mg "words_of" = some (.ref (ga K "words_of")) ∧ PySem.W.keepIn K (.ref (ga K "words_of")) = true := by
  obtain ⟨h, X, G, S⟩ := T.ok
  obtain ⟨fd, F⟩ := S.t.d.def_ 50 (d := d_words_of) rfl
  exact ⟨glo_ok X G (S.t.d.fact 46 (f := .glo "words_of") rfl), F.kp⟩
theorem Txt.g_listed (T : Txt w K mg) : mg "listed" = some (.ref (ga K "listed")) ∧ PySem.W.keepIn K (.ref (ga K "listed")) = true := by
  obtain ⟨h, X, G, S⟩ := T.ok
  obtain ⟨fd, F⟩ := S.t.d.def_ 51 (d := d_listed) rfl
  exact ⟨glo_ok X G (S.t.d.fact 47 (f := .glo "listed") rfl), F.kp⟩
theorem Txt.c_Desk (T : Txt w K mg) : mg "Desk" = some (.ref (ga K "Desk")) := by
  obtain ⟨h, X, G, S⟩ := T.ok
  exact glo_ok X G (S.t.d.fact 48 (f := .glo "Desk") rfl)
theorem Txt.g__law_pot (T : Txt w K mg) : mg "_law_pot" = some (.ref (ga K "_law_pot")) ∧ PySem.W.keepIn K (.ref (ga K "_law_pot")) = true := by
  obtain ⟨h, X, G, S⟩ := T.ok
  obtain ⟨fd, F⟩ := S.t.d.def_ 56 (d := d__law_pot) rfl
  exact ⟨glo_ok X G (S.t.d.fact 49 (f := .glo "_law_pot") rfl), F.kp⟩
theorem Txt.g__law_dip (T : Txt w K mg) : mg "_law_dip" = some (.ref (ga K "_law_dip")) ∧ PySem.W.keepIn K (.ref (ga K "_law_dip")) = true := by
  obtain ⟨h, X, G, S⟩ := T.ok
  obtain ⟨fd, F⟩ := S.t.d.def_ 57 (d := d__law_dip) rfl
  exact ⟨glo_ok X G (S.t.d.fact 50 (f := .glo "_law_dip") rfl), F.kp⟩
theorem Txt.g__law_cards (T : Txt w K mg) : mg "_law_cards" = some (.ref (ga K "_law_cards")) ∧ PySem.W.keepIn K (.ref (ga K "_law_cards")) = true := by
  obtain ⟨h, X, G, S⟩ := T.ok
  obtain ⟨fd, F⟩ := S.t.d.def_ 58 (d := d__law_cards) rfl
  exact ⟨glo_ok X G (S.t.d.fact 51 (f := .glo "_law_cards") rfl), F.kp⟩
theorem Txt.g__law_row (T : Txt w K mg) : mg "_law_row" = some (.ref (ga K "_law_row")) ∧ PySem.W.keepIn K (.ref (ga K "_law_row")) = true := by
  obtain ⟨h, X, G, S⟩ := T.ok
  obtain ⟨fd, F⟩ := S.t.d.def_ 59 (d := d__law_row) rfl
  exact ⟨glo_ok X G (S.t.d.fact 52 (f := .glo "_law_row") rfl), F.kp⟩
theorem Txt.g__law_kinds (T : Txt w K mg) : mg "_law_kinds" = some (.ref (ga K "_law_kinds")) ∧ PySem.W.keepIn K (.ref (ga K "_law_kinds")) = true := by
  obtain ⟨h, X, G, S⟩ := T.ok
  obtain ⟨fd, F⟩ := S.t.d.def_ 60 (d := d__law_kinds) rfl
  exact ⟨glo_ok X G (S.t.d.fact 53 (f := .glo "_law_kinds") rfl), F.kp⟩
theorem Txt.g__law_said (T : Txt w K mg) : mg "_law_said" = some (.ref (ga K "_law_said")) ∧ PySem.W.keepIn K (.ref (ga K "_law_said")) = true := by
  obtain ⟨h, X, G, S⟩ := T.ok
  obtain ⟨fd, F⟩ := S.t.d.def_ 61 (d := d__law_said) rfl
  exact ⟨glo_ok X G (S.t.d.fact 54 (f := .glo "_law_said") rfl), F.kp⟩
theorem Txt.g__law_done (T : Txt w K mg) : mg "_law_done" = some (.ref (ga K "_law_done")) ∧ PySem.W.keepIn K (.ref (ga K "_law_done")) = true := by
  obtain ⟨h, X, G, S⟩ := T.ok
  obtain ⟨fd, F⟩ := S.t.d.def_ 62 (d := d__law_done) rfl
  exact ⟨glo_ok X G (S.t.d.fact 55 (f := .glo "_law_done") rfl), F.kp⟩
theorem Txt.g__law_words (T : Txt w K mg) : mg "_law_words" = some (.ref (ga K "_law_words")) ∧ PySem.W.keepIn K (.ref (ga K "_law_words")) = true := by
  obtain ⟨h, X, G, S⟩ := T.ok
  obtain ⟨fd, F⟩ := S.t.d.def_ 63 (d := d__law_words) rfl
  exact ⟨glo_ok X G (S.t.d.fact 56 (f := .glo "_law_words") rfl), F.kp⟩
theorem Txt.g__law_threes (T : Txt w K mg) : mg "_law_threes" = some (.ref (ga K "_law_threes")) ∧ PySem.W.keepIn K (.ref (ga K "_law_threes")) = true := by
  obtain ⟨h, X, G, S⟩ := T.ok
  obtain ⟨fd, F⟩ := S.t.d.def_ 64 (d := d__law_threes) rfl
  exact ⟨glo_ok X G (S.t.d.fact 57 (f := .glo "_law_threes") rfl), F.kp⟩
theorem Txt.g__law_carried (T : Txt w K mg) : mg "_law_carried" = some (.ref (ga K "_law_carried")) ∧ PySem.W.keepIn K (.ref (ga K "_law_carried")) = true := by
  obtain ⟨h, X, G, S⟩ := T.ok
  obtain ⟨fd, F⟩ := S.t.d.def_ 65 (d := d__law_carried) rfl
  exact ⟨glo_ok X G (S.t.d.fact 58 (f := .glo "_law_carried") rfl), F.kp⟩
theorem Txt.g__law_alike (T : Txt w K mg) : mg "_law_alike" = some (.ref (ga K "_law_alike")) ∧ PySem.W.keepIn K (.ref (ga K "_law_alike")) = true := by
  obtain ⟨h, X, G, S⟩ := T.ok
  obtain ⟨fd, F⟩ := S.t.d.def_ 66 (d := d__law_alike) rfl
  exact ⟨glo_ok X G (S.t.d.fact 59 (f := .glo "_law_alike") rfl), F.kp⟩
theorem Txt.g__law_rest_right (T : Txt w K mg) : mg "_law_rest_right" = some (.ref (ga K "_law_rest_right")) ∧ PySem.W.keepIn K (.ref (ga K "_law_rest_right")) = true := by
  obtain ⟨h, X, G, S⟩ := T.ok
  obtain ⟨fd, F⟩ := S.t.d.def_ 67 (d := d__law_rest_right) rfl
  exact ⟨glo_ok X G (S.t.d.fact 60 (f := .glo "_law_rest_right") rfl), F.kp⟩
theorem Txt.g_law (T : Txt w K mg) : mg "law" = some (.ref (ga K "law")) ∧ PySem.W.keepIn K (.ref (ga K "law")) = true := by
  obtain ⟨h, X, G, S⟩ := T.ok
  obtain ⟨fd, F⟩ := S.t.d.def_ 68 (d := d_law) rfl
  exact ⟨glo_ok X G (S.t.d.fact 61 (f := .glo "law") rfl), F.kp⟩
theorem Txt.v_MOST_CARD (T : Txt w K mg) : ∃ t, mg "MOST_CARD" = some (.int 999999999 t) := by
  obtain ⟨h, X, G, S⟩ := T.ok
  exact int_ok X G (S.t.d.fact 62 (f := .int "MOST_CARD" 999999999) rfl)
theorem Txt.v_MOST_CARDS (T : Txt w K mg) : ∃ t, mg "MOST_CARDS" = some (.int 24 t) := by
  obtain ⟨h, X, G, S⟩ := T.ok
  exact int_ok X G (S.t.d.fact 63 (f := .int "MOST_CARDS" 24) rfl)
theorem Txt.v_MINE (T : Txt w K mg) : ∃ t, mg "MINE" = some (.str "mine" t) := by
  obtain ⟨h, X, G, S⟩ := T.ok
  exact str_ok X G (S.t.d.fact 64 (f := .str "MINE" "mine") rfl)
theorem Txt.v_OVER (T : Txt w K mg) : ∃ t, mg "OVER" = some (.str "over" t) := by
  obtain ⟨h, X, G, S⟩ := T.ok
  exact str_ok X G (S.t.d.fact 65 (f := .str "OVER" "over") rfl)
theorem Txt.v_BACK (T : Txt w K mg) : ∃ t, mg "BACK" = some (.str "back" t) := by
  obtain ⟨h, X, G, S⟩ := T.ok
  exact str_ok X G (S.t.d.fact 66 (f := .str "BACK" "back") rfl)
theorem Txt.v_LOW (T : Txt w K mg) : ∃ t, mg "LOW" = some (.str "low" t) := by
  obtain ⟨h, X, G, S⟩ := T.ok
  exact str_ok X G (S.t.d.fact 67 (f := .str "LOW" "low") rfl)
theorem Txt.v_HIGH (T : Txt w K mg) : ∃ t, mg "HIGH" = some (.str "high" t) := by
  obtain ⟨h, X, G, S⟩ := T.ok
  exact str_ok X G (S.t.d.fact 68 (f := .str "HIGH" "high") rfl)
theorem Txt.v_OPEN (T : Txt w K mg) : ∃ t, mg "OPEN" = some (.str "open" t) := by
  obtain ⟨h, X, G, S⟩ := T.ok
  exact str_ok X G (S.t.d.fact 69 (f := .str "OPEN" "open") rfl)
theorem Txt.v_NEVER (T : Txt w K mg) : ∃ t, mg "NEVER" = some (.str "never" t) := by
  obtain ⟨h, X, G, S⟩ := T.ok
  exact str_ok X G (S.t.d.fact 70 (f := .str "NEVER" "never") rfl)
theorem Txt.v_FIGURES (T : Txt w K mg) : ∃ t, mg "FIGURES" = some (.str "0123456789" t) := by
  obtain ⟨h, X, G, S⟩ := T.ok
  exact str_ok X G (S.t.d.fact 71 (f := .str "FIGURES" "0123456789") rfl)
theorem Txt.v_MOST_FIGURES (T : Txt w K mg) : ∃ t, mg "MOST_FIGURES" = some (.int 9 t) := by
  obtain ⟨h, X, G, S⟩ := T.ok
  exact int_ok X G (S.t.d.fact 72 (f := .int "MOST_FIGURES" 9) rfl)
theorem Txt.v_NOTHING (T : Txt w K mg) : ∃ t, mg "NOTHING" = some (.str "-" t) := by
  obtain ⟨h, X, G, S⟩ := T.ok
  exact str_ok X G (S.t.d.fact 73 (f := .str "NOTHING" "-") rfl)
theorem Txt.b_ValueError (T : Txt w K mg) : mg "ValueError" = none := by
  obtain ⟨h, X, G, S⟩ := T.ok
  exact free_ok X G (S.t.d.fact 74 (f := .free "ValueError") rfl)
theorem Txt.b_all (T : Txt w K mg) : mg "all" = none := by
  obtain ⟨h, X, G, S⟩ := T.ok
  exact free_ok X G (S.t.d.fact 75 (f := .free "all") rfl)
theorem Txt.b_bool (T : Txt w K mg) : mg "bool" = none := by
  obtain ⟨h, X, G, S⟩ := T.ok
  exact free_ok X G (S.t.d.fact 76 (f := .free "bool") rfl)
theorem Txt.b_enumerate (T : Txt w K mg) : mg "enumerate" = none := by
  obtain ⟨h, X, G, S⟩ := T.ok
  exact free_ok X G (S.t.d.fact 77 (f := .free "enumerate") rfl)
theorem Txt.b_int (T : Txt w K mg) : mg "int" = none := by
  obtain ⟨h, X, G, S⟩ := T.ok
  exact free_ok X G (S.t.d.fact 78 (f := .free "int") rfl)
theorem Txt.b_isinstance (T : Txt w K mg) : mg "isinstance" = none := by
  obtain ⟨h, X, G, S⟩ := T.ok
  exact free_ok X G (S.t.d.fact 79 (f := .free "isinstance") rfl)
theorem Txt.b_len (T : Txt w K mg) : mg "len" = none := by
  obtain ⟨h, X, G, S⟩ := T.ok
  exact free_ok X G (S.t.d.fact 80 (f := .free "len") rfl)
theorem Txt.b_list (T : Txt w K mg) : mg "list" = none := by
  obtain ⟨h, X, G, S⟩ := T.ok
  exact free_ok X G (S.t.d.fact 81 (f := .free "list") rfl)
theorem Txt.b_max (T : Txt w K mg) : mg "max" = none := by
  obtain ⟨h, X, G, S⟩ := T.ok
  exact free_ok X G (S.t.d.fact 82 (f := .free "max") rfl)
theorem Txt.b_min (T : Txt w K mg) : mg "min" = none := by
  obtain ⟨h, X, G, S⟩ := T.ok
  exact free_ok X G (S.t.d.fact 83 (f := .free "min") rfl)
theorem Txt.b_range (T : Txt w K mg) : mg "range" = none := by
  obtain ⟨h, X, G, S⟩ := T.ok
  exact free_ok X G (S.t.d.fact 84 (f := .free "range") rfl)
theorem Txt.b_set (T : Txt w K mg) : mg "set" = none := by
  obtain ⟨h, X, G, S⟩ := T.ok
  exact free_ok X G (S.t.d.fact 85 (f := .free "set") rfl)
theorem Txt.b_sorted (T : Txt w K mg) : mg "sorted" = none := by
  obtain ⟨h, X, G, S⟩ := T.ok
  exact free_ok X G (S.t.d.fact 86 (f := .free "sorted") rfl)
theorem Txt.b_str (T : Txt w K mg) : mg "str" = none := by
  obtain ⟨h, X, G, S⟩ := T.ok
  exact free_ok X G (S.t.d.fact 87 (f := .free "str") rfl)
theorem Txt.b_sum (T : Txt w K mg) : mg "sum" = none := by
  obtain ⟨h, X, G, S⟩ := T.ok
  exact free_ok X G (S.t.d.fact 88 (f := .free "sum") rfl)
theorem Txt.b_tuple (T : Txt w K mg) : mg "tuple" = none := by
  obtain ⟨h, X, G, S⟩ := T.ok
  exact free_ok X G (S.t.d.fact 89 (f := .free "tuple") rfl)
theorem Txt.b_zip (T : Txt w K mg) : mg "zip" = none := by
  obtain ⟨h, X, G, S⟩ := T.ok
  exact free_ok X G (S.t.d.fact 90 (f := .free "zip") rfl)
theorem Txt.k_Hand (T : Txt w K mg) : Cls K (ga K "Hand") := cls_ok (T.sd.fact 91 (f := .cls "Hand") rfl)
theorem Txt.mk_Hand (T : Txt w K mg) : Mk K (ga K "Hand") (ma K (ga K "Hand") "__init__") := mkr_ok (T.sd.fact 92 (f := .mkr "Hand") rfl)
theorem Txt.n_Hand_card_held (T : Txt w K mg) : NoAttr K (ga K "Hand") "card_held" := noat_ok (T.sd.fact 93 (f := .noat "Hand" "card_held") rfl)
theorem Txt.n_Hand_sent_away (T : Txt w K mg) : NoAttr K (ga K "Hand") "sent_away" := noat_ok (T.sd.fact 94 (f := .noat "Hand" "sent_away") rfl)
theorem Txt.n_Hand_put_aside (T : Txt w K mg) : NoAttr K (ga K "Hand") "put_aside" := noat_ok (T.sd.fact 95 (f := .noat "Hand" "put_aside") rfl)
theorem Txt.n_Hand_heard_last (T : Txt w K mg) : NoAttr K (ga K "Hand") "heard_last" := noat_ok (T.sd.fact 96 (f := .noat "Hand" "heard_last") rfl)
theorem Txt.n_Hand_has_begun (T : Txt w K mg) : NoAttr K (ga K "Hand") "has_begun" := noat_ok (T.sd.fact 97 (f := .noat "Hand" "has_begun") rfl)
theorem Txt.m_Hand_init (T : Txt w K mg) : Meth K (ga K "Hand") "__init__" (ma K (ga K "Hand") "__init__") := meth_ok (T.sd.fact 98 (f := .meth "Hand" "__init__") rfl)
theorem Txt.m_Hand_begin (T : Txt w K mg) : Meth K (ga K "Hand") "begin" (ma K (ga K "Hand") "begin") := meth_ok (T.sd.fact 99 (f := .meth "Hand" "begin") rfl)
theorem Txt.m_Hand_may_go (T : Txt w K mg) : Meth K (ga K "Hand") "may_go" (ma K (ga K "Hand") "may_go") := meth_ok (T.sd.fact 100 (f := .meth "Hand" "may_go") rfl)
theorem Txt.m_Hand_go (T : Txt w K mg) : Meth K (ga K "Hand") "go" (ma K (ga K "Hand") "go") := meth_ok (T.sd.fact 101 (f := .meth "Hand" "go") rfl)
theorem Txt.m_Hand_hear (T : Txt w K mg) : Meth K (ga K "Hand") "hear" (ma K (ga K "Hand") "hear") := meth_ok (T.sd.fact 102 (f := .meth "Hand" "hear") rfl)
theorem Txt.m_Hand_hear_mine (T : Txt w K mg) : Meth K (ga K "Hand") "hear_mine" (ma K (ga K "Hand") "hear_mine") := meth_ok (T.sd.fact 103 (f := .meth "Hand" "hear_mine") rfl)
theorem Txt.m_Hand_hear_over (T : Txt w K mg) : Meth K (ga K "Hand") "hear_over" (ma K (ga K "Hand") "hear_over") := meth_ok (T.sd.fact 104 (f := .meth "Hand" "hear_over") rfl)
theorem Txt.m_Hand_hear_back (T : Txt w K mg) : Meth K (ga K "Hand") "hear_back" (ma K (ga K "Hand") "hear_back") := meth_ok (T.sd.fact 105 (f := .meth "Hand" "hear_back") rfl)
theorem Txt.m_Hand_card (T : Txt w K mg) : Meth K (ga K "Hand") "card" (ma K (ga K "Hand") "card") := meth_ok (T.sd.fact 106 (f := .meth "Hand" "card") rfl)
theorem Txt.m_Hand_aside (T : Txt w K mg) : Meth K (ga K "Hand") "aside" (ma K (ga K "Hand") "aside") := meth_ok (T.sd.fact 107 (f := .meth "Hand" "aside") rfl)
theorem Txt.m_Hand_heard (T : Txt w K mg) : Meth K (ga K "Hand") "heard" (ma K (ga K "Hand") "heard") := meth_ok (T.sd.fact 108 (f := .meth "Hand" "heard") rfl)
theorem Txt.k_Net (T : Txt w K mg) : Cls K (ga K "Net") := cls_ok (T.sd.fact 109 (f := .cls "Net") rfl)
theorem Txt.mk_Net (T : Txt w K mg) : Mk K (ga K "Net") (ma K (ga K "Net") "__init__") := mkr_ok (T.sd.fact 110 (f := .mkr "Net") rfl)
theorem Txt.n_Net_folk (T : Txt w K mg) : NoAttr K (ga K "Net") "folk" := noat_ok (T.sd.fact 111 (f := .noat "Net" "folk") rfl)
theorem Txt.n_Net_lanes_kept (T : Txt w K mg) : NoAttr K (ga K "Net") "lanes_kept" := noat_ok (T.sd.fact 112 (f := .noat "Net" "lanes_kept") rfl)
theorem Txt.n_Net_logs_kept (T : Txt w K mg) : NoAttr K (ga K "Net") "logs_kept" := noat_ok (T.sd.fact 113 (f := .noat "Net" "logs_kept") rfl)
theorem Txt.n_Net_first_cards (T : Txt w K mg) : NoAttr K (ga K "Net") "first_cards" := noat_ok (T.sd.fact 114 (f := .noat "Net" "first_cards") rfl)
theorem Txt.n_Net_now_cards (T : Txt w K mg) : NoAttr K (ga K "Net") "now_cards" := noat_ok (T.sd.fact 115 (f := .noat "Net" "now_cards") rfl)
theorem Txt.n_Net_done_pairs (T : Txt w K mg) : NoAttr K (ga K "Net") "done_pairs" := noat_ok (T.sd.fact 116 (f := .noat "Net" "done_pairs") rfl)
theorem Txt.m_Net_init (T : Txt w K mg) : Meth K (ga K "Net") "__init__" (ma K (ga K "Net") "__init__") := meth_ok (T.sd.fact 117 (f := .meth "Net" "__init__") rfl)
theorem Txt.m_Net_add (T : Txt w K mg) : Meth K (ga K "Net") "add" (ma K (ga K "Net") "add") := meth_ok (T.sd.fact 118 (f := .meth "Net" "add") rfl)
theorem Txt.m_Net_need_hand (T : Txt w K mg) : Meth K (ga K "Net") "need_hand" (ma K (ga K "Net") "need_hand") := meth_ok (T.sd.fact 119 (f := .meth "Net" "need_hand") rfl)
theorem Txt.m_Net_note (T : Txt w K mg) : Meth K (ga K "Net") "note" (ma K (ga K "Net") "note") := meth_ok (T.sd.fact 120 (f := .meth "Net" "note") rfl)
theorem Txt.m_Net_go (T : Txt w K mg) : Meth K (ga K "Net") "go" (ma K (ga K "Net") "go") := meth_ok (T.sd.fact 121 (f := .meth "Net" "go") rfl)
theorem Txt.m_Net_step (T : Txt w K mg) : Meth K (ga K "Net") "step" (ma K (ga K "Net") "step") := meth_ok (T.sd.fact 122 (f := .meth "Net" "step") rfl)
theorem Txt.m_Net_exchange (T : Txt w K mg) : Meth K (ga K "Net") "exchange" (ma K (ga K "Net") "exchange") := meth_ok (T.sd.fact 123 (f := .meth "Net" "exchange") rfl)
theorem Txt.m_Net_come (T : Txt w K mg) : Meth K (ga K "Net") "come" (ma K (ga K "Net") "come") := meth_ok (T.sd.fact 124 (f := .meth "Net" "come") rfl)
theorem Txt.m_Net_free_hands (T : Txt w K mg) : Meth K (ga K "Net") "free_hands" (ma K (ga K "Net") "free_hands") := meth_ok (T.sd.fact 125 (f := .meth "Net" "free_hands") rfl)
theorem Txt.m_Net_rest (T : Txt w K mg) : Meth K (ga K "Net") "rest" (ma K (ga K "Net") "rest") := meth_ok (T.sd.fact 126 (f := .meth "Net" "rest") rfl)
theorem Txt.m_Net_first_row (T : Txt w K mg) : Meth K (ga K "Net") "first_row" (ma K (ga K "Net") "first_row") := meth_ok (T.sd.fact 127 (f := .meth "Net" "first_row") rfl)
theorem Txt.m_Net_row (T : Txt w K mg) : Meth K (ga K "Net") "row" (ma K (ga K "Net") "row") := meth_ok (T.sd.fact 128 (f := .meth "Net" "row") rfl)
theorem Txt.m_Net_history (T : Txt w K mg) : Meth K (ga K "Net") "history" (ma K (ga K "Net") "history") := meth_ok (T.sd.fact 129 (f := .meth "Net" "history") rfl)
theorem Txt.m_Net_cards (T : Txt w K mg) : Meth K (ga K "Net") "cards" (ma K (ga K "Net") "cards") := meth_ok (T.sd.fact 130 (f := .meth "Net" "cards") rfl)
theorem Txt.m_Net_lane (T : Txt w K mg) : Meth K (ga K "Net") "lane" (ma K (ga K "Net") "lane") := meth_ok (T.sd.fact 131 (f := .meth "Net" "lane") rfl)
theorem Txt.m_Net_lying (T : Txt w K mg) : Meth K (ga K "Net") "lying" (ma K (ga K "Net") "lying") := meth_ok (T.sd.fact 132 (f := .meth "Net" "lying") rfl)
theorem Txt.m_Net_way (T : Txt w K mg) : Meth K (ga K "Net") "way" (ma K (ga K "Net") "way") := meth_ok (T.sd.fact 133 (f := .meth "Net" "way") rfl)
theorem Txt.m_Net_open_threes (T : Txt w K mg) : Meth K (ga K "Net") "open_threes" (ma K (ga K "Net") "open_threes") := meth_ok (T.sd.fact 134 (f := .meth "Net" "open_threes") rfl)
theorem Txt.k_Desk (T : Txt w K mg) : Cls K (ga K "Desk") := cls_ok (T.sd.fact 135 (f := .cls "Desk") rfl)
theorem Txt.mk_Desk (T : Txt w K mg) : Mk K (ga K "Desk") (ma K (ga K "Desk") "__init__") := mkr_ok (T.sd.fact 136 (f := .mkr "Desk") rfl)
theorem Txt.n_Desk_net_there (T : Txt w K mg) : NoAttr K (ga K "Desk") "net_there" := noat_ok (T.sd.fact 137 (f := .noat "Desk" "net_there") rfl)
theorem Txt.m_Desk_init (T : Txt w K mg) : Meth K (ga K "Desk") "__init__" (ma K (ga K "Desk") "__init__") := meth_ok (T.sd.fact 138 (f := .meth "Desk" "__init__") rfl)
theorem Txt.m_Desk_say (T : Txt w K mg) : Meth K (ga K "Desk") "say" (ma K (ga K "Desk") "say") := meth_ok (T.sd.fact 139 (f := .meth "Desk" "say") rfl)
theorem Txt.m_Desk_do_deed (T : Txt w K mg) : Meth K (ga K "Desk") "do_deed" (ma K (ga K "Desk") "do_deed") := meth_ok (T.sd.fact 140 (f := .meth "Desk" "do_deed") rfl)
theorem Txt.m_Desk_answer (T : Txt w K mg) : Meth K (ga K "Desk") "answer" (ma K (ga K "Desk") "answer") := meth_ok (T.sd.fact 141 (f := .meth "Desk" "answer") rfl)
theorem Txt.x_Idle (T : Txt w K mg) : PySem.W.excIn K (ga K "Idle") veBase "ValueError.__new__" = true ∧ PySem.W.keepIn K (.ref (ga K "Idle")) = true ∧ PySem.W.subIn K (.ref (ga K "Idle")) (.type "BaseException") = some true ∧ PySem.W.typeIn K (.ref (ga K "Idle")) = some (.type "type") := exc_ok (T.sd.fact 142 (f := .exc "Idle") rfl)
theorem Txt.x_NoHand (T : Txt w K mg) : PySem.W.excIn K (ga K "NoHand") veBase "ValueError.__new__" = true ∧ PySem.W.keepIn K (.ref (ga K "NoHand")) = true ∧ PySem.W.subIn K (.ref (ga K "NoHand")) (.type "BaseException") = some true ∧ PySem.W.typeIn K (.ref (ga K "NoHand")) = some (.type "type") := exc_ok (T.sd.fact 143 (f := .exc "NoHand") rfl)
theorem Txt.x_Empty (T : Txt w K mg) : PySem.W.excIn K (ga K "Empty") veBase "ValueError.__new__" = true ∧ PySem.W.keepIn K (.ref (ga K "Empty")) = true ∧ PySem.W.subIn K (.ref (ga K "Empty")) (.type "BaseException") = some true ∧ PySem.W.typeIn K (.ref (ga K "Empty")) = some (.type "type") := exc_ok (T.sd.fact 144 (f := .exc "Empty") rfl)
theorem Txt.x_NoCard (T : Txt w K mg) : PySem.W.excIn K (ga K "NoCard") veBase "ValueError.__new__" = true ∧ PySem.W.keepIn K (.ref (ga K "NoCard")) = true ∧ PySem.W.subIn K (.ref (ga K "NoCard")) (.type "BaseException") = some true ∧ PySem.W.typeIn K (.ref (ga K "NoCard")) = some (.type "type") := exc_ok (T.sd.fact 145 (f := .exc "NoCard") rfl)
theorem Txt.e_Idle (T : Txt w K mg) : PySem.W.exmOne K (.ref (ga K "Idle")) (.ref (ga K "CrossError")) = some true := exm_ok (T.sd.fact 146 (f := .exm "Idle" "CrossError" true) rfl)
theorem Txt.e_NoHand (T : Txt w K mg) : PySem.W.exmOne K (.ref (ga K "NoHand")) (.ref (ga K "CrossError")) = some true := exm_ok (T.sd.fact 147 (f := .exm "NoHand" "CrossError" true) rfl)
theorem Txt.e_Empty (T : Txt w K mg) : PySem.W.exmOne K (.ref (ga K "Empty")) (.ref (ga K "CrossError")) = some true := exm_ok (T.sd.fact 148 (f := .exm "Empty" "CrossError" true) rfl)
theorem Txt.e_NoCard (T : Txt w K mg) : PySem.W.exmOne K (.ref (ga K "NoCard")) (.ref (ga K "CrossError")) = some true := exm_ok (T.sd.fact 149 (f := .exm "NoCard" "CrossError" true) rfl)
theorem Txt.f_is_card (T : Txt w K mg) : ∃ fd, FunD K "is_card" "is_card" (defArgs s_is_card) (defBody s_is_card) (defScope s_is_card) [] [] (ga K "is_card") fd := T.sd.def_ 0 (d := d_is_card) rfl
theorem Txt.f_is_row (T : Txt w K mg) : ∃ fd, FunD K "is_row" "is_row" (defArgs s_is_row) (defBody s_is_row) (defScope s_is_row) [] [] (ga K "is_row") fd := T.sd.def_ 1 (d := d_is_row) rfl
theorem Txt.f_need_row (T : Txt w K mg) : ∃ fd, FunD K "need_row" "need_row" (defArgs s_need_row) (defBody s_need_row) (defScope s_need_row) [] [] (ga K "need_row") fd := T.sd.def_ 2 (d := d_need_row) rfl
theorem Txt.f_wrong_in (T : Txt w K mg) : ∃ fd, FunD K "wrong_in" "wrong_in" (defArgs s_wrong_in) (defBody s_wrong_in) (defScope s_wrong_in) [] [] (ga K "wrong_in") fd := T.sd.def_ 3 (d := d_wrong_in) rfl
theorem Txt.f_crossing_threes (T : Txt w K mg) : ∃ fd, FunD K "crossing_threes" "crossing_threes" (defArgs s_crossing_threes) (defBody s_crossing_threes) (defScope s_crossing_threes) [] [] (ga K "crossing_threes") fd := T.sd.def_ 4 (d := d_crossing_threes) rfl
theorem Txt.f_is_three (T : Txt w K mg) : ∃ fd, FunD K "is_three" "is_three" (defArgs s_is_three) (defBody s_is_three) (defScope s_is_three) [] [] (ga K "is_three") fd := T.sd.def_ 5 (d := d_is_three) rfl
theorem Txt.f_need_three (T : Txt w K mg) : ∃ fd, FunD K "need_three" "need_three" (defArgs s_need_three) (defBody s_need_three) (defScope s_need_three) [] [] (ga K "need_three") fd := T.sd.def_ 6 (d := d_need_three) rfl
theorem Txt.f_is_letter (T : Txt w K mg) : ∃ fd, FunD K "is_letter" "is_letter" (defArgs s_is_letter) (defBody s_is_letter) (defScope s_is_letter) [] [] (ga K "is_letter") fd := T.sd.def_ 7 (d := d_is_letter) rfl
theorem Txt.f_need_letter (T : Txt w K mg) : ∃ fd, FunD K "need_letter" "need_letter" (defArgs s_need_letter) (defBody s_need_letter) (defScope s_need_letter) [] [] (ga K "need_letter") fd := T.sd.def_ 8 (d := d_need_letter) rfl
theorem Txt.f_Hand_init (T : Txt w K mg) : ∃ fd, FunD K "__init__" "Hand.__init__" (defArgs s_Hand_init) (defBody s_Hand_init) (defScope s_Hand_init) [] [] (ma K (ga K "Hand") "__init__") fd := T.sd.def_ 9 (d := d_Hand_init) rfl
theorem Txt.f_Hand_begin (T : Txt w K mg) : ∃ fd, FunD K "begin" "Hand.begin" (defArgs s_Hand_begin) (defBody s_Hand_begin) (defScope s_Hand_begin) [] [] (ma K (ga K "Hand") "begin") fd := T.sd.def_ 10 (d := d_Hand_begin) rfl
theorem Txt.f_Hand_may_go (T : Txt w K mg) : ∃ fd, FunD K "may_go" "Hand.may_go" (defArgs s_Hand_may_go) (defBody s_Hand_may_go) (defScope s_Hand_may_go) [] [] (ma K (ga K "Hand") "may_go") fd := T.sd.def_ 11 (d := d_Hand_may_go) rfl
theorem Txt.f_Hand_go (T : Txt w K mg) : ∃ fd, FunD K "go" "Hand.go" (defArgs s_Hand_go) (defBody s_Hand_go) (defScope s_Hand_go) [] [] (ma K (ga K "Hand") "go") fd := T.sd.def_ 12 (d := d_Hand_go) rfl
theorem Txt.f_Hand_hear (T : Txt w K mg) : ∃ fd, FunD K "hear" "Hand.hear" (defArgs s_Hand_hear) (defBody s_Hand_hear) (defScope s_Hand_hear) [] [] (ma K (ga K "Hand") "hear") fd := T.sd.def_ 13 (d := d_Hand_hear) rfl
theorem Txt.f_Hand_hear_mine (T : Txt w K mg) : ∃ fd, FunD K "hear_mine" "Hand.hear_mine" (defArgs s_Hand_hear_mine) (defBody s_Hand_hear_mine) (defScope s_Hand_hear_mine) [] [] (ma K (ga K "Hand") "hear_mine") fd := T.sd.def_ 14 (d := d_Hand_hear_mine) rfl
theorem Txt.f_Hand_hear_over (T : Txt w K mg) : ∃ fd, FunD K "hear_over" "Hand.hear_over" (defArgs s_Hand_hear_over) (defBody s_Hand_hear_over) (defScope s_Hand_hear_over) [] [] (ma K (ga K "Hand") "hear_over") fd := T.sd.def_ 15 (d := d_Hand_hear_over) rfl
theorem Txt.f_Hand_hear_back (T : Txt w K mg) : ∃ fd, FunD K "hear_back" "Hand.hear_back" (defArgs s_Hand_hear_back) (defBody s_Hand_hear_back) (defScope s_Hand_hear_back) [] [] (ma K (ga K "Hand") "hear_back") fd := T.sd.def_ 16 (d := d_Hand_hear_back) rfl
theorem Txt.f_Hand_card (T : Txt w K mg) : ∃ fd, FunD K "card" "Hand.card" (defArgs s_Hand_card) (defBody s_Hand_card) (defScope s_Hand_card) [] [] (ma K (ga K "Hand") "card") fd := T.sd.def_ 17 (d := d_Hand_card) rfl
theorem Txt.f_Hand_aside (T : Txt w K mg) : ∃ fd, FunD K "aside" "Hand.aside" (defArgs s_Hand_aside) (defBody s_Hand_aside) (defScope s_Hand_aside) [] [] (ma K (ga K "Hand") "aside") fd := T.sd.def_ 18 (d := d_Hand_aside) rfl
theorem Txt.f_Hand_heard (T : Txt w K mg) : ∃ fd, FunD K "heard" "Hand.heard" (defArgs s_Hand_heard) (defBody s_Hand_heard) (defScope s_Hand_heard) [] [] (ma K (ga K "Hand") "heard") fd := T.sd.def_ 19 (d := d_Hand_heard) rfl
theorem Txt.f_may_change (T : Txt w K mg) : ∃ fd, FunD K "may_change" "may_change" (defArgs s_may_change) (defBody s_may_change) (defScope s_may_change) [] [] (ga K "may_change") fd := T.sd.def_ 20 (d := d_may_change) rfl
theorem Txt.f_led_by (T : Txt w K mg) : ∃ fd, FunD K "led_by" "led_by" (defArgs s_led_by) (defBody s_led_by) (defScope s_led_by) [] [] (ga K "led_by") fd := T.sd.def_ 21 (d := d_led_by) rfl
theorem Txt.f_is_history (T : Txt w K mg) : ∃ fd, FunD K "is_history" "is_history" (defArgs s_is_history) (defBody s_is_history) (defScope s_is_history) [] [] (ga K "is_history") fd := T.sd.def_ 22 (d := d_is_history) rfl
theorem Txt.f_need_history (T : Txt w K mg) : ∃ fd, FunD K "need_history" "need_history" (defArgs s_need_history) (defBody s_need_history) (defScope s_need_history) [] [] (ga K "need_history") fd := T.sd.def_ 23 (d := d_need_history) rfl
theorem Txt.f_way_of (T : Txt w K mg) : ∃ fd, FunD K "way_of" "way_of" (defArgs s_way_of) (defBody s_way_of) (defScope s_way_of) [] [] (ga K "way_of") fd := T.sd.def_ 24 (d := d_way_of) rfl
theorem Txt.f_way_by (T : Txt w K mg) : ∃ fd, FunD K "way_by" "way_by" (defArgs s_way_by) (defBody s_way_by) (defScope s_way_by) [] [] (ga K "way_by") fd := T.sd.def_ 25 (d := d_way_by) rfl
theorem Txt.f_Net_init (T : Txt w K mg) : ∃ fd, FunD K "__init__" "Net.__init__" (defArgs s_Net_init) (defBody s_Net_init) (defScope s_Net_init) [] [] (ma K (ga K "Net") "__init__") fd := T.sd.def_ 26 (d := d_Net_init) rfl
theorem Txt.f_Net_add (T : Txt w K mg) : ∃ fd, FunD K "add" "Net.add" (defArgs s_Net_add) (defBody s_Net_add) (defScope s_Net_add) [] [] (ma K (ga K "Net") "add") fd := T.sd.def_ 27 (d := d_Net_add) rfl
theorem Txt.f_Net_need_hand (T : Txt w K mg) : ∃ fd, FunD K "need_hand" "Net.need_hand" (defArgs s_Net_need_hand) (defBody s_Net_need_hand) (defScope s_Net_need_hand) [] [] (ma K (ga K "Net") "need_hand") fd := T.sd.def_ 28 (d := d_Net_need_hand) rfl
theorem Txt.f_Net_note (T : Txt w K mg) : ∃ fd, FunD K "note" "Net.note" (defArgs s_Net_note) (defBody s_Net_note) (defScope s_Net_note) [] [] (ma K (ga K "Net") "note") fd := T.sd.def_ 29 (d := d_Net_note) rfl
theorem Txt.f_Net_go (T : Txt w K mg) : ∃ fd, FunD K "go" "Net.go" (defArgs s_Net_go) (defBody s_Net_go) (defScope s_Net_go) [] [] (ma K (ga K "Net") "go") fd := T.sd.def_ 30 (d := d_Net_go) rfl
theorem Txt.f_Net_step (T : Txt w K mg) : ∃ fd, FunD K "step" "Net.step" (defArgs s_Net_step) (defBody s_Net_step) (defScope s_Net_step) [] [] (ma K (ga K "Net") "step") fd := T.sd.def_ 31 (d := d_Net_step) rfl
theorem Txt.f_Net_exchange (T : Txt w K mg) : ∃ fd, FunD K "exchange" "Net.exchange" (defArgs s_Net_exchange) (defBody s_Net_exchange) (defScope s_Net_exchange) [] [] (ma K (ga K "Net") "exchange") fd := T.sd.def_ 32 (d := d_Net_exchange) rfl
theorem Txt.f_Net_come (T : Txt w K mg) : ∃ fd, FunD K "come" "Net.come" (defArgs s_Net_come) (defBody s_Net_come) (defScope s_Net_come) [] [] (ma K (ga K "Net") "come") fd := T.sd.def_ 33 (d := d_Net_come) rfl
theorem Txt.f_Net_free_hands (T : Txt w K mg) : ∃ fd, FunD K "free_hands" "Net.free_hands" (defArgs s_Net_free_hands) (defBody s_Net_free_hands) (defScope s_Net_free_hands) [] [] (ma K (ga K "Net") "free_hands") fd := T.sd.def_ 34 (d := d_Net_free_hands) rfl
theorem Txt.f_Net_rest (T : Txt w K mg) : ∃ fd, FunD K "rest" "Net.rest" (defArgs s_Net_rest) (defBody s_Net_rest) (defScope s_Net_rest) [] [] (ma K (ga K "Net") "rest") fd := T.sd.def_ 35 (d := d_Net_rest) rfl
theorem Txt.f_Net_first_row (T : Txt w K mg) : ∃ fd, FunD K "first_row" "Net.first_row" (defArgs s_Net_first_row) (defBody s_Net_first_row) (defScope s_Net_first_row) [] [] (ma K (ga K "Net") "first_row") fd := T.sd.def_ 36 (d := d_Net_first_row) rfl
theorem Txt.f_Net_row (T : Txt w K mg) : ∃ fd, FunD K "row" "Net.row" (defArgs s_Net_row) (defBody s_Net_row) (defScope s_Net_row) [] [] (ma K (ga K "Net") "row") fd := T.sd.def_ 37 (d := d_Net_row) rfl
theorem Txt.f_Net_history (T : Txt w K mg) : ∃ fd, FunD K "history" "Net.history" (defArgs s_Net_history) (defBody s_Net_history) (defScope s_Net_history) [] [] (ma K (ga K "Net") "history") fd := T.sd.def_ 38 (d := d_Net_history) rfl
theorem Txt.f_Net_cards (T : Txt w K mg) : ∃ fd, FunD K "cards" "Net.cards" (defArgs s_Net_cards) (defBody s_Net_cards) (defScope s_Net_cards) [] [] (ma K (ga K "Net") "cards") fd := T.sd.def_ 39 (d := d_Net_cards) rfl
theorem Txt.f_Net_lane (T : Txt w K mg) : ∃ fd, FunD K "lane" "Net.lane" (defArgs s_Net_lane) (defBody s_Net_lane) (defScope s_Net_lane) [] [] (ma K (ga K "Net") "lane") fd := T.sd.def_ 40 (d := d_Net_lane) rfl
theorem Txt.f_Net_lying (T : Txt w K mg) : ∃ fd, FunD K "lying" "Net.lying" (defArgs s_Net_lying) (defBody s_Net_lying) (defScope s_Net_lying) [] [] (ma K (ga K "Net") "lying") fd := T.sd.def_ 41 (d := d_Net_lying) rfl
theorem Txt.f_Net_way (T : Txt w K mg) : ∃ fd, FunD K "way" "Net.way" (defArgs s_Net_way) (defBody s_Net_way) (defScope s_Net_way) [] [] (ma K (ga K "Net") "way") fd := T.sd.def_ 42 (d := d_Net_way) rfl
theorem Txt.f_Net_open_threes (T : Txt w K mg) : ∃ fd, FunD K "open_threes" "Net.open_threes" (defArgs s_Net_open_threes) (defBody s_Net_open_threes) (defScope s_Net_open_threes) [] [] (ma K (ga K "Net") "open_threes") fd := T.sd.def_ 43 (d := d_Net_open_threes) rfl
theorem Txt.f_need (T : Txt w K mg) : ∃ fd, FunD K "need" "need" (defArgs s_need) (defBody s_need) (defScope s_need) [] [] (ga K "need") fd := T.sd.def_ 44 (d := d_need) rfl
theorem Txt.f_number_in (T : Txt w K mg) : ∃ fd, FunD K "number_in" "number_in" (defArgs s_number_in) (defBody s_number_in) (defScope s_number_in) [] [] (ga K "number_in") fd := T.sd.def_ 45 (d := d_number_in) rfl
theorem Txt.f_do_rise (T : Txt w K mg) : ∃ fd, FunD K "do_rise" "do_rise" (defArgs s_do_rise) (defBody s_do_rise) (defScope s_do_rise) [] [] (ga K "do_rise") fd := T.sd.def_ 46 (d := d_do_rise) rfl
theorem Txt.f_joined (T : Txt w K mg) : ∃ fd, FunD K "joined" "joined" (defArgs s_joined) (defBody s_joined) (defScope s_joined) [] [] (ga K "joined") fd := T.sd.def_ 47 (d := d_joined) rfl
theorem Txt.f_text_of (T : Txt w K mg) : ∃ fd, FunD K "text_of" "text_of" (defArgs s_text_of) (defBody s_text_of) (defScope s_text_of) [] [] (ga K "text_of") fd := T.sd.def_ 48 (d := d_text_of) rfl
theorem Txt.f_show_history (T : Txt w K mg) : ∃ fd, FunD K "show_history" "show_history" (defArgs s_show_history) (defBody s_show_history) (defScope s_show_history) [] [] (ga K "show_history") fd := T.sd.def_ 49 (d := d_show_history) rfl
theorem Txt.f_words_of (T : Txt w K mg) : ∃ fd, FunD K "words_of" "words_of" (defArgs s_words_of) (defBody s_words_of) (defScope s_words_of) [] [] (ga K "words_of") fd := T.sd.def_ 50 (d := d_words_of) rfl
theorem Txt.f_listed (T : Txt w K mg) : ∃ fd, FunD K "listed" "listed" (defArgs s_listed) (defBody s_listed) (defScope s_listed) [] [] (ga K "listed") fd := T.sd.def_ 51 (d := d_listed) rfl
theorem Txt.f_Desk_init (T : Txt w K mg) : ∃ fd, FunD K "__init__" "Desk.__init__" (defArgs s_Desk_init) (defBody s_Desk_init) (defScope s_Desk_init) [] [] (ma K (ga K "Desk") "__init__") fd := T.sd.def_ 52 (d := d_Desk_init) rfl
theorem Txt.f_Desk_say (T : Txt w K mg) : ∃ fd, FunD K "say" "Desk.say" (defArgs s_Desk_say) (defBody s_Desk_say) (defScope s_Desk_say) [] [] (ma K (ga K "Desk") "say") fd := T.sd.def_ 53 (d := d_Desk_say) rfl
theorem Txt.f_Desk_do_deed (T : Txt w K mg) : ∃ fd, FunD K "do_deed" "Desk.do_deed" (defArgs s_Desk_do_deed) (defBody s_Desk_do_deed) (defScope s_Desk_do_deed) [] [] (ma K (ga K "Desk") "do_deed") fd := T.sd.def_ 54 (d := d_Desk_do_deed) rfl
theorem Txt.f_Desk_answer (T : Txt w K mg) : ∃ fd, FunD K "answer" "Desk.answer" (defArgs s_Desk_answer) (defBody s_Desk_answer) (defScope s_Desk_answer) [] [] (ma K (ga K "Desk") "answer") fd := T.sd.def_ 55 (d := d_Desk_answer) rfl
theorem Txt.f__law_pot (T : Txt w K mg) : ∃ fd, FunD K "_law_pot" "_law_pot" (defArgs s__law_pot) (defBody s__law_pot) (defScope s__law_pot) [] [] (ga K "_law_pot") fd := T.sd.def_ 56 (d := d__law_pot) rfl
theorem Txt.f__law_dip (T : Txt w K mg) : ∃ fd, FunD K "_law_dip" "_law_dip" (defArgs s__law_dip) (defBody s__law_dip) (defScope s__law_dip) [] [] (ga K "_law_dip") fd := T.sd.def_ 57 (d := d__law_dip) rfl
theorem Txt.f__law_cards (T : Txt w K mg) : ∃ fd, FunD K "_law_cards" "_law_cards" (defArgs s__law_cards) (defBody s__law_cards) (defScope s__law_cards) [] [] (ga K "_law_cards") fd := T.sd.def_ 58 (d := d__law_cards) rfl
theorem Txt.f__law_row (T : Txt w K mg) : ∃ fd, FunD K "_law_row" "_law_row" (defArgs s__law_row) (defBody s__law_row) (defScope s__law_row) [] [] (ga K "_law_row") fd := T.sd.def_ 59 (d := d__law_row) rfl
theorem Txt.f__law_kinds (T : Txt w K mg) : ∃ fd, FunD K "_law_kinds" "_law_kinds" (defArgs s__law_kinds) (defBody s__law_kinds) (defScope s__law_kinds) [] [] (ga K "_law_kinds") fd := T.sd.def_ 60 (d := d__law_kinds) rfl
theorem Txt.f__law_said (T : Txt w K mg) : ∃ fd, FunD K "_law_said" "_law_said" (defArgs s__law_said) (defBody s__law_said) (defScope s__law_said) [] [] (ga K "_law_said") fd := T.sd.def_ 61 (d := d__law_said) rfl
theorem Txt.f__law_done (T : Txt w K mg) : ∃ fd, FunD K "_law_done" "_law_done" (defArgs s__law_done) (defBody s__law_done) (defScope s__law_done) [] [] (ga K "_law_done") fd := T.sd.def_ 62 (d := d__law_done) rfl
theorem Txt.f__law_words (T : Txt w K mg) : ∃ fd, FunD K "_law_words" "_law_words" (defArgs s__law_words) (defBody s__law_words) (defScope s__law_words) [] [] (ga K "_law_words") fd := T.sd.def_ 63 (d := d__law_words) rfl
theorem Txt.f__law_threes (T : Txt w K mg) : ∃ fd, FunD K "_law_threes" "_law_threes" (defArgs s__law_threes) (defBody s__law_threes) (defScope s__law_threes) [] [] (ga K "_law_threes") fd := T.sd.def_ 64 (d := d__law_threes) rfl
theorem Txt.f__law_carried (T : Txt w K mg) : ∃ fd, FunD K "_law_carried" "_law_carried" (defArgs s__law_carried) (defBody s__law_carried) (defScope s__law_carried) [] [] (ga K "_law_carried") fd := T.sd.def_ 65 (d := d__law_carried) rfl
theorem Txt.f__law_alike (T : Txt w K mg) : ∃ fd, FunD K "_law_alike" "_law_alike" (defArgs s__law_alike) (defBody s__law_alike) (defScope s__law_alike) [] [] (ga K "_law_alike") fd := T.sd.def_ 66 (d := d__law_alike) rfl
theorem Txt.f__law_rest_right (T : Txt w K mg) : ∃ fd, FunD K "_law_rest_right" "_law_rest_right" (defArgs s__law_rest_right) (defBody s__law_rest_right) (defScope s__law_rest_right) [] [] (ga K "_law_rest_right") fd := T.sd.def_ 67 (d := d__law_rest_right) rfl
theorem Txt.f_law (T : Txt w K mg) : ∃ fd, FunD K "law" "law" (defArgs s_law) (defBody s_law) (defScope s_law) [] [] (ga K "law") fd := T.sd.def_ 68 (d := d_law) rfl
theorem bt_ValueError : bootBuiltins "ValueError" = some (.type "ValueError") := by decide +kernel
theorem bt_all : bootBuiltins "all" = some (.builtin "all") := by decide +kernel
theorem bt_bool : bootBuiltins "bool" = some (.type "bool") := by decide +kernel
theorem bt_enumerate : bootBuiltins "enumerate" = some (.type "enumerate") := by decide +kernel
theorem bt_int : bootBuiltins "int" = some (.type "int") := by decide +kernel
theorem bt_isinstance : bootBuiltins "isinstance" = some (.builtin "isinstance") := by decide +kernel
theorem bt_len : bootBuiltins "len" = some (.builtin "len") := by decide +kernel
theorem bt_list : bootBuiltins "list" = some (.type "list") := by decide +kernel
theorem bt_max : bootBuiltins "max" = some (.builtin "max") := by decide +kernel
theorem bt_min : bootBuiltins "min" = some (.builtin "min") := by decide +kernel
theorem bt_range : bootBuiltins "range" = some (.type "range") := by decide +kernel
theorem bt_set : bootBuiltins "set" = some (.type "set") := by decide +kernel
theorem bt_sorted : bootBuiltins "sorted" = some (.builtin "sorted") := by decide +kernel
theorem bt_str : bootBuiltins "str" = some (.type "str") := by decide +kernel
theorem bt_sum : bootBuiltins "sum" = some (.builtin "sum") := by decide +kernel
theorem bt_tuple : bootBuiltins "tuple" = some (.type "tuple") := by decide +kernel
theorem bt_zip : bootBuiltins "zip" = some (.type "zip") := by decide +kernel
end
abbrev N_is_card : List Str := ["thing"]
theorem sc_is_card : FnScope N_is_card ["thing"] (defScope s_is_card) := ⟨rfl, rfl, rfl, by decide +kernel, rfl, by decide +kernel, by decide +kernel⟩
abbrev N_is_row : List Str := ["thing", "one"]
theorem sc_is_row : FnScope N_is_row ["thing"] (defScope s_is_row) := ⟨rfl, rfl, rfl, by decide +kernel, rfl, by decide +kernel, by decide +kernel⟩
abbrev N_need_row : List Str := ["thing"]
theorem sc_need_row : FnScope N_need_row ["thing"] (defScope s_need_row) := ⟨rfl, rfl, rfl, by decide +kernel, rfl, by decide +kernel, by decide +kernel⟩
abbrev N_wrong_in : List Str := ["row", "found", "at", "card", "less"]
theorem sc_wrong_in : FnScope N_wrong_in ["row"] (defScope s_wrong_in) := ⟨rfl, rfl, rfl, by decide +kernel, rfl, by decide +kernel, by decide +kernel⟩
abbrev N_crossing_threes : List Str := ["row", "found", "at", "greatest", "later", "place", "middle", "card", "least"]
theorem sc_crossing_threes : FnScope N_crossing_threes ["row"] (defScope s_crossing_threes) := ⟨rfl, rfl, rfl, by decide +kernel, rfl, by decide +kernel, by decide +kernel⟩
abbrev N_is_three : List Str := ["row", "thing", "card"]
theorem sc_is_three : FnScope N_is_three ["row", "thing"] (defScope s_is_three) := ⟨rfl, rfl, rfl, by decide +kernel, rfl, by decide +kernel, by decide +kernel⟩
abbrev N_need_three : List Str := ["row", "thing"]
theorem sc_need_three : FnScope N_need_three ["row", "thing"] (defScope s_need_three) := ⟨rfl, rfl, rfl, by decide +kernel, rfl, by decide +kernel, by decide +kernel⟩
abbrev N_is_letter : List Str := ["thing"]
theorem sc_is_letter : FnScope N_is_letter ["thing"] (defScope s_is_letter) := ⟨rfl, rfl, rfl, by decide +kernel, rfl, by decide +kernel, by decide +kernel⟩
abbrev N_need_letter : List Str := ["good"]
theorem sc_need_letter : FnScope N_need_letter ["good"] (defScope s_need_letter) := ⟨rfl, rfl, rfl, by decide +kernel, rfl, by decide +kernel, by decide +kernel⟩
abbrev N_Hand_init : List Str := ["self", "card"]
theorem sc_Hand_init : FnScope N_Hand_init ["self", "card"] (defScope s_Hand_init) := ⟨rfl, rfl, rfl, by decide +kernel, rfl, by decide +kernel, by decide +kernel⟩
abbrev N_Hand_begin : List Str := ["self"]
theorem sc_Hand_begin : FnScope N_Hand_begin ["self"] (defScope s_Hand_begin) := ⟨rfl, rfl, rfl, by decide +kernel, rfl, by decide +kernel, by decide +kernel⟩
abbrev N_Hand_may_go : List Str := ["self"]
theorem sc_Hand_may_go : FnScope N_Hand_may_go ["self"] (defScope s_Hand_may_go) := ⟨rfl, rfl, rfl, by decide +kernel, rfl, by decide +kernel, by decide +kernel⟩
abbrev N_Hand_go : List Str := ["self"]
theorem sc_Hand_go : FnScope N_Hand_go ["self"] (defScope s_Hand_go) := ⟨rfl, rfl, rfl, by decide +kernel, rfl, by decide +kernel, by decide +kernel⟩
abbrev N_Hand_hear : List Str := ["self", "letter", "word", "card"]
theorem sc_Hand_hear : FnScope N_Hand_hear ["self", "letter"] (defScope s_Hand_hear) := ⟨rfl, rfl, rfl, by decide +kernel, rfl, by decide +kernel, by decide +kernel⟩
abbrev N_Hand_hear_mine : List Str := ["self", "card"]
theorem sc_Hand_hear_mine : FnScope N_Hand_hear_mine ["self", "card"] (defScope s_Hand_hear_mine) := ⟨rfl, rfl, rfl, by decide +kernel, rfl, by decide +kernel, by decide +kernel⟩
abbrev N_Hand_hear_over : List Str := ["self", "card", "least", "less"]
theorem sc_Hand_hear_over : FnScope N_Hand_hear_over ["self", "card"] (defScope s_Hand_hear_over) := ⟨rfl, rfl, rfl, by decide +kernel, rfl, by decide +kernel, by decide +kernel⟩
abbrev N_Hand_hear_back : List Str := ["self", "card"]
theorem sc_Hand_hear_back : FnScope N_Hand_hear_back ["self", "card"] (defScope s_Hand_hear_back) := ⟨rfl, rfl, rfl, by decide +kernel, rfl, by decide +kernel, by decide +kernel⟩
abbrev N_Hand_card : List Str := ["self"]
theorem sc_Hand_card : FnScope N_Hand_card ["self"] (defScope s_Hand_card) := ⟨rfl, rfl, rfl, by decide +kernel, rfl, by decide +kernel, by decide +kernel⟩
abbrev N_Hand_aside : List Str := ["self"]
theorem sc_Hand_aside : FnScope N_Hand_aside ["self"] (defScope s_Hand_aside) := ⟨rfl, rfl, rfl, by decide +kernel, rfl, by decide +kernel, by decide +kernel⟩
abbrev N_Hand_heard : List Str := ["self"]
theorem sc_Hand_heard : FnScope N_Hand_heard ["self"] (defScope s_Hand_heard) := ⟨rfl, rfl, rfl, by decide +kernel, rfl, by decide +kernel, by decide +kernel⟩
abbrev N_may_change : List Str := ["row", "thing", "less", "greater", "card"]
theorem sc_may_change : FnScope N_may_change ["row", "thing"] (defScope s_may_change) := ⟨rfl, rfl, rfl, by decide +kernel, rfl, by decide +kernel, by decide +kernel⟩
abbrev N_led_by : List Str := ["row", "thing", "found", "pair", "at"]
theorem sc_led_by : FnScope N_led_by ["row", "thing"] (defScope s_led_by) := ⟨rfl, rfl, rfl, by decide +kernel, rfl, by decide +kernel, by decide +kernel⟩
abbrev N_is_history : List Str := ["row", "thing"]
theorem sc_is_history : FnScope N_is_history ["row", "thing"] (defScope s_is_history) := ⟨rfl, rfl, rfl, by decide +kernel, rfl, by decide +kernel, by decide +kernel⟩
abbrev N_need_history : List Str := ["row", "history"]
theorem sc_need_history : FnScope N_need_history ["row", "history"] (defScope s_need_history) := ⟨rfl, rfl, rfl, by decide +kernel, rfl, by decide +kernel, by decide +kernel⟩
abbrev N_way_of : List Str := ["wrong", "history", "three", "x", "y", "z", "whens", "pair", "lesser", "greater"]
theorem sc_way_of : FnScope N_way_of ["wrong", "history", "three"] (defScope s_way_of) := ⟨rfl, rfl, rfl, by decide +kernel, rfl, by decide +kernel, by decide +kernel⟩
abbrev N_way_by : List Str := ["row", "history", "three"]
theorem sc_way_by : FnScope N_way_by ["row", "history", "three"] (defScope s_way_by) := ⟨rfl, rfl, rfl, by decide +kernel, rfl, by decide +kernel, by decide +kernel⟩
abbrev N_Net_init : List Str := ["self", "row", "card"]
theorem sc_Net_init : FnScope N_Net_init ["self", "row"] (defScope s_Net_init) := ⟨rfl, rfl, rfl, by decide +kernel, rfl, by decide +kernel, by decide +kernel⟩
abbrev N_Net_add : List Str := ["self", "card", "number"]
theorem sc_Net_add : FnScope N_Net_add ["self", "card"] (defScope s_Net_add) := ⟨rfl, rfl, rfl, by decide +kernel, rfl, by decide +kernel, by decide +kernel⟩
abbrev N_Net_need_hand : List Str := ["self", "hand"]
theorem sc_Net_need_hand : FnScope N_Net_need_hand ["self", "hand"] (defScope s_Net_need_hand) := ⟨rfl, rfl, rfl, by decide +kernel, rfl, by decide +kernel, by decide +kernel⟩
abbrev N_Net_note : List Str := ["self", "hand", "what", "letters", "letter", "other"]
theorem sc_Net_note : FnScope N_Net_note ["self", "hand", "what", "letters"] (defScope s_Net_note) := ⟨rfl, rfl, rfl, by decide +kernel, rfl, by decide +kernel, by decide +kernel⟩
abbrev N_Net_go : List Str := ["self", "hand"]
theorem sc_Net_go : FnScope N_Net_go ["self", "hand"] (defScope s_Net_go) := ⟨rfl, rfl, rfl, by decide +kernel, rfl, by decide +kernel, by decide +kernel⟩
abbrev N_Net_step : List Str := ["self", "hand", "other", "hearer", "letter", "taken", "letters", "sent"]
theorem sc_Net_step : FnScope N_Net_step ["self", "hand", "other"] (defScope s_Net_step) := ⟨rfl, rfl, rfl, by decide +kernel, rfl, by decide +kernel, by decide +kernel⟩
abbrev N_Net_exchange : List Str := ["self", "place", "card", "lesser"]
theorem sc_Net_exchange : FnScope N_Net_exchange ["self", "place", "card"] (defScope s_Net_exchange) := ⟨rfl, rfl, rfl, by decide +kernel, rfl, by decide +kernel, by decide +kernel⟩
abbrev N_Net_come : List Str := ["self", "card"]
theorem sc_Net_come : FnScope N_Net_come ["self", "card"] (defScope s_Net_come) := ⟨rfl, rfl, rfl, by decide +kernel, rfl, by decide +kernel, by decide +kernel⟩
abbrev N_Net_free_hands : List Str := ["self", "found", "number", "hand"]
theorem sc_Net_free_hands : FnScope N_Net_free_hands ["self"] (defScope s_Net_free_hands) := ⟨rfl, rfl, rfl, by decide +kernel, rfl, by decide +kernel, by decide +kernel⟩
abbrev N_Net_rest : List Str := ["self", "many", "hand", "other", "pair", "letters"]
theorem sc_Net_rest : FnScope N_Net_rest ["self"] (defScope s_Net_rest) := ⟨rfl, rfl, rfl, by decide +kernel, rfl, by decide +kernel, by decide +kernel⟩
abbrev N_Net_first_row : List Str := ["self"]
theorem sc_Net_first_row : FnScope N_Net_first_row ["self"] (defScope s_Net_first_row) := ⟨rfl, rfl, rfl, by decide +kernel, rfl, by decide +kernel, by decide +kernel⟩
abbrev N_Net_row : List Str := ["self"]
theorem sc_Net_row : FnScope N_Net_row ["self"] (defScope s_Net_row) := ⟨rfl, rfl, rfl, by decide +kernel, rfl, by decide +kernel, by decide +kernel⟩
abbrev N_Net_history : List Str := ["self"]
theorem sc_Net_history : FnScope N_Net_history ["self"] (defScope s_Net_history) := ⟨rfl, rfl, rfl, by decide +kernel, rfl, by decide +kernel, by decide +kernel⟩
abbrev N_Net_cards : List Str := ["self", "hand"]
theorem sc_Net_cards : FnScope N_Net_cards ["self"] (defScope s_Net_cards) := ⟨rfl, rfl, rfl, by decide +kernel, rfl, by decide +kernel, by decide +kernel⟩
abbrev N_Net_lane : List Str := ["self", "hand", "other"]
theorem sc_Net_lane : FnScope N_Net_lane ["self", "hand", "other"] (defScope s_Net_lane) := ⟨rfl, rfl, rfl, by decide +kernel, rfl, by decide +kernel, by decide +kernel⟩
abbrev N_Net_lying : List Str := ["self", "letters"]
theorem sc_Net_lying : FnScope N_Net_lying ["self"] (defScope s_Net_lying) := ⟨rfl, rfl, rfl, by decide +kernel, rfl, by decide +kernel, by decide +kernel⟩
abbrev N_Net_way : List Str := ["self", "three"]
theorem sc_Net_way : FnScope N_Net_way ["self", "three"] (defScope s_Net_way) := ⟨rfl, rfl, rfl, by decide +kernel, rfl, by decide +kernel, by decide +kernel⟩
abbrev N_Net_open_threes : List Str := ["self", "done", "threes", "pair", "a", "b", "c"]
theorem sc_Net_open_threes : FnScope N_Net_open_threes ["self"] (defScope s_Net_open_threes) := ⟨rfl, rfl, rfl, by decide +kernel, rfl, by decide +kernel, by decide +kernel⟩
abbrev N_need : List Str := ["good"]
theorem sc_need : FnScope N_need ["good"] (defScope s_need) := ⟨rfl, rfl, rfl, by decide +kernel, rfl, by decide +kernel, by decide +kernel⟩
abbrev N_number_in : List Str := ["word", "sign"]
theorem sc_number_in : FnScope N_number_in ["word"] (defScope s_number_in) := ⟨rfl, rfl, rfl, by decide +kernel, rfl, by decide +kernel, by decide +kernel⟩
abbrev N_do_rise : List Str := ["thing", "many", "one", "other", "card"]
theorem sc_do_rise : FnScope N_do_rise ["thing", "many"] (defScope s_do_rise) := ⟨rfl, rfl, rfl, by decide +kernel, rfl, by decide +kernel, by decide +kernel⟩
abbrev N_joined : List Str := ["cards", "sign", "card"]
theorem sc_joined : FnScope N_joined ["cards", "sign"] (defScope s_joined) := ⟨rfl, rfl, rfl, by decide +kernel, rfl, by decide +kernel, by decide +kernel⟩
abbrev N_text_of : List Str := ["words"]
theorem sc_text_of : FnScope N_text_of ["words"] (defScope s_text_of) := ⟨rfl, rfl, rfl, by decide +kernel, rfl, by decide +kernel, by decide +kernel⟩
abbrev N_show_history : List Str := ["history", "pair"]
theorem sc_show_history : FnScope N_show_history ["history"] (defScope s_show_history) := ⟨rfl, rfl, rfl, by decide +kernel, rfl, by decide +kernel, by decide +kernel⟩
abbrev N_words_of : List Str := ["row", "word", "rest", "numbers", "one"]
theorem sc_words_of : FnScope N_words_of ["row"] (defScope s_words_of) := ⟨rfl, rfl, rfl, by decide +kernel, rfl, by decide +kernel, by decide +kernel⟩
abbrev N_listed : List Str := ["words"]
theorem sc_listed : FnScope N_listed ["words"] (defScope s_listed) := ⟨rfl, rfl, rfl, by decide +kernel, rfl, by decide +kernel, by decide +kernel⟩
abbrev N_Desk_init : List Str := ["self"]
theorem sc_Desk_init : FnScope N_Desk_init ["self"] (defScope s_Desk_init) := ⟨rfl, rfl, rfl, by decide +kernel, rfl, by decide +kernel, by decide +kernel⟩
abbrev N_Desk_say : List Str := ["self", "row", "word", "numbers"]
theorem sc_Desk_say : FnScope N_Desk_say ["self", "row"] (defScope s_Desk_say) := ⟨rfl, rfl, rfl, by decide +kernel, rfl, by decide +kernel, by decide +kernel⟩
abbrev N_Desk_do_deed : List Str := ["self", "word", "numbers"]
theorem sc_Desk_do_deed : FnScope N_Desk_do_deed ["self", "word", "numbers"] (defScope s_Desk_do_deed) := ⟨rfl, rfl, rfl, by decide +kernel, rfl, by decide +kernel, by decide +kernel⟩
abbrev N_Desk_answer : List Str := ["self", "word", "numbers", "net", "three", "card", "kind", "hand"]
theorem sc_Desk_answer : FnScope N_Desk_answer ["self", "word", "numbers"] (defScope s_Desk_answer) := ⟨rfl, rfl, rfl, by decide +kernel, rfl, by decide +kernel, by decide +kernel⟩
abbrev N__law_pot : List Str := ["_law_script", "_law_k", "_law_cell"]
theorem sc__law_pot : FnScope N__law_pot ["_law_script", "_law_k"] (defScope s__law_pot) := ⟨rfl, rfl, rfl, by decide +kernel, rfl, by decide +kernel, by decide +kernel⟩
abbrev N__law_dip : List Str := ["_law_pot_here", "_law_many", "_law_found", "_law_mixed"]
theorem sc__law_dip : FnScope N__law_dip ["_law_pot_here", "_law_many"] (defScope s__law_dip) := ⟨rfl, rfl, rfl, by decide +kernel, rfl, by decide +kernel, by decide +kernel⟩
abbrev N__law_cards : List Str := ["_law_pot_here", "_law_many", "_law_wide", "_law_found", "_law_more", "_law_card"]
theorem sc__law_cards : FnScope N__law_cards ["_law_pot_here", "_law_many"] (defScope s__law_cards) := ⟨rfl, rfl, rfl, by decide +kernel, rfl, by decide +kernel, by decide +kernel⟩
abbrev N__law_row : List Str := ["_law_pot_here", "_law_most", "_law_cards_here", "_law_way", "_law_row_here", "_law_turn", "_law_card"]
theorem sc__law_row : FnScope N__law_row ["_law_pot_here", "_law_most"] (defScope s__law_row) := ⟨rfl, rfl, rfl, by decide +kernel, rfl, by decide +kernel, by decide +kernel⟩
abbrev N__law_kinds : List Str := ["_law_caught", "_law_kinds_here", "_law_names", "_law_found", "_law_name", "_law_kind"]
theorem sc__law_kinds : FnScope N__law_kinds ["_law_caught"] (defScope s__law_kinds) := ⟨rfl, rfl, rfl, by decide +kernel, rfl, by decide +kernel, by decide +kernel⟩
abbrev N__law_said : List Str := ["_law_desk", "_law_row_here", "e"]
theorem sc__law_said : FnScope N__law_said ["_law_desk", "_law_row_here"] (defScope s__law_said) := ⟨rfl, rfl, rfl, by decide +kernel, rfl, by decide +kernel, by decide +kernel⟩
abbrev N__law_done : List Str := ["_law_net", "_law_words_here", "_law_numbers", "e", "_law_word"]
theorem sc__law_done : FnScope N__law_done ["_law_net", "_law_words_here"] (defScope s__law_done) := ⟨rfl, rfl, rfl, by decide +kernel, rfl, by decide +kernel, by decide +kernel⟩
abbrev N__law_words : List Str := ["_law_pot_here", "_law_net", "_law_most", "_law_many", "_law_free", "_law_one", "_law_way", "_law_some", "_law_lanes", "_law_pair", "_law_at", "_law_hand"]
theorem sc__law_words : FnScope N__law_words ["_law_pot_here", "_law_net", "_law_most"] (defScope s__law_words) := ⟨rfl, rfl, rfl, by decide +kernel, rfl, by decide +kernel, by decide +kernel⟩
abbrev N__law_threes : List Str := ["_law_row_here", "_law_cards_here", "_law_found", "_law_at", "_law_x", "_law_more", "_law_y", "_law_z"]
theorem sc__law_threes : FnScope N__law_threes ["_law_row_here"] (defScope s__law_threes) := ⟨rfl, rfl, rfl, by decide +kernel, rfl, by decide +kernel, by decide +kernel⟩
abbrev N__law_carried : List Str := ["_law_desk", "_law_mate", "_law_pair", "_law_at", "_law_back", "_law_row_here"]
theorem sc__law_carried : FnScope N__law_carried ["_law_desk", "_law_mate"] (defScope s__law_carried) := ⟨rfl, rfl, rfl, by decide +kernel, rfl, by decide +kernel, by decide +kernel⟩
abbrev N__law_alike : List Str := ["_law_desk", "_law_mate", "_law_rows", "_law_cards_here", "_law_word", "_law_three", "_law_row_here", "_law_card"]
theorem sc__law_alike : FnScope N__law_alike ["_law_desk", "_law_mate"] (defScope s__law_alike) := ⟨rfl, rfl, rfl, by decide +kernel, rfl, by decide +kernel, by decide +kernel⟩
abbrev N__law_rest_right : List Str := ["_law_desk", "_law_steps", "_law_row_here", "_law_word"]
theorem sc__law_rest_right : FnScope N__law_rest_right ["_law_desk"] (defScope s__law_rest_right) := ⟨rfl, rfl, rfl, by decide +kernel, rfl, by decide +kernel, by decide +kernel⟩
abbrev N_law : List Str := ["_law_script", "_law_k", "_law_pot_here", "_law_desk", "_law_mate", "_law_row_here", "_law_net", "_law_turn", "_law_words_here", "_law_card"]
theorem sc_law : FnScope N_law ["_law_script"] (defScope s_law) := ⟨rfl, rfl, rfl, by decide +kernel, rfl, by decide +kernel, by decide +kernel⟩
end K59

set_option Elab.async false
set_option linter.all false
set_option maxRecDepth 100000
set_option maxHeartbeats 0
namespace K59
open PySem PySem.Spec PyProof.Rows L2 He
def names0 : List PySem.Str := ["_wall", "CrossError", "NoRow", "NoThree", "NoHistory", "NotWhole", "Unlike", "Twice", "Idle", "NoLetter", "NoHand", "Empty"]
def names1 : List PySem.Str := ["NoCard", "Full", "TooMany", "NoTelling", "Barred", "NoBooks", "NotSmall", "NoText", "NoSaying", "NoNet", "MOST_CARD", "MOST_CARDS"]
def names2 : List PySem.Str := ["is_card", "is_row", "need_row", "wrong_in", "crossing_threes", "is_three", "need_three", "MINE", "OVER", "BACK", "is_letter", "need_letter"]
def names3 : List PySem.Str := ["Hand", "LOW", "HIGH", "OPEN", "NEVER", "may_change", "led_by", "is_history", "need_history", "way_of", "way_by", "Net"]
def names4 : List PySem.Str := ["FIGURES", "MOST_FIGURES", "NOTHING", "need", "number_in", "do_rise", "joined", "text_of", "show_history", "NUMBERS", "words_of", "listed"]
def names5 : List PySem.Str := ["Desk", "_law_pot", "_law_dip", "_law_cards", "_law_row", "_law_kinds", "_law_said", "_law_done", "_law_words", "_law_threes", "_law_carried", "_law_alike"]
def names6 : List PySem.Str := ["_law_rest_right"]
def names : List PySem.Str := names0 ++ (names1 ++ (names2 ++ (names3 ++ (names4 ++ (names5 ++ (names6))))))

abbrev R : PySem.W.OpenRow := PySem.W.OpenLaw.row PySem.Challenge.rw_threecrossings_k59_whole_desks_carried
def obW (n : Nat) (g : Addr → Option Obj) : AlX := (obsT fa fn ts (frG g (List.range n)), ex (frG g (List.range n)))
theorem saysW {w : World} {h : Heap} {n : Nat} (e : obW n h.get? = valX fn ts w) : SaysX fa fn ts [] ex w h (frG h.get? (List.range n)) :=
  ⟨congrArg (fun z : AlX => z.1) e, congrArg (fun z : AlX => z.2) e, fun p hp => absurd hp List.not_mem_nil, fun p hp => absurd hp List.not_mem_nil, fun p hp => absurd hp List.not_mem_nil⟩
def hk : PySem.W.Hook where
  α := AlX
  obs := fun s => obW s.heap.objs.size s.heap.get?
  val := fun w => valX fn ts w
  says := fun w h => ∃ K : PySem.W.Frag, K.In h ∧ SaysX fa fn ts [] ex w h K
  of := fun _ _ e => ⟨_, frG_in, saysW e⟩
  keeps := fun _ _ _ ⟨K, hK, c⟩ k => ⟨K, PySem.W.Frag.In.keeps hK k, ⟨c.t, c.more, c.hd, c.out, fun p hp => k _ _ (c.empty p hp)⟩⟩
def ob (s : PySem.W.SharedT) : AlX := obW s.n (HandSHeadRun.getT s)
theorem ob_eq (s : PySem.W.SharedT) : ob s = hk.obs s.abs := by
  have e : HandSHeadRun.getT s = s.abs.heap.get? := funext (HandSHeadRun.getT_eq s)
  have n : s.abs.heap.objs.size = s.n := PySem.W.absHeap_size _ _ _
  show obW s.n (HandSHeadRun.getT s) = obW s.abs.heap.objs.size s.abs.heap.get?
  rw [e, n]
theorem runF (w : World) : HandSHeadRun.RunEq R (PySem.W.view R.prog [81]) hk ob 20000 names (w.withFollow "special-get-raises" false) := by
  intro os
  kernel_rfl
theorem runT (w : World) : HandSHeadRun.RunEq R (PySem.W.view R.prog [81]) hk ob 20000 names (w.withFollow "special-get-raises" true) := by
  intro os
  kernel_rfl
theorem run (w : World) : HandSHeadRun.RunEq R (PySem.W.view R.prog [81]) hk ob 20000 names w := PySem.W.byRow2 "special-get-raises" (P := fun w => HandSHeadRun.RunEq R (PySem.W.view R.prog [81]) hk ob 20000 names w) runF runT w
end K59

set_option Elab.async false
set_option linter.all false
set_option maxRecDepth 100000
set_option maxHeartbeats 4000000
/-! values as data: what a reading evaluates to, whatever is laid besides -/
namespace K59
open PySem PySem.Spec PyProof.Rows L2 Evl
abbrev St := L2.St
section
variable {K : PySem.W.Frag} {H H' H1 H2 : Hp}
mutual
theorem dp_ex (e : Ex H H') : ∀ {v : V} (d : PyData), Dp K H v d → Dp K H' v d
  | _, .none, h => by cases h; exact .non
  | _, .bool b, h => by cases h; exact .bl b
  | _, .int i, h => by cases h; exact .int i
  | _, .str x, h => by cases h; exact .str x
  | _, .list ds, h => by
    cases h with
    | lst hs ha => exact .lst (ex_l e hs) (da_ex e ds ha)
  | _, .tuple ds, h => by
    cases h with
    | tup hs ha => exact .tup (ex_t e hs) (da_ex e ds ha)
  | _, .dict _, h => by cases h
theorem da_ex (e : Ex H H') : ∀ {vs : List V} (ds : List PyData), DpAll K H vs ds → DpAll K H' vs ds
  | _, [], h => by cases h; exact .nil
  | _, d :: ds, h => by
    cases h with
    | cons h1 h2 => exact .cons (dp_ex e d h1) (da_ex e ds h2)
end
theorem da_len : ∀ {vs : List V} {ds : List PyData}, DpAll K H vs ds → vs.length = ds.length
  | _, _, .nil => rfl
  | _, _, .cons _ t => by rw [List.length_cons, List.length_cons, da_len t]
theorem da_get : ∀ {vs : List V} {ds : List PyData} {i : Nat} {v : V}, DpAll K H vs ds → vs[i]? = some v → ∃ d, ds[i]? = some d ∧ Dp K H v d
  | _, _, _, _, .nil, h => by cases h
  | _, _, 0, v, .cons a _, h => by
    have e := Option.some.inj h
    subst e
    exact ⟨_, rfl, a⟩
  | _, _, i + 1, v, .cons _ t, h => da_get (i := i) t h
theorem da_at : ∀ {vs : List V} {ds : List PyData} {i : Nat} {d : PyData}, DpAll K H vs ds → ds[i]? = some d → ∃ v, vs[i]? = some v ∧ Dp K H v d
  | _, _, _, _, .nil, h => by cases h
  | _, _, 0, d, .cons a _, h => by
    have e := Option.some.inj h
    subst e
    exact ⟨_, rfl, a⟩
  | _, _, i + 1, v, .cons _ t, h => da_at (i := i) t h
theorem da_app : ∀ {vs ws : List V} {ds es : List PyData}, DpAll K H vs ds → DpAll K H ws es → DpAll K H (vs ++ ws) (ds ++ es)
  | _, _, _, _, .nil, h => h
  | _, _, _, _, .cons a t, h => .cons a (da_app t h)
theorem da_take : ∀ {vs : List V} {ds : List PyData} (n : Nat), DpAll K H vs ds → DpAll K H (vs.take n) (ds.take n)
  | _, _, 0, _ => .nil
  | _, _, _ + 1, .nil => .nil
  | _, _, n + 1, .cons a t => .cons a (da_take n t)
theorem da_drop : ∀ {vs : List V} {ds : List PyData} (n : Nat), DpAll K H vs ds → DpAll K H (vs.drop n) (ds.drop n)
  | _, _, 0, h => h
  | _, _, _ + 1, .nil => .nil
  | _, _, n + 1, .cons _ t => da_drop n t
theorem da_set {v : V} {d : PyData} (h : Dp K H v d) : ∀ {vs : List V} {ds : List PyData} (i : Nat), DpAll K H vs ds → DpAll K H (vs.set i v) (ds.set i d)
  | _, _, _, .nil => .nil
  | _, _, 0, .cons _ t => .cons h t
  | _, _, i + 1, .cons a t => .cons a (da_set h i t)
theorem da_er : ∀ {vs : List V} {ds : List PyData} (i : Nat), DpAll K H vs ds → DpAll K H (vs.eraseIdx i) (ds.eraseIdx i)
  | _, _, _, .nil => .nil
  | _, _, 0, .cons _ t => t
  | _, _, i + 1, .cons a t => .cons a (da_er i t)
/-- ints -/
abbrev DI : List Int → List PyData := List.map PyData.int
theorem da_ints : ∀ {vs : List V} {ns : List Int}, DpAll K H vs (DI ns) → vs = ns.map V.int
  | _, [], h => by cases h; rfl
  | _, n :: ns, h => by
    cases h with
    | cons a t =>
      cases a
      rw [da_ints t] <;> rfl
theorem ints_da : ∀ (ns : List Int), DpAll K H (ns.map V.int) (DI ns)
  | [] => .nil
  | n :: ns => .cons (.int n) (ints_da ns)
theorem da_strs : ∀ {vs : List V} {ns : List Str}, DpAll K H vs (ns.map PyData.str) → vs = ns.map V.str
  | _, [], h => by cases h; rfl
  | _, n :: ns, h => by
    cases h with
    | cons a t =>
      cases a
      rw [da_strs t] <;> rfl
theorem strs_da : ∀ (ns : List Str), DpAll K H (ns.map V.str) (ns.map PyData.str)
  | [] => .nil
  | n :: ns => .cons (.str n) (strs_da ns)
theorem da_bls : ∀ {vs : List V} {ns : List Bool}, DpAll K H vs (ns.map PyData.bool) → vs = ns.map V.bl
  | _, [], h => by cases h; rfl
  | _, n :: ns, h => by
    cases h with
    | cons a t =>
      cases a
      rw [da_bls t] <;> rfl
theorem dp_int {v : V} {i : Int} (h : Dp K H v (.int i)) : v = .int i := by cases h; rfl
theorem dp_str {v : V} {x : Str} (h : Dp K H v (.str x)) : v = .str x := by cases h; rfl
theorem dp_bl {v : V} {b : Bool} (h : Dp K H v (.bool b)) : v = .bl b := by cases h; rfl
theorem dp_non {v : V} (h : Dp K H v .none) : v = .non := by cases h; rfl
theorem dp_lst {v : V} {ds : List PyData} (h : Dp K H v (.list ds)) : ∃ a xs, v = .ref a ∧ SqL K H a xs ∧ DpAll K H xs ds := by
  cases h with
  | lst a b => exact ⟨_, _, rfl, a, b⟩
theorem dp_tup {v : V} {ds : List PyData} (h : Dp K H v (.tuple ds)) : ∃ a xs, v = .ref a ∧ SqT K H a xs ∧ DpAll K H xs ds := by
  cases h with
  | tup a b => exact ⟨_, _, rfl, a, b⟩
theorem dp_tyL {v : V} {ds : List PyData} (h : Dp K H v (.list ds)) : TyX K H v (.type "list") := by
  obtain ⟨a, xs, rfl, hs, _⟩ := dp_lst h
  rcases hs with (h | ⟨o, h⟩) | ⟨o, its, n, h1, h2, _⟩
  · exact .base (.lst h)
  · exact .base (.frz h)
  · exact .kList h1 h2
theorem dp_tyT {v : V} {ds : List PyData} (h : Dp K H v (.tuple ds)) : TyX K H v (.type "tuple") := by
  obtain ⟨a, xs, rfl, hs, _⟩ := dp_tup h
  rcases hs with (h | ⟨o, h⟩) | ⟨o, its, n, h1, h2, _⟩
  · exact .base (.tup h)
  · exact .fTuple h
  · exact .kTuple h1 h2
/-- data without lists -/
def noL : PyData → Bool
  | .list _ => false
  | .tuple ds => noLs ds
  | _ => true
where noLs : List PyData → Bool
  | [] => true
  | d :: ds => noL d && noLs ds
/-- tuples stay -/
def TupO (o : HO) : Prop := ∃ xs, o = .tup xs ∨ ∃ ob, o = .frz ob (.tup xs)
def TSt (H H' : Hp) : Prop := ∀ a o, H a = some o → TupO o → H' a = some o
theorem TSt.rd (e : TSt H H') {a : Addr} {xs : List V} (h : Rd H a (.tup xs)) : Rd H' a (.tup xs) := by
  rcases h with h | ⟨ob, h⟩
  · exact .inl (e _ _ h ⟨xs, .inl rfl⟩)
  · exact .inr ⟨ob, e _ _ h ⟨xs, .inr ⟨ob, rfl⟩⟩⟩
theorem TSt.tup (e : TSt H H') {a : Addr} {xs : List V} (h : H a = some (.tup xs)) : H' a = some (.tup xs) := e _ _ h ⟨xs, .inl rfl⟩
mutual
theorem dp_ts (e : TSt H H') : ∀ {v : V} (d : PyData), noL d = true → Dp K H v d → Dp K H' v d
  | _, .none, _, h => by cases h; exact .non
  | _, .bool b, _, h => by cases h; exact .bl b
  | _, .int i, _, h => by cases h; exact .int i
  | _, .str x, _, h => by cases h; exact .str x
  | _, .list ds, hn, _ => by cases hn
  | _, .tuple ds, hn, h => by
    cases h with
    | tup hs ha =>
      refine .tup ?_ (da_ts e ds hn ha)
      rcases hs with h | h
      · exact .inl (e.rd h)
      · exact .inr h
  | _, .dict _, _, h => by cases h
theorem da_ts (e : TSt H H') : ∀ {vs : List V} (ds : List PyData), noL.noLs ds = true → DpAll K H vs ds → DpAll K H' vs ds
  | _, [], _, h => by cases h; exact .nil
  | _, d :: ds, hn, h => by
    obtain ⟨h1, h2⟩ := Bool.and_eq_true_iff.mp (show (noL d && noL.noLs ds) = true from hn)
    cases h with
    | cons a t => exact .cons (dp_ts e d h1 a) (da_ts e ds h2 t)
end
theorem ts_of {l : Addr} {o : HO} (hl : ∀ xs, ¬ Rd H l (.tup xs)) : TSt H (upd H l o) := fun a u h t => by
  have n : a ≠ l := fun z => by
    rw [z] at h
    obtain ⟨xs, rfl | ⟨ob, rfl⟩⟩ := t
    · exact hl xs (.inl h)
    · exact hl xs (.inr ⟨ob, h⟩)
  rw [upd_ne n]
  exact h
theorem ts_lst {l : Addr} {o : HO} {xs : List V} (hl : H l = some (.lst xs)) : TSt H (upd H l o) := ts_of fun ys h => by
  rcases h with h | ⟨ob, h⟩ <;> rw [hl] at h <;> cases h
theorem noLs_all : ∀ {ds : List PyData}, (∀ d ∈ ds, noL d = true) → noL.noLs ds = true
  | [], _ => rfl
  | d :: ds, h => by
    show (noL d && noL.noLs ds) = true
    rw [h d List.mem_cons_self, noLs_all fun z hz => h z (List.mem_cons_of_mem _ hz)] <;> rfl
theorem noLs_mem : ∀ {ds : List PyData}, noL.noLs ds = true → ∀ d ∈ ds, noL d = true
  | d :: ds, h, z, hz => by
    obtain ⟨h1, h2⟩ := Bool.and_eq_true_iff.mp (show (noL d && noL.noLs ds) = true from h)
    rcases List.mem_cons.mp hz with e | hz
    · rw [e]
      exact h1
    · exact noLs_mem h2 z hz
end

/-! ### evaluation -/
section
variable {K : PySem.W.Frag} {σ : K59.St} {H H' : Hp} {te ta tb tl : TE} {t u : TT} {d d1 d2 : PyData} {ds es : List PyData} {v : V}
def EvD (K : PySem.W.Frag) (te : TE) (σ : K59.St) (H : Hp) (d : PyData) : Prop := ∀ H1, Ex H H1 → ∀ Q : VK, (∀ v H2, Ex H1 H2 → Dp K H2 v d → Q v H2) → te σ H1 Q
/-- a new list of these -/
def EvN (K : PySem.W.Frag) (te : TE) (σ : K59.St) (H : Hp) (ds : List PyData) : Prop := ∀ H1, Ex H H1 → ∀ Q : VK, (∀ p vs H2, H1 p = none → Ex H1 H2 → H2 p = some (.lst vs) → DpAll K H2 vs ds → Q (.ref p) H2) → te σ H1 Q
def EvS (K : PySem.W.Frag) (ta : TA) (σ : K59.St) (H : Hp) (ds : List PyData) : Prop := ∀ H1, Ex H H1 → ∀ Q : List V → Hp → Prop, (∀ vs H2, Ex H1 H2 → DpAll K H2 vs ds → Q vs H2) → ta σ H1 Q
theorem EvD.mono (e : Ex H H') (h : EvD K te σ H d) : EvD K te σ H' d := fun H1 a Q q => h H1 (e.trans a) Q q
theorem EvN.mono (e : Ex H H') (h : EvN K te σ H ds) : EvN K te σ H' ds := fun H1 a Q q => h H1 (e.trans a) Q q
theorem EvN.toD (h : EvN K te σ H ds) : EvD K te σ H (.list ds) := fun H1 e Q q => h H1 e Q fun p vs H2 _ e2 h2 h3 => q _ H2 e2 (.lst (.inl (.inl h2)) h3)
theorem ed_var {i : Nat} (h : σ[i]? = some (some v)) (hd : Dp K H v d) : EvD K (tVar i) σ H d := fun H1 e _ q => ⟨v, h, q v H1 (Ex.refl H1) (dp_ex e d hd)⟩
theorem ed_of (h : Ev te σ H v) (hd : Dp K H v d) : EvD K te σ H d := fun H1 e Q q => h H1 e Q fun H2 e2 => q v H2 e2 (dp_ex (e.trans e2) d hd)
theorem ed_i {i : Int} : EvD K (tC (.int i)) σ H (.int i) := ed_of ev_c (.int i)
theorem ed_s {x : Str} : EvD K (tC (.str x)) σ H (.str x) := ed_of ev_c (.str x)
theorem ed_b {b : Bool} : EvD K (tC (.bl b)) σ H (.bool b) := ed_of ev_c (.bl b)
theorem ed_n : EvD K (tC .non) σ H .none := ed_of ev_c .non
theorem EvD.i {i : Int} (h : EvD K te σ H (.int i)) : Ev te σ H (.int i) := fun H1 e Q q => h H1 e Q fun v H2 e2 hd => by cases hd; exact q H2 e2
theorem EvD.s {i : Str} (h : EvD K te σ H (.str i)) : Ev te σ H (.str i) := fun H1 e Q q => h H1 e Q fun v H2 e2 hd => by cases hd; exact q H2 e2
theorem EvD.b {i : Bool} (h : EvD K te σ H (.bool i)) : Ev te σ H (.bl i) := fun H1 e Q q => h H1 e Q fun v H2 e2 hd => by cases hd; exact q H2 e2
theorem EvD.n (h : EvD K te σ H .none) : Ev te σ H .non := fun H1 e Q q => h H1 e Q fun v H2 e2 hd => by cases hd; exact q H2 e2
theorem d_i {i : Int} (h : Ev te σ H (.int i)) : EvD K te σ H (.int i) := ed_of h (.int i)
theorem d_s {i : Str} (h : Ev te σ H (.str i)) : EvD K te σ H (.str i) := ed_of h (.str i)
theorem d_b {i : Bool} (h : Ev te σ H (.bl i)) : EvD K te σ H (.bool i) := ed_of h (.bl i)
theorem es_nil : EvS K tNil σ H [] := fun H1 _ _ q => q [] H1 (Ex.refl H1) .nil
theorem es_cons {tr : TA} (h : EvD K te σ H d) (hr : EvS K tr σ H ds) : EvS K (tCons te tr) σ H (d :: ds) := fun H1 e _ q =>
  h H1 e _ fun v H2 e2 hd => hr H2 (e.trans e2) _ fun vs H3 e3 ha => q _ H3 (e2.trans e3) (.cons (dp_ex e3 d hd) ha)
theorem EvS.mono {tr : TA} (e : Ex H H') (h : EvS K tr σ H ds) : EvS K tr σ H' ds := fun H1 a Q q => h H1 (e.trans a) Q q
/-- displays -/
theorem ed_tup {tr : TA} (h : EvS K tr σ H ds) (hz : ds.length ≤ 100000) : EvD K (tTup tr) σ H (.tuple ds) := fun H1 e _ q =>
  h H1 e _ fun vs H2 e2 ha => ⟨by rw [da_len ha]; exact sz_of hz, fun p hp => q _ _ (e2.trans (Ex.new hp)) (.tup (.inl (.inl upd_same)) (da_ex (Ex.new hp) ds ha))⟩
theorem en_lst {tr : TA} (h : EvS K tr σ H ds) (hz : ds.length ≤ 100000) : EvN K (tLst tr) σ H ds := fun H1 e _ q =>
  h H1 e _ fun vs H2 e2 ha => ⟨by rw [da_len ha]; exact sz_of hz, fun p hp => q p vs _ (fresh_back e2 hp) (e2.trans (Ex.new hp)) upd_same (da_ex (Ex.new hp) ds ha)⟩
/-- a two-place operation -/
def RD (K : PySem.W.Frag) (r : R2) (d1 d2 : PyData) (H : Hp) (d : PyData) : Prop := ∀ H1, Ex H H1 → ∀ x y, Dp K H1 x d1 → Dp K H1 y d2 → ∀ Q : VK, (∀ v H2, Ex H1 H2 → Dp K H2 v d → Q v H2) → r x y H1 Q
def RN (K : PySem.W.Frag) (r : R2) (d1 d2 : PyData) (H : Hp) (ds : List PyData) : Prop := ∀ H1, Ex H H1 → ∀ x y, Dp K H1 x d1 → Dp K H1 y d2 → ∀ Q : VK, (∀ p vs H2, H1 p = none → Ex H1 H2 → H2 p = some (.lst vs) → DpAll K H2 vs ds → Q (.ref p) H2) → r x y H1 Q
theorem ed_op {r : R2} (ha : EvD K ta σ H d1) (hb : EvD K tb σ H d2) (hr : RD K r d1 d2 H d) : EvD K (tOp r ta tb) σ H d := fun H1 e Q q =>
  ha H1 e _ fun x H2 e2 hx => hb H2 (e.trans e2) _ fun y H3 e3 hy => hr H3 ((e.trans e2).trans e3) x y (dp_ex e3 d1 hx) hy Q fun v H4 e4 hv => q v H4 ((e2.trans e3).trans e4) hv
theorem rd_I0 {g : Int → Int → Int} {i j : Int} : RD K (rI0 fun i j => .int (g i j)) (.int i) (.int j) H (.int (g i j)) := fun H1 _ x y hx hy _ q => by
  cases hx; cases hy
  exact ⟨i, j, rfl, rfl, q _ H1 (Ex.refl H1) (.int _)⟩
theorem rd_B0 {g : Int → Int → Bool} {i j : Int} : RD K (rI0 fun i j => .bl (g i j)) (.int i) (.int j) H (.bool (g i j)) := fun H1 _ x y hx hy _ q => by
  cases hx; cases hy
  exact ⟨i, j, rfl, rfl, q _ H1 (Ex.refl H1) (.bl _)⟩
theorem rd_I {C : Int → Int → Prop} {g : Int → Int → Int} {i j : Int} (hc : C i j) : RD K (rI C fun i j => .int (g i j)) (.int i) (.int j) H (.int (g i j)) := fun H1 _ x y hx hy _ q => by
  cases hx; cases hy
  exact ⟨i, j, rfl, rfl, hc, q _ H1 (Ex.refl H1) (.int _)⟩
theorem rd_eqI {i j : Int} : RD K rEq (.int i) (.int j) H (.bool (decide (i = j))) := fun H1 _ x y hx hy _ q => by
  cases hx; cases hy
  refine ⟨rfl, q _ H1 (Ex.refl H1) ?_⟩
  rw [dec_int, Bool.beq_eq_decide_eq]
  exact .bl _
theorem rd_neI {i j : Int} : RD K rNe (.int i) (.int j) H (.bool (!decide (i = j))) := fun H1 _ x y hx hy _ q => by
  cases hx; cases hy
  refine ⟨rfl, q _ H1 (Ex.refl H1) ?_⟩
  rw [dec_int, Bool.beq_eq_decide_eq]
  exact .bl _
theorem rd_eqS {i j : Str} : RD K rEq (.str i) (.str j) H (.bool (decide (i = j))) := fun H1 _ x y hx hy _ q => by
  cases hx; cases hy
  refine ⟨rfl, q _ H1 (Ex.refl H1) ?_⟩
  rw [dec_str, Bool.beq_eq_decide_eq]
  exact .bl _
theorem rd_neS {i j : Str} : RD K rNe (.str i) (.str j) H (.bool (!decide (i = j))) := fun H1 _ x y hx hy _ q => by
  cases hx; cases hy
  refine ⟨rfl, q _ H1 (Ex.refl H1) ?_⟩
  rw [dec_str, Bool.beq_eq_decide_eq]
  exact .bl _
theorem rd_eqD (h1 : SeqAt.shaped d1 = true) (h2 : SeqAt.shaped d2 = true) : RD K (rEqD K) d1 d2 H (.bool (PyData.eqv d1 d2)) := fun H1 _ x y hx hy _ q => ⟨d1, d2, hx, hy, h1, h2, q _ H1 (Ex.refl H1) (.bl _)⟩
theorem rd_neD (h1 : SeqAt.shaped d1 = true) (h2 : SeqAt.shaped d2 = true) : RD K (rNeD K) d1 d2 H (.bool (!PyData.eqv d1 d2)) := fun H1 _ x y hx hy _ q => ⟨d1, d2, hx, hy, h1, h2, q _ H1 (Ex.refl H1) (.bl _)⟩
theorem rd_inD (h1 : SeqAt.shaped d1 = true) (h2 : SeqAt.shaped (.list ds) = true) : RD K (rInD K) d1 (.list ds) H (.bool (ds.any fun z => PyData.eqv z d1)) := fun H1 _ x y hx hy _ q => ⟨d1, ds, hx, hy, h1, h2, q _ H1 (Ex.refl H1) (.bl _)⟩
theorem rd_ninD (h1 : SeqAt.shaped d1 = true) (h2 : SeqAt.shaped (.list ds) = true) : RD K (rNotInD K) d1 (.list ds) H (.bool (!ds.any fun z => PyData.eqv z d1)) := fun H1 _ x y hx hy _ q => ⟨d1, ds, hx, hy, h1, h2, q _ H1 (Ex.refl H1) (.bl _)⟩
theorem atI_da {vs : List V} {j : Nat} (ha : DpAll K H vs ds) (hj : ds[j]? = some d) : ∃ v, atI vs (j : Int) = some v ∧ Dp K H v d := by
  obtain ⟨v, h1, h2⟩ := da_at ha hj
  exact ⟨v, atI_nat h1, h2⟩
theorem rd_ixL {j : Nat} {i : Int} (hi : i = (j : Int)) (hj : ds[j]? = some d) : RD K (rIxL K) (.list ds) (.int i) H d := fun H1 _ x y hx hy _ q => by
  obtain ⟨a, xs, rfl, hs, ha⟩ := dp_lst hx
  cases hy
  subst hi
  obtain ⟨v, h1, h2⟩ := atI_da ha hj
  exact ⟨a, xs, _, v, rfl, rfl, hs, h1, q v H1 (Ex.refl H1) h2⟩
theorem rd_ixT {j : Nat} {i : Int} (hi : i = (j : Int)) (hj : ds[j]? = some d) : RD K (rIxT K) (.tuple ds) (.int i) H d := fun H1 _ x y hx hy _ q => by
  obtain ⟨a, xs, rfl, hs, ha⟩ := dp_tup hx
  cases hy
  subst hi
  obtain ⟨v, h1, h2⟩ := atI_da ha hj
  exact ⟨a, xs, _, v, rfl, rfl, hs, h1, q v H1 (Ex.refl H1) h2⟩
/-- tests -/
theorem et_d {b : Bool} (h : EvD K te σ H (.bool b)) : EvT (tTest te) σ H b := et_test h.b
theorem et_db {b : Bool} (h : EvD K te σ H (.bool b)) : EvT (tB te) σ H b := et_B h.b
theorem ed_andV {a b : Bool} (h1 : EvD K ta σ H (.bool a)) (h2 : a = true → EvD K tb σ H (.bool b)) : EvD K (tAndV ta tb) σ H (.bool (a && b)) := d_b (ev_andV h1.b fun z => (h2 z).b)
theorem ed_orV {a b : Bool} (h1 : EvD K ta σ H (.bool a)) (h2 : a = false → EvD K tb σ H (.bool b)) : EvD K (tOrV ta tb) σ H (.bool (a || b)) := d_b (ev_orV h1.b fun z => (h2 z).b)
theorem ed_notV {a : Bool} (h1 : EvD K ta σ H (.bool a)) : EvD K (tNotV ta) σ H (.bool (!a)) := d_b (ev_notV h1.b)
theorem ed_if {b : Bool} (h : EvT t σ H b) (h1 : b = true → EvD K ta σ H d) (h2 : b = false → EvD K tb σ H d) : EvD K (tIf t ta tb) σ H d := fun H1 e Q q => h H1 e _ fun H2 e2 => by
  cases b with
  | true =>
    show ta σ H2 Q
    exact h1 rfl H2 (e.trans e2) Q fun v H3 e3 => q v H3 (e2.trans e3)
  | false =>
    show tb σ H2 Q
    exact h2 rfl H2 (e.trans e2) Q fun v H3 e3 => q v H3 (e2.trans e3)
theorem ed_chain {r r' : R2} {tc : TE} {b1 b2 : Bool} {d3 : PyData} (ha : EvD K ta σ H d1) (hb : EvD K tb σ H d2) (hc : EvD K tc σ H d3) (h1 : RD K r d1 d2 H (.bool b1)) (h2 : RD K r' d2 d3 H (.bool b2)) :
    EvD K (tChain r r' ta tb tc) σ H (.bool (b1 && b2)) := fun H1 e Q q =>
  ha H1 e _ fun x H2 e2 hx => hb H2 (e.trans e2) _ fun y H3 e3 hy => h1 H3 ((e.trans e2).trans e3) x y (dp_ex e3 d1 hx) hy _ fun z H4 e4 hz => by
    cases hz
    refine ⟨b1, rfl, ?_⟩
    have e14 := (e2.trans e3).trans e4
    cases b1 with
    | true =>
      show tc σ H4 fun w H5 => r' y w H5 Q
      exact hc H4 (e.trans e14) _ fun w H5 e5 hw => h2 H5 ((e.trans e14).trans e5) y w (dp_ex (e4.trans e5) d2 hy) hw Q fun v H6 e6 hv => q v H6 ((e14.trans e5).trans e6) hv
    | false =>
      show Q (.bl false) H4
      exact q _ H4 e14 (.bl _)
/-- isinstance -/
theorem ed_isi {tc : TE} {ty : Value} {n : String} {b : Bool} (ha : EvD K ta σ H d) (hc : Ev tc σ H (.ty n)) (ht : ∀ v H1, Dp K H1 v d → TyX K H1 v ty) (hk : PySem.W.kitOne K ty (.type n) = some b) :
    EvD K (tCB (rIsi K) (tCons ta (tCons tc tNil))) σ H (.bool b) := fun H1 e Q q =>
  ha H1 e _ fun x H2 e2 hx => hc H2 (e.trans e2) _ fun H3 e3 => ⟨x, .ty n, ty, .type n, b, rfl, .ty n, ht x H3 (dp_ex e3 d hx), hk, q _ H3 (e2.trans e3) (.bl b)⟩
theorem ty_int {i : Int} : ∀ v H1, Dp K H1 v (.int i) → TyX K H1 v (.type "int") := fun v H1 h => by cases h; exact .base (.int i)
theorem ty_str {i : Str} : ∀ v H1, Dp K H1 v (.str i) → TyX K H1 v (.type "str") := fun v H1 h => by cases h; exact .base (.str i)
/-- len -/
theorem ed_len (ha : EvD K ta σ H (.list ds)) : EvD K (tCB (rLenS K) (tCons ta tNil)) σ H (.int (ds.length : Int)) := fun H1 e Q q =>
  ha H1 e _ fun x H2 e2 hx => by
    obtain ⟨a, xs, rfl, hs, h⟩ := dp_lst hx
    refine ⟨a, xs, rfl, .inl hs, q _ H2 e2 ?_⟩
    rw [da_len h]
    exact .int _
theorem ed_lenT (ha : EvD K ta σ H (.tuple ds)) : EvD K (tCB (rLenS K) (tCons ta tNil)) σ H (.int (ds.length : Int)) := fun H1 e Q q =>
  ha H1 e _ fun x H2 e2 hx => by
    obtain ⟨a, xs, rfl, hs, h⟩ := dp_tup hx
    refine ⟨a, xs, rfl, .inr hs, q _ H2 e2 ?_⟩
    rw [da_len h]
    exact .int _
/-- slices -/
def cutD (xs : List PyData) (lo hi : Option Int) : List PyData := (xs.drop (HT.sIx xs.length 0 lo)).take (HT.sIx xs.length xs.length hi - HT.sIx xs.length 0 lo)
theorem da_cut {vs : List V} {lo hi : Option Int} (h : DpAll K H vs ds) : DpAll K H (cutV vs lo hi) (cutD ds lo hi) := by
  unfold cutV cutD
  rw [da_len h]
  exact da_take _ (da_drop _ h)
theorem en_sl {tlo thi : TO} {lo hi : Option Int} (h : EvD K te σ H (.list ds)) (h1 : EvO tlo σ H lo) (h2 : EvO thi σ H hi) : EvN K (tSl (rSlL K) te tlo thi) σ H (cutD ds lo hi) := fun H1 e _ q =>
  h H1 e _ fun v H2 e2 hv => h1 H2 (e.trans e2) _ fun H3 e3 => h2 H3 ((e.trans e2).trans e3) _ fun H4 e4 => by
    obtain ⟨a, xs, rfl, hs, ha⟩ := dp_lst (dp_ex (e3.trans e4) _ hv)
    exact ⟨a, xs, rfl, hs, fun p hp => q p _ _ (fresh_back ((e2.trans e3).trans e4) hp) (((e2.trans e3).trans e4).trans (Ex.new hp)) upd_same (da_ex (Ex.new hp) _ (da_cut ha))⟩
theorem eo_d {i : Int} (h : EvD K te σ H (.int i)) : EvO (tPart te) σ H (some i) := eo_some h.i
/-- list(..) -/
theorem en_list (ha : EvD K ta σ H (.list ds)) : EvN K (tCB (rListS K) (tCons ta tNil)) σ H ds := fun H1 e Q q =>
  ha H1 e _ fun x H2 e2 hx => by
    obtain ⟨a, xs, rfl, hs, h⟩ := dp_lst hx
    exact ⟨a, xs, rfl, .inl hs, fun l hl => q l xs _ (fresh_back e2 hl) (e2.trans (Ex.new hl)) upd_same (da_ex (Ex.new hl) _ h)⟩
/-- all, any -/
theorem ed_all {bs : List Bool} (ha : EvD K ta σ H (.list (bs.map PyData.bool))) : EvD K (tCB (rAll K) (tCons ta tNil)) σ H (.bool (bs.all id)) := fun H1 e Q q =>
  ha H1 e _ fun x H2 e2 hx => by
    obtain ⟨a, xs, rfl, hs, h⟩ := dp_lst hx
    rw [da_bls h] at hs
    exact ⟨a, bs, rfl, hs, q _ H2 e2 (.bl _)⟩
/-- a call of a def with such a promise -/
def spD (K : PySem.W.Frag) (R : List PyData → PyData → Prop) : Sp := fun vs H Q _ => ∃ ds d, DpAll K H vs ds ∧ R ds d ∧ ∀ v H2, Ex H H2 → Dp K H2 v d → Q v H2
def spN (K : PySem.W.Frag) (R : List PyData → List PyData → Prop) : Sp := fun vs H Q _ => ∃ ds es, DpAll K H vs ds ∧ R ds es ∧ ∀ p vs2 H2, H p = none → Ex H H2 → H2 p = some (.lst vs2) → DpAll K H2 vs2 es → Q (.ref p) H2
theorem ed_cl {R : List PyData → PyData → Prop} {E : XK} {tr : TA} (h : EvS K tr σ H ds) (hr : R ds d) : EvD K (tCl (spD K R) E tr) σ H d := fun H1 e _ q =>
  h H1 e _ fun vs H2 e2 ha => ⟨ds, d, ha, hr, fun v H3 e3 hv => q v H3 (e2.trans e3) hv⟩
theorem en_cl {R : List PyData → List PyData → Prop} {E : XK} {tr : TA} (h : EvS K tr σ H ds) (hr : R ds es) : EvN K (tCl (spN K R) E tr) σ H es := fun H1 e _ q =>
  h H1 e _ fun vs H2 e2 ha => ⟨ds, es, ha, hr, fun p ws H3 hp e3 h1 h2 => q p ws H3 (fresh_back e2 hp) (e2.trans e3) h1 h2⟩
theorem ed_to (h : EvD K te σ H d1) (e : d1 = d2) : EvD K te σ H d2 := e ▸ h
theorem en_to (h : EvN K te σ H ds) (e : ds = es) : EvN K te σ H es := e ▸ h
theorem et_to {a b : Bool} (h : EvT t σ H a) (e : a = b) : EvT t σ H b := e ▸ h
theorem ed_lenSet {ns : List Int} (h : EvD K ta σ H (.list (DI ns))) (hn : ns.Nodup) (hz : ns.length ≤ 4000) : EvD K (RZ.tLenSetI K ta) σ H (.int (ns.length : Int)) := fun H1 e Q q =>
  h H1 e _ fun v H2 e2 hv => by
    obtain ⟨a, xs, rfl, hs, ha⟩ := dp_lst hv
    rw [da_ints ha] at hs
    exact ⟨a, ns, rfl, hs, hn, hz, q _ H2 e2 (.int _)⟩
/-! ### statements -/
variable {D : Ends} {tu tw tz : L2.TS} {g : TG}
theorem s_retD (h : EvD K te σ H d) (k : ∀ v H1, Ex H H1 → Dp K H1 v d → D.rt v H1) : tRet te D σ H := h H (Ex.refl H) _ k
theorem s_retN (h : EvN K te σ H ds) (k : ∀ p vs H1, H p = none → Ex H H1 → H1 p = some (.lst vs) → DpAll K H1 vs ds → D.rt (.ref p) H1) : tRet te D σ H := h H (Ex.refl H) _ k
theorem q_asgD {i : Nat} (h : EvD K te σ H d) (k : ∀ v H1, Ex H H1 → Dp K H1 v d → tz D (σ.set i (some v)) H1) : tSeq (tAsg te (gName i)) tz D σ H := h H (Ex.refl H) _ k
theorem s_asgD {i : Nat} (h : EvD K te σ H d) (k : ∀ v H1, Ex H H1 → Dp K H1 v d → D.nx (σ.set i (some v)) H1) : tAsg te (gName i) D σ H := h H (Ex.refl H) _ k
theorem q_asgN {i : Nat} (h : EvN K te σ H ds) (k : ∀ p vs H1, H p = none → Ex H H1 → H1 p = some (.lst vs) → DpAll K H1 vs ds → tz D (σ.set i (some (.ref p))) H1) : tSeq (tAsg te (gName i)) tz D σ H := h H (Ex.refl H) _ k
theorem s_asgN {i : Nat} (h : EvN K te σ H ds) (k : ∀ p vs H1, H p = none → Ex H H1 → H1 p = some (.lst vs) → DpAll K H1 vs ds → D.nx (σ.set i (some (.ref p))) H1) : tAsg te (gName i) D σ H := h H (Ex.refl H) _ k
theorem q_dropD (h : EvD K te σ H d) (k : ∀ H1, Ex H H1 → tz D σ H1) : tSeq (tDrop te) tz D σ H := h H (Ex.refl H) _ fun v H1 e _ => k H1 e
end
theorem hu65 {k : Nat} {A : Around} (r : Room k A) : A.units + 65 < cLine := by have := r.un; omega
section
variable {P : Program} {w : World} {K : PySem.W.Frag} {mg : Str → Option Value} {base : Heap}
/-- a def over data that lets nothing out -/
theorem okD {x qual : Str} {params : Arguments} {body : List Stmt} {scope : Scope} {f : Addr} {N ps : List Str} {k : Nat} {R : List PyData → PyData → Prop} (F : ∃ fd, FunD K x qual params body scope [] [] f fd) (S : FnScope N ps scope)
    (hb : ∀ (kV doc pm : Value) (an : Option Addr) (cdv ct : Value) (us : List Value), us.length = ps.length → bindArgs (PySem.W.fnOf x qual params body scope .none kV doc pm an cdv ct) ⟨us, []⟩ = pure (ps.zip us))
    (hl : ∀ ds d, R ds d → ds.length = ps.length)
    (hbody : ∀ (cdv : Value) (A : Around) (outer : List Env) (s : Shared) (H : Hp) (vs : List V) (Q : VK) (E : XK) (ds : List PyData) (d : PyData), Room k (A.deeper (envOfC qual scope s.heap.objs.size f cdv)) → DpAll K H vs ds → R ds d → (∀ v H2, Ex H H2 → Dp K H2 v d → Q v H2) →
      ∃ t, PSs (cxOf CX0 P w K mg base N qual scope f cdv A outer s H E).nox body t ∧ t { nx := fun _ H' => Q .non H', rt := Q } (start N vs) H) : FR P w K mg base (k + 1) f (spD K R) :=
  okN F S hb (fun vs H Q E h => by
    obtain ⟨ds, d, ha, hr, _⟩ := h
    rw [da_len ha]
    exact hl _ _ hr) fun cdv A outer s H vs Q E hr h => by
    obtain ⟨ds, d, ha, hR, k⟩ := h
    exact hbody cdv A outer s H vs Q E ds d hr ha hR k
theorem okL {x qual : Str} {params : Arguments} {body : List Stmt} {scope : Scope} {f : Addr} {N ps : List Str} {k : Nat} {R : List PyData → List PyData → Prop} (F : ∃ fd, FunD K x qual params body scope [] [] f fd) (S : FnScope N ps scope)
    (hb : ∀ (kV doc pm : Value) (an : Option Addr) (cdv ct : Value) (us : List Value), us.length = ps.length → bindArgs (PySem.W.fnOf x qual params body scope .none kV doc pm an cdv ct) ⟨us, []⟩ = pure (ps.zip us))
    (hl : ∀ ds d, R ds d → ds.length = ps.length)
    (hbody : ∀ (cdv : Value) (A : Around) (outer : List Env) (s : Shared) (H : Hp) (vs : List V) (Q : VK) (E : XK) (ds es : List PyData), Room k (A.deeper (envOfC qual scope s.heap.objs.size f cdv)) → DpAll K H vs ds → R ds es → (∀ p vs2 H2, H p = none → Ex H H2 → H2 p = some (.lst vs2) → DpAll K H2 vs2 es → Q (.ref p) H2) →
      ∃ t, PSs (cxOf CX0 P w K mg base N qual scope f cdv A outer s H E).nox body t ∧ t { nx := fun _ H' => Q .non H', rt := Q } (start N vs) H) : FR P w K mg base (k + 1) f (spN K R) :=
  okN F S hb (fun vs H Q E h => by
    obtain ⟨ds, d, ha, hr, _⟩ := h
    rw [da_len ha]
    exact hl _ _ hr) fun cdv A outer s H vs Q E hr h => by
    obtain ⟨ds, d, ha, hR, k⟩ := h
    exact hbody cdv A outer s H vs Q E ds d hr ha hR k
theorem da1 {H : Hp} {vs : List V} {d : PyData} (h : DpAll K H vs [d]) : ∃ v, vs = [v] ∧ Dp K H v d := by
  cases h with
  | cons a t =>
    cases t
    exact ⟨_, rfl, a⟩
theorem da2 {H : Hp} {vs : List V} {d d2 : PyData} (h : DpAll K H vs [d, d2]) : ∃ v v2, vs = [v, v2] ∧ Dp K H v d ∧ Dp K H v2 d2 := by
  cases h with
  | cons a t =>
    obtain ⟨v2, rfl, b⟩ := da1 t
    exact ⟨_, _, rfl, a, b⟩
theorem da3 {H : Hp} {vs : List V} {d d2 d3 : PyData} (h : DpAll K H vs [d, d2, d3]) : ∃ v v2 v3, vs = [v, v2, v3] ∧ Dp K H v d ∧ Dp K H v2 d2 ∧ Dp K H v3 d3 := by
  cases h with
  | cons a t =>
    obtain ⟨v2, v3, rfl, b, c⟩ := da2 t
    exact ⟨_, _, _, rfl, a, b, c⟩
end
end K59

set_option Elab.async false
set_option linter.all false
set_option maxRecDepth 100000
set_option maxHeartbeats 4000000
/-! what is walked, as data; comprehensions -/
namespace K59
open PySem L2 Evl
/-- an iterator gives these, one behind the other, wherever P holds -/
def Gv (K : PySem.W.Frag) (J : It) (P : Hp → Prop) (ds : List PyData) : Prop :=
  ∀ i H, P H → (∀ d, ds[i]? = some d → J.go i H ∧ ∀ x H', J.yld i H x H' → Ex H H' ∧ Dp K H' x d) ∧ (ds.length ≤ i → J.stop i H)
def IsIt (K : PySem.W.Frag) (wi : TI) (σ : K59.St) (H : Hp) (ds : List PyData) : Prop :=
  ∀ H1, Ex H H1 → ∀ R : It → Hp → Prop, (∀ J H2 (P : Hp → Prop), Ex H1 H2 → (∀ H3, Ex H2 H3 → P H3) → Gv K J P ds → R J H2) → wi σ H1 R
section
variable {K : PySem.W.Frag} {σ : K59.St} {H H' : Hp} {te ta tb tl : TE} {t u : TT} {d d1 d2 : PyData} {ds es : List PyData} {v : V}
theorem sql_inj {a : Addr} {xs ys : List V} (h : SqL K H a xs) (h' : Rd H a (.lst ys)) : (∃ zs, Rd H a (.lst zs) ∧ zs = ys) := ⟨ys, h', rfl⟩
theorem gv_list {a : Addr} : Gv K (Itl K a) (fun H => ∃ xs, SqL K H a xs ∧ DpAll K H xs ds) ds := fun i H ⟨xs, hs, ha⟩ => by
  refine ⟨fun d hd => ?_, fun hl => ⟨xs, hs, by rw [da_len ha]; exact hl⟩⟩
  obtain ⟨v, h1, h2⟩ := da_at ha hd
  refine ⟨⟨xs, v, hs, h1⟩, fun x H' y => ?_⟩
  obtain ⟨e, y⟩ := y
  subst e
  have e := y xs hs
  rw [h1] at e
  cases e
  exact ⟨Ex.refl _, h2⟩
theorem gv_tup {a : Addr} : Gv K (Itt K a) (fun H => ∃ xs, SqT K H a xs ∧ DpAll K H xs ds) ds := fun i H ⟨xs, hs, ha⟩ => by
  refine ⟨fun d hd => ?_, fun hl => ⟨xs, hs, by rw [da_len ha]; exact hl⟩⟩
  obtain ⟨v, h1, h2⟩ := da_at ha hd
  refine ⟨⟨xs, v, hs, h1⟩, fun x H' y => ?_⟩
  obtain ⟨e, y⟩ := y
  subst e
  have e := y xs hs
  rw [h1] at e
  cases e
  exact ⟨Ex.refl _, h2⟩
/-- a list by places -/
def enumD (n : Nat) : List PyData → List PyData
  | [] => []
  | d :: ds => .tuple [.int (n : Int), d] :: enumD (n + 1) ds
theorem enumD_len : ∀ (ds : List PyData) (n : Nat), (enumD n ds).length = ds.length
  | [], _ => rfl
  | d :: ds, n => congrArg Nat.succ (enumD_len ds (n + 1))
theorem enumD_get : ∀ (ds : List PyData) (n i : Nat), (enumD n ds)[i]? = (ds[i]?).map fun d => .tuple [.int ((n + i : Nat) : Int), d]
  | [], _, _ => by rfl
  | d :: ds, n, 0 => rfl
  | d :: ds, n, i + 1 => by
    have e := enumD_get ds (n + 1) i
    show (enumD (n + 1) ds)[i]? = (ds[i]?).map fun d => .tuple [.int ((n + (i + 1) : Nat) : Int), d]
    rw [e, show n + 1 + i = n + (i + 1) by omega]
theorem gv_enum {a : Addr} : Gv K (Ite K a) (fun H => ∃ xs, SqL K H a xs ∧ DpAll K H xs ds) (enumD 0 ds) := fun i H ⟨xs, hs, ha⟩ => by
  refine ⟨fun d hd => ?_, fun hl => ⟨xs, hs, by rw [da_len ha, ← enumD_len ds 0]; exact hl⟩⟩
  rw [enumD_get] at hd
  cases e : ds[i]? with
  | none =>
    rw [e] at hd
    cases hd
  | some d0 =>
    rw [e] at hd
    have hd2 := Option.some.inj hd
    subst hd2
    obtain ⟨v, h1, h2⟩ := da_at ha e
    refine ⟨⟨xs, v, hs, h1⟩, fun x H' y => ?_⟩
    obtain ⟨T, x, rfl, hT, rfl, hx⟩ := y
    have e2 := hx xs hs
    rw [h1] at e2
    cases e2
    refine ⟨Ex.new hT, .tup (.inl (.inl upd_same)) (.cons ?_ (.cons (dp_ex (Ex.new hT) _ h2) .nil))⟩
    rw [Nat.zero_add]
    exact .int _
def zipD : List PyData → List PyData → List PyData := List.zipWith fun a b => .tuple [a, b]
theorem zip_fit {ds es : List PyData} {i : Nat} {d : PyData} (h : (zipD ds es)[i]? = some d) : ∃ a b, ds[i]? = some a ∧ es[i]? = some b ∧ d = .tuple [a, b] := by
  unfold zipD at h
  rw [List.getElem?_zipWith] at h
  cases e1 : ds[i]? with
  | none =>
    rw [e1] at h
    cases h
  | some a =>
    cases e2 : es[i]? with
    | none =>
      rw [e1, e2] at h
      cases h
    | some b =>
      rw [e1, e2] at h
      exact ⟨a, b, rfl, rfl, (Option.some.inj h).symm⟩
theorem zip_end {ds es : List PyData} {i : Nat} (h : (zipD ds es).length ≤ i) : ds.length ≤ i ∨ es.length ≤ i := by
  unfold zipD at h
  rw [List.length_zipWith] at h
  omega
theorem gv_zipT {a b : Addr} : Gv K (RZ.ItzT K a b) (fun H => (∃ xs, SqT K H a xs ∧ DpAll K H xs ds) ∧ ∃ ys, SqT K H b ys ∧ DpAll K H ys es) (zipD ds es) := fun i H ⟨⟨xs, hs, ha⟩, ys, hs2, hb⟩ => by
  refine ⟨fun d hd => ?_, fun hl => ⟨xs, ys, hs, hs2, by rw [da_len ha, da_len hb]; exact zip_end hl⟩⟩
  obtain ⟨d1, d2, e1, e2, rfl⟩ := zip_fit hd
  obtain ⟨v, h1, h2⟩ := da_at ha e1
  obtain ⟨w, h3, h4⟩ := da_at hb e2
  refine ⟨⟨xs, ys, v, w, hs, hs2, h1, h3⟩, fun x H' y => ?_⟩
  obtain ⟨T, x, y, rfl, hT, rfl, hx, hy⟩ := y
  have q1 := hx xs hs
  have q2 := hy ys hs2
  rw [h1] at q1
  rw [h3] at q2
  cases q1; cases q2
  exact ⟨Ex.new hT, .tup (.inl (.inl upd_same)) (.cons (dp_ex (Ex.new hT) _ h2) (.cons (dp_ex (Ex.new hT) _ h4) .nil))⟩
theorem gv_rng {lo : Int} {n : Nat} : Gv K (Itr lo n) (fun _ => True) ((List.range n).map fun i => .int (lo + (i : Nat))) := fun i H _ => by
  refine ⟨fun d hd => ?_, fun hl => by
    rw [List.length_map, List.length_range] at hl
    exact hl⟩
  rw [List.getElem?_map] at hd
  by_cases hi : i < n
  · rw [List.getElem?_range hi] at hd
    have e := Option.some.inj hd
    subst e
    refine ⟨hi, fun x H' y => ?_⟩
    obtain ⟨rfl, rfl⟩ := y
    exact ⟨Ex.refl _, .int _⟩
  · rw [List.getElem?_eq_none (by simpa using hi)] at hd
    cases hd
theorem gv_str {x : Str} : Gv K (Its x) (fun _ => True) (x.cps.toList.map fun c => .str ⟨#[c]⟩) := fun i H _ => by
  refine ⟨fun d hd => ?_, fun hl => by
    rw [List.length_map, Array.length_toList] at hl
    exact hl⟩
  rw [List.getElem?_map, Array.getElem?_toList] at hd
  cases e : x.cps[i]? with
  | none =>
    rw [e] at hd
    cases hd
  | some c =>
    rw [e] at hd
    have e2 := Option.some.inj hd
    subst e2
    refine ⟨(Array.getElem?_eq_some_iff.mp e).1, fun y H' z => ?_⟩
    obtain ⟨rfl, c2, h1, rfl⟩ := z
    rw [e] at h1
    cases h1
    exact ⟨Ex.refl _, .str _⟩
theorem ii_list (h : EvD K tl σ H (.list ds)) : IsIt K (iList K tl) σ H ds := fun H1 e R r => h H1 e _ fun v H2 e2 hv => by
  obtain ⟨a, xs, rfl, hs, ha⟩ := dp_lst hv
  exact ⟨a, rfl, ⟨xs, hs⟩, r _ H2 _ e2 (fun H3 e3 => ⟨xs, ex_l e3 hs, da_ex e3 _ ha⟩) gv_list⟩
theorem ii_tup (h : EvD K tl σ H (.tuple ds)) : IsIt K (iTup K tl) σ H ds := fun H1 e R r => h H1 e _ fun v H2 e2 hv => by
  obtain ⟨a, xs, rfl, hs, ha⟩ := dp_tup hv
  exact ⟨a, rfl, ⟨xs, hs⟩, r _ H2 _ e2 (fun H3 e3 => ⟨xs, ex_t e3 hs, da_ex e3 _ ha⟩) gv_tup⟩
theorem ii_enum (h : EvD K tl σ H (.list ds)) : IsIt K (iEnum K (tCons tl tNil)) σ H (enumD 0 ds) := fun H1 e R r => h H1 e _ fun v H2 e2 hv => by
  obtain ⟨a, xs, rfl, hs, ha⟩ := dp_lst hv
  exact ⟨a, xs, rfl, hs, r _ H2 _ e2 (fun H3 e3 => ⟨xs, ex_l e3 hs, da_ex e3 _ ha⟩) gv_enum⟩
theorem ii_zipT (h : EvD K ta σ H (.tuple ds)) (h2 : EvD K tb σ H (.tuple es)) : IsIt K (RZ.iZipA K (tCons ta (tCons tb tNil))) σ H (zipD ds es) := fun H1 e R r => h H1 e _ fun v H2 e2 hv => h2 H2 (e.trans e2) _ fun v2 H3 e3 hv2 => by
  obtain ⟨a, xs, rfl, hs, ha⟩ := dp_tup (dp_ex e3 _ hv)
  obtain ⟨b, ys, rfl, hs2, hb⟩ := dp_tup hv2
  exact ⟨a, b, xs, ys, rfl, .inr ⟨hs, hs2, r _ H3 _ (e2.trans e3) (fun H4 e4 => ⟨⟨xs, ex_t e4 hs, da_ex e4 _ ha⟩, ys, ex_t e4 hs2, da_ex e4 _ hb⟩) gv_zipT⟩⟩
theorem ii_rng1 {n : Int} (h : EvD K ta σ H (.int n)) (h0 : -(2 ^ 62) ≤ n) (h1 : n < 2 ^ 62) : IsIt K (iRng1 (tCons ta tNil)) σ H ((List.range n.toNat).map fun i => .int (i : Nat)) := fun H1 e R r => h H1 e _ fun v H2 e2 hv => by
  cases hv
  refine ⟨n, rfl, h0, h1, r _ H2 (fun _ => True) e2 (fun _ _ => trivial) ?_⟩
  have e0 : (fun i : Nat => PyData.int ((i : Nat) : Int)) = fun i : Nat => PyData.int (0 + (i : Nat)) := funext fun i => by rw [Int.zero_add]
  rw [e0]
  exact gv_rng
theorem ii_str {x : Str} (h : EvD K ta σ H (.str x)) : IsIt K (iStr ta) σ H (x.cps.toList.map fun c => .str ⟨#[c]⟩) := fun H1 e R r => h H1 e _ fun v H2 e2 hv => by
  cases hv
  exact ⟨x, rfl, r _ H2 (fun _ => True) e2 (fun _ _ => trivial) gv_str⟩

/-! ### list comprehensions -/
/-- one turn: from the item to slots at which test and element are known -/
def Turn1 (K : PySem.W.Frag) (g : TG) (t : TT) (te : TE) (vs : List Nat) (σ : K59.St) (H : Hp) (d : PyData) (b : Bool) (y : PyData) : Prop :=
  ∀ v H1, Ex H H1 → Dp K H1 v d → ∀ Q : K59.St → Hp → Prop, (∀ σ2, wipe σ2 vs = wipe σ vs → EvT t σ2 H1 b → (b = true → EvD K te σ2 H1 y) → Q σ2 H1) → g v (wipe σ vs) H1 Q
theorem en_lcA {α : Type} (enc : α → PyData) {xs : List α} {wi : TI} {g : TG} {vs : List Nat} (f : α → Bool) (gg : α → PyData) (hi : IsIt K wi σ H (xs.map enc)) (hz : xs.length ≤ 90000) (hn : ∀ d ∈ xs, noL (gg d) = true) (hs : ∀ d ∈ xs, Turn1 K g t te vs σ H (enc d) (f d) (gg d)) :
    EvN K (tLc wi g t te vs) σ H ((xs.filter f).map gg) := fun H1 e Q q => hi H1 e _ fun J H2 P e2 hP hJ D hD => by
  have sz : ∀ i, (((xs.take i).filter f).map gg).length ≤ 90000 := fun i => by
    rw [List.length_map]
    have h1 := List.length_filter_le f (xs.take i)
    have h2 : (xs.take i).length ≤ xs.length := by rw [List.length_take]; omega
    omega
  refine ⟨fun i m H' => m = xs.length - i ∧ i ≤ xs.length ∧ Ex H2 H' ∧ ∃ acc, H' D = some (.lst acc) ∧ DpAll K H' acc (((xs.take i).filter f).map gg), ⟨xs.length, rfl, Nat.zero_le _, Ex.new hD, [], upd_same, .nil⟩, ?_⟩
  rintro i m H' ⟨rfl, hi, e3, acc, hacc, ha⟩
  obtain ⟨hgo, hstop⟩ := hJ i H' (hP H' e3)
  by_cases hlt : i < xs.length
  · refine .inr ?_
    obtain ⟨d, hd⟩ : ∃ d, xs[i]? = some d := ⟨xs[i], by simp [hlt]⟩
    obtain ⟨g1, g2⟩ := hgo (enc d) (by rw [List.getElem?_map, hd] <;> rfl)
    refine ⟨g1, fun H4 => i + 1 ≤ xs.length ∧ Ex H2 H4 ∧ ∃ acc, H4 D = some (.lst acc) ∧ DpAll K H4 acc (((xs.take (i + 1)).filter f).map gg), fun H4 p => ⟨xs.length - (i + 1), by omega, rfl, p⟩, fun x H4 y => ?_⟩
    obtain ⟨e4, hx⟩ := g2 x H4 y
    have hm : d ∈ xs := List.mem_of_getElem? hd
    have e14 := ((e.trans e2).trans e3).trans e4
    refine hs d hm x H4 e14 hx _ fun σ2 hw ht he => ⟨hw, ht H4 (Ex.refl _) _ fun H5 e5 => ?_⟩
    have etk : xs.take (i + 1) = xs.take i ++ [d] := by
      rw [List.take_succ, hd] <;> rfl
    cases hb : f d with
    | true =>
      show te σ2 H5 _
      refine he hb H5 e5 _ fun v H6 e6 hv => ?_
      have e36 := (e4.trans e5).trans e6
      have hD6 : H6 D = some (.lst acc) := e36 D _ hacc
      refine ⟨acc, hD6, ?_, hlt, ?_, acc ++ [v], upd_same, ?_⟩
      · rw [da_len ha]
        exact sz_lt (by have := sz i; omega)
      · exact Ex.mut (e3.trans e36) hD
      · have e7 : (((xs.take (i + 1)).filter f).map gg) = (((xs.take i).filter f).map gg) ++ [gg d] := by
          rw [etk, List.filter_append, List.map_append, List.filter_cons, if_pos hb] <;> rfl
        rw [e7]
        have nl : noL.noLs (((xs.take i).filter f).map gg ++ [gg d]) = true := noLs_all fun z hz => by
          rcases List.mem_append.mp hz with hz | hz
          · obtain ⟨y, hy, rfl⟩ := List.mem_map.mp hz
            exact hn y (List.mem_of_mem_take (List.mem_filter.mp hy).1)
          · rw [List.mem_singleton.mp hz]
            exact hn d hm
        exact da_ts (ts_lst hD6) _ nl (da_app (da_ex e36 _ ha) (.cons hv .nil))
    | false =>
      show _ ∧ _
      have e7 : (((xs.take (i + 1)).filter f).map gg) = (((xs.take i).filter f).map gg) := by
        rw [etk, List.filter_append, List.map_append, List.filter_cons, if_neg (by rw [hb]; decide)]
        simp
      refine ⟨hlt, (e3.trans e4).trans e5, acc, (e4.trans e5) D _ hacc, ?_⟩
      rw [e7]
      exact da_ex (e4.trans e5) _ ha
  · have hl : xs.length ≤ i := by omega
    refine .inl ⟨hstop (by rw [List.length_map]; exact hl), q D acc H' (fresh_back e2 hD) (e2.trans e3) hacc ?_⟩
    have e8 : xs.take i = xs := List.take_of_length_le hl
    rw [e8] at ha
    exact ha
theorem en_lc {wi : TI} {g : TG} {vs : List Nat} (f : PyData → Bool) (gg : PyData → PyData) (hi : IsIt K wi σ H ds) (hz : ds.length ≤ 90000) (hn : ∀ d ∈ ds, noL (gg d) = true) (hs : ∀ d ∈ ds, Turn1 K g t te vs σ H d (f d) (gg d)) :
    EvN K (tLc wi g t te vs) σ H ((ds.filter f).map gg) := en_lcA id f gg (by rw [List.map_id]; exact hi) hz hn hs
theorem tn1 {j : Nat} {vs : List Nat} {b : Bool} {y : PyData} (hw : ∀ x, wipe ((wipe σ vs).set j (some x)) vs = wipe σ vs) (h : ∀ v H1, Ex H H1 → Dp K H1 v d → EvT t ((wipe σ vs).set j (some v)) H1 b ∧ (b = true → EvD K te ((wipe σ vs).set j (some v)) H1 y)) :
    Turn1 K (gName j) t te vs σ H d b y := fun v H1 e hv Q q => q _ (hw v) (h v H1 e hv).1 (h v H1 e hv).2
theorem tn2 {i j : Nat} {vs : List Nat} {b : Bool} {y : PyData} (hw : ∀ x x2, wipe (((wipe σ vs).set i (some x)).set j (some x2)) vs = wipe σ vs)
    (h : ∀ v v2 H1, Ex H H1 → Dp K H1 v d1 → Dp K H1 v2 d2 → EvT t (((wipe σ vs).set i (some v)).set j (some v2)) H1 b ∧ (b = true → EvD K te (((wipe σ vs).set i (some v)).set j (some v2)) H1 y)) :
    Turn1 K (gTup K 2 (gCons (gName i) (gCons (gName j) gNil))) t te vs σ H (.tuple [d1, d2]) b y := fun v H1 e hv Q q => by
  obtain ⟨a, xs, rfl, hs, ha⟩ := dp_tup hv
  cases ha with
  | cons h1 ha =>
    cases ha with
    | cons h2 ha =>
      cases ha
      obtain ⟨g1, g2⟩ := h _ _ H1 e h1 h2
      exact ⟨a, _, rfl, hs, rfl, _, _, rfl, _, _, rfl, rfl, q _ (hw _ _) g1 g2⟩
theorem tn3 {i j k : Nat} {vs : List Nat} {b : Bool} {y d3 : PyData} (hw : ∀ x x2 x3, wipe ((((wipe σ vs).set i (some x)).set j (some x2)).set k (some x3)) vs = wipe σ vs)
    (h : ∀ v v2 v3 H1, Ex H H1 → Dp K H1 v d1 → Dp K H1 v2 d2 → Dp K H1 v3 d3 → EvT t ((((wipe σ vs).set i (some v)).set j (some v2)).set k (some v3)) H1 b ∧ (b = true → EvD K te ((((wipe σ vs).set i (some v)).set j (some v2)).set k (some v3)) H1 y)) :
    Turn1 K (gTup K 3 (gCons (gName i) (gCons (gName j) (gCons (gName k) gNil)))) t te vs σ H (.tuple [d1, d2, d3]) b y := fun v H1 e hv Q q => by
  obtain ⟨a, xs, rfl, hs, ha⟩ := dp_tup hv
  cases ha with
  | cons h1 ha =>
    cases ha with
    | cons h2 ha =>
      cases ha with
      | cons h3 ha =>
        cases ha
        obtain ⟨g1, g2⟩ := h _ _ _ H1 e h1 h2 h3
        exact ⟨a, _, rfl, hs, rfl, _, _, rfl, _, _, rfl, _, _, rfl, rfl, q _ (hw _ _ _) g1 g2⟩
theorem et_yes : EvT tYes σ H true := fun H1 _ _ q => q H1 (Ex.refl H1)
theorem filt_all : ∀ (ds : List PyData), ds.filter (fun _ => true) = ds := fun ds => List.filter_eq_self.mpr fun _ _ => rfl
/-- all items, none left out -/
theorem en_map {wi : TI} {g : TG} {vs : List Nat} (gg : PyData → PyData) (hi : IsIt K wi σ H ds) (hz : ds.length ≤ 90000) (hn : ∀ d ∈ ds, noL (gg d) = true) (hs : ∀ d ∈ ds, Turn1 K g tYes te vs σ H d true (gg d)) :
    EvN K (tLc wi g tYes te vs) σ H (ds.map gg) := by
  have h := en_lc (fun _ => true) gg hi hz hn hs
  rw [filt_all] at h
  exact h
theorem en_mapA {α : Type} (enc : α → PyData) {xs : List α} {wi : TI} {g : TG} {vs : List Nat} (gg : α → PyData) (hi : IsIt K wi σ H (xs.map enc)) (hz : xs.length ≤ 90000) (hn : ∀ d ∈ xs, noL (gg d) = true) (hs : ∀ d ∈ xs, Turn1 K g tYes te vs σ H (enc d) true (gg d)) :
    EvN K (tLc wi g tYes te vs) σ H (xs.map gg) := by
  have h := en_lcA enc (fun _ => true) gg hi hz hn hs
  rw [List.filter_eq_self.mpr fun _ _ => rfl] at h
  exact h
/-! ### loops -/
variable {D : Ends} {tu tw tz : L2.TS} {g : TG} {H0 : Hp}
/-- what is walked lies in H0, whatever changes besides -/
def IsItV (K : PySem.W.Frag) (wi : TI) (σ : K59.St) (H0 : Hp) (ds : List PyData) : Prop :=
  ∀ H1, Ex H0 H1 → ∀ R : It → Hp → Prop, (∀ J H2 (P : Hp → Prop), Ex H1 H2 → (∀ H3, Ex H0 H3 → P H3) → Gv K J P ds → R J H2) → wi σ H1 R
theorem iv_list (h : Ev tl σ H0 v) (hd : Dp K H0 v (.list ds)) : IsItV K (iList K tl) σ H0 ds := fun H1 e R r => h H1 e _ fun H2 e2 => by
  obtain ⟨a, xs, rfl, hs, ha⟩ := dp_lst hd
  exact ⟨a, rfl, ⟨xs, ex_l (e.trans e2) hs⟩, r _ H2 _ e2 (fun H3 e3 => ⟨xs, ex_l e3 hs, da_ex e3 _ ha⟩) gv_list⟩
theorem iv_tup (h : Ev tl σ H0 v) (hd : Dp K H0 v (.tuple ds)) : IsItV K (iTup K tl) σ H0 ds := fun H1 e R r => h H1 e _ fun H2 e2 => by
  obtain ⟨a, xs, rfl, hs, ha⟩ := dp_tup hd
  exact ⟨a, rfl, ⟨xs, ex_t (e.trans e2) hs⟩, r _ H2 _ e2 (fun H3 e3 => ⟨xs, ex_t e3 hs, da_ex e3 _ ha⟩) gv_tup⟩
theorem iv_enum (h : Ev tl σ H0 v) (hd : Dp K H0 v (.list ds)) : IsItV K (iEnum K (tCons tl tNil)) σ H0 (enumD 0 ds) := fun H1 e R r => h H1 e _ fun H2 e2 => by
  obtain ⟨a, xs, rfl, hs, ha⟩ := dp_lst hd
  exact ⟨a, xs, rfl, ex_l (e.trans e2) hs, r _ H2 _ e2 (fun H3 e3 => ⟨xs, ex_l e3 hs, da_ex e3 _ ha⟩) gv_enum⟩
theorem iv_rng1 {n : Int} (h : Ev ta σ H0 (.int n)) (h0 : -(2 ^ 62) ≤ n) (h1 : n < 2 ^ 62) : IsItV K (iRng1 (tCons ta tNil)) σ H0 ((List.range n.toNat).map fun i => .int (i : Nat)) := fun H1 e R r => h H1 e _ fun H2 e2 => by
  refine ⟨n, rfl, h0, h1, r _ H2 (fun _ => True) e2 (fun _ _ => trivial) ?_⟩
  have e0 : (fun i : Nat => PyData.int ((i : Nat) : Int)) = fun i : Nat => PyData.int (0 + (i : Nat)) := funext fun i => by rw [Int.zero_add]
  rw [e0]
  exact gv_rng
theorem s_forG {wi : TI} {J : It} {P : Hp → Prop} {R : It → Hp → Prop} (hJ : Gv K J P ds) (Pv : Nat → K59.St → Hp → Prop) (h0 : Pv 0 σ H) (hp : ∀ i σ' H', i ≤ ds.length → Pv i σ' H' → P H')
    (hs : ∀ i d σ' H' x H3, ds[i]? = some d → Pv i σ' H' → Ex H' H3 → Dp K H3 x d → g x σ' H3 fun σ2 H2 => tu { D with nx := Pv (i + 1), ct := Pv (i + 1), bk := D.nx } σ2 H2) (hd : ∀ σ' H', Pv ds.length σ' H' → D.nx σ' H') :
    ∃ W : Nat → Nat → K59.St → Hp → Prop, (∃ m, W 0 m σ H) ∧ ∀ i m σ H, W i m σ H → (J.stop i H ∧ D.nx σ H) ∨ (J.go i H ∧ ∃ N : K59.St → Hp → Prop, (∀ σ' H', N σ' H' → ∃ m', m' < m ∧ W (i + 1) m' σ' H') ∧ ∀ x H', J.yld i H x H' → g x σ H' fun σ2 H2 => tu { D with nx := N, ct := N, bk := D.nx } σ2 H2) := by
  refine ⟨fun i m σ' H' => m = ds.length - i ∧ i ≤ ds.length ∧ Pv i σ' H', ⟨_, rfl, Nat.zero_le _, h0⟩, ?_⟩
  rintro i m σ' H' ⟨rfl, hi, p⟩
  obtain ⟨hgo, hstop⟩ := hJ i H' (hp i σ' H' hi p)
  by_cases hlt : i < ds.length
  · refine .inr ?_
    obtain ⟨d, hd⟩ : ∃ d, ds[i]? = some d := ⟨ds[i], by simp [hlt]⟩
    obtain ⟨g1, g2⟩ := hgo d hd
    refine ⟨g1, Pv (i + 1), fun σ2 H2 q => ⟨ds.length - (i + 1), by omega, rfl, hlt, q⟩, fun x H3 y => ?_⟩
    obtain ⟨e3, hx⟩ := g2 x H3 y
    exact hs i d σ' H' x H3 hd p e3 hx
  · have hl : i = ds.length := by omega
    exact .inl ⟨hstop (by omega), hd σ' H' (hl ▸ p)⟩
theorem s_forV {wi : TI} (hi : IsItV K wi σ H0 ds) (e : Ex H0 H) (Pv : Nat → K59.St → Hp → Prop) (h0 : ∀ H1, Ex H H1 → Pv 0 σ H1) (hp : ∀ i σ' H', i ≤ ds.length → Pv i σ' H' → Ex H0 H')
    (hs : ∀ i d σ' H' x H3, ds[i]? = some d → Pv i σ' H' → Ex H' H3 → Dp K H3 x d → g x σ' H3 fun σ2 H2 => tu { D with nx := Pv (i + 1), ct := Pv (i + 1), bk := D.nx } σ2 H2) (hd : ∀ σ' H', Pv ds.length σ' H' → D.nx σ' H') : tFor wi g tu D σ H :=
  hi H e _ fun _ H2 _ e2 hP hJ => s_forG (wi := wi) (R := fun _ _ => True) hJ Pv (h0 H2 e2) (fun i σ' H' l p => hP H' (hp i σ' H' l p)) hs hd
theorem q_forV {wi : TI} (hi : IsItV K wi σ H0 ds) (e : Ex H0 H) (Pv : Nat → K59.St → Hp → Prop) (h0 : ∀ H1, Ex H H1 → Pv 0 σ H1) (hp : ∀ i σ' H', i ≤ ds.length → Pv i σ' H' → Ex H0 H')
    (hs : ∀ i d σ' H' x H3, ds[i]? = some d → Pv i σ' H' → Ex H' H3 → Dp K H3 x d → g x σ' H3 fun σ2 H2 => tu { D with nx := Pv (i + 1), ct := Pv (i + 1), bk := tz D } σ2 H2) (hd : ∀ σ' H', Pv ds.length σ' H' → tz D σ' H') : tSeq (tFor wi g tu) tz D σ H :=
  s_forV (D := { D with nx := tz D }) hi e Pv h0 hp hs hd
/-- over a new flat list -/
theorem s_forN {tl : TE} (h : EvN K tl σ H ds) (hn : noL.noLs ds = true) (Pv : Addr → List V → Hp → Nat → K59.St → Hp → Prop) (h0 : ∀ p vs H1, H p = none → Ex H H1 → H1 p = some (.lst vs) → DpAll K H1 vs ds → Pv p vs H1 0 σ H1)
    (hp : ∀ p vs H1 i σ' H', i ≤ ds.length → Pv p vs H1 i σ' H' → H' p = some (.lst vs) ∧ TSt H1 H')
    (hs : ∀ p vs H1 i d σ' H' x H3, H p = none → Ex H H1 → ds[i]? = some d → Pv p vs H1 i σ' H' → Ex H' H3 → Dp K H3 x d → g x σ' H3 fun σ2 H2 => tu { D with nx := Pv p vs H1 (i + 1), ct := Pv p vs H1 (i + 1), bk := D.nx } σ2 H2) (hd : ∀ p vs H1 σ' H', H p = none → Pv p vs H1 ds.length σ' H' → D.nx σ' H') : tFor (iList K tl) g tu D σ H :=
  h H (Ex.refl H) _ fun p vs H1 hf e h1 ha => ⟨p, rfl, ⟨vs, sq_of h1⟩, s_forG (wi := iList K tl) (R := fun _ _ => True) gv_list (Pv p vs H1) (h0 p vs H1 hf e h1 ha) (fun i σ' H' l q => by
    obtain ⟨z1, z2⟩ := hp p vs H1 i σ' H' l q
    exact ⟨vs, sq_of z1, da_ts z2 _ hn ha⟩) (fun i d σ' H' x H3 => hs p vs H1 i d σ' H' x H3 hf e) (fun σ' H' => hd p vs H1 σ' H' hf)⟩
theorem q_forN {tl : TE} (h : EvN K tl σ H ds) (hn : noL.noLs ds = true) (Pv : Addr → List V → Hp → Nat → K59.St → Hp → Prop) (h0 : ∀ p vs H1, H p = none → Ex H H1 → H1 p = some (.lst vs) → DpAll K H1 vs ds → Pv p vs H1 0 σ H1)
    (hp : ∀ p vs H1 i σ' H', i ≤ ds.length → Pv p vs H1 i σ' H' → H' p = some (.lst vs) ∧ TSt H1 H')
    (hs : ∀ p vs H1 i d σ' H' x H3, H p = none → Ex H H1 → ds[i]? = some d → Pv p vs H1 i σ' H' → Ex H' H3 → Dp K H3 x d → g x σ' H3 fun σ2 H2 => tu { D with nx := Pv p vs H1 (i + 1), ct := Pv p vs H1 (i + 1), bk := tz D } σ2 H2) (hd : ∀ p vs H1 σ' H', H p = none → Pv p vs H1 ds.length σ' H' → tz D σ' H') : tSeq (tFor (iList K tl) g tu) tz D σ H :=
  s_forN (D := { D with nx := tz D }) h hn Pv h0 hp hs hd
theorem q_asgG (h : EvD K te σ H d) (k : ∀ v H1, Ex H H1 → Dp K H1 v d → g v σ H1 (tz D)) : tSeq (tAsg te g) tz D σ H := h H (Ex.refl H) _ k
theorem s_asgG (h : EvD K te σ H d) (k : ∀ v H1, Ex H H1 → Dp K H1 v d → g v σ H1 D.nx) : tAsg te g D σ H := h H (Ex.refl H) _ k
theorem TSt.refl : TSt H H := fun _ _ h _ => h
theorem TSt.trans {H H1 H2 : Hp} (a : TSt H H1) (b : TSt H1 H2) : TSt H H2 := fun x o h t => b x o (a x o h t) t
theorem Ex.ts {H H1 : Hp} (e : Ex H H1) : TSt H H1 := fun a o h _ => e a o h
/-- one more known cell -/
theorem ex_upd {H H' : Hp} {p : Addr} {o : HO} (e : Ex H H') (h : H' p = some o) : Ex (upd H p o) H' := fun a u z => by
  by_cases q : a = p
  · rw [q, upd_same] at z
    rw [q, h, z]
  · rw [upd_ne q] at z
    exact e a u z
/-- xs.extend(new list) -/
theorem s_extN {l : Addr} {xs : List V} (hl : H l = some (.lst xs)) (hx : DpAll K H xs es) (nl : noL.noLs es = true) (nd : noL.noLs ds = true) (ha : Ev ta σ H (.ref l)) (h : EvN K te σ H ds) (hz : es.length + ds.length ≤ 90000)
    (k : ∀ vs H1, (∀ H0, Ex H0 H → H0 l = none → Ex H0 H1) → TSt H H1 → H1 l = some (.lst vs) → DpAll K H1 vs (es ++ ds) → D.nx σ H1) : tDrop (tBM K "list" rExtend ta (tCons te tNil)) D σ H := ha H (Ex.refl H) _ fun H1 e1 =>
  ⟨Or.inl ⟨rfl, xs, sq_of (e1 l _ hl)⟩, h H1 e1 _ fun p vs H2 hp e2 h2 hv => by
    have hl2 : H2 l = some (.lst xs) := e2 l _ (e1 l _ hl)
    refine ⟨l, p, xs, vs, rfl, rfl, hl2, h2, ?_, ?_⟩
    · rw [da_len hx, da_len hv]
      exact sz_of (by omega)
    · have e12 := e1.trans e2
      have ts : TSt H (upd H2 l (.lst (xs ++ vs))) := (Ex.ts e12).trans (ts_lst hl2)
      exact k _ _ (fun H0 e0 h0 => Ex.mut (e0.trans e12) h0) ts upd_same (da_app (da_ts ts _ nl hx) (da_ts (ts_lst hl2) _ nd hv))⟩
/-- xs.append(data) -/
theorem s_appD {l : Addr} {xs : List V} (hl : H l = some (.lst xs)) (hx : DpAll K H xs es) (nl : noL.noLs es = true) (nd : noL d = true) (ha : Ev ta σ H (.ref l)) (h : EvD K te σ H d) (hz : es.length < 90000)
    (k : ∀ vs H1, (∀ H0, Ex H0 H → H0 l = none → Ex H0 H1) → TSt H H1 → H1 l = some (.lst vs) → DpAll K H1 vs (es ++ [d]) → D.nx σ H1) : tDrop (tBM K "list" rAppend ta (tCons te tNil)) D σ H := ha H (Ex.refl H) _ fun H1 e1 =>
  ⟨Or.inl ⟨rfl, xs, sq_of (e1 l _ hl)⟩, h H1 e1 _ fun v H2 e2 hv => by
    have hl2 : H2 l = some (.lst xs) := e2 l _ (e1 l _ hl)
    refine ⟨l, xs, v, rfl, rfl, hl2, ?_, ?_⟩
    · rw [da_len hx]
      exact sz_lt (by omega)
    · have e12 := e1.trans e2
      have ts : TSt H (upd H2 l (.lst (xs ++ [v]))) := (Ex.ts e12).trans (ts_lst hl2)
      exact k _ _ (fun H0 e0 h0 => Ex.mut (e0.trans e12) h0) ts upd_same (da_app (da_ts ts _ nl hx) (.cons (dp_ts (ts_lst hl2) _ nd hv) .nil))⟩
end
end K59

set_option Elab.async false
set_option linter.all false
set_option maxRecDepth 100000
set_option maxHeartbeats 4000000
/-! own rules -/
namespace K59
open PySem PySem.Spec PyProof.Rows L2 Evl
section
variable {X : Cx}
/-! ### sorted, min of data -/
def sortD (ds : List PyData) : List PyData := ds.mergeSort (PySem.W.dataLe false fun d : PyData => d)
theorem sortD_perm (ds : List PyData) : (sortD ds).Perm ds := List.mergeSort_perm _ _
theorem each_of {h : Hp} {s : Shared} {σ : L2.St} {pins : List (Addr × Obj)} (I : Inv X pins σ h s) : ∀ {vs : List V} {us : List Value} {ds : List PyData}, Vals vs us → DpAll X.K h vs ds →
    PySem.W.EachIs (fun u d => ∃ x, RelV x u ∧ Dp X.K h x d) us ds ∧ PySem.W.EachIs (fun v b => ∃ as, Reads s.heap v b as) us ds
  | _, _, _, .nil, .nil => ⟨.nil, .nil⟩
  | _, _, _, .cons r t, .cons a b => ⟨.cons ⟨_, r, a⟩ (each_of I t b).1, .cons (Dp.reads I _ _ _ a r) (each_of I t b).2⟩
theorem of_each {h : Hp} {K : PySem.W.Frag} : ∀ {us : List Value} {ds : List PyData}, PySem.W.EachIs (fun u d => ∃ x, RelV x u ∧ Dp K h x d) us ds → ∃ vs, Vals vs us ∧ DpAll K h vs ds
  | _, _, .nil => ⟨[], .nil, .nil⟩
  | _, _, .cons ⟨x, r, a⟩ t => by
    obtain ⟨vs, h1, h2⟩ := of_each t
    exact ⟨x :: vs, .cons r h1, .cons a h2⟩
def rSortedD (K : PySem.W.Frag) : List V → Hp → VK → Prop := fun vs H Q => ∃ (a : Addr) (ds : List PyData), vs = [V.ref a] ∧ Dp K H (V.ref a) (.list ds) ∧ PySem.W.AllAlike ds ∧ PySem.W.Sortable ds ∧ (∀ d ∈ ds, d.depth ≤ 8) ∧
  ∀ (p : Addr) (ws : List V), H p = none → DpAll K H ws (sortD ds) → Q (.ref p) (upd H p (.lst ws))
theorem cr_sortedD (hu : X.A.units + 65 < cLine) : CallR X (.builtin "sorted") (rSortedD X.K) := by
  intro pins s σ H vs us Q I r h
  obtain ⟨a, ds, rfl, hd, hal, hso, hdp, q⟩ := h
  obtain ⟨b, xs, eb, hs, ha⟩ := dp_lst hd
  cases eb
  obtain ⟨its, rv, hl, hz⟩ := I.list hs
  rw [Vals.ref1 r]
  obtain ⟨e1, e2⟩ := each_of I rv ha
  have hn : ds.length = xs.length := (da_len ha).symm
  refine PySem.W.sorted_data (enc := fun d : PyData => d) hl.isList e1 e2 (by rw [List.map_id']; exact hal) (by rw [List.map_id']; exact hso) (by rw [hn]; exact hz) (fun d hd => by have := hdp d hd; omega) fun out ho he => ?_
  obtain ⟨ep, he'⟩ := PyProof.Rows.sortedAll_at s.heap its out.toArray
  obtain ⟨ws, hw, hw2⟩ := of_each he
  have hlen : ws.length ≤ sizeLine := by rw [hw.length, ho, hn]; exact hz
  have hf : H (s.heap.objs.size + 1) = none := I.hok.fresh (Nat.le_succ _)
  refine ⟨.ref _, upd H (s.heap.objs.size + 1) (.lst ws), I.laid (t' := s.toks) (fun _ _ => PyProof.Rows.sortedAll_old) (Nat.le_succ _) ⟨hlen, out, ep, hw, ?_⟩, rfl, q _ ws hf hw2⟩
  exact he'
def rMinD (K : PySem.W.Frag) : List V → Hp → VK → Prop := fun vs H Q => ∃ (a : Addr) (d : PyData) (ds : List PyData), vs = [V.ref a] ∧ Dp K H (V.ref a) (.list (d :: ds)) ∧ PySem.W.AlikeAll (d :: ds) ∧ PyData.depthAll (d :: ds) ≤ 8 ∧
  ∀ v, Dp K H v (PySem.W.minD d ds) → Q v H
theorem cr_minD (hc : X.calm = true) (hu : X.A.units + 65 < cLine) : CallR X (.builtin "min") (rMinD X.K) := by
  intro pins s σ H vs us Q I r h
  obtain ⟨a, d, ds, rfl, hd, hal, hdp, q⟩ := h
  obtain ⟨b, xs, eb, hs, ha⟩ := dp_lst hd
  cases eb
  obtain ⟨its, rv, hl, hz⟩ := I.list hs
  rw [Vals.ref1 r]
  obtain ⟨as, hr⟩ := Dp.readsAll I (d :: ds) _ _ ha rv
  refine PySem.W.min_list_data (I.ok.hd hc) hl.isList (by simpa using hr) hal (by omega) fun i v h' tk bs hv hr2 hk => ?_
  have hv' : its[i]? = some v := by simpa using hv
  have hi : i < its.length := (List.getElem?_eq_some_iff.mp hv').1
  obtain ⟨x, hx⟩ : ∃ x, xs[i]? = some x := ⟨xs[i]'(by rw [rv.length]; exact hi), List.getElem?_eq_getElem _⟩
  obtain ⟨u, hu1, rx⟩ := rv.get hx
  rw [hv'] at hu1
  cases hu1
  obtain ⟨d0, hd0, hx0⟩ := da_get ha hx
  obtain ⟨as0, r0⟩ := Dp.reads I _ _ _ hx0 rx
  have e : d0 = PySem.W.minD d ds := (reads_det (fun b o z _ => hk b o z) r0 hr2).1.symm
  subst e
  exact ⟨x, H, I.kept (t' := tk) hk, rx, q x hx0⟩
end
/-! ### walks of a dict with tuple keys -/
section
variable {X : Cx} {pins : List (Addr × Obj)} {σ : L2.St} {H : Hp} {s : Shared} {d : Addr} {o : Obj}
/-- the locked dict, its entries with their values -/
theorem frzTv {kvs : List (List Key × V)} (I : Inv X pins σ H s) (h : H d = some (.frz o (.dT kvs))) :
    (d == sysModules) = false ∧ s.heap.get? d = some o ∧ o.ExactDict ∧ ∃ (es : Array DictEntry) (ep : Nat), o.data = .dict es ep ∧ es.size = kvs.length ∧
      ∀ (i : Nat) (k : List Key) (v : V), kvs[i]? = some (k, v) → ∃ (en : DictEntry) (q : Addr), es[i]? = some en ∧ en.key = .ref q ∧ H q = some (.tup (k.map kV)) ∧ RelV v en.val := by
  obtain ⟨hd, z, hs, xs, pr, o', es, ep, ho, hx, hdt, he, _⟩ := I.hok d _ h
  rw [hd] at ho
  cases ho
  refine ⟨hs, hd, hx, es, ep, hdt, ?_, fun i k v e => ?_⟩
  · have l1 : es.size = xs.length := size_of_entries he
    have l2 : kvs.length = xs.length := Paired.length pr
    omega
  · obtain ⟨b, hb, e1, e2, e3⟩ := paired_get pr e
    have q := entry_at he i
    rw [hb] at q
    exact ⟨_, b.2.1, q, rfl, e2, e3⟩
def ItdT (d : Addr) (o : Obj) (kvs : List (List Key × V)) : It :=
  ⟨fun i H => H d = some (.frz o (.dT kvs)) ∧ i < kvs.length, fun i H x H' => H' = H ∧ ∃ k, kvs[i]? = some (k, x), fun i H => H d = some (.frz o (.dT kvs)) ∧ kvs.length ≤ i⟩
def ItiT (d : Addr) (o : Obj) (kvs : List (List Key × V)) : It :=
  ⟨fun i H => H d = some (.frz o (.dT kvs)) ∧ i < kvs.length, fun i H x H' => ∃ T k v q, kvs[i]? = some (k, v) ∧ x = .ref T ∧ H T = none ∧ H q = some (.tup (k.map kV)) ∧ H' = upd H T (.tup [.ref q, v]), fun i H => H d = some (.frz o (.dT kvs)) ∧ kvs.length ≤ i⟩
end
section
variable {P : Program} {w : World} {K : PySem.W.Frag} {tg : Expr} {d : Addr} {o : Obj} {es : Array DictEntry} {ep : Nat}
theorem turn_valsT {kvs : List (List Key × V)} (it : Addr) (hod : o.data = .dict es ep) : Turn P w K tg (ItdT d o kvs) [it] it (fun i h => h.IsValIter it d i kvs.length ep) where
  mem := by simp
  obj := fun i h st b hb => by
    have e : b = it := by simpa using hb
    subst e
    obtain ⟨oi, e, c, dd⟩ := st
    exact ⟨oi, e, fun v z => by rw [dd] at z; cases z⟩
  keep := fun i h h' st k => st.at fun oi e => k it (by simp) oi e
  item := by
    intro X hP hw hK hc i pins s σ H E I hf st hg
    subst hP hw hK
    obtain ⟨hd, hi⟩ := hg
    obtain ⟨f0, f1, f2, f3, f4, f5⟩ := hf it (by simp)
    obtain ⟨hs, hgd, hx, es', ep', hdt, hsz, ent⟩ := frzTv I hd
    obtain ⟨rfl, rfl⟩ := dict_ep hod hdt
    obtain ⟨⟨k, v⟩, hkv⟩ : ∃ p, kvs[i]? = some p := ⟨kvs[i], List.getElem?_eq_getElem hi⟩
    obtain ⟨en, q, hen, hkey, hq, hv⟩ := ent i k v hkv
    rw [← hsz] at st
    have hlt : i < es'.size := by rw [hsz]; exact hi
    have een : es'[i] = en := Option.some.inj ((Array.getElem?_eq_getElem hlt).symm.trans hen)
    refine wpAny_pyNext_values_item_raw st ⟨o, hgd, hx, hdt⟩ hlt fun h' st' sb => ?_
    have I1 : Inv X pins σ H { s with heap := h' } := I.turned (t' := s.toks) (fun b ob hb e => (sb.2 b hb).trans e) f0 f1 f3 f4 f5
    obtain ⟨oi, e, c, dd⟩ := id st'
    refine ⟨es'[i].val, rfl, go_of (s := { s with heap := h' }) e c dd (by decide) ⟨v, H, I1, by rw [een]; exact hv, ⟨rfl, k, hkv⟩, ?_, fun b hb => (hf b hb).1⟩⟩
    show h'.IsValIter it d (i + 1) kvs.length _
    rw [← hsz]
    exact st'
  done := by
    intro X hP hw hK hc i pins s σ H E I hf st hg
    subst hP hw hK
    obtain ⟨hd, hi⟩ := hg
    obtain ⟨f0, f1, f2, f3, f4, f5⟩ := hf it (by simp)
    obtain ⟨hs, hgd, hx, es', ep', hdt, hsz, ent⟩ := frzTv I hd
    obtain ⟨rfl, rfl⟩ := dict_ep hod hdt
    rw [← hsz] at st
    exact wpAny_pyNext_values_end_raw (I.ok.hd hc) st ⟨o, hgd, hx, hdt⟩ (by omega) fun h' eb => ⟨rfl, I.turned (t' := s.toks) (fun b ob hb e => eb b ob hb e) f0 f1 f3 f4 f5⟩
  self := fun A i s Q E st h => wpAny_pyIter_valiter st h
theorem turn_itemsT {kvs : List (List Key × V)} {elts : List Expr} {kk : Nat} {tpos : Pos} (it : Addr) (hod : o.data = .dict es ep) :
    Turn P w K (.Tuple elts kk tpos) (ItiT d o kvs) [it] it (fun i h => ∃ ok ov, IsItemIter h it d i kvs.length ep ok ov) where
  mem := by simp
  obj := fun i h st b hb => by
    have e : b = it := by simpa using hb
    subst e
    obtain ⟨ok, ov, e⟩ := st
    exact ⟨_, e, fun v z => nomatch z⟩
  keep := fun i h h' st k => let ⟨ok, ov, e⟩ := st; ⟨ok, ov, k it (by simp) _ e⟩
  item := by
    intro X hP hw hK hc i pins s σ H E I hf st hg
    subst hP hw hK
    obtain ⟨hd, hi⟩ := hg
    obtain ⟨hs, hgd, hx, es', ep', hdt, hsz, ent⟩ := frzTv I hd
    obtain ⟨rfl, rfl⟩ := dict_ep hod hdt
    obtain ⟨⟨k, v⟩, hkv⟩ : ∃ p, kvs[i]? = some p := ⟨kvs[i], List.getElem?_eq_getElem hi⟩
    obtain ⟨en, q, hen, hkey, hq, hv⟩ := ent i k v hkv
    obtain ⟨ok, ov, he⟩ := st
    rw [← hsz] at he
    have hlt0 : i < es'.size := by rw [hsz]; exact hi
    have een : es'[i] = en := Option.some.inj ((Array.getElem?_eq_getElem hlt0).symm.trans hen)
    have hlt : it < s.heap.objs.size := Heap.lt_size he
    refine wpAny_pyNext_items_item_raw he ⟨o, hgd, hx, hdt⟩ hlt0 fun h' ho hT hz hk => ?_
    refine ⟨_, rfl, wpAny_letOwnedTupleGo_items (s := { s with heap := h' }) ho fun h'' he' sb => ?_⟩
    have hT2 : h''.get? s.heap.objs.size = some { cls := .type "tuple", data := .seq #[es'[i].key, es'[i].val] } := (sb.2 _ (Nat.ne_of_gt hlt)).trans hT
    rw [een, hkey] at hT2
    have new : ObjOk X.prog X.w (upd H s.heap.objs.size (.tup [.ref q, v])) h'' s.heap.objs.size (.tup [.ref q, v]) :=
      ⟨by show 2 ≤ sizeLine; decide, [.ref q, en.val], .cons rfl (.cons hv .nil), ⟨_, hT2, rfl, _, rfl⟩⟩
    have I1 : Inv X pins σ (upd H s.heap.objs.size (.tup [.ref q, v])) { s with heap := h'' } :=
      I.turnedNew (t' := s.toks) (ch := [it]) (fun b ob hb e => (sb.2 b (by simpa using hb)).trans (hk b ob (by simpa using hb) e)) hf (Nat.le_refl _) new
    refine ⟨.ref s.heap.objs.size, _, I1, rfl, ⟨_, k, v, q, hkv, rfl, I.hok.fresh (Nat.le_refl _), hq, rfl⟩, ⟨es'[i].key, es'[i].val, ?_⟩, fun b hb => ?_⟩
    · rw [← hsz]
      exact he'
    · have e : b = it := by simpa using hb
      rw [e, upd_ne (Nat.ne_of_lt hlt)]
      exact (hf it (by simp)).1
  done := by
    intro X hP hw hK hc i pins s σ H E I hf st hg
    subst hP hw hK
    obtain ⟨hd, hi⟩ := hg
    obtain ⟨f0, f1, f2, f3, f4, f5⟩ := hf it (by simp)
    obtain ⟨hs, hgd, hx, es', ep', hdt, hsz, ent⟩ := frzTv I hd
    obtain ⟨rfl, rfl⟩ := dict_ep hod hdt
    obtain ⟨ok, ov, he⟩ := st
    rw [← hsz] at he
    exact wpAny_pyNext_items_end_raw (I.ok.hd hc) he ⟨o, hgd, hx, hdt⟩ (by omega) fun h' eb => ⟨rfl, I.turned (t' := s.toks) (fun b ob hb e => eb b ob hb e) f0 f1 f3 f4 f5⟩
  self := fun A i s Q E st h => let ⟨_, _, e⟩ := st; PySem.W.kcp_self e h
end
section
variable {X : Cx} {tg e : Expr} {td : TE} {apos cpos : Pos}
def iValsT (td : TE) : TI := fun σ H R => td σ H fun x H1 => ∃ d o kvs, x = .ref d ∧ H1 d = some (.frz o (.dT kvs)) ∧ R (ItdT d o kvs) H1
def iItemsT (td : TE) : TI := fun σ H R => td σ H fun x H1 => ∃ d o kvs, x = .ref d ∧ H1 d = some (.frz o (.dT kvs)) ∧ R (ItiT d o kvs) H1
theorem pi_valuesT (he : PE X e td) (hbase : attributeBase e "values" X.env (eval e X.env) = eval e X.env := by rfl) (hline : (apos.endLine == cpos.line) = true := by rfl) : PI X tg (.Call (.Attribute e "values" apos) [] [] cpos) (iValsT td) := by
  refine ⟨fun pins s σ H R I h => ?_⟩
  refine wpAny_Call_method (T := "dict") (id := "dict.values") hbase rfl hline F.plainAttrs_dict F.slot_dict_values F.type_dict_values (thn (he.run pins s σ H _ I h) fun u s1 ⟨x, H1, I1, rx, d, o, kvs, ex, hd, q⟩ => ?_)
  subst ex
  obtain rfl : u = Value.ref d := rx
  obtain ⟨hs, hgd, hx, es, ep, hdt, hsz, ent⟩ := frzTv I1 hd
  have raw : s1.heap.DictRaw d es ep := ⟨o, hgd, hx, hdt⟩
  refine ⟨raw.typeIs, fun a z => by cases z; exact ⟨o, hgd, hx.2.1⟩, ?_⟩
  have I2 : Inv X pins σ H1 { s1 with heap := s1.heap.push { cls := .type "dict_values", data := .fields #[.ref d] } } := I1.kept (t' := s1.toks) fun b ob q => Heap.get?_push_of_some _ q
  have fin : wpAny (model X.prog X.w) X.A (pyIter (.ref s1.heap.objs.size)) (PIE X pins σ tg R) X.xe { s1 with heap := s1.heap.push { cls := .type "dict_values", data := .fields #[.ref d] } } := by
    refine wpAny_pyIter_values_raw (d := d) (es := es) (ep := ep) ⟨_, Heap.get?_push_size _ rfl, rfl, rfl⟩ (raw.at fun ob z => Heap.get?_push_of_some _ z) (pi_one (tk := s1.toks) I2 _ (turn_valsT _ hdt) ⟨_, Heap.get?_push_size _ rfl, rfl, ?_⟩ q)
    rw [hsz] <;> rfl
  show wpAny _ _ (callWith cpos (.builtin "dict.values") [.ref d] [] []) _ X.xe s1
  exact method_meetsIn F.slot_dict_values F.entry_dict_values rfl (PySem.evalArgs_none ⟨rfl, raw.typeIs, F.args_dict_values_1 _, _, meets_dict_values_raw d hs, ⟨es, ep, raw⟩, fin⟩)
theorem pi_itemsT {elts : List Expr} {kk : Nat} {tpos : Pos} (he : PE X e td) (hbase : attributeBase e "items" X.env (eval e X.env) = eval e X.env := by rfl) (hline : (apos.endLine == cpos.line) = true := by rfl) :
    PI X (.Tuple elts kk tpos) (.Call (.Attribute e "items" apos) [] [] cpos) (iItemsT td) := by
  refine ⟨fun pins s σ H R I h => ?_⟩
  refine wpAny_Call_method (T := "dict") (id := "dict.items") hbase rfl hline F.plainAttrs_dict F.slot_dict_items F.type_dict_items (thn (he.run pins s σ H _ I h) fun u s1 ⟨x, H1, I1, rx, d, o, kvs, ex, hd, q⟩ => ?_)
  subst ex
  obtain rfl : u = Value.ref d := rx
  obtain ⟨hs, hgd, hx, es, ep, hdt, hsz, ent⟩ := frzTv I1 hd
  have raw : s1.heap.DictRaw d es ep := ⟨o, hgd, hx, hdt⟩
  refine ⟨raw.typeIs, fun a z => by cases z; exact ⟨o, hgd, hx.2.1⟩, ?_⟩
  have I2 : Inv X pins σ H1 { s1 with heap := s1.heap.push { cls := .type "dict_items", data := .fields #[.ref d] } } := I1.kept (t' := s1.toks) fun b ob q => Heap.get?_push_of_some _ q
  have fin : wpAny (model X.prog X.w) X.A (pyIter (.ref s1.heap.objs.size)) (PIE X pins σ (.Tuple elts kk tpos) R) X.xe { s1 with heap := s1.heap.push { cls := .type "dict_items", data := .fields #[.ref d] } } := by
    refine wpAny_pyIter_items_raw (d := d) (es := es) (ep := ep) ⟨_, Heap.get?_push_size _ rfl, rfl, rfl⟩ (raw.at fun ob z => Heap.get?_push_of_some _ z) (pi_one (tk := s1.toks) I2 _ (turn_itemsT _ hdt) ⟨.none, .none, ?_⟩ q)
    rw [← hsz]
    exact Heap.get?_push_size _ rfl
  show wpAny _ _ (callWith cpos (.builtin "dict.items") [.ref d] [] []) _ X.xe s1
  exact method_meetsIn F.slot_dict_items F.entry_dict_items rfl (PySem.evalArgs_none ⟨rfl, raw.typeIs, F.args_dict_items_1 _, _, meets_dict_items_raw d hs, ⟨es, ep, raw⟩, fin⟩)
end
/-! ### first, *others = a list -/
section
theorem star_items {prog : Program} {w : World} {A : Around} {E : Value → Shared → Prop} {s : Shared} {l : Addr} {items : Array Value} {Q : List Value → Shared → Prop} (hh : A.handled = none) (hl : s.heap.IsList l items) (h1 : 1 ≤ items.size) (hz : items.size ≤ 16384)
    (hQ : ∀ (h' : Heap) (tk : Nat), (∀ b o, s.heap.get? b = some o → h'.get? b = some o) → Q (items.toList.take 1 ++ [.ref h'.objs.size]) { s with heap := h'.push { cls := .type "list", data := .seq (items.toList.drop 1).toArray 0 }, toks := tk }) :
    wpAny (model prog w) A (unpackItems (.ref l) 2 (some 1)) Q E s := by
  have hll : l < s.heap.objs.size := by
    obtain ⟨o, ho, _⟩ := hl
    exact Heap.lt_size ho
  have hlt : l ≠ s.heap.objs.size := Nat.ne_of_lt hll
  unfold unpackItems notIterableAtAll
  refine wpAny_bind (wpAny_bind (wpAny_specialOf hl.typeIs PySem.F.slot_list_iter.lookup (wpAny_pure ?_)))
  simp only [Bool.false_eq_true, if_false]
  refine wpAny_bind (wpAny_holding (wpAny_pyIter_list hl ?_))
  refine wpAny_bind (wpAny_holding (PySem.W.kun_draw hlt 1 0 _ _ ⟨_, Heap.get?_push_size _ rfl, rfl, rfl⟩ (hl.push _) (by omega) fun hA itA sbA => ?_))
  have lA : hA.IsList l items := (hl.push _).extBut sbA.extBut hlt
  rw [Nat.zero_add] at itA
  obtain ⟨oi, hoi, _⟩ := id itA
  obtain ⟨ol, hol, _⟩ := id lA
  rw [List.drop_zero]
  have hf : (items.toList.take 1).length = 1 := by rw [List.length_take, Array.length_toList]; omega
  rw [if_neg (show ¬ ((items.toList.take 1).length < 1) by omega)]
  refine wpAny_bind (wpAny_holding (PySem.W.kun_collect (s := { s with heap := hA }) (T := "list_iterator") (.inr (.inr (.inl rfl))) (Walks.list (A := A.in1) hh s.heap.objs.size l hlt items) (fun j u st => st.1.typeIs) (k := 1) (by omega) ⟨itA, lA⟩ (Heap.lt_size hoi) (Heap.lt_size hol) (fun hB tk hk => ?_) (by rw [sizeLine_eq]; omega)))
  have e0 : 2 - 1 - 1 = 0 := rfl
  show wpAny _ _ (if (items.toList.drop 1).length < 2 - 1 - 1 then _ else _) _ _ _
  rw [if_neg (by omega)]
  show wpAny _ _ (newList ((items.toList.drop 1).take ((items.toList.drop 1).length - 0)) >>= fun d => pure (items.toList.take 1 ++ [d] ++ (items.toList.drop 1).drop ((items.toList.drop 1).length - 0))) _ _ _
  rw [Nat.sub_zero, List.take_length, List.drop_length]
  refine wpAny_bind (wpAny_newObj_type (wpAny_pure ?_) (by simp only [sizeOk, List.size_toArray, List.length_drop, Array.length_toList, decide_eq_true_eq, sizeLine_eq]; omega))
  rw [List.append_nil]
  exact hQ hB tk fun b o e => hk b o (Nat.ne_of_lt (Heap.lt_size e)) (sbA.extBut b o (Nat.ne_of_lt (Heap.lt_size e)) (Heap.get?_push_of_some _ e))
variable {X : Cx} {x y : Str} {px py pt pos : Pos} {kt : Nat} {i j : Nat} {e : Expr} {te : TE}
def gStar (K : PySem.W.Frag) (t : TGs) : TG := fun v σ H Q => ∃ a z zs, v = .ref a ∧ SqL K H a (z :: zs) ∧ zs.length ≤ 16000 ∧ ∀ p, H p = none → t [z, .ref p] σ (upd H p (.lst zs)) Q
theorem pg_star {t1 t2 : Expr} {t : TGs} (hc : X.calm = true) (h : PGs X [t1, t2] t) (h2 : (assignEach [t1, .Starred t2 pt] X.env).map (·.2) = (assignEach [t1, t2] X.env).map (·.2) := by rfl)
    (hn : (assignEach [t1, .Starred t2 pt] X.env).length = 2 := by rfl) (hst : (assignEach [t1, .Starred t2 pt] X.env).findIdx? (·.1) = some 1 := by rfl) : PG X (.Tuple [t1, .Starred t2 pt] kt pos) (gStar X.K t) := by
  refine ⟨fun pins s σ H v u Q I r hw => ?_⟩
  obtain ⟨a, z, zs, e1, hq, hz, hw⟩ := hw
  subst e1
  cases r
  obtain ⟨its, rv, pl, hz2⟩ := I.list hq
  have hl' : s.heap.IsList a its.toArray := by
    obtain ⟨o, m, e, c, d, q⟩ := pl
    exact ⟨o, e, c, m, q⟩
  cases rv with
  | cons r0 rs =>
    rename_i u0 us
    have hlen : us.length = zs.length := rs.length.symm
    rw [PyProof.Rows.assign_Tuple]
    refine wpAny_bind (wpAny_standAt ?_)
    unfold unpack
    rw [hn, hst, h2]
    refine wpAny_bind (wpAny_holding (star_items (I.ok.hd hc) hl' (by simp) (by simp; omega) fun h' tk hx => ?_))
    have I1 : Inv X pins σ H { s with heap := h', toks := tk } := I.kept (t' := tk) hx
    have hf : H h'.objs.size = none := I1.hok.fresh (Nat.le_refl _)
    have I2 : Inv X pins σ (upd H h'.objs.size (.lst zs)) { s with heap := h'.push { cls := .type "list", data := .seq us.toArray 0 }, toks := tk } :=
      I1.laid (t' := tk) (fun b o e => Heap.get?_push_of_some _ e) (Nat.le_refl _) ⟨by have := sizeLine_eq; omega, us, 0, rs, Heap.get?_push_size _ rfl⟩
    exact h.run pins _ σ _ [z, .ref h'.objs.size] [u0, .ref h'.objs.size] Q I2 (.cons r0 (.cons rfl .nil)) (hw _ hf)
end
section
variable {X : Cx} {K : PySem.W.Frag}
/-! ### within a block, with its K told -/
theorem orK (K : PySem.W.Frag) {op : Value → Value → Sem Value} (r : PySem.W.Frag → R2) (h : OpR X op (r X.K)) (e : X.K = K) : OpR X op (r K) := e ▸ h
theorem crK (K : PySem.W.Frag) {f : Value} (r : PySem.W.Frag → List V → Hp → VK → Prop) (h : CallR X f (r X.K)) (e : X.K = K) : CallR X f (r K) := e ▸ h
theorem ixK (K : PySem.W.Frag) (r : PySem.W.Frag → R2) (h : IxR X (r X.K)) (e : X.K = K) : IxR X (r K) := e ▸ h
theorem slK (K : PySem.W.Frag) (r : PySem.W.Frag → V → Option Int → Option Int → Hp → VK → Prop) (h : L2.SlR X (r X.K)) (e : X.K = K) : L2.SlR X (r K) := e ▸ h
theorem pe_bmK (K : PySem.W.Frag) (hK : X.K = K) {o e : Expr} {es : List Expr} {to : TE} {t : TA} {name : Str} {apos cpos : Pos} {T id : String} {r : V → List V → Hp → VK → Prop} (pa : PlainAttrs T) (slot : Slot T name id) (hty : typeOf (.builtin id) = pure (.type "method_descriptor")) (hm : MtR X id r) (ho : PE X o to) (ha : PA X (e :: es) t)
    (hbase : attributeBase o name X.env (eval o X.env) = eval o X.env := by rfl)
    (hplain : ((backTo cpos (starEach (e :: es) X.env)).all (!·.1) && (backToKw cpos (keywordEach [] X.env)).all (·.1.isSome) && decide (((e :: es).length + ([] : List Keyword).length + if ([] : List Keyword).isEmpty = true then 0 else 1) < 30)) = true := by rfl) (hline : (apos.endLine == cpos.line) = true := by rfl)
    (he : starEach (e :: es) X.env = (false, eval e X.env) :: starEach es X.env := by rfl) (hpl : (backTo cpos (starEach es X.env)).any (·.1) = false := by rfl) : PE X (.Call (.Attribute o name apos) (e :: es) [] cpos) (tBM K T r to t) := hK ▸ pe_bm pa slot hty hm ho ha hbase hplain hline he hpl
def rJoin (K : PySem.W.Frag) : V → List V → Hp → VK → Prop := fun x xs H Q => ∃ a p, ∃ ys : List Str, x = .str a ∧ xs = [.ref p] ∧ (SqL K H p (ys.map V.str) ∨ SqT K H p (ys.map V.str)) ∧ (ys.map (·.length)).sum + ys.length * a.length ≤ 16777216 ∧ Q (.str (Txt.join a ys)) H
theorem pe_joinK (K : PySem.W.Frag) (hK : X.K = K) {o e : Expr} {to te : TE} {apos pos : Pos} (ho : PE X o to) (he : PE X e te) (hs : starEach [e] X.env = [(false, eval e X.env)] := by rfl) (hbase : attributeBase o "join" X.env (eval o X.env) = eval o X.env := by rfl) (hline : (apos.endLine == pos.line) = true := by rfl) :
    PE X (.Call (.Attribute o "join" apos) [e] [] pos) (tM1 (rJoin K) to te) := hK ▸ pe_join ho he hs hbase hline
end
end K59

set_option Elab.async false
set_option linter.all false
set_option maxRecDepth 100000
set_option maxHeartbeats 4000000
/-! own rules: powers, dict comprehensions whose keys are tuples -/
namespace K59
open PySem PySem.Spec PyProof.Rows L2 Evl
section
variable {X : Cx} {pins : List (Addr × Obj)} {σ : L2.St} {H : Hp} {s : Shared} {E : Value → Shared → Prop} {d b : Addr}
theorem d_dictSetT {kvs : List (List Key × V)} {k : List Key} {v : V} {r : Value} {Q : Unit → Shared → Prop} (hu : X.A.units + 1 < cLine) (I : Inv X pins σ H s) (hd0 : H d = some (.dT kvs)) (hb : H b = some (.tup (k.map kV))) (hz0 : kvs.length < sizeLine)
    (rv : RelV v r) (h : ∀ s', Inv X pins σ (upd H d (.dT (putK kvs k v))) s' → Q () s') : wpAny (model X.prog X.w) X.A (dictSet d (.ref b) r) Q E s := by
  obtain ⟨z, hs0, xs, rel, dd⟩ := dt_of I.hok hd0
  have hxs : xs.length ≤ sizeLine := by rw [← Paired.length rel]; exact z
  have hlen : (putK kvs k v).length ≤ sizeLine := by have := length_putK kvs k v; omega
  refine wpAny_dictSet_heap (hsz := hxs) (show (tupleKind (mixKind X.prog X.w)).room X.A from Nat.lt_of_succ_lt hu) (key_of I.hok hb) dd fun h' dd' hs => h _ ?_
  obtain ⟨q, es, ep, hq, a2, a3, a4, _, a5⟩ := dd'
  refine d_write I (by rw [hd0]; exact True.intro) hs ⟨q, hq⟩ ⟨hlen, hs0, _, (rel.put k hb rv).keeps fun c ys ec => ?_, q, es, ep, hq, a2, a3, a4, a5⟩
  rw [upd_ne (ne_of ec hd0 (fun z => nomatch z))]
  exact ec
/-- {k: v for target in iter if ..}, the keys tuples -/
def tDcT (wi : TI) (g : TG) (tt : TT) (tk tv : TE) (vs : List Nat) : TE := fun σ H Q => wi σ H fun J H1 => ∀ d, H1 d = none → ∃ W : Nat → Nat → Hp → Prop, (∃ m, W 0 m (upd H1 d (.dT []))) ∧ ∀ i m H, W i m H →
  (J.stop i H ∧ Q (.ref d) H) ∨ (J.go i H ∧ ∃ Nx : Hp → Prop, (∀ H', Nx H' → ∃ m', m' < m ∧ W (i + 1) m' H') ∧ ∀ x H', J.yld i H x H' → g x (wipe σ vs) H' fun σ2 H2 => wipe σ2 vs = wipe σ vs ∧ tt σ2 H2 fun b H3 =>
    if b = true then tk σ2 H3 fun y H4 => tv σ2 H4 fun z H5 => ∃ kvs k q, y = .ref q ∧ H5 q = some (.tup (k.map kV)) ∧ H5 d = some (.dT kvs) ∧ kvs.length < sizeLine ∧ Nx (upd H5 d (.dT (putK kvs k z))) else Nx H3)
theorem pe_dcT {kx vx tg iter : Expr} {ifs : List Expr} {scope : Scope} {own : List (Str × Nat)} {pos : Pos} {wi : TI} {g : TG} {tt : TT} {tk tv : TE} (hu : X.A.units + 1 < cLine) (hc : X.calm = true) (hN : X.N.Nodup) (hi : PI X tg iter wi) (okb : BlkOk X.N X.env.scope scope own)
    (pg : ∀ (s : Shared) (H : Hp) (C : Addr) (cl : List (Str × Addr)) (fp : List Addr), PG (X.blk s H scope (compEnvC scope cl C X.env) fp) tg g) (pt : ∀ (s : Shared) (H : Hp) (C : Addr) (cl : List (Str × Addr)) (fp : List Addr), PTs (X.blk s H scope (compEnvC scope cl C X.env) fp) ifs tt)
    (pk : ∀ (s : Shared) (H : Hp) (C : Addr) (cl : List (Str × Addr)) (fp : List Addr), PE (X.blk s H scope (compEnvC scope cl C X.env) fp) kx tk) (pv : ∀ (s : Shared) (H : Hp) (C : Addr) (cl : List (Str × Addr)) (fp : List Addr), PE (X.blk s H scope (compEnvC scope cl C X.env) fp) vx tv)
    (hst : ∀ x, foldedSetIterable iter X.env x = pure x := by intro _; rfl) : PE X (.DictComp kx vx [⟨tg, iter, ifs, 0⟩] scope pos) (tDcT wi g tt tk tv (own.map (·.2))) := by
  refine ⟨fun pins s σ H Q I h => ?_⟩
  rw [arm_eval_DictComp]
  have free : ∀ y ∈ scope.names, y.2 = .free → ∃ c, X.env.cells.lookup y.1 = some c := fun y hy e => (okb.free y hy e).elim (fun z => I.ok.has _ (.inl z)) (fun z => I.ok.has _ (.inr z))
  refine wpAny_comprehension_free rfl hst (closure_ok free) okb.kind (fun y hy e => by rw [okb.uniq y hy, e]) (thn (hi.run pins s σ H _ I h) fun xv sx hx => thn hx fun itv s1 hy => ?_)
  obtain ⟨it, fp, tn, J, M, exv, I2, T, st, fps, q⟩ := hy
  subst exv
  refine wpAny_newObj_type (newEnv_comp ?_)
  -- the new dict's place
  obtain ⟨d, hd⟩ : ∃ d, s1.heap.objs.size = d := ⟨_, rfl⟩
  have fresh : M d = none := I2.hok.fresh (Nat.le_of_eq hd)
  obtain ⟨W, ⟨m0, w0⟩, turn⟩ := q d fresh
  rw [hd]
  obtain ⟨t, ht⟩ : ∃ t : Shared, ({ s1 with heap := s1.heap.push { cls := .type "dict", data := .dict #[] } } : Shared) = t := ⟨_, rfl⟩
  have th : t.heap = s1.heap.push { cls := .type "dict", data := .dict #[] } := by rw [← ht]
  have It : Inv X pins σ (upd M d (.dT [])) t := by
    rw [← ht]
    refine I2.laid (t' := s1.toks) (fun b o e => Heap.get?_push_of_some _ e) (Nat.le_of_eq hd) (by rw [← hd]; exact dt_empty s1.heap I2.big)
  obtain ⟨N, hN0⟩ : ∃ N, upd M d (.dT []) = N := ⟨_, rfl⟩
  rw [hN0] at It w0
  have fpt : ∀ b ∈ fp, FpOk X pins N b ∧ b < t.heap.objs.size := fun b hb => by
    obtain ⟨o, e, _⟩ := T.obj _ _ st b hb
    have lt := Heap.lt_size e
    refine ⟨⟨?_, (fps b hb).2⟩, by rw [th, Heap.size_push]; exact Nat.lt_succ_of_lt lt⟩
    rw [← hN0, upd_ne (by rw [← hd]; exact Nat.ne_of_lt lt)]
    exact (fps b hb).1
  have stt : tn 0 t.heap := T.keep _ _ _ st fun b _ o e => by rw [th]; exact Heap.get?_push_of_some _ e
  have Ib := block_start It okb hN fpt
  obtain ⟨C, hC⟩ : ∃ C, t.heap.objs.size = C := ⟨_, rfl⟩
  obtain ⟨ce, hce⟩ : ∃ ce, compEnvC scope (cellsFrom (t.heap.objs.size + 1) scope.names (cloFrom X.env.cells scope.names [])) t.heap.objs.size X.env = ce := ⟨_, rfl⟩
  have bg : PG (X.blk t N scope ce fp) tg g := by rw [← hce]; exact pg _ _ _ _ _
  have bt : PTs (X.blk t N scope ce fp) ifs tt := by rw [← hce]; exact pt _ _ _ _ _
  have bk : PE (X.blk t N scope ce fp) kx tk := by rw [← hce]; exact pk _ _ _ _ _
  have bv : PE (X.blk t N scope ce fp) vx tv := by rw [← hce]; exact pv _ _ _ _ _
  have hloc : ce.locals = C := by rw [← hce, ← hC]; rfl
  obtain ⟨u, hu0⟩ : ∃ u : Shared, ({ t with heap := pushCells (t.heap.push { cls := .type "dict", data := .dict #[] }) scope.names } : Shared) = u := ⟨_, rfl⟩
  rw [hce, hu0] at Ib
  have stu : tn 0 u.heap := T.keep _ _ _ stt fun b _ o e => by rw [← hu0]; exact pushCells_keeps _ _ _ _ (Heap.get?_push_of_some _ e)
  have frz : ∀ b ∈ fp, N b = none := fun b hb => (fpt b hb).1.1
  have still : ∀ {σ' : L2.St} {H' : Hp} {s' : Shared}, Inv (X.blk t N scope ce fp) [] σ' H' s' → (∀ b ∈ fp, H' b = none) → ∀ b ∈ fp, FpOk (X.blk t N scope ce fp) [] H' b := fun {σ' H' s'} I' z b hb =>
    ⟨z b hb, (I'.ok.exf b hb).1, I'.ok.exfs b hb, .inl hb, fun x c e => (I'.ok.exf b hb).2 x c e, fun p hp => absurd (show p ∈ ([] : List (Addr × Obj)) ++ [] from hp) (by simp)⟩
  have post : ∀ s' m H', Inv X pins σ H' s' → Q (.ref d) H' → s'.heap.Ns C m → FpOk X pins H' C → compPost (model X.prog X.w) X.A X.xe none (EP X pins σ Q) (.ref d) C (.ok .next) s' := fun s' m H' I' q' hn ⟨f0, f1, _, f3, f4, f5⟩ =>
    ⟨m, hn, fun h'' sb => ⟨.ref d, H', I'.turned (t' := s'.toks) (fun b o hb e => (sb.2 b hb).trans e) f0 f1 f3 f4 f5, rfl, q'⟩⟩
  have loop : codeAny (model X.prog X.w) X.A (.compLoop (.DictComp kx vx [⟨tg, iter, ifs, 0⟩] scope pos) 0 (.ref it) (.ref d) ce) (compPost (model X.prog X.w) X.A X.xe none (EP X pins σ Q) (.ref d) C) u := by
    refine compLoop_anyD (fun n s' => ∃ i H', Inv (X.blk t N scope ce fp) [] (wipe σ (own.map (·.2))) H' s' ∧ tn i s'.heap ∧ (∀ b ∈ fp, H' b = none) ∧ W i n H') ?_ m0 ⟨0, N, Ib, stu, frz, w0⟩
    rintro n a0 ⟨i, L, Ia, sta, na, wa⟩
    rcases turn i n L wa with ⟨stop, qq⟩ | ⟨go, Nx, hNx, step⟩
    · refine thnF (T.done (X.blk t N scope ce fp) rfl rfl rfl hc i [] a0 _ L (fun _ _ => False) Ia (still Ia na) sta stop) fun r a1 ⟨er, Ib1⟩ => ?_
      subst er
      have Iz : Inv X pins σ L a1 := It.call' (ch := fp) Ib1.os Ib1.base Ib1.hok Ib1.bare fun b hb => ⟨(fpt b hb).1.2.2.2.1, (fpt b hb).1.2.1, (fpt b hb).1.2.2.2.2.1, (fpt b hb).1.2.2.2.2.2⟩
      have nC : L C = none := by
        have z : L ce.locals = none := Ib1.free
        rw [hloc] at z
        exact z
      obtain ⟨m, hn, _⟩ := Ib1.loc
      have hn : a1.heap.Ns ce.locals m := hn
      rw [hloc] at hn
      exact post a1 m L Iz qq hn (It.fpOk (Nat.le_of_eq hC) nC)
    · refine thnF (T.item (X.blk t N scope ce fp) rfl rfl rfl hc i [] a0 _ L (fun _ _ => False) Ia (still Ia na) sta go) fun r a1 ⟨y, er, hy⟩ => ?_
      subst er
      refine thnF hy fun _ a2 ⟨x, L2', I2b, r2, y2, st2, n2⟩ => ?_
      refine thnF (bg.run _ a2 _ L2' x y _ (I2b.pinned (still I2b n2) (T.obj _ _ st2)) r2 (step x L2' y2)) fun _ a3 ⟨σ3, L3, I3, hw3, q3⟩ => ?_
      refine thnF (bt.run _ a3 σ3 L3 _ I3 q3) fun c a4 ⟨L4, I4, q4⟩ => ?_
      have fin : ∀ {s' : Shared} {H' : Hp}, Inv (X.blk t N scope ce fp) ([] ++ pinsAt fp a2.heap) σ3 H' s' → Nx H' → ∃ m, m < n ∧ ∃ i H', Inv (X.blk t N scope ce fp) [] (wipe σ (own.map (·.2))) H' s' ∧ tn i s'.heap ∧ (∀ b ∈ fp, H' b = none) ∧ W i m H' := fun {s' H'} I' nx => by
        obtain ⟨m', hm, w'⟩ := hNx H' nx
        have pinned : ∀ b ∈ fp, ∀ o, a2.heap.get? b = some o → s'.heap.get? b = some o ∧ H' b = none := fun b hb o e => by
          obtain ⟨z1, z2, _⟩ := I'.pin (b, o) (List.mem_append_right _ (List.mem_append_right _ (mem_pinsAt hb e)))
          exact ⟨z1, z2⟩
        refine ⟨m', hm, i + 1, H', (I'.unpinned (pins := [])).weak (by rw [← hw3, wipe_length]) (fun j v e => ?_), T.keep _ _ _ st2 fun b hb o e => (pinned b hb o e).1, fun b hb => ?_, w'⟩
        · rw [← hw3] at e
          exact (wipe_some e).1
        · obtain ⟨o, e, _⟩ := T.obj _ _ st2 b hb
          exact (pinned b hb o e).2
      cases c with
      | false =>
        simp only [Bool.false_eq_true, if_false] at q4 ⊢
        exact fin I4 q4
      | true =>
        simp only [if_true] at q4 ⊢
        refine thnF (bk.run _ a4 σ3 L4 _ I4 q4) fun z1 a5 ⟨yk, L5, I5, r5, q5⟩ => ?_
        refine thnF (bv.run _ a5 σ3 L5 _ I5 q5) fun z2 a6 ⟨yv, L6, I6, r6, kvs, k, qa, ek, hqa, hd6, hz6, nx⟩ => ?_
        subst ek
        cases (show z1 = Value.ref qa from r5)
        exact d_dictSetT (X := X.blk t N scope ce fp) hu I6 hd6 hqa hz6 r6 fun a7 I7 => fin I7 nx
  rw [ht]
  show codeAny _ _ (.compStart (.DictComp kx vx [⟨tg, iter, ifs, 0⟩] scope pos) 0 (.ref it) (.ref d) (compEnvC scope (cellsFrom (t.heap.objs.size + 1) scope.names (cloFrom X.env.cells scope.names [])) t.heap.objs.size X.env)) (compPost (model X.prog X.w) X.A X.xe none (EP X pins σ Q) (.ref d) t.heap.objs.size) { t with heap := pushCells (t.heap.push { cls := .type "dict", data := .dict #[] }) scope.names }
  rw [hu0, hce, hC]
  exact codeAny_compStart_dict loop (T.self X.A 0 _ _ _ stu loop)
end
end K59

set_option Elab.async false
set_option linter.all false
set_option maxRecDepth 100000
set_option maxHeartbeats 4000000
/-! rows -/
namespace K59
open PySem PySem.Spec PyProof.Rows L2 Evl He
section
variable {P : Program} {w : World} {K : PySem.W.Frag} {mg : Str → Option Value} {base : Heap}
theorem kit_ii : PySem.W.kitOne K (.type "int") (.type "int") = some true := rfl
theorem kit_ib : PySem.W.kitOne K (.type "int") (.type "bool") = some false := by kernel_rfl
theorem kit_ss : PySem.W.kitOne K (.type "str") (.type "str") = some true := rfl
theorem kit_ll : PySem.W.kitOne K (.type "list") (.type "list") = some true := rfl
theorem kit_tt : PySem.W.kitOne K (.type "tuple") (.type "tuple") = some true := rfl
/-- a card -/
def cardB (i : Int) : Bool := decide (0 ≤ i) && decide (i ≤ 999999999)
def R_is_card (ds : List PyData) (d : PyData) : Prop := ∃ i, ds = [.int i] ∧ d = .bool (cardB i)
theorem ok_is_card (T : Txt w K mg) : FR P w K mg base 1 (ga K "is_card") (spD K R_is_card) := by
  refine okD T.f_is_card sc_is_card (fun _ _ _ _ _ _ us hl => match us, hl with | [_], _ => rfl) (fun ds d h => by obtain ⟨i, rfl, _⟩ := h; rfl) fun cdv A outer s H vs Q E ds d hr hv h k => ?_
  obtain ⟨i, rfl, rfl⟩ := h
  obtain ⟨v, rfl, h1⟩ := da1 hv
  obtain ⟨tMC, hg_MOST_CARD⟩ := T.v_MOST_CARD
  refine ⟨_, (pss_one (ps_ret (pe_and (pe_callB call_isi (by rfl) T.b_isinstance bt_isinstance (pa_cons (pv 0) (pa_cons (pe_bltn (v := .ty "int") (by rfl) T.b_int bt_int rfl) pa_nil))) (pe_and (pe_not (pe_callB call_isi (by rfl) T.b_isinstance bt_isinstance (pa_cons (pv 0) (pa_cons (pe_bltn (v := .ty "bool") (by rfl) T.b_bool bt_bool rfl) pa_nil)))) (pe_one (pe_chain op_le op_le pe_int (pv 0) (pe_glob (v := .int 999999999) rfl hg_MOST_CARD ⟨_, rfl⟩))))))), ?_⟩
  exact s_retD (ed_andV (ed_isi (ed_var rfl h1) ev_c ty_int kit_ii) fun _ => ed_andV (ed_notV (ed_isi (ed_var rfl h1) ev_c ty_int kit_ib)) fun _ => ed_chain ed_i (ed_var rfl h1) ed_i rd_B0 rd_B0) k
/-- a row -/
structure RowOk (ns : List Int) : Prop where
  lo : 1 ≤ ns.length
  hi : ns.length ≤ 24
  cd : ∀ n ∈ ns, cardB n = true
  nd : ns.Nodup
def R_is_row (ds : List PyData) (d : PyData) : Prop := ∃ ns, ds = [.list (DI ns)] ∧ RowOk ns ∧ d = .bool true
theorem ok_is_row (T : Txt w K mg) : FR P w K mg base 2 (ga K "is_row") (spD K R_is_row) := by
  have G_is_card : FR P w K mg base 1 (ga K "is_card") (spD K R_is_card) := ok_is_card T
  refine okD T.f_is_row sc_is_row (fun _ _ _ _ _ _ us hl => match us, hl with | [_], _ => rfl) (fun ds d h => by obtain ⟨i, rfl, _⟩ := h; rfl) fun cdv A outer s H vs Q E ds d hr hv h k => ?_
  obtain ⟨ns, rfl, R, rfl⟩ := h
  obtain ⟨v, rfl, h1⟩ := da1 hv
  obtain ⟨tMC, hg_MOST_CARDS⟩ := T.v_MOST_CARDS
  refine ⟨_, (pss_cons (ps_if (PW.pt (pw_or (pt_not (pt_val (pe_callB call_isi (by rfl) T.b_isinstance bt_isinstance (pa_cons (pv 0) (pa_cons (pe_bltn (v := .ty "list") (by rfl) T.b_list bt_list rfl) pa_nil))))) (pw_or1 (pt_not (pt_chain op_le op_le pe_int (pe_callB call_len_seq (by rfl) T.b_len bt_len (pa_cons (pv 0) pa_nil)) (pe_glob (v := .int 24) rfl hg_MOST_CARDS ⟨_, rfl⟩)))))) (pss_one (ps_ret pe_bl)) pss_nil)
      (pss_one (ps_ret (pe_and (pe_callB (cr_all rfl) (by rfl) T.b_all bt_all (pa_cons (pe_lc (own := [("one", 1)]) (g := (gName 1)) (tt := tYes) rfl sc_is_row.nd (pi_list (pv 0)) (blkOk_by (own := [("one", 1)]) (N := N_is_row) (sc := defScope s_is_row) (by decide +kernel)) (fun _ _ _ _ _ => (pg_name (i := 1) sc_is_row.nd rfl (Or.inl rfl))) (fun _ _ _ _ _ => pts_nil) (fun _ _ _ _ _ => (cl G_is_card (hr.mono (by decide)) T.g_is_card psN (pa_cons (pv 1) pa_nil)))) pa_nil)) (pe_one (pe_cmpR op_eq (RZ.pe_lenSetI rfl T.b_len rfl T.b_set (pv 0)) (pe_callB call_len_seq (by rfl) T.b_len bt_len (pa_cons (pv 0) pa_nil)) (nomark _))))))), ?_⟩
  have hlen : (DI ns).length = ns.length := List.length_map _
  refine q_when (b := false) (et_to (et_or (et_not (et_db (ed_isi (ed_var rfl h1) ev_c (fun _ _ => dp_tyL) kit_ll))) fun _ => et_not (et_d (ed_chain ed_i (ed_len (ed_var rfl h1)) ed_i rd_B0 rd_B0))) ?_) (fun z => by cases z) fun _ H1 e1 => ?_
  · rw [hlen, decide_eq_true (show (1 : Int) ≤ (ns.length : Int) by have := R.lo; omega), decide_eq_true (show (ns.length : Int) ≤ 24 by have := R.hi; omega)] <;> rfl
  have h2 := dp_ex e1 _ h1
  refine s_retD (ed_to (ed_andV (ed_all (bs := ns.map cardB) (ed_to (en_map (fun d => match d with | .int i => .bool (cardB i) | _ => .none) (ii_list (ed_var rfl h2)) (by rw [hlen]; have := R.hi; omega) (fun d hd => by obtain ⟨i, _, rfl⟩ := List.mem_map.mp hd; rfl)
    fun d hd => tn1 (fun _ => rfl) fun v H2 e2 hv => ⟨et_yes, fun _ => ?_⟩).toD ?_)) fun _ => ed_op (ed_lenSet (ed_var rfl h2) R.nd (by have := R.hi; omega)) (ed_len (ed_var rfl h2)) rd_eqI) ?_) fun v H2 e2 => k v H2 (e1.trans e2)
  · obtain ⟨i, _, rfl⟩ := List.mem_map.mp hd
    exact ed_cl (es_cons (ed_var rfl hv) es_nil) ⟨i, rfl, rfl⟩
  · rw [List.map_map, List.map_map] <;> rfl
  · rw [hlen, decide_eq_true rfl, List.all_eq_true.mpr (fun b hb => by
      obtain ⟨i, hi, rfl⟩ := List.mem_map.mp hb
      exact R.cd i hi)] <;> rfl
def R_need_row (ds : List PyData) (d : PyData) : Prop := ∃ ns, ds = [.list (DI ns)] ∧ RowOk ns ∧ d = .none
theorem ok_need_row (T : Txt w K mg) : FR P w K mg base 3 (ga K "need_row") (spD K R_need_row) := by
  have G_is_row : FR P w K mg base 2 (ga K "is_row") (spD K R_is_row) := ok_is_row T
  refine okD T.f_need_row sc_need_row (fun _ _ _ _ _ _ us hl => match us, hl with | [_], _ => rfl) (fun ds d h => by obtain ⟨i, rfl, _⟩ := h; rfl) fun cdv A outer s H vs Q E ds d hr hv h k => ?_
  obtain ⟨ns, rfl, R, rfl⟩ := h
  obtain ⟨v, rfl, h1⟩ := da1 hv
  refine ⟨_, (pss_one (ps_if (pt_not (pt_val (cl G_is_row (hr.mono (by decide)) T.g_is_row psN (pa_cons (pv 0) pa_nil)))) (pss_one ps_never) pss_nil)), ?_⟩
  exact s_when (b := false) (et_to (et_not (et_db (ed_cl (es_cons (ed_var rfl h1) es_nil) ⟨ns, rfl, R, rfl⟩))) rfl) (fun z => by cases z) fun _ H1 e1 => k _ H1 e1 .non
end
end K59

set_option Elab.async false
set_option linter.all false
set_option maxRecDepth 100000
set_option maxHeartbeats 4000000
/-! wrong pairs and threes of a row -/
namespace K59
open PySem PySem.Spec PyProof.Rows L2 Evl He
def PrD (p : Int × Int) : PyData := .tuple [.int p.1, .int p.2]
def ThD (p : Int × Int × Int) : PyData := .tuple [.int p.1, .int p.2.1, .int p.2.2]
def sortE {α : Type} (enc : α → PyData) (xs : List α) : List α := xs.mergeSort fun a b => PySem.W.dataLe false (fun d : PyData => d) (enc a) (enc b)
theorem sortE_perm {α : Type} (enc : α → PyData) (xs : List α) : (sortE enc xs).Perm xs := List.mergeSort_perm _ _
theorem sortD_map {α : Type} (enc : α → PyData) (xs : List α) : sortD (xs.map enc) = (sortE enc xs).map enc := (List.map_mergeSort (f := enc) (r := fun a b => PySem.W.dataLe false (fun d : PyData => d) (enc a) (enc b)) (s := PySem.W.dataLe false fun d : PyData => d) fun _ _ _ _ => rfl).symm
theorem PrD_noL (xs : List (Int × Int)) : noL.noLs (xs.map PrD) = true := noLs_all fun d hd => by
  obtain ⟨p, _, rfl⟩ := List.mem_map.mp hd
  rfl
theorem ThD_noL (xs : List (Int × Int × Int)) : noL.noLs (xs.map ThD) = true := noLs_all fun d hd => by
  obtain ⟨p, _, rfl⟩ := List.mem_map.mp hd
  rfl
theorem DI_noL (xs : List Int) : noL.noLs (DI xs) = true := noLs_all fun d hd => by
  obtain ⟨p, _, rfl⟩ := List.mem_map.mp hd
  rfl
theorem PrD_alike (xs : List (Int × Int)) : PySem.W.AllAlike (xs.map PrD) := PySem.W.AllAlike.of fun b b' => by simp [PrD, PySem.W.alike, PySem.W.alikeAll]
theorem ThD_alike (xs : List (Int × Int × Int)) : PySem.W.AllAlike (xs.map ThD) := PySem.W.AllAlike.of fun b b' => by simp [ThD, PySem.W.alike, PySem.W.alikeAll]
theorem DI_alike (xs : List Int) : PySem.W.AllAlike (DI xs) := PySem.W.AllAlike.of fun b b' => by simp [PySem.W.alike, PySem.W.alikeAll]
theorem PrD_depth (p : Int × Int) : (PrD p).depth ≤ 8 := by simp [PrD, PyData.depth, PyData.depthAll]
theorem ThD_depth (p : Int × Int × Int) : (ThD p).depth ≤ 8 := by simp [ThD, PyData.depth, PyData.depthAll]
section
variable {K : PySem.W.Frag} {σ : K59.St} {H H' : Hp} {te ta tb tl : TE} {t u : TT} {d d1 d2 : PyData} {ds es : List PyData} {v : V}
theorem en_sorted (h : EvD K ta σ H (.list ds)) (hal : PySem.W.AllAlike ds) (hso : PySem.W.Sortable ds) (hdp : ∀ d ∈ ds, d.depth ≤ 8) : EvN K (tCB (rSortedD K) (tCons ta tNil)) σ H (sortD ds) := fun H1 e Q q =>
  h H1 e _ fun x H2 e2 hx => by
    obtain ⟨a, xs, rfl, _, _⟩ := dp_lst hx
    exact ⟨a, ds, rfl, hx, hal, hso, hdp, fun p ws hp hw => q p ws _ (fresh_back e2 hp) (e2.trans (Ex.new hp)) upd_same (da_ex (Ex.new hp) _ hw)⟩
theorem en_sortedPr {xs : List (Int × Int)} (h : EvD K ta σ H (.list (xs.map PrD))) : EvN K (tCB (rSortedD K) (tCons ta tNil)) σ H ((sortE PrD xs).map PrD) := by
  rw [← sortD_map]
  exact en_sorted h (PrD_alike xs) (PySem.W.Sortable.tuples fun b => ⟨_, _, rfl⟩) fun d hd => by
    obtain ⟨p, _, rfl⟩ := List.mem_map.mp hd
    exact PrD_depth p
theorem en_sortedTh {xs : List (Int × Int × Int)} (h : EvD K ta σ H (.list (xs.map ThD))) : EvN K (tCB (rSortedD K) (tCons ta tNil)) σ H ((sortE ThD xs).map ThD) := by
  rw [← sortD_map]
  exact en_sorted h (ThD_alike xs) (PySem.W.Sortable.tuples fun b => ⟨_, _, rfl⟩) fun d hd => by
    obtain ⟨p, _, rfl⟩ := List.mem_map.mp hd
    exact ThD_depth p
theorem cutD_from {α : Type} (enc : α → PyData) (xs : List α) (i : Nat) {j : Int} (hj : j = (i : Int)) : cutD (xs.map enc) (some j) none = (xs.drop i).map enc := by
  subst hj
  unfold cutD
  rw [HT.sIx_nat, HT.sIx_none, List.length_map, List.take_of_length_le (by rw [List.length_drop, List.length_map]; omega), ← List.map_drop]
  by_cases h : i ≤ xs.length
  · rw [Nat.min_eq_left h]
  · rw [Nat.min_eq_right (by omega), List.drop_of_length_le (Nat.le_refl _), List.drop_of_length_le (by omega)]
/-- a pair is taken apart into two slots -/
theorem g_tup2 {i j : Nat} {x : V} {Q : K59.St → Hp → Prop} (h : Dp K H x (.tuple [d1, d2])) (q : ∀ v v2, Dp K H v d1 → Dp K H v2 d2 → Q ((σ.set i (some v)).set j (some v2)) H) : gTup K 2 (gCons (gName i) (gCons (gName j) gNil)) x σ H Q := by
  obtain ⟨a, xs, rfl, hs, ha⟩ := dp_tup h
  obtain ⟨v, v2, rfl, h1, h2⟩ : ∃ v v2, xs = [v, v2] ∧ Dp K H v d1 ∧ Dp K H v2 d2 := by
    cases ha with
    | cons h1 ha =>
      cases ha with
      | cons h2 ha =>
        cases ha
        exact ⟨_, _, rfl, h1, h2⟩
  exact ⟨a, _, rfl, hs, rfl, _, _, rfl, _, _, rfl, rfl, q _ _ h1 h2⟩
theorem g_tup3 {i j k : Nat} {x : V} {d3 : PyData} {Q : K59.St → Hp → Prop} (h : Dp K H x (.tuple [d1, d2, d3])) (q : ∀ v v2 v3, Dp K H v d1 → Dp K H v2 d2 → Dp K H v3 d3 → Q (((σ.set i (some v)).set j (some v2)).set k (some v3)) H) :
    gTup K 3 (gCons (gName i) (gCons (gName j) (gCons (gName k) gNil))) x σ H Q := by
  obtain ⟨a, xs, rfl, hs, ha⟩ := dp_tup h
  cases ha with
  | cons h1 ha =>
    cases ha with
    | cons h2 ha =>
      cases ha with
      | cons h3 ha =>
        cases ha
        exact ⟨a, _, rfl, hs, rfl, _, _, rfl, _, _, rfl, _, _, rfl, rfl, q _ _ _ h1 h2 h3⟩
end
def wrongAt (ns : List Int) (i : Nat) (c : Int) : List (Int × Int) := ((ns.drop (i + 1)).filter fun x => decide (x < c)).map fun x => (x, c)
def wrongTo (ns : List Int) : Nat → List (Int × Int)
  | 0 => []
  | i + 1 => wrongTo ns i ++ (match ns[i]? with | some c => wrongAt ns i c | none => [])
def wrongS (ns : List Int) : List (Int × Int) := sortE PrD (wrongTo ns ns.length)
def laterOf (ns : List Int) (i : Nat) (c : Int) : List Int := (ns.drop (i + 1)).filter fun x => decide (x < c)
def threeAt (ls : List Int) (g : Int) (j : Nat) (m : Int) : List (Int × Int × Int) := ((ls.drop (j + 1)).filter fun x => decide (x < m)).map fun x => (x, m, g)
def threeIn (ls : List Int) (g : Int) : Nat → List (Int × Int × Int)
  | 0 => []
  | j + 1 => threeIn ls g j ++ (match ls[j]? with | some m => threeAt ls g j m | none => [])
def threesTo (ns : List Int) : Nat → List (Int × Int × Int)
  | 0 => []
  | i + 1 => threesTo ns i ++ (match ns[i]? with | some g => threeIn (laterOf ns i g) g (laterOf ns i g).length | none => [])
def threesS (ns : List Int) : List (Int × Int × Int) := sortE ThD (threesTo ns ns.length)
theorem wrongAt_len (ns : List Int) (i : Nat) (c : Int) : (wrongAt ns i c).length ≤ ns.length := by
  unfold wrongAt
  rw [List.length_map]
  have h := List.length_filter_le (fun x => decide (x < c)) (ns.drop (i + 1))
  rw [List.length_drop] at h
  omega
theorem wrongTo_len (ns : List Int) : ∀ i, (wrongTo ns i).length ≤ i * ns.length
  | 0 => by simp [wrongTo]
  | i + 1 => by
    have h := wrongTo_len ns i
    rw [wrongTo, List.length_append, Nat.succ_mul]
    cases e : ns[i]? with
    | none => simp; omega
    | some c =>
      have h2 := wrongAt_len ns i c
      simp only
      omega
theorem laterOf_len (ns : List Int) (i : Nat) (c : Int) : (laterOf ns i c).length ≤ ns.length := by
  unfold laterOf
  have h := List.length_filter_le (fun x => decide (x < c)) (ns.drop (i + 1))
  rw [List.length_drop] at h
  omega
theorem threeAt_len (ls : List Int) (g : Int) (j : Nat) (m : Int) : (threeAt ls g j m).length ≤ ls.length := by
  unfold threeAt
  rw [List.length_map]
  have h := List.length_filter_le (fun x => decide (x < m)) (ls.drop (j + 1))
  rw [List.length_drop] at h
  omega
theorem threeIn_len (ls : List Int) (g : Int) : ∀ j, (threeIn ls g j).length ≤ j * ls.length
  | 0 => by simp [threeIn]
  | j + 1 => by
    have h := threeIn_len ls g j
    rw [threeIn, List.length_append, Nat.succ_mul]
    cases e : ls[j]? with
    | none => simp; omega
    | some c =>
      have h2 := threeAt_len ls g j c
      simp only
      omega
theorem threesTo_len (ns : List Int) (hn : ns.length ≤ 24) : ∀ i, (threesTo ns i).length ≤ i * 576
  | 0 => by simp [threesTo]
  | i + 1 => by
    have h := threesTo_len ns hn i
    rw [threesTo, List.length_append]
    cases e : ns[i]? with
    | none => simp; omega
    | some c =>
      have h1 := laterOf_len ns i c
      have h2 := threeIn_len (laterOf ns i c) c (laterOf ns i c).length
      have h3 : (laterOf ns i c).length * (laterOf ns i c).length ≤ 24 * 24 := Nat.mul_le_mul (by omega) (by omega)
      simp only
      omega
theorem enumA_get {α : Type} {enc : α → PyData} {xs : List α} {i : Nat} {d : PyData} (h : (enumD 0 (xs.map enc))[i]? = some d) : ∃ x, xs[i]? = some x ∧ d = .tuple [.int (i : Nat), enc x] := by
  rw [enumD_get, List.getElem?_map] at h
  cases e : xs[i]? with
  | none =>
    rw [e] at h
    cases h
  | some x =>
    rw [e] at h
    have e2 := Option.some.inj h
    rw [Nat.zero_add] at e2
    exact ⟨x, rfl, e2.symm⟩
section
variable {P : Program} {w : World} {K : PySem.W.Frag} {mg : Str → Option Value} {base : Heap}
def R_wrong_in (ds es : List PyData) : Prop := ∃ ns : List Int, ds = [.list (DI ns)] ∧ ns.length ≤ 24 ∧ es = (wrongS ns).map PrD
theorem ok_wrong_in (T : Txt w K mg) : FR P w K mg base 1 (ga K "wrong_in") (spN K R_wrong_in) := by
  refine okL T.f_wrong_in sc_wrong_in (fun _ _ _ _ _ _ us hl => match us, hl with | [_], _ => rfl) (fun ds d h => by obtain ⟨i, rfl, _⟩ := h; rfl) fun cdv A outer s H vs Q E ds es hr hv h k => ?_
  obtain ⟨ns, rfl, hn, rfl⟩ := h
  obtain ⟨v, rfl, h1⟩ := da1 hv
  refine ⟨_, (pss_cons (ps_set (i := 1) sc_wrong_in.nd rfl (Or.inl rfl) (pe_lst pa_nil))
      (pss_cons (ps_for PassesOwn.never rfl (pi_enum (by rfl) T.b_enumerate (pa_cons (pv 0) pa_nil)) (pg_tup (by rfl) (pgs_cons (pg_name (i := 2) sc_wrong_in.nd rfl (Or.inl rfl)) (pgs_cons (pg_name (i := 3) sc_wrong_in.nd rfl (Or.inr rfl)) pgs_nil))) (pss_one (ps_expr (pe_bm PySem.F.plainAttrs_list PySem.F.slot_list_extend PySem.F.type_list_extend mt_extend (pv 1) (pa_cons (pe_lc (own := [("less", 4)]) (g := (gName 4))  rfl sc_wrong_in.nd (pi_list (pe_slice sl_list (pv 0) (po_some (pe_op op_add (pv 2) pe_int)) po_none)) (blkOk_by (own := [("less", 4)]) (N := N_wrong_in) (sc := defScope s_wrong_in) (by decide +kernel)) (fun _ _ _ _ _ => (pg_name (i := 4) sc_wrong_in.nd rfl (Or.inl rfl))) (fun _ _ _ _ _ => (pts_one (pt_cmpR op_lt (pv 4) (pv 3) (nomark _)))) (fun _ _ _ _ _ => (pe_tup (pa_cons (pv 4) (pa_cons (pv 3) pa_nil))))) pa_nil)))))
      (pss_one (ps_ret (pe_callB (cr_sortedD (hu65 hr)) (by rfl) T.b_sorted bt_sorted (pa_cons (pv 1) pa_nil)))))), ?_⟩
  have hlen : (DI ns).length = ns.length := List.length_map _
  refine q_asgN (K := K) (en_lst es_nil (Nat.zero_le _)) fun l vs0 H1 hl e1 hl1 ha1 => ?_
  cases ha1
  refine q_forV (iv_enum (ev_var rfl) h1) e1 (fun i σ' H' => ∃ a b c ws, σ' = [some v, some (.ref l), a, b, c] ∧ Ex H H' ∧ H' l = some (.lst ws) ∧ DpAll K H' ws ((wrongTo ns i).map PrD)) (fun H2 e2 => ⟨_, _, _, _, rfl, e1.trans e2, e2 _ _ hl1, .nil⟩) (fun i σ' H' _ ⟨a, b, c, ws, _, p, _⟩ => p) ?_ ?_
  · rintro i d σ' H' x H3 hd ⟨a, b, c, ws, rfl, p1, p2, p3⟩ e3 hx
    obtain ⟨card, hc, rfl⟩ := enumA_get hd
    refine g_tup2 hx fun v1 v2 d1 d2 => ?_
    have e4 := p1.trans e3
    have hi : i < ns.length := (List.getElem?_eq_some_iff.mp hc).1
    have h24 : i * ns.length ≤ 24 * 24 := Nat.mul_le_mul (by omega) hn
    refine s_extN (e3 _ _ p2) (da_ex e3 _ p3) (PrD_noL _) (PrD_noL (wrongAt ns i card)) (ev_var rfl) (en_to (en_lcA PyData.int (fun x => decide (x < card)) (fun x => PrD (x, card))
      (ii_list (en_to (en_sl (ed_var rfl (dp_ex e4 _ h1)) (eo_d (ed_op (ed_var rfl d1) ed_i rd_I0)) eo_none) (cutD_from PyData.int ns (i + 1) rfl)).toD) (by rw [List.length_drop]; omega) (fun _ _ => rfl) fun y hy => tn1 (fun _ => rfl) fun v3 H5 e5 hv3 =>
        ⟨et_db (ed_op (ed_var rfl hv3) (ed_var rfl (dp_ex e5 _ d2)) rd_B0), fun _ => ed_tup (es_cons (ed_var rfl hv3) (es_cons (ed_var rfl (dp_ex e5 _ d2)) es_nil)) (Nat.le_of_ble_eq_true rfl)⟩) (by rw [wrongAt, List.map_map] <;> rfl)) ?_ fun ws2 H5 k1 k2 k3 k4 => ⟨_, _, _, ws2, rfl, k1 H e4 hl, k3, ?_⟩
    · rw [List.length_map, List.length_map]
      have q1 := wrongTo_len ns i
      have q2 := wrongAt_len ns i card
      omega
    · rw [wrongTo, hc, List.map_append]
      exact k4
  · rintro σ' H' ⟨a, b, c, ws, rfl, p1, p2, p3⟩
    rw [enumD_len, hlen] at p3
    refine s_retN (en_sortedPr (xs := wrongTo ns ns.length) (ed_var rfl (.lst (.inl (.inl p2)) p3))) fun p vs2 H2 hp e2 q1 q2 => k p vs2 H2 (fresh_back p1 hp) (p1.trans e2) q1 q2
def R_crossing_threes (ds es : List PyData) : Prop := ∃ ns : List Int, ds = [.list (DI ns)] ∧ RowOk ns ∧ es = (threesS ns).map ThD
theorem ok_crossing_threes (T : Txt w K mg) : FR P w K mg base 4 (ga K "crossing_threes") (spN K R_crossing_threes) := by
  have G_need_row : FR P w K mg base 3 (ga K "need_row") (spD K R_need_row) := ok_need_row T
  refine okL T.f_crossing_threes sc_crossing_threes (fun _ _ _ _ _ _ us hl => match us, hl with | [_], _ => rfl) (fun ds d h => by obtain ⟨i, rfl, _⟩ := h; rfl) fun cdv A outer s H vs Q E ds es hr hv h k => ?_
  obtain ⟨ns, rfl, R, rfl⟩ := h
  obtain ⟨v, rfl, h1⟩ := da1 hv
  have hn := R.hi
  refine ⟨_, (pss_cons (ps_expr (cl G_need_row (hr.mono (by decide)) T.g_need_row psN (pa_cons (pv 0) pa_nil)))
      (pss_cons (ps_set (i := 1) sc_crossing_threes.nd rfl (Or.inl rfl) (pe_lst pa_nil))
      (pss_cons (ps_for PassesOwn.never rfl (pi_enum (by rfl) T.b_enumerate (pa_cons (pv 0) pa_nil)) (pg_tup (by rfl) (pgs_cons (pg_name (i := 2) sc_crossing_threes.nd rfl (Or.inl rfl)) (pgs_cons (pg_name (i := 3) sc_crossing_threes.nd rfl (Or.inr rfl)) pgs_nil))) (pss_cons (ps_setLc (i := 4) (own := [("card", 7)]) (g := (gName 7))  rfl sc_crossing_threes.nd rfl rfl (sw_true rfl rfl rfl (by decide +kernel)) (pi_list (pe_slice sl_list (pv 0) (po_some (pe_op op_add (pv 2) pe_int)) po_none)) (blkOk_by (own := [("card", 7)]) (N := N_crossing_threes) (sc := defScope s_crossing_threes) (by decide +kernel)) (fun _ _ _ _ _ => (pg_name (i := 7) sc_crossing_threes.nd rfl (Or.inl rfl))) (fun _ _ _ _ _ => (pts_one (pt_cmpR op_lt (pv 7) (pv 3) (nomark _)))) (fun _ _ _ _ _ => (pv 7)))
      (pss_one (ps_for PassesOwn.never rfl (pi_enum (by rfl) T.b_enumerate (pa_cons (pv 4) pa_nil)) (pg_tup (by rfl) (pgs_cons (pg_name (i := 5) sc_crossing_threes.nd rfl (Or.inl rfl)) (pgs_cons (pg_name (i := 6) sc_crossing_threes.nd rfl (Or.inr rfl)) pgs_nil))) (pss_one (ps_expr (pe_bm PySem.F.plainAttrs_list PySem.F.slot_list_extend PySem.F.type_list_extend mt_extend (pv 1) (pa_cons (pe_lc (own := [("least", 8)]) (g := (gName 8))  rfl sc_crossing_threes.nd (pi_list (pe_slice sl_list (pv 4) (po_some (pe_op op_add (pv 5) pe_int)) po_none)) (blkOk_by (own := [("least", 8)]) (N := N_crossing_threes) (sc := defScope s_crossing_threes) (by decide +kernel)) (fun _ _ _ _ _ => (pg_name (i := 8) sc_crossing_threes.nd rfl (Or.inl rfl))) (fun _ _ _ _ _ => (pts_one (pt_cmpR op_lt (pv 8) (pv 6) (nomark _)))) (fun _ _ _ _ _ => (pe_tup (pa_cons (pv 8) (pa_cons (pv 6) (pa_cons (pv 3) pa_nil)))))) pa_nil))))))))
      (pss_one (ps_ret (pe_callB (cr_sortedD (hu65 hr)) (by rfl) T.b_sorted bt_sorted (pa_cons (pv 1) pa_nil))))))), ?_⟩
  have hlen : (DI ns).length = ns.length := List.length_map _
  refine q_dropD (ed_cl (es_cons (ed_var rfl h1) es_nil) ⟨ns, rfl, R, rfl⟩) fun H0 e0 => ?_
  refine q_asgN (K := K) (en_lst es_nil (Nat.zero_le _)) fun l vs0 H1 hl e1 hl1 ha1 => ?_
  cases ha1
  have h1 := dp_ex e0 _ h1
  refine q_forV (iv_enum (ev_var rfl) h1) e1 (fun i σ' H' => ∃ a b c f g d e ws, σ' = [some v, some (.ref l), a, b, c, d, e, f, g] ∧ Ex H0 H' ∧ H' l = some (.lst ws) ∧ DpAll K H' ws ((threesTo ns i).map ThD)) (fun H2 e2 => ⟨_, _, _, _, _, _, _, _, rfl, e1.trans e2, e2 _ _ hl1, .nil⟩) (fun i σ' H' _ ⟨_, _, _, _, _, _, _, ws, _, p, _⟩ => p) ?_ ?_
  · rintro i d σ' H' x H3 hd ⟨_, _, _, _, _, _, _, ws, rfl, p1, p2, p3⟩ e3 hx
    obtain ⟨gr, hc, rfl⟩ := enumA_get hd
    refine g_tup2 hx fun v1 v2 d1 d2 => ?_
    have e4 := p1.trans e3
    have hi : i < ns.length := (List.getElem?_eq_some_iff.mp hc).1
    refine q_asgN (en_to (en_lcA PyData.int (fun x => decide (x < gr)) PyData.int
      (ii_list (en_to (en_sl (ed_var rfl (dp_ex e4 _ h1)) (eo_d (ed_op (ed_var rfl d1) ed_i rd_I0)) eo_none) (cutD_from PyData.int ns (i + 1) rfl)).toD) (by rw [List.length_drop]; omega) (fun _ _ => rfl) fun y hy => tn1 (fun _ => rfl) fun v3 H5 e5 hv3 =>
        ⟨et_db (ed_op (ed_var rfl hv3) (ed_var rfl (dp_ex e5 _ d2)) rd_B0), fun _ => ed_var rfl hv3⟩) (show _ = DI (laterOf ns i gr) from rfl)) fun l2 vs2 H5 hl2 e5 hl5 ha5 => ?_
    have e05 := e4.trans e5
    have hls := laterOf_len ns i gr
    generalize hlo : laterOf ns i gr = ls at *
    -- H5 without the found list
    have hv2 : v2 = .int gr := dp_int d2
    subst hv2
    have hlne : l ≠ l2 := fun z => by
      have q := e3 _ _ p2
      rw [z, hl2] at q
      cases q
    have hd5 : Dp K H5 (.ref l2) (.list (DI ls)) := .lst (.inl (.inl hl5)) ha5
    refine s_forV (H0 := upd H0 l2 (.lst vs2)) (iv_enum (ev_var rfl) (.lst (.inl (.inl upd_same)) (by rw [da_ints ha5]; exact ints_da ls))) (fun z o hz => by
      by_cases h : z = l2
      · rw [h, upd_same] at hz
        rw [h, hl5]
        exact hz
      · rw [upd_ne h] at hz
        exact e05 z o hz) (fun j σ' H' => ∃ b c f g v1 ws, σ' = [some v, some (.ref l), some v1, some (.int gr), some (.ref l2), b, c, f, g] ∧ Ex H0 H' ∧ H' l2 = some (.lst vs2) ∧ H' l = some (.lst ws) ∧ DpAll K H' ws ((threesTo ns i ++ threeIn ls gr j).map ThD))
      (fun H6 e6 => ⟨_, _, _, _, _, ws, rfl, e05.trans e6, e6 _ _ hl5, e6 _ _ (e5 _ _ (e3 _ _ p2)), by rw [show threeIn ls gr 0 = [] from rfl, List.append_nil]; exact da_ex (e3.trans (e5.trans e6)) _ p3⟩) (fun j σ' H' _ ⟨_, _, _, _, _, ws, _, q, q2, _⟩ => fun z o hz => by
        by_cases h : z = l2
        · rw [h, upd_same] at hz
          rw [h, q2]
          exact hz
        · rw [upd_ne h] at hz
          exact q z o hz) ?_ ?_
    · rintro j d σ' H' x H6 hd ⟨_, _, _, _, v1, ws, rfl, r1, r2, r3, r4⟩ e6 hx
      obtain ⟨m, hm, rfl⟩ := enumA_get hd
      refine g_tup2 hx fun w1 w2 d3 d4 => ?_
      have hj : j < ls.length := (List.getElem?_eq_some_iff.mp hm).1
      have hd6 : Dp K H6 (.ref l2) (.list (DI ls)) := .lst (.inl (.inl (e6 _ _ r2))) (by rw [da_ints ha5]; exact ints_da ls)
      refine s_extN (e6 _ _ r3) (da_ex e6 _ r4) (ThD_noL _) (ThD_noL (threeAt ls gr j m)) (ev_var rfl) (en_to (en_lcA PyData.int (fun x => decide (x < m)) (fun x => ThD (x, m, gr))
        (ii_list (en_to (en_sl (ed_var rfl hd6) (eo_d (ed_op (ed_var rfl d3) ed_i rd_I0)) eo_none) (cutD_from PyData.int ls (j + 1) rfl)).toD) (by rw [List.length_drop]; omega) (fun _ _ => rfl) fun y hy => tn1 (fun _ => rfl) fun v3 H7 e7 hv3 =>
          ⟨et_db (ed_op (ed_var rfl hv3) (ed_var rfl (dp_ex e7 _ d4)) rd_B0), fun _ => ed_tup (es_cons (ed_var rfl hv3) (es_cons (ed_var rfl (dp_ex e7 _ d4)) (es_cons (ed_var rfl (.int gr)) es_nil))) (Nat.le_of_ble_eq_true rfl)⟩) (by rw [threeAt, List.map_map] <;> rfl)) ?_ fun ws2 H7 k1 k2 k3 k4 => ⟨_, _, _, _, _, ws2, rfl, k1 H0 (r1.trans e6) hl, k1 (upd (fun _ => none) l2 (.lst vs2)) (fun z o hz => by
            by_cases h : z = l2
            · rw [h, upd_same] at hz
              rw [h, e6 _ _ r2]
              exact hz
            · rw [upd_ne h] at hz
              cases hz) (by rw [upd_ne hlne]) l2 _ upd_same, k3, ?_⟩
      · rw [List.length_map, List.length_map, List.length_append]
        have q1 := threesTo_len ns hn i
        have q2 := threeIn_len ls gr j
        have q3 := threeAt_len ls gr j m
        have q4 : j * ls.length ≤ 24 * 24 := Nat.mul_le_mul (by omega) (by omega)
        omega
      · rw [threeIn, hm, ← List.append_assoc, List.map_append]
        exact k4
    · rintro σ' H' ⟨_, _, _, _, v1, ws, rfl, r1, r2, r3, r4⟩
      refine ⟨_, _, _, _, _, _, _, ws, rfl, r1, r3, ?_⟩
      rw [threesTo, hc]
      show DpAll K H' ws ((threesTo ns i ++ threeIn (laterOf ns i gr) gr (laterOf ns i gr).length).map ThD)
      rw [hlo]
      rw [enumD_len, show (DI ls).length = ls.length from List.length_map _] at r4
      exact r4
  · rintro σ' H' ⟨_, _, _, _, _, _, _, ws, rfl, p1, p2, p3⟩
    rw [enumD_len, hlen] at p3
    refine s_retN (en_sortedTh (xs := threesTo ns ns.length) (ed_var rfl (.lst (.inl (.inl p2)) p3))) fun p vs2 H2 hp e2 q1 q2 => k p vs2 H2 (fresh_back (e0.trans p1) hp) ((e0.trans p1).trans e2) q1 q2
end
end K59

set_option Elab.async false
set_option linter.all false
set_option maxRecDepth 100000
set_option maxHeartbeats 4000000
/-! histories, ways -/
namespace K59
open PySem PySem.Spec PyProof.Rows L2 Evl He
/-! shapes -/
theorem lay_map {α : Type} (enc : α → PyData) (h : ∀ x, (enc x).canLay0 = true) : ∀ xs : List α, PyData.canLayAll0 (xs.map enc) = true
  | [] => by simp [PyData.canLayAll0]
  | x :: xs => by simp [PyData.canLayAll0, h x, lay_map enc h xs]
theorem dep_map {α : Type} (enc : α → PyData) (h : ∀ x, (enc x).depth ≤ 8) : ∀ xs : List α, PyData.depthAll (xs.map enc) ≤ 8
  | [] => by simp [PyData.depthAll]
  | x :: xs => by
    have h1 := h x
    have h2 := dep_map enc h xs
    simp only [List.map_cons, PyData.depthAll]
    omega
theorem sh_of {d : PyData} (h1 : d.canLay0 = true) (h2 : d.depth ≤ 64) : SeqAt.shaped d = true := by
  show (d.canLay0 && decide (d.depth ≤ 64)) = true
  rw [h1, decide_eq_true h2] <;> rfl
theorem sh_list {α : Type} (enc : α → PyData) (h : ∀ x, (enc x).canLay0 = true) (h2 : ∀ x, (enc x).depth ≤ 8) (xs : List α) : SeqAt.shaped (.list (xs.map enc)) = true := sh_of (by simp only [PyData.canLay0]; exact lay_map enc h xs) (by
  have := dep_map enc h2 xs
  simp only [PyData.depth]
  omega)
theorem sh_int (i : Int) : SeqAt.shaped (.int i) = true := sh_of (by simp [PyData.canLay0]) (by simp [PyData.depth])
theorem sh_DI (ns : List Int) : SeqAt.shaped (.list (DI ns)) = true := sh_list PyData.int (fun _ => by simp [PyData.canLay0]) (fun _ => by simp [PyData.depth]) ns
theorem PrD_lay (p : Int × Int) : (PrD p).canLay0 = true := by simp [PrD, PyData.canLay0, PyData.canLayAll0]
theorem sh_Pr (p : Int × Int) : SeqAt.shaped (PrD p) = true := sh_of (PrD_lay p) (by have := PrD_depth p; omega)
theorem sh_Prs (ps : List (Int × Int)) : SeqAt.shaped (.list (ps.map PrD)) = true := sh_list PrD PrD_lay PrD_depth ps
theorem eqv_ints : ∀ xs ys : List Int, PyData.eqvAll (DI xs) (DI ys) = decide (xs = ys)
  | [], [] => by simp [PyData.eqvAll]
  | [], _ :: _ => by simp [PyData.eqvAll]
  | _ :: _, [] => by simp [PyData.eqvAll]
  | x :: xs, y :: ys => by
    show PyData.eqvAll (.int x :: DI xs) (.int y :: DI ys) = _
    rw [PyData.eqvAll, eqv_ints xs ys, PyData.eqv]
    simp only [List.cons.injEq, Bool.decide_and, Bool.beq_eq_decide_eq]
theorem eqv_DI (xs ys : List Int) : PyData.eqv (.list (DI xs)) (.list (DI ys)) = decide (xs = ys) := by
  rw [PyData.eqv]
  exact eqv_ints xs ys
theorem eqv_Pr (p q : Int × Int) : PyData.eqv (PrD p) (PrD q) = decide (p = q) := by
  have h := eqv_ints [p.1, p.2] [q.1, q.2]
  have e : PyData.eqv (PrD p) (PrD q) = PyData.eqvAll (DI [p.1, p.2]) (DI [q.1, q.2]) := by rw [PrD, PrD, PyData.eqv] <;> rfl
  rw [e, h]
  obtain ⟨a, b⟩ := p
  obtain ⟨c, d⟩ := q
  simp
theorem any_Pr (p : Int × Int) (ps : List (Int × Int)) : ((ps.map PrD).any fun z => PyData.eqv z (PrD p)) = decide (p ∈ ps) := by
  induction ps with
  | nil => simp
  | cons q qs ih =>
    rw [List.map_cons, List.any_cons, ih, eqv_Pr]
    by_cases h : q = p
    · subst h
      simp
    · have h' : ¬ p = q := fun z => h z.symm
      simp [h, h']
section
variable {K : PySem.W.Frag} {σ : K59.St} {H H' : Hp} {te ta tb tl : TE} {t u : TT} {d d1 d2 : PyData} {ds es : List PyData} {v : V}
theorem inV_ints (i : Int) (ns : List Int) : inV (.int i) (ns.map V.int) = decide (i ∈ ns) := by
  unfold inV
  induction ns with
  | nil => simp
  | cons q qs ih =>
    rw [List.map_cons, List.any_cons, ih]
    show (q == i || _) = _
    by_cases h : q = i
    · subst h
      simp
    · have h' : ¬ i = q := fun z => h z.symm
      simp [h, h']
theorem inV_strs (i : Str) (ns : List Str) : inV (.str i) (ns.map V.str) = decide (i ∈ ns) := by
  unfold inV
  induction ns with
  | nil => simp
  | cons q qs ih =>
    rw [List.map_cons, List.any_cons, ih]
    show (q == i || _) = _
    by_cases h : q = i
    · subst h
      simp
    · have h' : ¬ i = q := fun z => h z.symm
      simp [h, h']
theorem inV_nonI (ns : List Int) : inV .non (ns.map V.int) = false := by
  unfold inV
  rw [List.any_map]
  exact List.any_eq_false.mpr fun x _ => Bool.false_ne_true
theorem flat_ints (ns : List Int) : (ns.map V.int).all flatV = true := by
  rw [List.all_map]
  exact List.all_eq_true.mpr fun _ _ => rfl
theorem flat_strs (ns : List Str) : (ns.map V.str).all flatV = true := by
  rw [List.all_map]
  exact List.all_eq_true.mpr fun _ _ => rfl
theorem rd_inI {i : Int} {ns : List Int} : RD K (rIn K false) (.int i) (.list (DI ns)) H (.bool (decide (i ∈ ns))) := fun H1 _ x y hx hy _ q => by
  cases hx
  obtain ⟨a, xs, rfl, hs, ha⟩ := dp_lst hy
  rw [da_ints ha] at hs
  refine ⟨a, _, rfl, .inl hs, rfl, flat_ints ns, q _ H1 (Ex.refl H1) ?_⟩
  rw [← inV_ints]
  exact .bl _
theorem rd_inS {i : Str} {ns : List Str} : RD K (rIn K false) (.str i) (.list (ns.map PyData.str)) H (.bool (decide (i ∈ ns))) := fun H1 _ x y hx hy _ q => by
  cases hx
  obtain ⟨a, xs, rfl, hs, ha⟩ := dp_lst hy
  rw [da_strs ha] at hs
  refine ⟨a, _, rfl, .inl hs, rfl, flat_strs ns, q _ H1 (Ex.refl H1) ?_⟩
  rw [← inV_strs]
  exact .bl _
theorem rd_ninS {i : Str} {ns : List Str} : RD K (rIn K true) (.str i) (.list (ns.map PyData.str)) H (.bool (!decide (i ∈ ns))) := fun H1 _ x y hx hy _ q => by
  cases hx
  obtain ⟨a, xs, rfl, hs, ha⟩ := dp_lst hy
  rw [da_strs ha] at hs
  refine ⟨a, _, rfl, .inl hs, rfl, flat_strs ns, q _ H1 (Ex.refl H1) ?_⟩
  rw [← inV_strs]
  exact .bl _
theorem rd_inTS {i : Str} {ns : List Str} : RD K (rIn K false) (.str i) (.tuple (ns.map PyData.str)) H (.bool (decide (i ∈ ns))) := fun H1 _ x y hx hy _ q => by
  cases hx
  obtain ⟨a, xs, rfl, hs, ha⟩ := dp_tup hy
  rw [da_strs ha] at hs
  refine ⟨a, _, rfl, .inr hs, rfl, flat_strs ns, q _ H1 (Ex.refl H1) ?_⟩
  rw [← inV_strs]
  exact .bl _
theorem rd_inN {ns : List Int} : RD K (rIn K false) .none (.list (DI ns)) H (.bool false) := fun H1 _ x y hx hy _ q => by
  cases hx
  obtain ⟨a, xs, rfl, hs, ha⟩ := dp_lst hy
  rw [da_ints ha] at hs
  refine ⟨a, _, rfl, .inl hs, rfl, flat_ints ns, q _ H1 (Ex.refl H1) ?_⟩
  rw [inV_nonI]
  exact .bl _
/-- row.index(i) -/
theorem ed_ixI {ns : List Int} {y : Int} {j : Nat} (ha : EvD K ta σ H (.list (DI ns))) (hb : EvD K tb σ H (.int y)) (hj : ns[j]? = some y) (hn : ∀ m, m < j → ns[m]? ≠ some y) : EvD K (tBM K "list" (rIndex K) ta (tCons tb tNil)) σ H (.int (j : Nat)) := fun H1 e Q q =>
  ha H1 e _ fun x H2 e2 hx => by
    obtain ⟨a, xs, rfl, hs, h⟩ := dp_lst hx
    refine ⟨.inl ⟨rfl, xs, hs⟩, hb H2 (e.trans e2) _ fun v H3 e3 hv => ?_⟩
    cases hv
    rw [da_ints h] at hs
    refine ⟨a, _, .int y, j, .int y, rfl, rfl, ex_l e3 hs, rfl, flat_ints ns, by rw [List.getElem?_map, hj] <;> rfl, beq_self_eq_true y, fun m z hm hz => ?_, q _ H3 (e2.trans e3) (.int _)⟩
    rw [List.getElem?_map] at hz
    cases e5 : ns[m]? with
    | none =>
      rw [e5] at hz
      cases hz
    | some c =>
      rw [e5] at hz
      cases hz
      show (c == y) = false
      exact beq_eq_false_iff_ne.mpr fun z => hn m hm (by rw [e5, z])
theorem ed_ixS {ns : List Str} {y : Str} {j : Nat} (ha : EvD K ta σ H (.list (ns.map PyData.str))) (hb : EvD K tb σ H (.str y)) (hj : ns[j]? = some y) (hn : ∀ m, m < j → ns[m]? ≠ some y) : EvD K (tBM K "list" (rIndex K) ta (tCons tb tNil)) σ H (.int (j : Nat)) := fun H1 e Q q =>
  ha H1 e _ fun x H2 e2 hx => by
    obtain ⟨a, xs, rfl, hs, h⟩ := dp_lst hx
    refine ⟨.inl ⟨rfl, xs, hs⟩, hb H2 (e.trans e2) _ fun v H3 e3 hv => ?_⟩
    cases hv
    rw [da_strs h] at hs
    refine ⟨a, _, .str y, j, .str y, rfl, rfl, ex_l e3 hs, rfl, flat_strs ns, by rw [List.getElem?_map, hj] <;> rfl, beq_self_eq_true y, fun m z hm hz => ?_, q _ H3 (e2.trans e3) (.int _)⟩
    rw [List.getElem?_map] at hz
    cases e5 : ns[m]? with
    | none =>
      rw [e5] at hz
      cases hz
    | some c =>
      rw [e5] at hz
      cases hz
      show (c == y) = false
      exact beq_eq_false_iff_ne.mpr fun z => hn m hm (by rw [e5, z])
/-- history.index(pair) -/
theorem ed_ixP {ps : List (Int × Int)} {y : Int × Int} {j : Nat} (ha : EvD K ta σ H (.list (ps.map PrD))) (hb : EvD K tb σ H (PrD y)) (hj : ps[j]? = some y) (hn : ∀ m, m < j → ps[m]? ≠ some y) : EvD K (tBM K "list" (rIndexD K) ta (tCons tb tNil)) σ H (.int (j : Nat)) := fun H1 e Q q =>
  ha H1 e _ fun x H2 e2 hx => by
    obtain ⟨a, xs, rfl, hs, h⟩ := dp_lst hx
    refine ⟨.inl ⟨rfl, xs, hs⟩, hb H2 (e.trans e2) _ fun v H3 e3 hv => ?_⟩
    refine ⟨a, v, PrD y, _, j, PrD y, rfl, rfl, dp_ex e3 _ hx, hv, sh_Prs ps, sh_Pr y, by rw [List.getElem?_map, hj] <;> rfl, by rw [eqv_Pr, decide_eq_true rfl], fun m z hm hz => ?_, q _ H3 (e2.trans e3) (.int _)⟩
    rw [List.getElem?_map] at hz
    cases e5 : ps[m]? with
    | none =>
      rw [e5] at hz
      cases hz
    | some c =>
      rw [e5] at hz
      have e6 := Option.some.inj hz
      subst e6
      rw [eqv_Pr]
      exact decide_eq_false fun z => hn m hm (by rw [e5, z])
end
/-- one list leads to another by crossings of neighbours -/
inductive Led : List Int → List (Int × Int) → List Int → Prop
  | nil {ns : List Int} : Led ns [] ns
  | cons {A B : List Int} {x y : Int} {ps : List (Int × Int)} {out : List Int} (h : x < y) (t : Led (A ++ x :: y :: B) ps out) : Led (A ++ y :: x :: B) ((x, y) :: ps) out
theorem swap_perm (A B : List Int) (x y : Int) : (A ++ x :: y :: B).Perm (A ++ y :: x :: B) := List.Perm.append_left A (List.Perm.swap y x B)
theorem Led.perm {ns out : List Int} {ps : List (Int × Int)} (h : Led ns ps out) : out.Perm ns := by
  induction h with
  | nil => exact List.Perm.refl _
  | cons _ _ ih => exact ih.trans (swap_perm _ _ _ _)
theorem Led.snoc {ns ms : List Int} {ps : List (Int × Int)} (h : Led ns ps ms) : ∀ {A B : List Int} {x y : Int}, ms = A ++ y :: x :: B → x < y → Led ns (ps ++ [(x, y)]) (A ++ x :: y :: B) := by
  induction h with
  | nil =>
    intro A B x y e hx
    rw [e]
    exact .cons hx .nil
  | cons h _ ih =>
    intro A B x y e hx
    exact .cons h (ih e hx)
theorem nodup_notin {A B : List Int} {x y : Int} (h : (A ++ y :: x :: B).Nodup) : y ∉ A := fun hy => by
  have := List.nodup_append.mp h
  exact this.2.2 y hy y List.mem_cons_self rfl
theorem at_mid (A B : List Int) (y : Int) : (A ++ y :: B)[A.length]? = some y := by
  rw [List.getElem?_append_right (Nat.le_refl _), Nat.sub_self] <;> rfl
theorem first_mid {A B : List Int} {y : Int} (h : y ∉ A) : ∀ m, m < A.length → (A ++ y :: B)[m]? ≠ some y := fun m hm e => by
  rw [List.getElem?_append_left hm] at e
  exact h (List.mem_of_getElem? e)
section
variable {P : Program} {w : World} {K : PySem.W.Frag} {mg : Str → Option Value} {base : Heap}
theorem all_cards {ns : List Int} (h : ∀ n ∈ ns, cardB n = true) : (ns.map cardB).all id = true := List.all_eq_true.mpr fun b hb => by
  obtain ⟨i, hi, rfl⟩ := List.mem_map.mp hb
  exact h i hi
def R_is_three (ds : List PyData) (d : PyData) : Prop := ∃ (ns : List Int) (a b c : Int), ds = [.list (DI ns), ThD (a, b, c)] ∧ (∀ n ∈ ns, cardB n = true) ∧ ns.length ≤ 24 ∧ a < b ∧ b < c ∧ a ∈ ns ∧ b ∈ ns ∧ c ∈ ns ∧ d = .bool true
theorem ok_is_three (T : Txt w K mg) : FR P w K mg base 2 (ga K "is_three") (spD K R_is_three) := by
  have G_is_card : FR P w K mg base 1 (ga K "is_card") (spD K R_is_card) := ok_is_card T
  refine okD T.f_is_three sc_is_three (fun _ _ _ _ _ _ us hl => match us, hl with | [_, _], _ => rfl) (fun ds d h => by obtain ⟨_, _, _, _, rfl, _⟩ := h; rfl) fun cdv A outer s H vs Q E ds d hr hv h k => ?_
  obtain ⟨ns, a, b, c, rfl, hc, hn, hab, hbc, ha, hb, hcc, rfl⟩ := h
  obtain ⟨v, v2, rfl, h1, h2⟩ := da2 hv
  refine ⟨_, (pss_cons (ps_if (PW.pt (pw_or (pt_not (pt_val (pe_callB call_isi (by rfl) T.b_isinstance bt_isinstance (pa_cons (pv 1) (pa_cons (pe_bltn (v := .ty "tuple") (by rfl) T.b_tuple bt_tuple rfl) pa_nil))))) (pw_or (pt_cmpR op_ne (pe_callB call_len_seq (by rfl) T.b_len bt_len (pa_cons (pv 1) pa_nil)) pe_int (nomark _)) (pw_or1 (pt_not (pt_val (pe_callB (cr_all rfl) (by rfl) T.b_all bt_all (pa_cons (pe_lc (own := [("card", 2)]) (g := (gName 2)) (tt := tYes) rfl sc_is_three.nd (pi_tup (pv 1)) (blkOk_by (own := [("card", 2)]) (N := N_is_three) (sc := defScope s_is_three) (by decide +kernel)) (fun _ _ _ _ _ => (pg_name (i := 2) sc_is_three.nd rfl (Or.inl rfl))) (fun _ _ _ _ _ => pts_nil) (fun _ _ _ _ _ => (cl G_is_card (hr.mono (by decide)) T.g_is_card psN (pa_cons (pv 2) pa_nil)))) pa_nil)))))))) (pss_one (ps_ret pe_bl)) pss_nil)
      (pss_one (ps_ret (pe_and (pe_chain op_lt op_lt (pe_ix ix_tup (pv 1) pe_int (fun _ _ => rfl)) (pe_ix ix_tup (pv 1) pe_int (fun _ _ => rfl)) (pe_ix ix_tup (pv 1) pe_int (fun _ _ => rfl))) (pe_one (pe_callB (cr_all rfl) (by rfl) T.b_all bt_all (pa_cons (pe_lc (own := [("card", 2)]) (g := (gName 2)) (tt := tYes) rfl sc_is_three.nd (pi_tup (pv 1)) (blkOk_by (own := [("card", 2)]) (N := N_is_three) (sc := defScope s_is_three) (by decide +kernel)) (fun _ _ _ _ _ => (pg_name (i := 2) sc_is_three.nd rfl (Or.inl rfl))) (fun _ _ _ _ _ => pts_nil) (fun _ _ _ _ _ => (pe_cmpR (orK K (fun K => rIn K false) op_in_seq rfl) (pv 2) (pv 0) (by rfl)))) pa_nil))))))), ?_⟩
  have hd : ThD (a, b, c) = .tuple (DI [a, b, c]) := rfl
  rw [hd] at h2
  have hm : ∀ n ∈ [a, b, c], n ∈ ns := fun n hn => by
    rcases List.mem_cons.mp hn with rfl | hn
    · exact ha
    rcases List.mem_cons.mp hn with rfl | hn
    · exact hb
    rw [List.mem_singleton.mp hn]
    exact hcc
  refine q_when (b := false) (et_to (et_or (et_not (et_db (ed_isi (ed_var rfl h2) ev_c (fun _ _ => dp_tyT) kit_tt))) fun _ => et_or (et_db (ed_op (ed_lenT (ed_var rfl h2)) ed_i rd_neI)) fun _ => et_not (et_db (ed_all (bs := [a, b, c].map cardB) (ed_to (en_mapA PyData.int (fun i => .bool (cardB i)) (ii_tup (ed_var rfl h2)) (Nat.le_of_ble_eq_true rfl) (fun _ _ => rfl)
    fun y hy => tn1 (fun _ => rfl) fun v H2 e2 hv => ⟨et_yes, fun _ => ed_cl (es_cons (ed_var rfl hv) es_nil) ⟨y, rfl, rfl⟩⟩).toD (by rw [List.map_map] <;> rfl))))) (by rw [all_cards fun n hn => hc n (hm n hn)] <;> rfl)) (fun z => by cases z) fun _ H1 e1 => ?_
  have h2 := dp_ex e1 _ h2
  have h1 := dp_ex e1 _ h1
  refine s_retD (ed_to (ed_andV (ed_chain (ed_op (ed_var rfl h2) ed_i (rd_ixT (j := 0) rfl rfl)) (ed_op (ed_var rfl h2) ed_i (rd_ixT (j := 1) rfl rfl)) (ed_op (ed_var rfl h2) ed_i (rd_ixT (j := 2) rfl rfl)) rd_B0 rd_B0) fun _ =>
    ed_all (bs := [a, b, c].map fun i => decide (i ∈ ns)) (ed_to (en_mapA PyData.int (fun i => .bool (decide (i ∈ ns))) (ii_tup (ed_var rfl h2)) (Nat.le_of_ble_eq_true rfl) (fun _ _ => rfl)
    fun y hy => tn1 (fun _ => rfl) fun v H2 e2 hv => ⟨et_yes, fun _ => ed_op (ed_var rfl hv) (ed_var rfl (dp_ex e2 _ h1)) rd_inI⟩).toD (by rw [List.map_map] <;> rfl))) ?_) fun v H2 e2 => k v H2 (e1.trans e2)
  rw [List.all_eq_true.mpr fun b hb => by
    obtain ⟨i, hi, rfl⟩ := List.mem_map.mp hb
    exact decide_eq_true (hm i hi), decide_eq_true hab, decide_eq_true hbc] <;> rfl
def R_need_three (ds : List PyData) (d : PyData) : Prop := ∃ (ns : List Int) (a b c : Int), ds = [.list (DI ns), ThD (a, b, c)] ∧ (∀ n ∈ ns, cardB n = true) ∧ ns.length ≤ 24 ∧ a < b ∧ b < c ∧ a ∈ ns ∧ b ∈ ns ∧ c ∈ ns ∧ d = .none
theorem ok_need_three (T : Txt w K mg) : FR P w K mg base 3 (ga K "need_three") (spD K R_need_three) := by
  have G_is_three : FR P w K mg base 2 (ga K "is_three") (spD K R_is_three) := ok_is_three T
  refine okD T.f_need_three sc_need_three (fun _ _ _ _ _ _ us hl => match us, hl with | [_, _], _ => rfl) (fun ds d h => by obtain ⟨_, _, _, _, rfl, _⟩ := h; rfl) fun cdv A outer s H vs Q E ds d hr hv h k => ?_
  obtain ⟨ns, a, b, c, rfl, hc, hn, hab, hbc, ha, hb, hcc, rfl⟩ := h
  obtain ⟨v, v2, rfl, h1, h2⟩ := da2 hv
  refine ⟨_, (pss_one (ps_if (pt_not (pt_val (cl G_is_three (hr.mono (by decide)) T.g_is_three psN (pa_cons (pv 0) (pa_cons (pv 1) pa_nil))))) (pss_one ps_never) pss_nil)), ?_⟩
  exact s_when (b := false) (et_to (et_not (et_db (ed_cl (es_cons (ed_var rfl h1) (es_cons (ed_var rfl h2) es_nil)) ⟨ns, a, b, c, rfl, hc, hn, hab, hbc, ha, hb, hcc, rfl⟩))) rfl) (fun z => by cases z) fun _ H1 e1 => k _ H1 e1 .non
def R_may_change (ds : List PyData) (d : PyData) : Prop := ∃ (A B : List Int) (x y : Int), ds = [.list (DI (A ++ y :: x :: B)), PrD (x, y)] ∧ cardB x = true ∧ cardB y = true ∧ y ∉ A ∧ A.length ≤ 24 ∧ x < y ∧ d = .bool true
theorem ok_may_change (T : Txt w K mg) : FR P w K mg base 2 (ga K "may_change") (spD K R_may_change) := by
  have G_is_card : FR P w K mg base 1 (ga K "is_card") (spD K R_is_card) := ok_is_card T
  refine okD T.f_may_change sc_may_change (fun _ _ _ _ _ _ us hl => match us, hl with | [_, _], _ => rfl) (fun ds d h => by obtain ⟨_, _, _, _, rfl, _⟩ := h; rfl) fun cdv A outer s H vs Q E ds d hr hv h k => ?_
  obtain ⟨L, B, x, y, rfl, hx, hy, hn, hz, hxy, rfl⟩ := h
  obtain ⟨v, v2, rfl, h1, h2⟩ := da2 hv
  refine ⟨_, (pss_cons (ps_if (PW.pt (pw_or (pt_not (pt_val (pe_callB call_isi (by rfl) T.b_isinstance bt_isinstance (pa_cons (pv 1) (pa_cons (pe_bltn (v := .ty "tuple") (by rfl) T.b_tuple bt_tuple rfl) pa_nil))))) (pw_or (pt_cmpR op_ne (pe_callB call_len_seq (by rfl) T.b_len bt_len (pa_cons (pv 1) pa_nil)) pe_int (nomark _)) (pw_or1 (pt_not (pt_val (pe_callB (cr_all rfl) (by rfl) T.b_all bt_all (pa_cons (pe_lc (own := [("card", 4)]) (g := (gName 4)) (tt := tYes) rfl sc_may_change.nd (pi_tup (pv 1)) (blkOk_by (own := [("card", 4)]) (N := N_may_change) (sc := defScope s_may_change) (by decide +kernel)) (fun _ _ _ _ _ => (pg_name (i := 4) sc_may_change.nd rfl (Or.inl rfl))) (fun _ _ _ _ _ => pts_nil) (fun _ _ _ _ _ => (cl G_is_card (hr.mono (by decide)) T.g_is_card psN (pa_cons (pv 4) pa_nil)))) pa_nil)))))))) (pss_one (ps_ret pe_bl)) pss_nil)
      (pss_cons (ps_asg (pv 1) (pg_tup (by rfl) (pgs_cons (pg_name (i := 2) sc_may_change.nd rfl (Or.inl rfl)) (pgs_cons (pg_name (i := 3) sc_may_change.nd rfl (Or.inl rfl)) pgs_nil))))
      (pss_one (ps_ret (pe_and (pe_cmpR op_lt (pv 2) (pv 3) (nomark _)) (pe_and (pe_cmpR op_in_seq (pv 3) (pv 0) (by rfl)) (pe_one (pe_cmpR (op_eqD hr.units) (pe_slice sl_list (pe_slice sl_list (pv 0) (po_some (pe_op op_add (pe_bm PySem.F.plainAttrs_list PySem.F.slot_list_index PySem.F.type_list_index mt_index (pv 0) (pa_cons (pv 3) pa_nil)) pe_int)) po_none) po_none (po_some pe_int)) (pe_lst (pa_cons (pv 2) pa_nil)) (nomark _))))))))), ?_⟩
  have hd : PrD (x, y) = .tuple (DI [x, y]) := rfl
  rw [hd] at h2
  refine q_when (b := false) (et_to (et_or (et_not (et_db (ed_isi (ed_var rfl h2) ev_c (fun _ _ => dp_tyT) kit_tt))) fun _ => et_or (et_db (ed_op (ed_lenT (ed_var rfl h2)) ed_i rd_neI)) fun _ => et_not (et_db (ed_all (bs := [x, y].map cardB) (ed_to (en_mapA PyData.int (fun i => .bool (cardB i)) (ii_tup (ed_var rfl h2)) (Nat.le_of_ble_eq_true rfl) (fun _ _ => rfl)
    fun y hy => tn1 (fun _ => rfl) fun v H2 e2 hv => ⟨et_yes, fun _ => ed_cl (es_cons (ed_var rfl hv) es_nil) ⟨y, rfl, rfl⟩⟩).toD (by rw [List.map_map] <;> rfl))))) (by
      rw [show ([x, y].map cardB).all id = true from by simp [hx, hy]] <;> rfl)) (fun z => by cases z) fun _ H1 e1 => ?_
  have h2 := dp_ex e1 _ h2
  have h1 := dp_ex e1 _ h1
  refine ed_var (v := v2) (i := 1) rfl h2 H1 (Ex.refl H1) _ fun w0 H3 e3 hw => g_tup2 hw fun a b d1 d2 => ?_
  have h1 := dp_ex e3 _ h1
  refine s_retD (ed_to (ed_andV (ed_op (ed_var rfl d1) (ed_var rfl d2) rd_B0) fun _ => ed_andV (ed_op (ed_var rfl d2) (ed_var rfl h1) rd_inI) fun _ =>
    ed_op (en_to (en_sl (en_to (en_sl (ed_var rfl h1) (eo_d (ed_op (ed_ixI (ed_var rfl h1) (ed_var rfl d2) (at_mid L (x :: B) y) (first_mid hn)) ed_i rd_I0)) eo_none) (cutD_from PyData.int _ (L.length + 1) rfl)).toD eo_none (eo_d (K := K) ed_i)) (?_ : _ = DI [x])).toD (en_lst (es_cons (ed_var rfl d1) es_nil) (Nat.le_of_ble_eq_true rfl)).toD (rd_eqD (sh_DI _) (sh_DI [x]))) ?_) fun v H2 e2 => k v H2 ((e1.trans e3).trans e2)
  · rw [show L ++ y :: x :: B = (L ++ [y]) ++ x :: B by simp, List.drop_append_of_le_length (by simp), List.drop_of_length_le (by simp)]
    unfold cutD
    simp [HT.sIx]
  · rw [show (PyData.eqv (.list (DI [x])) (.list [.int x])) = true from by
      show PyData.eqv (.list (DI [x])) (.list (DI [x])) = true
      rw [eqv_DI, decide_eq_true rfl], decide_eq_true hxy, decide_eq_true (by simp)] <;> rfl
def R_led_by (ds es : List PyData) : Prop := ∃ (ns out : List Int) (ps : List (Int × Int)), ds = [.list (DI ns), .list (ps.map PrD)] ∧ (∀ n ∈ ns, cardB n = true) ∧ ns.Nodup ∧ ns.length ≤ 24 ∧ Led ns ps out ∧ es = DI out
theorem ok_led_by (T : Txt w K mg) : FR P w K mg base 3 (ga K "led_by") (spN K R_led_by) := by
  have G_may_change : FR P w K mg base 2 (ga K "may_change") (spD K R_may_change) := ok_may_change T
  refine okL T.f_led_by sc_led_by (fun _ _ _ _ _ _ us hl => match us, hl with | [_, _], _ => rfl) (fun ds d h => by obtain ⟨_, _, _, rfl, _⟩ := h; rfl) fun cdv A outer s H vs Q E ds es hr hv h k => ?_
  obtain ⟨ns, out, ps, rfl, hc, hnd, hz, hL, rfl⟩ := h
  obtain ⟨v, v2, rfl, h1, h2⟩ := da2 hv
  refine ⟨_, (pss_cons (ps_if (pt_not (pt_val (pe_callB call_isi (by rfl) T.b_isinstance bt_isinstance (pa_cons (pv 1) (pa_cons (pe_bltn (v := .ty "list") (by rfl) T.b_list bt_list rfl) pa_nil))))) (pss_one (ps_ret pe_non)) pss_nil)
      (pss_cons (ps_set (i := 2) sc_led_by.nd rfl (Or.inl rfl) (pe_callTy call_list_of (by rfl) T.b_list bt_list (pa_cons (pv 0) pa_nil)))
      (pss_cons (ps_for PassesOwn.never rfl (pi_list (pv 1)) (pg_name (i := 3) sc_led_by.nd rfl (Or.inl rfl)) (pss_cons (ps_if (pt_not (pt_val (cl G_may_change (hr.mono (by decide)) T.g_may_change psN (pa_cons (pv 2) (pa_cons (pv 3) pa_nil))))) (pss_one (ps_ret pe_non)) pss_nil)
      (pss_cons (ps_set (i := 4) sc_led_by.nd rfl (Or.inl rfl) (pe_bm PySem.F.plainAttrs_list PySem.F.slot_list_index PySem.F.type_list_index mt_index (pv 2) (pa_cons (pe_ix ix_tup (pv 3) pe_int (fun _ _ => rfl)) pa_nil)))
      (pss_one (ps_asg (pe_tup (pa_cons (pe_ix ix_list (pv 2) (pe_op op_add (pv 4) pe_int) (fun _ _ => rfl)) (pa_cons (pe_ix ix_list (pv 2) (pv 4) (fun _ _ => rfl)) pa_nil))) (pg_tup (by rfl) (pgs_cons (pg_sub (pv 2) (pv 4) set_list) (pgs_cons (pg_sub (pv 2) (pe_op op_add (pv 4) pe_int) set_list) pgs_nil))))))))
      (pss_one (ps_ret (pv 2)))))), ?_⟩
  refine q_when (b := false) (et_to (et_not (et_db (ed_isi (ed_var rfl h2) ev_c (fun _ _ => dp_tyL) kit_ll))) rfl) (fun z => by cases z) fun _ H1 e1 => ?_
  refine q_asgN (K := K) (en_list (ed_var rfl (dp_ex e1 _ h1))) fun l vs0 H2 hl e2 hl2 ha2 => ?_
  have e12 := e1.trans e2
  refine q_forV (H0 := H1) (iv_list (ev_var rfl) (dp_ex e1 _ h2)) e2 (fun i σ' H' => ∃ a b ms ws, σ' = [some v, some v2, some (.ref l), a, b] ∧ Ex H1 H' ∧ H' l = some (.lst ws) ∧ DpAll K H' ws (DI ms) ∧ Led ms (ps.drop i) out ∧ ms.Perm ns) (fun H3 e3 => ⟨_, _, ns, vs0, rfl, e2.trans e3, e3 _ _ hl2, da_ex e3 _ ha2, hL, List.Perm.refl _⟩) (fun i σ' H' _ ⟨a, b, ms, ws, _, p, _⟩ => p) ?_ ?_
  · rintro i d σ' H' x0 H3 hd ⟨_, _, ms, ws, rfl, p1, p2, p3, p4, p5⟩ e3 hx
    rw [List.getElem?_map] at hd
    cases hp : ps[i]? with
    | none =>
      rw [hp] at hd
      cases hd
    | some p =>
      rw [hp] at hd
      have e5 := Option.some.inj hd
      subst e5
      have hdr : ps.drop i = p :: ps.drop (i + 1) := by
        obtain ⟨h, e⟩ := List.getElem?_eq_some_iff.mp hp
        rw [← e, ← List.drop_eq_getElem_cons h]
      rw [hdr] at p4
      generalize hms : ms = ms0 at p4
      cases p4 with
      | @cons L B x y _ _ hxy t =>
        subst hms
        have hnd2 : (L ++ y :: x :: B).Nodup := p5.nodup_iff.mpr hnd
        have hmem : ∀ n ∈ L ++ y :: x :: B, cardB n = true := fun n hn => hc n (p5.mem_iff.mp hn)
        have hlen : L.length + (B.length + 2) ≤ 24 := by
          have := p5.length_eq
          simp at this
          omega
        have hml : Dp K H3 (.ref l) (.list (DI (L ++ y :: x :: B))) := .lst (.inl (.inl (e3 _ _ p2))) (da_ex e3 _ p3)
        show tSeq _ _ _ _ _
        refine q_when (b := false) (et_to (et_not (et_db (ed_cl (es_cons (ed_var rfl hml) (es_cons (ed_var rfl hx) es_nil)) ⟨L, B, x, y, rfl, hmem x (by simp), hmem y (by simp), nodup_notin hnd2, by omega, hxy, rfl⟩))) rfl) (fun z => by cases z) fun _ H4 e4 => ?_
        have hx4 : Dp K H4 x0 (.tuple [.int x, .int y]) := dp_ex e4 _ hx
        refine q_asgD (ed_ixI (ed_var rfl (dp_ex e4 _ hml)) (ed_op (ed_var rfl hx4) ed_i (rd_ixT (j := 1) rfl rfl)) (at_mid L (x :: B) y) (first_mid (nodup_notin hnd2))) fun vi H5 e5 hvi => ?_
        have hvi2 := dp_int hvi
        subst hvi2
        have hl5 : H5 l = some (.lst ws) := e5 _ _ (e4 _ _ (e3 _ _ p2))
        have ha5 := da_ex (e3.trans (e4.trans e5)) _ p3
        have hml5 : Dp K H5 (.ref l) (.list (DI (L ++ y :: x :: B))) := .lst (.inl (.inl hl5)) ha5
        have g1 : (DI (L ++ y :: x :: B))[L.length + 1]? = some (.int x) := by
          rw [List.getElem?_map, List.getElem?_append_right (by omega), show L.length + 1 - L.length = 1 by omega] <;> rfl
        have g0 : (DI (L ++ y :: x :: B))[L.length]? = some (.int y) := by
          rw [List.getElem?_map, at_mid] <;> rfl
        refine ed_tup (es_cons (ed_op (ed_var rfl hml5) (ed_op (ed_var rfl hvi) ed_i rd_I0) (rd_ixL (j := L.length + 1) rfl g1)) (es_cons (ed_op (ed_var rfl hml5) (ed_var rfl hvi) (rd_ixL (j := L.length) rfl g0)) es_nil)) (Nat.le_of_ble_eq_true rfl) H5 (Ex.refl H5) _ fun tv H6 e6 ht => ?_
        obtain ⟨ta, txs, rfl, hts, hta⟩ := dp_tup ht
        obtain ⟨u1, u2, rfl, hu1, hu2⟩ := da2 hta
        cases hu1
        cases hu2
        have hl6 : H6 l = some (.lst ws) := e6 _ _ hl5
        rw [da_ints ha5] at hl6
        refine ⟨ta, _, rfl, hts, rfl, _, _, rfl, ⟨_, rfl, _, rfl, l, _, _, L.length, rfl, rfl, hl6, ixN_nat (by simp), ?_⟩⟩
        refine ⟨_, _, rfl, ⟨_, rfl, _, rfl, _, _, rfl, rfl, l, _, _, L.length + 1, rfl, rfl, upd_same, ixN_nat (by simp), rfl, ?_⟩⟩
        have es : (((L ++ y :: x :: B).map V.int).set L.length (.int x)).set (L.length + 1) (.int y) = (L ++ x :: y :: B).map V.int := by
          rw [List.map_append, List.map_append, List.set_append_right _ _ (by simp), List.set_append_right _ _ (by simp)]
          simp
        refine ⟨_, _, L ++ x :: y :: B, _, rfl, Ex.mut (Ex.mut ((((p1.trans e3).trans e4).trans e5).trans e6) hl) hl, upd_same, ?_, t, (swap_perm _ _ _ _).trans p5⟩
        rw [es]
        exact ints_da _
  · rintro σ' H' ⟨_, _, ms, ws, rfl, p1, p2, p3, p4, p5⟩
    rw [List.drop_of_length_le (by rw [List.length_map]; omega)] at p4
    cases p4
    exact ⟨_, rfl, k l ws H' (fresh_back e1 hl) (e1.trans p1) p2 p3⟩
end
section
variable {K : PySem.W.Frag} {σ : K59.St} {H H' : Hp} {te ta tb tl : TE} {t u : TT} {d d1 d2 : PyData} {ds es : List PyData} {v : V}
def noneD : PyData → Bool
  | .none => true
  | _ => false
theorem non_noneD : ∀ {d : PyData} {x : V}, Dp K H x d → decide (x = .non) = noneD d
  | _, _, .non => rfl
  | _, _, .bl _ => rfl
  | _, _, .int _ => rfl
  | _, _, .str _ => rfl
  | _, _, .lst _ _ => rfl
  | _, _, .tup _ _ => rfl
theorem rd_isN : RD K (fun x y H Q => y = .non ∧ Q (.bl (decide (x = .non))) H) d .none H (.bool (noneD d)) := fun H1 _ x y hx hy _ q => by
  cases hy
  refine ⟨rfl, q _ H1 (Ex.refl H1) ?_⟩
  rw [non_noneD hx]
  exact .bl _
theorem rd_notN : RD K (fun x y H Q => y = .non ∧ Q (.bl (!decide (x = .non))) H) d .none H (.bool (!noneD d)) := fun H1 _ x y hx hy _ q => by
  cases hy
  refine ⟨rfl, q _ H1 (Ex.refl H1) ?_⟩
  rw [non_noneD hx]
  exact .bl _
end
def ixP {α : Type} [DecidableEq α] (p : α) : List α → Nat
  | [] => 0
  | q :: qs => if q = p then 0 else ixP p qs + 1
theorem ixP_get {α : Type} [DecidableEq α] {p : α} : ∀ {ps : List α}, p ∈ ps → ps[ixP p ps]? = some p
  | [], h => by cases h
  | q :: qs, h => by
    unfold ixP
    by_cases e : q = p
    · rw [if_pos e, e] <;> rfl
    · rw [if_neg e]
      have h2 : p ∈ qs := by
        rcases List.mem_cons.mp h with h | h
        · exact absurd h.symm e
        · exact h
      show qs[ixP p qs]? = some p
      exact ixP_get h2
theorem ixP_min {α : Type} [DecidableEq α] {p : α} : ∀ {ps : List α} (m : Nat), m < ixP p ps → ps[m]? ≠ some p
  | [], m, h => by cases h
  | q :: qs, m, h => by
    unfold ixP at h
    by_cases e : q = p
    · rw [if_pos e] at h
      cases h
    · rw [if_neg e] at h
      cases m with
      | zero =>
        intro z
        exact e (Option.some.inj z)
      | succ m =>
        show qs[m]? ≠ some p
        exact ixP_min m (by omega)
def whenD (wr hs : List (Int × Int)) (p : Int × Int) : PyData := if p ∈ wr then (if p ∈ hs then .int (ixP p hs : Nat) else .none) else .int (-1)
def ltD : PyData → PyData → Bool
  | .int i, .int j => decide (i < j)
  | _, _ => false
def wayT (w1 w2 : PyData) : Str :=
  if PyData.eqv (.list [w1, w2]) (.list [.int (-1), .int (-1)]) = true then "never" else if PyData.eqv (.list [w1, w2]) (.list [.none, .none]) = true then "open"
  else if (noneD w2 || (!noneD w1 && ltD w1 w2)) = true then "low" else "high"
theorem whenD_flat (wr hs : List (Int × Int)) (p : Int × Int) : whenD wr hs p = .none ∨ ∃ i, whenD wr hs p = .int i := by
  unfold whenD
  by_cases h : p ∈ wr
  · rw [if_pos h]
    by_cases h2 : p ∈ hs
    · rw [if_pos h2]
      exact .inr ⟨_, rfl⟩
    · rw [if_neg h2]
      exact .inl rfl
  · rw [if_neg h]
    exact .inr ⟨_, rfl⟩
theorem fl_noL {d : PyData} (h : d = .none ∨ ∃ i, d = .int i) : noL d = true := by
  rcases h with rfl | ⟨i, rfl⟩ <;> rfl
theorem sh_two {d e : PyData} (h : d = .none ∨ ∃ i, d = .int i) (h2 : e = .none ∨ ∃ i, e = .int i) : SeqAt.shaped (.list [d, e]) = true := by
  rcases h with rfl | ⟨i, rfl⟩ <;> rcases h2 with rfl | ⟨j, rfl⟩ <;> exact sh_of (by simp [PyData.canLay0, PyData.canLayAll0]) (by simp [PyData.depth, PyData.depthAll])
section
variable {P : Program} {w : World} {K : PySem.W.Frag} {mg : Str → Option Value} {base : Heap}
def R_is_history (ds : List PyData) (d : PyData) : Prop := ∃ (ns out : List Int) (ps : List (Int × Int)), ds = [.list (DI ns), .list (ps.map PrD)] ∧ RowOk ns ∧ Led ns ps out ∧ d = .bool true
theorem ok_is_history (T : Txt w K mg) : FR P w K mg base 4 (ga K "is_history") (spD K R_is_history) := by
  have G_need_row : FR P w K mg base 3 (ga K "need_row") (spD K R_need_row) := ok_need_row T
  have G_led_by : FR P w K mg base 3 (ga K "led_by") (spN K R_led_by) := ok_led_by T
  refine okD T.f_is_history sc_is_history (fun _ _ _ _ _ _ us hl => match us, hl with | [_, _], _ => rfl) (fun ds d h => by obtain ⟨_, _, _, rfl, _⟩ := h; rfl) fun cdv A outer s H vs Q E ds d hr hv h k => ?_
  obtain ⟨ns, out, ps, rfl, R, hL, rfl⟩ := h
  obtain ⟨v, v2, rfl, h1, h2⟩ := da2 hv
  refine ⟨_, (pss_cons (ps_expr (cl G_need_row (hr.mono (by decide)) T.g_need_row psN (pa_cons (pv 0) pa_nil)))
      (pss_one (ps_ret (pe_cmpR op_notN (cl G_led_by (hr.mono (by decide)) T.g_led_by psN (pa_cons (pv 0) (pa_cons (pv 1) pa_nil))) pe_non (nomark _))))), ?_⟩
  refine q_dropD (ed_cl (es_cons (ed_var rfl h1) es_nil) ⟨ns, rfl, R, rfl⟩) fun H1 e1 => ?_
  exact s_retD (ed_op (en_cl (R := R_led_by) (es_cons (ed_var rfl (dp_ex e1 _ h1)) (es_cons (ed_var rfl (dp_ex e1 _ h2)) es_nil)) ⟨ns, out, ps, rfl, R.cd, R.nd, R.hi, hL, rfl⟩).toD ed_n rd_notN) fun v H2 e2 => k v H2 (e1.trans e2)
def R_need_history (ds : List PyData) (d : PyData) : Prop := ∃ (ns out : List Int) (ps : List (Int × Int)), ds = [.list (DI ns), .list (ps.map PrD)] ∧ RowOk ns ∧ Led ns ps out ∧ d = .none
theorem ok_need_history (T : Txt w K mg) : FR P w K mg base 5 (ga K "need_history") (spD K R_need_history) := by
  have G_is_history : FR P w K mg base 4 (ga K "is_history") (spD K R_is_history) := ok_is_history T
  refine okD T.f_need_history sc_need_history (fun _ _ _ _ _ _ us hl => match us, hl with | [_, _], _ => rfl) (fun ds d h => by obtain ⟨_, _, _, rfl, _⟩ := h; rfl) fun cdv A outer s H vs Q E ds d hr hv h k => ?_
  obtain ⟨ns, out, ps, rfl, R, hL, rfl⟩ := h
  obtain ⟨v, v2, rfl, h1, h2⟩ := da2 hv
  refine ⟨_, (pss_one (ps_if (pt_not (pt_val (cl G_is_history (hr.mono (by decide)) T.g_is_history psN (pa_cons (pv 0) (pa_cons (pv 1) pa_nil))))) (pss_one ps_never) pss_nil)), ?_⟩
  exact s_when (b := false) (et_to (et_not (et_db (ed_cl (es_cons (ed_var rfl h1) (es_cons (ed_var rfl h2) es_nil)) ⟨ns, out, ps, rfl, R, hL, rfl⟩))) rfl) (fun z => by cases z) fun _ H1 e1 => k _ H1 e1 .non
def R_way_of (ds : List PyData) (d : PyData) : Prop := ∃ (wr hs : List (Int × Int)) (a b c : Int), ds = [.list (wr.map PrD), .list (hs.map PrD), ThD (a, b, c)] ∧ d = .str (wayT (whenD wr hs (a, b)) (whenD wr hs (b, c)))
theorem ok_way_of (T : Txt w K mg) : FR P w K mg base 1 (ga K "way_of") (spD K R_way_of) := by
  refine okD T.f_way_of sc_way_of (fun _ _ _ _ _ _ us hl => match us, hl with | [_, _, _], _ => rfl) (fun ds d h => by obtain ⟨_, _, _, _, _, rfl, _⟩ := h; rfl) fun cdv A outer s H vs Q E ds d hr hv h k => ?_
  obtain ⟨wr, hs, a, b, c, rfl, rfl⟩ := h
  obtain ⟨v, v2, v3, rfl, h1, h2, h3⟩ := da3 hv
  obtain ⟨_, hg_NEVER⟩ := T.v_NEVER
  obtain ⟨_, hg_OPEN⟩ := T.v_OPEN
  obtain ⟨_, hg_LOW⟩ := T.v_LOW
  obtain ⟨_, hg_HIGH⟩ := T.v_HIGH
  refine ⟨_, (pss_cons (ps_asg (pv 2) (pg_tup (by rfl) (pgs_cons (pg_name (i := 3) sc_way_of.nd rfl (Or.inl rfl)) (pgs_cons (pg_name (i := 4) sc_way_of.nd rfl (Or.inl rfl)) (pgs_cons (pg_name (i := 5) sc_way_of.nd rfl (Or.inl rfl)) pgs_nil)))))
      (pss_cons (ps_set (i := 6) sc_way_of.nd rfl (Or.inl rfl) (pe_lst pa_nil))
      (pss_cons (ps_for PassesOwn.never rfl (pi_list (pe_lst (pa_cons (pe_tup (pa_cons (pv 3) (pa_cons (pv 4) pa_nil))) (pa_cons (pe_tup (pa_cons (pv 4) (pa_cons (pv 5) pa_nil))) pa_nil)))) (pg_name (i := 7) sc_way_of.nd rfl (Or.inl rfl)) (pss_one (ps_expr (pe_bm PySem.F.plainAttrs_list PySem.F.slot_list_append PySem.F.type_list_append mt_append (pv 6) (pa_cons (pe_ifExp (pt_cmpR (op_notInD (hu65 hr)) (pv 7) (pv 0) (by rfl)) (pe_un un_neg pe_int) (pe_ifExp (pt_cmpR (op_inD (hu65 hr)) (pv 7) (pv 1) (by rfl)) (pe_bm PySem.F.plainAttrs_list PySem.F.slot_list_index PySem.F.type_list_index (mt_indexD (hu65 hr)) (pv 1) (pa_cons (pv 7) pa_nil)) pe_non)) pa_nil)))))
      (pss_cons (ps_if (pt_cmpR (op_eqD hr.units) (pv 6) (pe_lst (pa_cons (pe_un un_neg pe_int) (pa_cons (pe_un un_neg pe_int) pa_nil))) (nomark _)) (pss_one (ps_ret (pe_glob (v := .str "never") rfl hg_NEVER ⟨_, rfl⟩))) pss_nil)
      (pss_cons (ps_if (pt_cmpR (op_eqD hr.units) (pv 6) (pe_lst (pa_cons pe_non (pa_cons pe_non pa_nil))) (nomark _)) (pss_one (ps_ret (pe_glob (v := .str "open") rfl hg_OPEN ⟨_, rfl⟩))) pss_nil)
      (pss_cons (ps_asg (pv 6) (pg_unl rfl (pgs_cons (pg_name (i := 8) sc_way_of.nd rfl (Or.inl rfl)) (pgs_cons (pg_name (i := 9) sc_way_of.nd rfl (Or.inl rfl)) pgs_nil))))
      (pss_one (ps_ret (pe_ifExp (PW.pt (pw_or (pt_cmpR op_isN (pv 9) pe_non (nomark _)) (pw_or1 (PW.pt (pw_and (pt_cmpR op_notN (pv 8) pe_non (nomark _)) (pw_and1 (pt_cmpR op_lt (pv 8) (pv 9) (nomark _)))))))) (pe_glob (v := .str "low") rfl hg_LOW ⟨_, rfl⟩) (pe_glob (v := .str "high") rfl hg_HIGH ⟨_, rfl⟩)))))))))), ?_⟩
  refine ed_var (v := v3) (i := 2) rfl h3 H (Ex.refl H) _ fun w0 H1 e1 hw => g_tup3 hw fun x y z d1 d2 d3 => ?_
  cases d1
  cases d2
  cases d3
  refine q_asgN (K := K) (en_lst es_nil (Nat.zero_le _)) fun l vs0 H2 hl e2 hl2 ha2 => ?_
  cases ha2
  have e12 := e1.trans e2
  generalize hwf : whenD wr hs = wf
  have hl2' := hl2
  refine q_forN (K := K) (ds := [(a, b), (b, c)].map PrD) (D := { nx := _, rt := Q }) (en_lst (es_cons (ed_tup (es_cons (ed_var rfl (.int a)) (es_cons (ed_var rfl (.int b)) es_nil)) (Nat.le_of_ble_eq_true rfl)) (es_cons (ed_tup (es_cons (ed_var rfl (.int b)) (es_cons (ed_var rfl (.int c)) es_nil)) (Nat.le_of_ble_eq_true rfl)) es_nil)) (Nat.le_of_ble_eq_true rfl)) (PrD_noL _)
    (fun p us H3 i σ' H' => ∃ u ws, σ' = [some v, some v2, some v3, some (.int a), some (.int b), some (.int c), some (.ref l), u, none, none] ∧ Ex (upd H1 p (.lst us)) H' ∧ H' l = some (.lst ws) ∧ DpAll K H' ws ((([(a, b), (b, c)]).take i).map (whenD wr hs)) ∧ TSt H3 H')
    (fun p us H3 hp e3 h3 ha3 => ⟨_, _, rfl, ex_upd (e2.trans e3) h3, e3 _ _ hl2, .nil, TSt.refl⟩) (fun p us H3 i σ' H' _ ⟨u, ws, _, q1, q2, q3, q4⟩ => ⟨q1 _ _ upd_same, q4⟩) ?_ ?_
  · rintro p us H3 i d σ' H' x0 H4 hp e3 hd ⟨u, ws, rfl, q1, q2, q3, q4⟩ e4 hx
    have hpl : l ≠ p := fun z => by rw [z, hp] at hl2; cases hl2
    have hlp : (upd H1 p (.lst us)) l = none := by rw [upd_ne hpl, hl]
    have e14 : Ex H1 H4 := fun z o hz => e4 _ _ (q1 _ _ (by rw [upd_ne (fun hh => by rw [hh, fresh_back e2 hp] at hz; cases hz)]; exact hz))
    rw [List.getElem?_map] at hd
    cases hi : [(a, b), (b, c)][i]? with
    | none => rw [hi] at hd; cases hd
    | some pr =>
      rw [hi] at hd
      have e5 := Option.some.inj hd
      subst e5
      have h1' := dp_ex e14 _ (dp_ex e1 _ h1)
      have h2' := dp_ex e14 _ (dp_ex e1 _ h2)
      refine s_appD (d := whenD wr hs pr) (e4 _ _ q2) (da_ex e4 _ q3) (noLs_all fun d hd => by
        obtain ⟨z, _, rfl⟩ := List.mem_map.mp hd
        exact fl_noL (whenD_flat wr hs z)) (fl_noL (whenD_flat wr hs pr)) (ev_var rfl) (ed_if (b := decide (¬ pr ∈ wr)) (et_to (et_db (ed_op (ed_var rfl hx) (ed_var rfl h1') (rd_ninD (sh_Pr pr) (sh_Prs wr)))) (by rw [any_Pr, decide_not])) (fun z => ?_) (fun z => ?_)) (by rw [List.length_map, List.length_take]; simp; omega) fun ws2 H5 k1 k2 k3 k4 => ⟨_, ws2, rfl, k1 _ (fun z o hz => e4 _ _ (q1 z o hz)) hlp, k3, ?_, q4.trans ((Ex.ts e4).trans k2)⟩
      · have hz := of_decide_eq_true z
        rw [whenD, if_neg hz]
        exact d_i (ev_un ev_c ru_neg)
      · have hz : pr ∈ wr := by simpa using z
        refine ed_if (b := decide (pr ∈ hs)) (et_to (et_db (ed_op (ed_var rfl hx) (ed_var rfl h2') (rd_inD (sh_Pr pr) (sh_Prs hs)))) (any_Pr pr hs)) (fun z2 => ?_) (fun z2 => ?_)
        · have hz2 := of_decide_eq_true z2
          rw [whenD, if_pos hz, if_pos hz2]
          exact ed_ixP (ed_var rfl h2') (ed_var rfl hx) (ixP_get hz2) (fun m hm => ixP_min m hm)
        · have hz2 := of_decide_eq_false z2
          rw [whenD, if_pos hz, if_neg hz2]
          exact ed_n
      · rw [List.take_succ, hi, List.map_append]
        exact k4
  · rintro p us H3 σ' H' hp ⟨u, ws, rfl, q1, q2, q3, q4⟩
    have e1H : Ex H H' := fun z o hz => q1 _ _ (by rw [upd_ne (fun hh => by rw [hh, fresh_back e12 hp] at hz; cases hz)]; exact e1 _ _ hz)
    have q3 : DpAll K H' ws [whenD wr hs (a, b), whenD wr hs (b, c)] := q3
    have f1 := whenD_flat wr hs (a, b)
    have f2 := whenD_flat wr hs (b, c)
    generalize whenD wr hs (a, b) = w1 at *
    generalize whenD wr hs (b, c) = w2 at *
    have hw : Dp K H' (.ref l) (.list [w1, w2]) := .lst (.inl (.inl q2)) q3
    have m1 : ∀ H2, EvD K (tUn (rU fun i => V.int (-i)) (tC (V.int 1))) [some v, some v2, some v3, some (V.int a), some (V.int b), some (V.int c), some (V.ref l), u, none, none] H2 (.int (-1)) := fun H2 => d_i (ev_un ev_c ru_neg)
    refine q_when (b := PyData.eqv (.list [w1, w2]) (.list [.int (-1), .int (-1)])) (et_db (ed_op (ed_var rfl hw) (en_lst (es_cons (m1 _) (es_cons (m1 _) es_nil)) (Nat.le_of_ble_eq_true rfl)).toD (rd_eqD (sh_two f1 f2) (sh_DI [-1, -1])))) (fun z H6 e6 => s_retD ed_s fun v0 H7 e7 hv7 => k v0 H7 ((e1H.trans e6).trans e7) (by rw [wayT, if_pos z]; exact hv7)) fun z1 H6 e6 => ?_
    have hw := dp_ex e6 _ hw
    have e1H := e1H.trans e6
    refine q_when (b := PyData.eqv (.list [w1, w2]) (.list [.none, .none])) (et_db (ed_op (ed_var rfl hw) (en_lst (es_cons ed_n (es_cons ed_n es_nil)) (Nat.le_of_ble_eq_true rfl)).toD (rd_eqD (sh_two f1 f2) (sh_two (.inl rfl) (.inl rfl))))) (fun z H7 e7 => s_retD ed_s fun v0 H8 e8 hv7 => k v0 H8 ((e1H.trans e7).trans e8) (by rw [wayT, if_neg (by rw [z1]; decide), if_pos z]; exact hv7)) fun z2 H7 e7 => ?_
    have hw := dp_ex e7 _ hw
    have e1H := e1H.trans e7
    refine q_asgG (ed_var rfl hw) fun wv H8 e8 hw8 => ?_
    obtain ⟨a8, xs8, rfl, hs8, ha8⟩ := dp_lst hw8
    obtain ⟨y1, y2, rfl, g1, g2⟩ := da2 ha8
    refine ⟨a8, _, rfl, hs8, rfl, _, _, rfl, ⟨_, _, rfl, rfl, ?_⟩⟩
    refine s_retD (d := .str (if (noneD w2 || (!noneD w1 && ltD w1 w2)) = true then "low" else "high")) (ed_if (b := noneD w2 || (!noneD w1 && ltD w1 w2)) (et_or (et_db (ed_op (ed_var rfl g2) ed_n rd_isN)) fun hz => et_and (et_db (ed_op (ed_var rfl g1) ed_n rd_notN)) fun hz2 => ?_) (fun z => ?_) (fun z => ?_)) fun v0 H9 e9 hv9 => k v0 H9 ((e1H.trans e8).trans e9) (by rw [wayT, if_neg (by rw [z1]; decide), if_neg (by rw [z2]; decide)]; exact hv9)
    · rcases f1 with rfl | ⟨i, rfl⟩
      · cases hz2
      rcases f2 with rfl | ⟨j, rfl⟩
      · cases hz
      exact et_db (ed_op (ed_var rfl g1) (ed_var rfl g2) rd_B0)
    · rw [if_pos z]
      exact ed_s
    · rw [if_neg (by rw [z]; decide)]
      exact ed_s
def wayOf (ns : List Int) (ps : List (Int × Int)) (a b c : Int) : Str := wayT (whenD (wrongS ns) ps (a, b)) (whenD (wrongS ns) ps (b, c))
def R_way_by (ds : List PyData) (d : PyData) : Prop := ∃ (ns out : List Int) (ps : List (Int × Int)) (a b c : Int), ds = [.list (DI ns), .list (ps.map PrD), ThD (a, b, c)] ∧ RowOk ns ∧ Led ns ps out ∧ a < b ∧ b < c ∧ a ∈ ns ∧ b ∈ ns ∧ c ∈ ns ∧ d = .str (wayOf ns ps a b c)
theorem ok_way_by (T : Txt w K mg) : FR P w K mg base 6 (ga K "way_by") (spD K R_way_by) := by
  have G_need_history : FR P w K mg base 5 (ga K "need_history") (spD K R_need_history) := ok_need_history T
  have G_need_three : FR P w K mg base 3 (ga K "need_three") (spD K R_need_three) := ok_need_three T
  have G_way_of : FR P w K mg base 1 (ga K "way_of") (spD K R_way_of) := ok_way_of T
  have G_wrong_in : FR P w K mg base 1 (ga K "wrong_in") (spN K R_wrong_in) := ok_wrong_in T
  refine okD T.f_way_by sc_way_by (fun _ _ _ _ _ _ us hl => match us, hl with | [_, _, _], _ => rfl) (fun ds d h => by obtain ⟨_, _, _, _, _, _, rfl, _⟩ := h; rfl) fun cdv A outer s H vs Q E ds d hr hv h k => ?_
  obtain ⟨ns, out, ps, a, b, c, rfl, R, hL, hab, hbc, ha, hb, hc, rfl⟩ := h
  obtain ⟨v, v2, v3, rfl, h1, h2, h3⟩ := da3 hv
  refine ⟨_, (pss_cons (ps_expr (cl G_need_history (hr.mono (by decide)) T.g_need_history psN (pa_cons (pv 0) (pa_cons (pv 1) pa_nil))))
      (pss_cons (ps_expr (cl G_need_three (hr.mono (by decide)) T.g_need_three psN (pa_cons (pv 0) (pa_cons (pv 2) pa_nil))))
      (pss_one (ps_ret (cl G_way_of (hr.mono (by decide)) T.g_way_of psN (pa_cons (cl G_wrong_in (hr.mono (by decide)) T.g_wrong_in psN (pa_cons (pv 0) pa_nil)) (pa_cons (pv 1) (pa_cons (pv 2) pa_nil)))))))), ?_⟩
  refine q_dropD (ed_cl (es_cons (ed_var rfl h1) (es_cons (ed_var rfl h2) es_nil)) ⟨ns, out, ps, rfl, R, hL, rfl⟩) fun H1 e1 => ?_
  have h1 := dp_ex e1 _ h1
  have h2 := dp_ex e1 _ h2
  have h3 := dp_ex e1 _ h3
  refine q_dropD (ed_cl (es_cons (ed_var rfl h1) (es_cons (ed_var rfl h3) es_nil)) ⟨ns, a, b, c, rfl, R.cd, R.hi, hab, hbc, ha, hb, hc, rfl⟩) fun H2 e2 => ?_
  have h1 := dp_ex e2 _ h1
  have h2 := dp_ex e2 _ h2
  have h3 := dp_ex e2 _ h3
  exact s_retD (ed_cl (es_cons (en_cl (R := R_wrong_in) (es_cons (ed_var rfl h1) es_nil) ⟨ns, rfl, R.hi, rfl⟩).toD (es_cons (ed_var rfl h2) (es_cons (ed_var rfl h3) es_nil))) ⟨wrongS ns, ps, a, b, c, rfl, rfl⟩) fun v H3 e3 => k v H3 ((e1.trans e2).trans e3)
end
end K59

set_option Elab.async false
set_option linter.all false
set_option maxRecDepth 100000
set_option maxHeartbeats 4000000
/-! texts -/
namespace K59
open PySem PySem.Spec PyProof.Rows L2 Evl He
/-! ### rules -/
section
variable {X : Cx} {e o : Expr} {te td : TE} {d : Addr} {es : Array DictEntry} {n : Nat} {apos cpos : Pos}
def tKGet (K : PySem.W.Frag) (d : Addr) (td te : TE) : TE := fun σ H Q => td σ H fun x H1 => x = .ref d ∧ te σ H1 fun y H2 => ∃ (z : Str) (u0 : Value) (v0 : V), y = .str z ∧ PySem.W.nsIn K d z = some (some u0) ∧ RelV v0 u0 ∧ Q v0 H2
theorem pe_kget (D : KDict X.K X.w d es n) (ho : PE X o td) (he : PE X e te) (m : M1 X o "get" apos e cpos := by exact ⟨by rfl, by rfl, by rfl, by rfl⟩) : PE X (.Call (.Attribute o "get" apos) [e] [] cpos) (tKGet X.K d td te) := by
  refine ⟨fun pins s σ H Q I h => ?_⟩
  refine wpAny_Call_method m.base m.few m.line PySem.F.plainAttrs_dict PySem.F.slot_dict_get PySem.F.type_dict_get (thn (ho.run pins s σ H _ I h) fun u s1 ⟨x, H1, I1, rx, ex, q1⟩ => ?_)
  subst ex
  obtain rfl : u = Value.ref d := rx
  refine ⟨kd_type D I1, fun b q => ?_, ?_⟩
  · cases q
    exact ⟨_, I1.kIn _ _ D.at_, rfl⟩
  rw [m.trees]
  refine Calls.callWith_builtin rfl (Calls.evalArgs_plain (Calls.spliced_cons (thn (he.run pins s1 σ H1 _ I1 q1) fun iv s2 ⟨y, H2, I2, ry, z, u0, v0, ey, ez, rv, q2⟩ => Calls.spliced_nil ?_)))
  subst ey
  obtain ⟨t, rfl⟩ := ry
  refine call_meetsIn PySem.F.slot_dict_get (kd_type D I2) PySem.F.entry_dict_get (PySem.F.args_dict_get_2 _ _) (meets_dict_get (strKind X.prog X.w) d (PySem.strKind_is X.prog X.w z t) D.low) ⟨_, PySem.W.mapOf_K (prog := X.prog) I2.kIn D.at_ D.lit, v0, H2, I2.tok _, ?_, q2⟩
  rw [PySem.W.find_K D.at_ ez]
  exact rv
end
section
variable {X : Cx} {tg e : Expr} {w1 w2 : TI}
theorem pi_or (h1 : PI X tg e w1) (h2 : PI X tg e w2) : PI X tg e (fun σ H R => w1 σ H R ∨ w2 σ H R) := ⟨fun pins s σ H R I h => h.elim (fun q => h1.run pins s σ H R I q) (fun q => h2.run pins s σ H R I q)⟩
end
section
variable {X : Cx} {a b c : Expr} {ta tb tc : TT} {pos : Pos}
def tIfT (tc ta tb : TT) : TT := fun σ H Q => tc σ H fun k H1 => if k = true then ta σ H1 Q else tb σ H1 Q
theorem pt_ifE (hc : PT X c tc) (ha : PT X a ta) (hb : PT X b tb) : PT X (.IfExp c a b pos) (tIfT tc ta tb) := by
  refine ⟨fun pins s σ H Q I h => PyProof.Rows.isTrue_IfExp (thn (hc.run pins s σ H _ I h) fun d s1 ⟨H1, I1, q1⟩ => ?_)⟩
  cases d with
  | true => exact ha.run pins s1 σ H1 Q I1 q1
  | false => exact hb.run pins s1 σ H1 Q I1 q1
theorem et_ifE {σ : K59.St} {H : Hp} {k r : Bool} (h : EvT tc σ H k) (h1 : k = true → EvT ta σ H r) (h2 : k = false → EvT tb σ H r) : EvT (tIfT tc ta tb) σ H r := fun H1 e Q q => h H1 e _ fun H2 e2 => by
  cases k with
  | true =>
    show ta σ H2 Q
    exact h1 rfl H2 (e.trans e2) Q fun H3 e3 => q H3 (e2.trans e3)
  | false =>
    show tb σ H2 Q
    exact h2 rfl H2 (e.trans e2) Q fun H3 e3 => q H3 (e2.trans e3)
end
/-! ### numbers as texts -/
def numT (i : Int) : Str := Str.ofString (toString i)
theorem card_nat {i : Int} (h : cardB i = true) : ∃ n : Nat, i = (n : Int) ∧ n < 10 ^ 9 := by
  unfold cardB at h
  rw [Bool.and_eq_true, decide_eq_true_eq, decide_eq_true_eq] at h
  exact ⟨i.toNat, by omega, by omega⟩
theorem card_of {i : Int} (h0 : 0 ≤ i) (h1 : i ≤ 999999999) : cardB i = true := by
  unfold cardB
  rw [decide_eq_true h0, decide_eq_true h1] <;> rfl
theorem numT_tl (n : Nat) : (numT (n : Int)).cps.toList = TL.numL n := TL.tl_num n
theorem numT_len {i : Int} (h : cardB i = true) : (numT i).length ≤ 9 := by
  obtain ⟨n, rfl, hn⟩ := card_nat h
  rw [show (numT (n : Int)).length = (TL.numL n).length from by rw [← numT_tl, Array.length_toList] <;> rfl]
  exact TL.numL_len (by decide) hn
theorem numT_pos {i : Int} (h : cardB i = true) : 1 ≤ (numT i).length := by
  obtain ⟨n, rfl, hn⟩ := card_nat h
  rw [show (numT (n : Int)).length = (TL.numL n).length from by rw [← numT_tl, Array.length_toList] <;> rfl]
  have := List.length_pos_iff.mpr (TL.numL_ne n)
  omega
theorem numT_free {i : Int} {c : Nat} (h : cardB i = true) (hc : c < 48 ∨ 57 < c) : c ∉ (numT i).cps.toList := by
  obtain ⟨n, rfl, hn⟩ := card_nat h
  rw [numT_tl]
  exact TL.numL_free hc
theorem numT_int {i : Int} (h : cardB i = true) : intText? (numT i) = some i := by
  obtain ⟨n, rfl, hn⟩ := card_nat h
  exact TL.int_num (Nat.le_trans (TL.numL_len (k := 9) (by decide) hn) (by decide))
theorem numT_inj {i j : Int} (h : cardB i = true) (h2 : cardB j = true) (e : numT i = numT j) : i = j := by
  have a := numT_int h
  rw [e, numT_int h2] at a
  exact (Option.some.inj a).symm
theorem numL_head : ∀ n : Nat, 0 < n → ∃ c r, TL.numL n = c :: r ∧ c ≠ 48 := by
  intro n
  induction n using Nat.strongRecOn with
  | _ n ih =>
    intro hn
    by_cases h : n < 10
    · rw [TL.numL_lt h]
      exact ⟨_, _, rfl, by omega⟩
    · rw [TL.numL_step (by omega)]
      obtain ⟨c, r, e, hc⟩ := ih (n / 10) (by omega) (by omega)
      rw [e]
      exact ⟨c, _, rfl, hc⟩
theorem log_card {i : Int} (h : cardB i = true) : i.natAbs.log2 < 1920 := by
  obtain ⟨n, rfl, hn⟩ := card_nat h
  rw [Int.natAbs_natCast]
  have := Nat.log2_lt (n := n) (k := 1920)
  by_cases h0 : n = 0
  · rw [h0]
    decide
  · exact (Nat.log2_lt h0).mpr (Nat.lt_of_lt_of_le hn (by
      refine Nat.le_trans (show 10 ^ 9 ≤ 2 ^ 30 by decide) (Nat.pow_le_pow_right (by decide) (by decide))))
/-! ### readings -/
section
variable {K : PySem.W.Frag} {σ : K59.St} {H H' : Hp} {te ta tb tl : TE} {t u : TT} {d d1 d2 : PyData} {ds es : List PyData} {v : V}
theorem ii_or1 {w1 w2 : TI} (h : IsIt K w1 σ H ds) : IsIt K (fun σ H R => w1 σ H R ∨ w2 σ H R) σ H ds := fun H1 e R r => .inl (h H1 e R r)
theorem ii_or2 {w1 w2 : TI} (h : IsIt K w2 σ H ds) : IsIt K (fun σ H R => w1 σ H R ∨ w2 σ H R) σ H ds := fun H1 e R r => .inr (h H1 e R r)
theorem ed_slT {tlo thi : TO} {lo hi : Option Int} (h : EvD K te σ H (.tuple ds)) (h1 : EvO tlo σ H lo) (h2 : EvO thi σ H hi) (hw : ¬ (HT.sIx ds.length 0 lo = 0 ∧ HT.sIx ds.length ds.length hi = ds.length)) : EvD K (tSl (rSlT K) te tlo thi) σ H (.tuple (cutD ds lo hi)) := fun H1 e _ q =>
  h H1 e _ fun v H2 e2 hv => h1 H2 (e.trans e2) _ fun H3 e3 => h2 H3 ((e.trans e2).trans e3) _ fun H4 e4 => by
    obtain ⟨a, xs, rfl, hs, ha⟩ := dp_tup (dp_ex (e3.trans e4) _ hv)
    exact ⟨a, xs, rfl, hs, by rw [da_len ha]; exact hw, fun p hp => q _ _ (((e2.trans e3).trans e4).trans (Ex.new hp)) (.tup (.inl (.inl upd_same)) (da_ex (Ex.new hp) _ (da_cut ha)))⟩
theorem ed_lenS {z : Str} (h : EvD K te σ H (.str z)) (hz : z.length ≤ 100000) : EvD K (tCB (fun xs H Q => ∃ z, xs = [.str z] ∧ z.length ≤ sizeLine ∧ Q (.int z.length) H) (tCons te tNil)) σ H (.int (z.length : Int)) := fun H1 e Q q => h H1 e _ fun x H2 e2 hx => by
  cases hx
  exact ⟨z, rfl, sz_of hz, q _ H2 e2 (.int _)⟩
theorem ed_strI {i : Int} (h : EvD K te σ H (.int i)) (hi : cardB i = true) : EvD K (tCB (fun xs H Q => ∃ i, xs = [.int i] ∧ i.natAbs.log2 < 1920 ∧ Q (.str (toString i)) H) (tCons te tNil)) σ H (.str (numT i)) := fun H1 e Q q => h H1 e _ fun x H2 e2 hx => by
  cases hx
  exact ⟨i, rfl, log_card hi, q _ H2 e2 (.str _)⟩
theorem ed_intS {i : Int} (h : EvD K te σ H (.str (numT i))) (hi : cardB i = true) : EvD K (tCB (fun xs H Q => ∃ a n, xs = [.str a] ∧ PySem.intText? a = some n ∧ a.length ≤ 640 ∧ Q (.int n) H) (tCons te tNil)) σ H (.int i) := fun H1 e Q q => h H1 e _ fun x H2 e2 hx => by
  cases hx
  exact ⟨_, i, rfl, numT_int hi, Nat.le_trans (numT_len hi) (by decide), q _ H2 e2 (.int _)⟩
theorem rd_inSg {c : Nat} {z : Str} : RD K (fun x y H Q => ∃ (c : Nat) (z : Str), x = .str ⟨#[c]⟩ ∧ y = .str z ∧ Q (.bl (decide (c ∈ z.cps.toList))) H) (.str ⟨#[c]⟩) (.str z) H (.bool (decide (c ∈ z.cps.toList))) := fun H1 _ x y hx hy _ q => by
  cases hx; cases hy
  exact ⟨c, z, rfl, rfl, q _ H1 (Ex.refl H1) (.bl _)⟩
theorem rd_ixS {z : Str} {i : Int} {j c : Nat} (hz : z.length ≤ 100000) (hi : i = (j : Int)) (hj : z.cps.toList[j]? = some c) : RD K rIxS (.str z) (.int i) H (.str ⟨#[c]⟩) := fun H1 _ x y hx hy _ q => by
  cases hx; cases hy
  subst hi
  exact ⟨z, _, c, rfl, rfl, sz_of hz, atI_nat hj, q _ H1 (Ex.refl H1) (.str _)⟩
theorem rd_addS {a b : Str} (hz : a.length + b.length ≤ 100000) : RD K (fun x y H Q => ∃ i j, x = .str i ∧ y = .str j ∧ i.length + j.length ≤ sizeLine ∧ Q (.str (i ++ j)) H) (.str a) (.str b) H (.str (a ++ b)) := fun H1 _ x y hx hy _ q => by
  cases hx; cases hy
  exact ⟨a, b, rfl, rfl, sz_of hz, q _ H1 (Ex.refl H1) (.str _)⟩
theorem ed_join {a : Str} {ys : List Str} (ha : EvD K ta σ H (.str a)) (hb : EvD K tb σ H (.list (ys.map PyData.str))) (hz : (ys.map (·.length)).sum + ys.length * a.length ≤ 16777216) : EvD K (tM1 (rJoin K) ta tb) σ H (.str (Txt.join a ys)) := fun H1 e Q q =>
  ha H1 e _ fun x H2 e2 hx => by
    cases hx
    refine ⟨⟨a, rfl⟩, hb H2 (e.trans e2) _ fun y H3 e3 hy => ?_⟩
    obtain ⟨p, xs, rfl, hs, h⟩ := dp_lst hy
    rw [da_strs h] at hs
    exact ⟨a, p, ys, rfl, rfl, .inl hs, hz, q _ H3 (e2.trans e3) (.str _)⟩
theorem ed_joinT {a : Str} {ys : List Str} (ha : EvD K ta σ H (.str a)) (hb : EvD K tb σ H (.tuple (ys.map PyData.str))) (hz : (ys.map (·.length)).sum + ys.length * a.length ≤ 16777216) : EvD K (tM1 (rJoin K) ta tb) σ H (.str (Txt.join a ys)) := fun H1 e Q q =>
  ha H1 e _ fun x H2 e2 hx => by
    cases hx
    refine ⟨⟨a, rfl⟩, hb H2 (e.trans e2) _ fun y H3 e3 hy => ?_⟩
    obtain ⟨p, xs, rfl, hs, h⟩ := dp_tup hy
    rw [da_strs h] at hs
    exact ⟨a, p, ys, rfl, rfl, .inr hs, hz, q _ H3 (e2.trans e3) (.str _)⟩
theorem en_split {a b : Str} (ha : EvD K ta σ H (.str a)) (hb : EvD K tb σ H (.str b)) (h0 : (b.length == 0) = false) (hz : a.length ≤ 100000) : EvN K (tM1 (fun x xs H Q => ∃ a b, x = .str a ∧ xs = [.str b] ∧ (b.length == 0) = false ∧ a.length + 2 ≤ sizeLine ∧ rNewStrs (Txt.split a b) H Q) ta tb) σ H ((Txt.split a b).map PyData.str) := fun H1 e Q q =>
  ha H1 e _ fun x H2 e2 hx => by
    cases hx
    refine ⟨⟨a, rfl⟩, hb H2 (e.trans e2) _ fun y H3 e3 hy => ?_⟩
    cases hy
    refine ⟨a, b, rfl, rfl, h0, ?_, fun p hp => q p _ _ (fresh_back (e2.trans e3) hp) ((e2.trans e3).trans (Ex.new hp)) upd_same (strs_da _)⟩
    have : (100002 : Nat) ≤ sizeLine := by decide
    omega
end
theorem sum_le {α : Type} (f : α → Nat) (b : Nat) : ∀ xs : List α, (∀ x ∈ xs, f x ≤ b) → (xs.map f).sum ≤ xs.length * b
  | [], _ => by simp
  | x :: xs, h => by
    have h1 := h x List.mem_cons_self
    have h2 := sum_le f b xs fun y hy => h y (List.mem_cons_of_mem _ hy)
    rw [List.map_cons, List.sum_cons, List.length_cons, Nat.succ_mul]
    omega
def joinI (g : Str) (ns : List Int) : Str := Txt.join g (ns.map numT)
section
variable {P : Program} {w : World} {K : PySem.W.Frag} {mg : Str → Option Value} {base : Heap}
theorem signs_all (z : Str) (h : ∀ c ∈ z.cps.toList, 48 ≤ c ∧ c ≤ 57) : (z.cps.toList.map fun c => decide (c ∈ ("0123456789" : Str).cps.toList)).all id = true := List.all_eq_true.mpr fun b hb => by
  obtain ⟨c, hc, rfl⟩ := List.mem_map.mp hb
  obtain ⟨h1, h2⟩ := h c hc
  have : ∀ n, n < 58 → 48 ≤ n → n ∈ ("0123456789" : Str).cps.toList := by decide
  exact decide_eq_true (this c (by omega) h1)
def R_number_in (ds : List PyData) (d : PyData) : Prop := ∃ i : Int, ds = [.str (numT i)] ∧ cardB i = true ∧ d = .int i
theorem ok_number_in (T : Txt w K mg) : FR P w K mg base 1 (ga K "number_in") (spD K R_number_in) := by
  refine okD T.f_number_in sc_number_in (fun _ _ _ _ _ _ us hl => match us, hl with | [_], _ => rfl) (fun ds d h => by obtain ⟨i, rfl, _⟩ := h; rfl) fun cdv A outer s H vs Q E ds d hr hv h k => ?_
  obtain ⟨i, rfl, hi, rfl⟩ := h
  obtain ⟨v, rfl, h1⟩ := da1 hv
  obtain ⟨_, hg_MOST_FIGURES⟩ := T.v_MOST_FIGURES
  obtain ⟨_, hg_FIGURES⟩ := T.v_FIGURES
  refine ⟨_, (pss_cons (ps_if (PW.pt (pw_or (pt_not (pt_chain op_le op_le pe_int (pe_callB call_len_str (by rfl) T.b_len bt_len (pa_cons (pv 0) pa_nil)) (pe_glob (v := .int 9) rfl hg_MOST_FIGURES ⟨_, rfl⟩))) (pw_or1 (pt_not (pt_val (pe_callB (cr_all rfl) (by rfl) T.b_all bt_all (pa_cons (pe_lc (own := [("sign", 1)]) (g := (gName 1)) (tt := tYes) rfl sc_number_in.nd (pi_str (pv 0)) (blkOk_by (own := [("sign", 1)]) (N := N_number_in) (sc := defScope s_number_in) (by decide +kernel)) (fun _ _ _ _ _ => (pg_name (i := 1) sc_number_in.nd rfl (Or.inl rfl))) (fun _ _ _ _ _ => pts_nil) (fun _ _ _ _ _ => (pe_cmpR op_in_sign (pv 1) (pe_glob (v := .str "0123456789") rfl hg_FIGURES ⟨_, rfl⟩) (by rfl)))) pa_nil))))))) (pss_one (ps_ret pe_non)) pss_nil)
      (pss_one (ps_ret (pe_ifExp (PW.pt (pw_and (pt_cmpR op_eq (pe_ix ix_str (pv 0) pe_int (fun _ _ => rfl)) pe_str (nomark _)) (pw_and1 (pt_cmpR op_gt (pe_callB call_len_str (by rfl) T.b_len bt_len (pa_cons (pv 0) pa_nil)) pe_int (nomark _))))) pe_non (pe_callTy call_int_str (by rfl) T.b_int bt_int (pa_cons (pv 0) pa_nil)))))), ?_⟩
  have l1 := numT_len hi
  have l0 := numT_pos hi
  obtain ⟨n, hn, hn9⟩ := card_nat hi
  have hdig : ∀ c ∈ (numT i).cps.toList, 48 ≤ c ∧ c ≤ 57 := fun c hc => by
    rw [hn, numT_tl] at hc
    exact TL.numL_digits n c hc
  refine q_when (b := false) (et_to (et_or (et_not (et_d (ed_chain ed_i (ed_lenS (ed_var rfl h1) (by omega)) ed_i rd_B0 rd_B0))) fun _ => et_not (et_db (ed_all (bs := (numT i).cps.toList.map fun c => decide (c ∈ ("0123456789" : Str).cps.toList))
    (ed_to (en_mapA (fun c : Nat => PyData.str ⟨#[c]⟩) (fun c => .bool (decide (c ∈ ("0123456789" : Str).cps.toList))) (ii_str (ed_var rfl h1)) (by rw [Array.length_toList]; exact Nat.le_trans l1 (by decide)) (fun _ _ => rfl)
      fun c hc => tn1 (fun _ => rfl) fun v H2 e2 hv => ⟨et_yes, fun _ => ed_op (ed_var rfl hv) ed_s rd_inSg⟩).toD (by rw [List.map_map] <;> rfl))))) ?_) (fun z => by cases z) fun _ H1 e1 => ?_
  · rw [signs_all _ hdig, decide_eq_true (show (1 : Int) ≤ ((numT i).length : Int) by omega), decide_eq_true (show ((numT i).length : Int) ≤ 9 by omega)] <;> rfl
  · have h1 := dp_ex e1 _ h1
    obtain ⟨c, r, hcr, hc⟩ : ∃ c r, (numT i).cps.toList = c :: r ∧ (c = 48 → r = []) := by
      rw [hn, numT_tl]
      by_cases h0 : n = 0
      · rw [h0]
        exact ⟨48, [], by rw [TL.numL_lt (by decide)], fun _ => rfl⟩
      · obtain ⟨c, r, e, hc⟩ := numL_head n (by omega)
        exact ⟨c, r, e, fun z => absurd z hc⟩
    have hlen : (numT i).length = (c :: r).length := by
      rw [← hcr, Array.length_toList] <;> rfl
    refine s_retD (ed_if (b := false) (et_to (et_and (et_db (ed_op (ed_op (ed_var rfl h1) ed_i (rd_ixS (j := 0) (c := c) (by omega) rfl (by rw [hcr] <;> rfl))) ed_s rd_eqS)) fun z => et_db (ed_op (ed_lenS (ed_var rfl h1) (by omega)) ed_i rd_B0)) ?_) (fun z => by cases z) fun _ => ed_intS (ed_var rfl h1) hi) fun v H2 e2 => k v H2 (e1.trans e2)
    by_cases h48 : c = 48
    · have hr := hc h48
      rw [hlen, hr, Bool.and_eq_false_iff]
      exact .inr (decide_eq_false (by show ¬ (1 : Int) < ((1 : Nat) : Int); omega))
    · rw [Bool.and_eq_false_iff]
      refine .inl (decide_eq_false fun z => h48 ?_)
      have := congrArg (fun x : Str => x.cps.toList) z
      exact (List.cons.inj this).1
def R_do_rise (ds : List PyData) (d : PyData) : Prop := ∃ x y : Int, ds = [PrD (x, y), .int 2] ∧ cardB x = true ∧ cardB y = true ∧ x < y ∧ d = .bool true
theorem ok_do_rise (T : Txt w K mg) : FR P w K mg base 2 (ga K "do_rise") (spD K R_do_rise) := by
  have G_is_card : FR P w K mg base 1 (ga K "is_card") (spD K R_is_card) := ok_is_card T
  refine okD T.f_do_rise sc_do_rise (fun _ _ _ _ _ _ us hl => match us, hl with | [_, _], _ => rfl) (fun ds d h => by obtain ⟨_, _, rfl, _⟩ := h; rfl) fun cdv A outer s H vs Q E ds d hr hv h k => ?_
  obtain ⟨x, y, rfl, hx, hy, hxy, rfl⟩ := h
  obtain ⟨v, v2, rfl, h1, h2⟩ := da2 hv
  refine ⟨_, (pss_cons (ps_if (PW.pt (pw_or (pt_not (pt_val (pe_callB call_isi (by rfl) T.b_isinstance bt_isinstance (pa_cons (pv 0) (pa_cons (pe_bltn (v := .ty "tuple") (by rfl) T.b_tuple bt_tuple rfl) pa_nil))))) (pw_or (pt_cmpR op_ne (pe_callB call_len_seq (by rfl) T.b_len bt_len (pa_cons (pv 0) pa_nil)) (pv 1) (nomark _)) (pw_or1 (pt_not (pt_val (pe_callB (cr_all rfl) (by rfl) T.b_all bt_all (pa_cons (pe_lc (own := [("card", 4)]) (g := (gName 4)) (tt := tYes) rfl sc_do_rise.nd (pi_tup (pv 0)) (blkOk_by (own := [("card", 4)]) (N := N_do_rise) (sc := defScope s_do_rise) (by decide +kernel)) (fun _ _ _ _ _ => (pg_name (i := 4) sc_do_rise.nd rfl (Or.inl rfl))) (fun _ _ _ _ _ => pts_nil) (fun _ _ _ _ _ => (cl G_is_card (hr.mono (by decide)) T.g_is_card psN (pa_cons (pv 4) pa_nil)))) pa_nil)))))))) (pss_one (ps_ret pe_bl)) pss_nil)
      (pss_one (ps_ret (pe_callB (cr_all rfl) (by rfl) T.b_all bt_all (pa_cons (pe_lc (own := [("one", 2), ("other", 3)]) (g := (gTup K 2 (gCons (gName 2) (gCons (gName 3) gNil)))) (tt := tYes) rfl sc_do_rise.nd (RZ.pi_zipA (by rfl) T.b_zip (pa_cons (pv 0) (pa_cons (pe_slice sl_tup (pv 0) (po_some pe_int) po_none) pa_nil))) (blkOk_by (own := [("one", 2), ("other", 3)]) (N := N_do_rise) (sc := defScope s_do_rise) (by decide +kernel)) (fun _ _ _ _ _ => (pg_tup (by rfl) (pgs_cons (pg_name (i := 2) sc_do_rise.nd rfl (Or.inl rfl)) (pgs_cons (pg_name (i := 3) sc_do_rise.nd rfl (Or.inl rfl)) pgs_nil)))) (fun _ _ _ _ _ => pts_nil) (fun _ _ _ _ _ => (pe_cmpR op_lt (pv 2) (pv 3) (nomark _)))) pa_nil))))), ?_⟩
  have hd : PrD (x, y) = .tuple (DI [x, y]) := rfl
  rw [hd] at h1
  refine q_when (b := false) (et_to (et_or (et_not (et_db (ed_isi (ed_var rfl h1) ev_c (fun _ _ => dp_tyT) kit_tt))) fun _ => et_or (et_db (ed_op (ed_lenT (ed_var rfl h1)) (ed_var rfl h2) rd_neI)) fun _ => et_not (et_db (ed_all (bs := [x, y].map cardB) (ed_to (en_mapA PyData.int (fun i => .bool (cardB i)) (ii_tup (ed_var rfl h1)) (Nat.le_of_ble_eq_true rfl) (fun _ _ => rfl)
    fun y hy => tn1 (fun _ => rfl) fun v H2 e2 hv => ⟨et_yes, fun _ => ed_cl (es_cons (ed_var rfl hv) es_nil) ⟨y, rfl, rfl⟩⟩).toD (by rw [List.map_map] <;> rfl))))) (by
      rw [show ([x, y].map cardB).all id = true from by simp [hx, hy]] <;> rfl)) (fun z => by cases z) fun _ H1 e1 => ?_
  have h1 := dp_ex e1 _ h1
  refine s_retD (ed_to (ed_all (bs := [decide (x < y)]) (ed_to (en_mapA (fun p : Int × Int => .tuple [.int p.1, .int p.2]) (xs := [(x, y)]) (fun p => .bool (decide (p.1 < p.2))) (ii_zipT (ds := DI [x, y]) (es := [.int y]) (ed_var rfl h1) ?_) (Nat.le_of_ble_eq_true rfl) (fun _ _ => rfl)
    fun p hp => tn2 (fun _ _ => rfl) fun a b H2 e2 ha hb => ⟨et_yes, fun _ => ed_op (ed_var rfl ha) (ed_var rfl hb) rd_B0⟩).toD rfl)) (by simp [hxy])) fun v H2 e2 => k v H2 (e1.trans e2)
  exact ed_slT (ed_var rfl h1) (eo_d (K := K) ed_i) eo_none fun h => Nat.noConfusion (show (1 : Nat) = 0 from h.1)
def R_joined (ds : List PyData) (d : PyData) : Prop := ∃ (ns : List Int) (g : Str), (ds = [.list (DI ns), .str g] ∨ ds = [.tuple (DI ns), .str g]) ∧ (∀ n ∈ ns, cardB n = true) ∧ ns.length ≤ 1000 ∧ g.length ≤ 9 ∧ d = .str (joinI g ns)
theorem ok_joined (T : Txt w K mg) : FR P w K mg base 1 (ga K "joined") (spD K R_joined) := by
  refine okD T.f_joined sc_joined (fun _ _ _ _ _ _ us hl => match us, hl with | [_, _], _ => rfl) (fun ds d h => by obtain ⟨_, _, rfl | rfl, _⟩ := h <;> rfl) fun cdv A outer s H vs Q E ds d hr hv h k => ?_
  obtain ⟨ns, g, hds, hc, hn, hg, rfl⟩ := h
  refine ⟨_, (pss_one (ps_ret (pe_joinK K rfl (pv 1) (pe_lc (own := [("card", 2)]) (g := (gName 2)) (tt := tYes) rfl sc_joined.nd (pi_or (pi_list (pv 0)) (pi_tup (pv 0))) (blkOk_by (own := [("card", 2)]) (N := N_joined) (sc := defScope s_joined) (by decide +kernel)) (fun _ _ _ _ _ => (pg_name (i := 2) sc_joined.nd rfl (Or.inl rfl))) (fun _ _ _ _ _ => pts_nil) (fun _ _ _ _ _ => (pe_callTy call_str_int (by rfl) T.b_str bt_str (pa_cons (pv 2) pa_nil))))))), ?_⟩
  have hb : ((ns.map numT).map (·.length)).sum + (ns.map numT).length * g.length ≤ 16777216 := by
    have h1 := sum_le (fun i : Int => (numT i).length) 9 ns fun i hi => numT_len (hc i hi)
    have h2 : ns.length * g.length ≤ 1000 * 9 := Nat.mul_le_mul hn hg
    rw [List.map_map, List.length_map]
    have h3 : ns.length * 9 ≤ 1000 * 9 := Nat.mul_le_mul_right 9 hn
    have h4 : (ns.map ((fun x : Str => x.length) ∘ numT)).sum ≤ ns.length * 9 := h1
    omega
  rcases hds with rfl | rfl <;> obtain ⟨v, v2, rfl, h1, h2⟩ := da2 hv
  · exact s_retD (ed_join (ys := ns.map numT) (ed_var rfl h2) (ed_to (en_mapA PyData.int (fun i => .str (numT i)) (ii_or1 (ii_list (ed_var rfl h1))) (by omega) (fun _ _ => rfl)
      fun y hy => tn1 (fun _ => rfl) fun v H2 e2 hv => ⟨et_yes, fun _ => ed_strI (ed_var rfl hv) (hc y hy)⟩).toD (by rw [List.map_map] <;> rfl)) hb) k
  · exact s_retD (ed_join (ys := ns.map numT) (ed_var rfl h2) (ed_to (en_mapA PyData.int (fun i => .str (numT i)) (ii_or2 (ii_tup (ed_var rfl h1))) (by omega) (fun _ _ => rfl)
      fun y hy => tn1 (fun _ => rfl) fun v H2 e2 hv => ⟨et_yes, fun _ => ed_strI (ed_var rfl hv) (hc y hy)⟩).toD (by rw [List.map_map] <;> rfl)) hb) k
/-- plain signs -/
def Sm (w : Str) : Prop := ∀ c ∈ w.cps.toList, c < 256
theorem Sm.ok {w : Str} (h : Sm w) : PyData.strOk w = true := by
  unfold PyData.strOk
  rw [← Array.all_toList]
  exact List.all_eq_true.mpr fun c hc => decide_eq_true (by have := h c hc; omega)
theorem sm_num {i : Int} (h : cardB i = true) : Sm (numT i) := fun c hc => by
  obtain ⟨n, rfl, hn⟩ := card_nat h
  rw [numT_tl] at hc
  have := TL.numL_digits n c hc
  omega
theorem sm_app {a b : Str} (ha : Sm a) (hb : Sm b) : Sm (a ++ b) := fun c hc => by
  have e : (a ++ b).cps.toList = a.cps.toList ++ b.cps.toList := TL.tl_append a b
  rw [e] at hc
  rcases List.mem_append.mp hc with h | h
  · exact ha c h
  · exact hb c h
theorem sm_join {g : Str} (hg : Sm g) : ∀ {ws : List Str}, (∀ w ∈ ws, Sm w) → Sm (Txt.join g ws)
  | [], _ => by
    rw [TL.join_eq]
    intro c hc
    cases hc
  | [x], h => by
    rw [TL.join_eq]
    exact h x List.mem_cons_self
  | x :: y :: r, h => by
    have h2 := sm_join hg (ws := y :: r) fun w hw => h w (List.mem_cons_of_mem _ hw)
    rw [TL.join_eq] at h2 ⊢
    show Sm (x ++ g ++ Str.join g (y :: r))
    exact sm_app (sm_app (h x List.mem_cons_self) hg) h2
theorem sm_of {w : Str} (h : w.cps.toList.all (fun c => decide (c < 256)) = true) : Sm w := fun c hc => of_decide_eq_true (List.all_eq_true.mp h c hc)
theorem sm_joinI {g : Str} (hg : Sm g) {ns : List Int} (h : ∀ n ∈ ns, cardB n = true) : Sm (joinI g ns) := sm_join hg fun w hw => by
  obtain ⟨i, hi, rfl⟩ := List.mem_map.mp hw
  exact sm_num (h i hi)
theorem lay_strs : ∀ {ws : List Str}, (∀ w ∈ ws, Sm w) → PyData.canLayAll0 (ws.map PyData.str) = true
  | [], _ => by simp [PyData.canLayAll0]
  | w :: ws, h => by
    have h1 := (h w List.mem_cons_self).ok
    have h2 := lay_strs fun z hz => h z (List.mem_cons_of_mem _ hz)
    simp only [List.map_cons, PyData.canLayAll0, PyData.canLay0, h1, h2] <;> rfl
theorem sh_strs {ws : List Str} (h : ∀ w ∈ ws, Sm w) : SeqAt.shaped (.list (ws.map PyData.str)) = true := sh_of (by simp only [PyData.canLay0]; exact lay_strs h) (by
  have := dep_map PyData.str (fun _ => by simp [PyData.depth]) ws
  simp only [PyData.depth]
  omega)
theorem eqv_strs0 (ws : List Str) : PyData.eqv (.list (ws.map PyData.str)) (.list []) = decide (ws = []) := by
  cases ws <;> simp [PyData.eqv, PyData.eqvAll]
theorem sh_nil : SeqAt.shaped (.list []) = true := sh_DI []
def textOf (ws : List Str) (z : Str) : Str := if ws = [] then z else Txt.join " " ws
theorem jb_of {ws : List Str} {g : Str} {b : Nat} (h : ∀ w ∈ ws, w.length ≤ b) (hn : ws.length ≤ 1000) (hb : b ≤ 1000) (hg : g.length ≤ 9) : (ws.map (·.length)).sum + ws.length * g.length ≤ 16777216 := by
  have h1 := sum_le (fun i : Str => i.length) b ws h
  have h2 : ws.length * g.length ≤ 1000 * 9 := Nat.mul_le_mul hn hg
  have h3 : ws.length * b ≤ 1000 * 1000 := Nat.mul_le_mul hn hb
  omega
def R_text_of (ds : List PyData) (d : PyData) : Prop := ∃ ws : List Str, ds = [.list (ws.map PyData.str)] ∧ (∀ w ∈ ws, Sm w) ∧ (∀ w ∈ ws, w.length ≤ 100) ∧ ws.length ≤ 1000 ∧ d = .str (textOf ws "-")
theorem ok_text_of (T : Txt w K mg) : FR P w K mg base 1 (ga K "text_of") (spD K R_text_of) := by
  refine okD T.f_text_of sc_text_of (fun _ _ _ _ _ _ us hl => match us, hl with | [_], _ => rfl) (fun ds d h => by obtain ⟨_, rfl, _⟩ := h; rfl) fun cdv A outer s H vs Q E ds d hr hv h k => ?_
  obtain ⟨ws, rfl, hsm, hw, hn, rfl⟩ := h
  obtain ⟨v, rfl, h1⟩ := da1 hv
  obtain ⟨_, hg_NOTHING⟩ := T.v_NOTHING
  refine ⟨_, (pss_one (ps_ret (pe_ifExp (pt_cmpR (op_neD hr.units) (pv 0) (pe_lst pa_nil) (nomark _)) (pe_joinK K rfl pe_str (pv 0)) (pe_glob (v := .str "-") rfl hg_NOTHING ⟨_, rfl⟩)))), ?_⟩
  refine s_retD (ed_if (b := !decide (ws = [])) (et_to (et_db (ed_op (ed_var rfl h1) (en_lst es_nil (Nat.zero_le _)).toD (rd_neD (sh_strs hsm) sh_nil))) (by rw [eqv_strs0])) (fun z => ?_) (fun z => ?_)) k
  · have hz : ¬ ws = [] := by simpa using z
    rw [textOf, if_neg hz]
    exact ed_join ed_s (ed_var rfl h1) (jb_of hw hn (by decide) (by decide))
  · have hz : ws = [] := by simpa using z
    rw [textOf, if_pos hz]
    exact ed_s
def R_listed (ds : List PyData) (d : PyData) : Prop := ∃ ws : List Str, ds = [.list (ws.map PyData.str)] ∧ (∀ w ∈ ws, Sm w) ∧ (∀ w ∈ ws, w.length ≤ 100) ∧ ws.length ≤ 1000 ∧ d = .str (textOf ws "none")
theorem ok_listed (T : Txt w K mg) : FR P w K mg base 1 (ga K "listed") (spD K R_listed) := by
  refine okD T.f_listed sc_listed (fun _ _ _ _ _ _ us hl => match us, hl with | [_], _ => rfl) (fun ds d h => by obtain ⟨_, rfl, _⟩ := h; rfl) fun cdv A outer s H vs Q E ds d hr hv h k => ?_
  obtain ⟨ws, rfl, hsm, hw, hn, rfl⟩ := h
  obtain ⟨v, rfl, h1⟩ := da1 hv
  refine ⟨_, (pss_one (ps_ret (pe_ifExp (pt_cmpR (op_neD hr.units) (pv 0) (pe_lst pa_nil) (nomark _)) (pe_joinK K rfl pe_str (pv 0)) pe_str))), ?_⟩
  refine s_retD (ed_if (b := !decide (ws = [])) (et_to (et_db (ed_op (ed_var rfl h1) (en_lst es_nil (Nat.zero_le _)).toD (rd_neD (sh_strs hsm) sh_nil))) (by rw [eqv_strs0])) (fun z => ?_) (fun z => ?_)) k
  · have hz : ¬ ws = [] := by simpa using z
    rw [textOf, if_neg hz]
    exact ed_join ed_s (ed_var rfl h1) (jb_of hw hn (by decide) (by decide))
  · have hz : ws = [] := by simpa using z
    rw [textOf, if_pos hz]
    exact ed_s
def R_need (ds : List PyData) (d : PyData) : Prop := ds = [.bool true] ∧ d = .none
theorem ok_need (T : Txt w K mg) : FR P w K mg base 1 (ga K "need") (spD K R_need) := by
  refine okD T.f_need sc_need (fun _ _ _ _ _ _ us hl => match us, hl with | [_], _ => rfl) (fun ds d h => by obtain ⟨rfl, _⟩ := h; rfl) fun cdv A outer s H vs Q E ds d hr hv h k => ?_
  obtain ⟨rfl, rfl⟩ := h
  obtain ⟨v, rfl, h1⟩ := da1 hv
  refine ⟨_, (pss_one (ps_if (pt_not (pt_val (pv 0))) (pss_one ps_never) pss_nil)), ?_⟩
  exact s_when (b := false) (et_to (et_not (et_db (ed_var rfl h1))) rfl) (fun z => by cases z) fun _ H1 e1 => k _ H1 e1 .non
theorem append_len (a b : Str) : (a ++ b).length = a.length + b.length := by
  rw [← SX.S_tl a, ← SX.S_tl b, SX.S_cat, SX.S_len, SX.S_len, SX.S_len, List.length_append]
theorem join_len {g : Str} {b : Nat} : ∀ {ws : List Str}, (∀ w ∈ ws, w.length ≤ b) → (Txt.join g ws).length ≤ ws.length * (b + g.length)
  | [], _ => by
    rw [TL.join_eq]
    exact Nat.zero_le _
  | [x], h => by
    have := h x List.mem_cons_self
    rw [TL.join_eq]
    show x.length ≤ 1 * (b + g.length)
    omega
  | x :: y :: r, h => by
    have h1 := h x List.mem_cons_self
    have h2 := join_len (g := g) (b := b) (ws := y :: r) fun w hw => h w (List.mem_cons_of_mem _ hw)
    rw [TL.join_eq] at h2 ⊢
    show (x ++ g ++ Str.join g (y :: r)).length ≤ _
    rw [append_len, append_len, List.length_cons, Nat.succ_mul]
    omega
theorem joinI_len {g : Str} {ns : List Int} (h : ∀ n ∈ ns, cardB n = true) : (joinI g ns).length ≤ ns.length * (9 + g.length) := by
  have := join_len (g := g) (b := 9) (ws := ns.map numT) fun w hw => by
    obtain ⟨i, hi, rfl⟩ := List.mem_map.mp hw
    exact numT_len (h i hi)
  rw [List.length_map] at this
  exact this
def histT (ps : List (Int × Int)) : Str := textOf (ps.map fun p => joinI "-" [p.1, p.2]) "-"
def PsOk (ps : List (Int × Int)) : Prop := ∀ p ∈ ps, cardB p.1 = true ∧ cardB p.2 = true ∧ p.1 < p.2
def R_show_history (ds : List PyData) (d : PyData) : Prop := ∃ ps : List (Int × Int), ds = [.list (ps.map PrD)] ∧ PsOk ps ∧ ps.length ≤ 1000 ∧ d = .str (histT ps)
theorem pair_cards {p : Int × Int} (h : cardB p.1 = true ∧ cardB p.2 = true ∧ p.1 < p.2) : ∀ n ∈ [p.1, p.2], cardB n = true := fun n hn => by
  rcases List.mem_cons.mp hn with rfl | hn
  · exact h.1
  · rw [List.mem_singleton.mp hn]
    exact h.2.1
theorem ok_show_history (T : Txt w K mg) : FR P w K mg base 3 (ga K "show_history") (spD K R_show_history) := by
  have G_need : FR P w K mg base 1 (ga K "need") (spD K R_need) := ok_need T
  have G_do_rise : FR P w K mg base 2 (ga K "do_rise") (spD K R_do_rise) := ok_do_rise T
  have G_text_of : FR P w K mg base 1 (ga K "text_of") (spD K R_text_of) := ok_text_of T
  have G_joined : FR P w K mg base 1 (ga K "joined") (spD K R_joined) := ok_joined T
  refine okD T.f_show_history sc_show_history (fun _ _ _ _ _ _ us hl => match us, hl with | [_], _ => rfl) (fun ds d h => by obtain ⟨_, rfl, _⟩ := h; rfl) fun cdv A outer s H vs Q E ds d hr hv h k => ?_
  obtain ⟨ps, rfl, hp, hn, rfl⟩ := h
  obtain ⟨v, rfl, h1⟩ := da1 hv
  refine ⟨_, (pss_cons (ps_expr (cl G_need (hr.mono (by decide)) T.g_need psN (pa_cons (pe_and (pe_callB call_isi (by rfl) T.b_isinstance bt_isinstance (pa_cons (pv 0) (pa_cons (pe_bltn (v := .ty "list") (by rfl) T.b_list bt_list rfl) pa_nil))) (pe_one (pe_callB (cr_all rfl) (by rfl) T.b_all bt_all (pa_cons (pe_lc (own := [("pair", 1)]) (g := (gName 1)) (tt := tYes) rfl sc_show_history.nd (pi_list (pv 0)) (blkOk_by (own := [("pair", 1)]) (N := N_show_history) (sc := defScope s_show_history) (by decide +kernel)) (fun _ _ _ _ _ => (pg_name (i := 1) sc_show_history.nd rfl (Or.inl rfl))) (fun _ _ _ _ _ => pts_nil) (fun _ _ _ _ _ => (cl G_do_rise (hr.mono (by decide)) T.g_do_rise psN (pa_cons (pv 1) (pa_cons pe_int pa_nil))))) pa_nil)))) pa_nil)))
      (pss_one (ps_ret (cl G_text_of (hr.mono (by decide)) T.g_text_of psN (pa_cons (pe_lc (own := [("pair", 1)]) (g := (gName 1)) (tt := tYes) rfl sc_show_history.nd (pi_list (pv 0)) (blkOk_by (own := [("pair", 1)]) (N := N_show_history) (sc := defScope s_show_history) (by decide +kernel)) (fun _ _ _ _ _ => (pg_name (i := 1) sc_show_history.nd rfl (Or.inl rfl))) (fun _ _ _ _ _ => pts_nil) (fun _ _ _ _ _ => (cl G_joined (hr.mono (by decide)) T.g_joined psN (pa_cons (pv 1) (pa_cons pe_str pa_nil))))) pa_nil))))), ?_⟩
  refine q_dropD (ed_cl (R := R_need) (d := .none) (ds := [.bool true]) (es_cons (ed_to (ed_andV (ed_isi (ed_var rfl h1) ev_c (fun _ _ => dp_tyL) kit_ll) fun _ => ed_all (bs := ps.map fun _ => true) (ed_to (en_mapA PrD (fun _ => .bool true) (ii_list (ed_var rfl h1)) (by omega) (fun _ _ => rfl)
    fun p hp' => tn1 (fun _ => rfl) fun v H2 e2 hv => ⟨et_yes, fun _ => ed_cl (es_cons (ed_var rfl hv) (es_cons ed_i es_nil)) ⟨p.1, p.2, rfl, (hp p hp').1, (hp p hp').2.1, (hp p hp').2.2, rfl⟩⟩).toD (by rw [List.map_map] <;> rfl))) (by rw [List.all_eq_true.mpr fun b hb => by
      obtain ⟨_, _, rfl⟩ := List.mem_map.mp hb
      rfl] <;> rfl)) es_nil) ⟨rfl, rfl⟩) fun H1 e1 => ?_
  have h1 := dp_ex e1 _ h1
  refine s_retD (ed_cl (R := R_text_of) (es_cons (ed_to (en_mapA PrD (fun p => .str (joinI "-" [p.1, p.2])) (ii_list (ed_var rfl h1)) (by omega) (fun _ _ => rfl)
    fun p hp' => tn1 (fun _ => rfl) fun v H2 e2 hv => ⟨et_yes, fun _ => ed_cl (es_cons (ed_var rfl hv) (es_cons ed_s es_nil)) ⟨[p.1, p.2], "-", .inr rfl, pair_cards (hp p hp'), Nat.le_of_ble_eq_true rfl, by decide, rfl⟩⟩).toD (congrArg PyData.list (List.map_map (g := PyData.str) (f := fun p : Int × Int => joinI "-" [p.1, p.2])).symm)) es_nil)
    ⟨_, rfl, fun w hw => by
      obtain ⟨p, hp', rfl⟩ := List.mem_map.mp hw
      exact sm_joinI (sm_of (by decide)) (pair_cards (hp p hp')), fun w hw => by
      obtain ⟨p, hp', rfl⟩ := List.mem_map.mp hw
      have := joinI_len (g := "-") (pair_cards (hp p hp'))
      exact Nat.le_trans this (Nat.le_of_ble_eq_true rfl), by rw [List.length_map]; exact hn, rfl⟩) fun v H2 e2 => k v H2 (e1.trans e2)
/-- a row of words -/
def rowT (w : Str) (ns : List Int) : Str := Txt.join " " (w :: ns.map numT)
def WordOk (w : Str) (ns : List Int) : Prop := (w = "net" ∧ ns ≠ []) ∨ (w ≠ "net" ∧ (w, Dv.int ns.length) ∈ numV)
theorem words_free : ∀ p ∈ numV, 32 ∉ p.1.cps.toList ∧ p.1.length ≤ 9 := by decide
theorem word_free {w : Str} {ns : List Int} (h : WordOk w ns) : 32 ∉ w.cps.toList ∧ w.length ≤ 9 := by
  rcases h with ⟨rfl, _⟩ | ⟨_, h⟩
  · decide
  · exact words_free _ h
theorem row_split {w : Str} {ns : List Int} (h : 32 ∉ w.cps.toList) (hc : ∀ n ∈ ns, cardB n = true) : Txt.split (rowT w ns) " " = w :: ns.map numT :=
  TL.split_join (y := " ") (s := 32) (S := []) rfl (by rw [← Array.all_toList]; decide) (by simp) fun p hp => by
    rcases List.mem_cons.mp hp with rfl | hp
    · exact h
    · obtain ⟨i, hi, rfl⟩ := List.mem_map.mp hp
      exact numT_free (hc i hi) (.inl (by decide))
theorem eqv_ints0 (ns : List Int) : PyData.eqv (.list (DI ns)) (.list []) = decide (ns = []) := eqv_DI ns []
def R_words_of (ds : List PyData) (d : PyData) : Prop := ∃ (w : Str) (ns : List Int), ds = [.str (rowT w ns)] ∧ WordOk w ns ∧ (∀ n ∈ ns, cardB n = true) ∧ ns.length ≤ 24 ∧ d = .tuple [.str w, .list (DI ns)]
theorem ok_words_of (T : Txt w K mg) : FR P w K mg base 2 (ga K "words_of") (spD K R_words_of) := by
  have G_number_in : FR P w K mg base 1 (ga K "number_in") (spD K R_number_in) := ok_number_in T
  refine okD T.f_words_of sc_words_of (fun _ _ _ _ _ _ us hl => match us, hl with | [_], _ => rfl) (fun ds d h => by obtain ⟨_, _, rfl, _⟩ := h; rfl) fun cdv A outer s H vs Q E ds d hr hv h k => ?_
  obtain ⟨wd, ns, rfl, hw, hc, hn, rfl⟩ := h
  obtain ⟨v, rfl, h1⟩ := da1 hv
  obtain ⟨_, _, hNUM⟩ := T.numD
  obtain ⟨hf, hl⟩ := word_free hw
  refine ⟨_, (pss_cons (ps_if (pt_not (pt_val (pe_callB call_isi (by rfl) T.b_isinstance bt_isinstance (pa_cons (pv 0) (pa_cons (pe_bltn (v := .ty "str") (by rfl) T.b_str bt_str rfl) pa_nil))))) (pss_one ps_never) pss_nil)
      (pss_cons (ps_asg (pe_split (pv 0) pe_str) (pg_star rfl (pgs_cons (pg_name (i := 1) sc_words_of.nd rfl (Or.inl rfl)) (pgs_cons (pg_name (i := 2) sc_words_of.nd rfl (Or.inl rfl)) pgs_nil))))
      (pss_cons (ps_setLc (i := 3) (own := [("one", 4)]) (g := (gName 4)) (tt := tYes) rfl sc_words_of.nd rfl rfl (sw_true rfl rfl rfl (by decide +kernel)) (pi_list (pv 2)) (blkOk_by (own := [("one", 4)]) (N := N_words_of) (sc := defScope s_words_of) (by decide +kernel)) (fun _ _ _ _ _ => (pg_name (i := 4) sc_words_of.nd rfl (Or.inl rfl))) (fun _ _ _ _ _ => pts_nil) (fun _ _ _ _ _ => (cl G_number_in (hr.mono (by decide)) T.g_number_in psN (pa_cons (pv 4) pa_nil))))
      (pss_cons (ps_if (PW.pt (pw_or (pt_cmpR op_in_seq pe_non (pv 3) (by rfl)) (pw_or1 (pt_ifE (pt_cmpR op_eq (pv 1) pe_str (nomark _)) (pt_cmpR (op_eqD hr.units) (pv 3) (pe_lst pa_nil) (nomark _)) (pt_cmpR op_ne (pe_kget hNUM (pe_glob (v := .ref (ga K "NUMBERS")) rfl T.c_NUMBERS rfl) (pv 1)) (pe_callB call_len_seq (by rfl) T.b_len bt_len (pa_cons (pv 3) pa_nil)) (nomark _)))))) (pss_one ps_never) pss_nil)
      (pss_one (ps_ret (pe_tup (pa_cons (pv 1) (pa_cons (pv 3) pa_nil))))))))), ?_⟩
  refine q_when (b := false) (et_to (et_not (et_db (ed_isi (ed_var rfl h1) ev_c ty_str kit_ss))) rfl) (fun z => by cases z) fun _ H1 e1 => ?_
  have h1 := dp_ex e1 _ h1
  have hlen : (rowT wd ns).length ≤ 1000 := by
    have := join_len (g := " ") (b := 9) (ws := wd :: ns.map numT) fun w hw => by
      rcases List.mem_cons.mp hw with rfl | hw
      · exact hl
      · obtain ⟨i, hi, rfl⟩ := List.mem_map.mp hw
        exact numT_len (hc i hi)
    rw [List.length_cons, List.length_map] at this
    have h2 : (ns.length + 1) * (9 + (" " : Str).length) ≤ 25 * 10 := Nat.mul_le_mul (by omega) (by decide)
    exact Nat.le_trans this (by omega)
  refine en_split (K := K) (ed_var rfl h1) ed_s rfl (by omega) H1 (Ex.refl H1) _ fun p vs0 H2 hp e2 h2 hv2 => ?_
  rw [row_split hf hc] at hv2
  cases hv2 with
  | cons hz hzs =>
    rename_i z zs
    have hzl : zs.length = ns.length := by rw [da_len hzs, List.length_map, List.length_map]
    refine ⟨p, z, zs, rfl, sq_of h2, by omega, fun p2 hp2 => ⟨_, _, rfl, _, _, rfl, rfl, ?_⟩⟩
    have e3 : Ex H2 (upd H2 p2 (.lst zs)) := Ex.new hp2
    have hz := dp_ex e3 _ hz
    have hr2 : Dp K (upd H2 p2 (.lst zs)) (.ref p2) (.list ((ns.map numT).map PyData.str)) := .lst (.inl (.inl upd_same)) (da_ex e3 _ hzs)
    refine q_asgN (K := K) (en_to (en_mapA (fun i : Int => PyData.str (numT i)) PyData.int (xs := ns) (ii_list (ed_to (ed_var rfl hr2) (by rw [List.map_map] <;> rfl))) (by omega) (fun _ _ => rfl)
      fun i hi => tn1 (fun _ => rfl) fun v H2 e2 hv => ⟨et_yes, fun _ => ed_cl (es_cons (ed_var rfl hv) es_nil) ⟨i, rfl, hc i hi, rfl⟩⟩) rfl) fun q vs3 H4 hq e4 h4 hv4 => ?_
    have hz := dp_ex e4 _ hz
    have hq4 : Dp K H4 (.ref q) (.list (DI ns)) := .lst (.inl (.inl h4)) hv4
    refine q_when (b := false) (et_or (a := false) (b := false) (et_db (ed_op ed_n (ed_var rfl hq4) rd_inN)) fun _ => et_ifE (k := decide (wd = "net")) (et_db (ed_op (ed_var rfl hz) ed_s rd_eqS)) (fun z1 => ?_) (fun z1 => ?_)) (fun z => by cases z) fun _ H5 e5 => ?_
    · refine et_to (et_db (ed_op (ed_var rfl hq4) (en_lst es_nil (Nat.zero_le _)).toD (rd_eqD (sh_DI ns) sh_nil))) ?_
      rw [eqv_ints0]
      rcases hw with ⟨_, h⟩ | ⟨h, _⟩
      · rw [decide_eq_false h]
      · exact absurd (of_decide_eq_true z1) h
    · have hin : (wd, Dv.int ns.length) ∈ numV := by
        rcases hw with ⟨h, _⟩ | ⟨_, h⟩
        · exact absurd h (of_decide_eq_false z1)
        · exact h
      obtain ⟨u, hu1, hu2⟩ := valsB_ok (Bool.and_eq_true_iff.mp T.exq).1 hin
      refine et_to (et_db (ed_op (d1 := .int ns.length) (fun H6 e6 Q6 q6 => ⟨rfl, ed_var rfl hz H6 e6 _ fun v H7 e7 hv7 => by
        cases hv7
        exact ⟨wd, u, .int ns.length, rfl, hu1, hu2, q6 _ H7 e7 (.int _)⟩⟩) (ed_len (ed_var rfl hq4)) rd_neI)) ?_
      rw [show (DI ns).length = ns.length from List.length_map _, decide_eq_true rfl] <;> rfl
    · exact s_retD (ed_tup (es_cons (ed_var rfl (dp_ex e5 _ hz)) (es_cons (ed_var rfl (dp_ex e5 _ hq4)) es_nil)) (Nat.le_of_ble_eq_true rfl)) fun v H6 e6 => k v H6 (((e1.trans e2).trans (e3.trans e4)).trans (e5.trans e6))
end
end K59

set_option Elab.async false
set_option linter.all false
set_option maxRecDepth 100000
set_option maxHeartbeats 4000000
/-! hands -/
namespace K59
open PySem PySem.Spec PyProof.Rows L2 Evl He
/-! ### what stays -/
/-- all but the cells of S stay; nothing is forgotten -/
structure Kp (S : Addr → Prop) (H H' : Hp) : Prop where
  st : ∀ a o, H a = some o → ¬ S a → H' a = some o
  fr : ∀ a, H' a = none → H a = none
section
variable {S S' : Addr → Prop} {H H' H1 H2 : Hp}
theorem Kp.refl : Kp S H H := ⟨fun _ _ h _ => h, fun _ h => h⟩
theorem Kp.trans (a : Kp S H H1) (b : Kp S H1 H2) : Kp S H H2 := ⟨fun x o h n => b.st x o (a.st x o h n) n, fun x h => a.fr x (b.fr x h)⟩
theorem Kp.mono (a : Kp S H H1) (h : ∀ x, S x → S' x) : Kp S' H H1 := ⟨fun x o q n => a.st x o q fun z => n (h x z), a.fr⟩
theorem Kp.of (e : Ex H H1) : Kp S H H1 := ⟨fun x o h _ => e x o h, fun _ h => fresh_back e h⟩
theorem Kp.upd {a : Addr} {o : HO} (k : Kp S H H1) (h : S a) : Kp S H (upd H1 a o) := ⟨fun x u q n => by
  rw [upd_ne (fun z => n (by rw [z]; exact h))]
  exact k.st x u q n, fun x q => by
  by_cases z : x = a
  · rw [z, upd_same] at q
    cases q
  · rw [upd_ne z] at q
    exact k.fr x q⟩
/-- a cell that is new to H may change -/
theorem Kp.new {a : Addr} {o : HO} (k : Kp S H H1) (h : H a = none) : Kp S H (L2.upd H1 a o) := ⟨fun x u q n => by
  rw [upd_ne (ne_of_none q h)]
  exact k.st x u q n, fun x q => by
  by_cases z : x = a
  · rw [z, upd_same] at q
    cases q
  · rw [upd_ne z] at q
    exact k.fr x q⟩
theorem Kp.ts (k : Kp S H H1) (h : ∀ a, S a → ∀ xs, ¬ Rd H a (.tup xs)) : TSt H H1 := fun a o r t => k.st a o r fun z => by
  obtain ⟨xs, rfl | ⟨ob, rfl⟩⟩ := t
  · exact h a z xs (.inl r)
  · exact h a z xs (.inr ⟨ob, r⟩)
end
def NoT : HO → Prop
  | .tup _ => False
  | .frz _ _ => False
  | _ => True
theorem no_tup {H : Hp} {a : Addr} {o : HO} (h : H a = some o) (ho : NoT o) : ∀ xs, ¬ Rd H a (.tup xs) := fun xs r => by
  rcases r with r | ⟨ob, r⟩ <;> rw [h] at r <;> cases r <;> exact ho
/-! ### fields -/
section
variable {K : PySem.W.Frag} {σ : K59.St} {H H' : Hp} {te ta tb tv : TE} {t u : TT} {d d1 d2 : PyData} {ds es : List PyData} {v : V} {a C dx : Addr} {f : Str} {fs : List (Str × V)} {D : Ends} {tz : L2.TS}
theorem ev_fld (hx : Ev ta σ H (.ref a)) (ha : H a = some (.ins C dx fs)) (hc : Cls K C) (hn : NoAttr K C f) (hf : fs.lookup f = some v) : Ev (tFld K ta f) σ H v := fun H1 e Q q => hx H1 e _ fun H2 e2 => ⟨a, C, dx, fs, v, rfl, (e.trans e2) _ _ ha, hc, hn, hf, q H2 e2⟩
theorem ed_fld (hx : Ev ta σ H (.ref a)) (ha : H a = some (.ins C dx fs)) (hc : Cls K C) (hn : NoAttr K C f) (hf : fs.lookup f = some v) (hd : Dp K H v d) : EvD K (tFld K ta f) σ H d := ed_of (ev_fld hx ha hc hn hf) hd
theorem s_fld (hx : Ev ta σ H (.ref a)) (ha : H a = some (.ins C dx fs)) (hc : Cls K C) (hn : NoAttr K C f) (hz : fs.length < 1000) (h : EvD K tv σ H d) (k : ∀ v H1, Ex H H1 → Dp K H1 v d → D.nx σ (upd H1 a (.ins C dx (putF f v fs)))) : sFld K ta tv f D σ H :=
  h H (Ex.refl H) _ fun y H1 e1 hy => hx H1 e1 _ fun H2 e2 => ⟨a, C, dx, fs, rfl, (e1.trans e2) _ _ ha, hc, hn, hz, k y H2 (e1.trans e2) (dp_ex e2 _ hy)⟩
theorem q_fld (hx : Ev ta σ H (.ref a)) (ha : H a = some (.ins C dx fs)) (hc : Cls K C) (hn : NoAttr K C f) (hz : fs.length < 1000) (h : EvD K tv σ H d) (k : ∀ v H1, Ex H H1 → Dp K H1 v d → tz D σ (upd H1 a (.ins C dx (putF f v fs)))) : tSeq (sFld K ta tv f) tz D σ H :=
  s_fld (D := { D with nx := tz D }) hx ha hc hn hz h k
end
/-! ### hands -/
structure Hd where
  held : Option Int
  sent : Option Int
  aside : Option Int
  heard : Option Int
def oV : Option Int → V
  | none => .non
  | some i => .int i
def oD : Option Int → PyData
  | none => .none
  | some i => .int i
theorem oD_dp {K : PySem.W.Frag} {H : Hp} : ∀ o : Option Int, Dp K H (oV o) (oD o)
  | none => .non
  | some i => .int i
theorem oD_v {K : PySem.W.Frag} {H : Hp} {v : V} : ∀ {o : Option Int}, Dp K H v (oD o) → v = oV o
  | none, h => dp_non h
  | some i, h => dp_int h
theorem noneD_oD (o : Option Int) : noneD (oD o) = o.isNone := by cases o <;> rfl
def handG (h : Hd) (b : Bool) : List (Str × V) := [("card_held", oV h.held), ("sent_away", oV h.sent), ("put_aside", oV h.aside), ("heard_last", oV h.heard), ("has_begun", .bl b)]
abbrev handF (h : Hd) : List (Str × V) := handG h true
def IsHand (K : PySem.W.Frag) (h : Hd) (o : HO) : Prop := ∃ dx, o = .ins (ga K "Hand") dx (handF h)
theorem put_held (h : Hd) (b : Bool) (o : Option Int) : putF "card_held" (oV o) (handG h b) = handG { h with held := o } b := rfl
theorem put_sent (h : Hd) (b : Bool) (o : Option Int) : putF "sent_away" (oV o) (handG h b) = handG { h with sent := o } b := rfl
theorem put_aside (h : Hd) (b : Bool) (o : Option Int) : putF "put_aside" (oV o) (handG h b) = handG { h with aside := o } b := rfl
theorem put_heard (h : Hd) (b : Bool) (o : Option Int) : putF "heard_last" (oV o) (handG h b) = handG { h with heard := o } b := rfl
theorem put_begun (h : Hd) (b : Bool) : putF "has_begun" (.bl true) (handG h b) = handG h true := rfl
theorem get_held (h : Hd) (b : Bool) : (handG h b).lookup ("card_held" : Str) = some (oV h.held) := rfl
theorem get_sent (h : Hd) (b : Bool) : (handG h b).lookup ("sent_away" : Str) = some (oV h.sent) := rfl
theorem get_aside (h : Hd) (b : Bool) : (handG h b).lookup ("put_aside" : Str) = some (oV h.aside) := rfl
theorem get_heard (h : Hd) (b : Bool) : (handG h b).lookup ("heard_last" : Str) = some (oV h.heard) := rfl
theorem get_begun (h : Hd) (b : Bool) : (handG h b).lookup ("has_begun" : Str) = some (.bl b) := rfl
/-- letters -/
inductive Lt where
  | mine (c : Int)
  | over (c : Int)
  | back (c : Int)
def Lt.k : Lt → Str
  | .mine _ => "mine"
  | .over _ => "over"
  | .back _ => "back"
def Lt.c : Lt → Int
  | .mine c => c
  | .over c => c
  | .back c => c
def Lt.D (l : Lt) : PyData := .tuple [.str l.k, .int l.c]
theorem Lts_noL (ls : List Lt) : noL.noLs (ls.map Lt.D) = true := noLs_all fun d hd => by
  obtain ⟨p, _, rfl⟩ := List.mem_map.mp hd
  rfl
/-- what a hand that hears does -/
def hearF (h : Hd) : Lt → Option (Hd × List Lt)
  | .mine c => if h.heard = none ∨ ∃ x, h.heard = some x ∧ c < x then some ({ h with heard := some c }, []) else none
  | .over c => match h.held, h.sent, h.aside with
    | none, some s, none => if s < c then some ({ h with aside := some c }, []) else none
    | some l, _, none => if l < c then some ({ h with held := some c }, [.back l]) else none
    | _, _, _ => none
  | .back c => match h.sent, h.heard, h.aside with
    | some s, some x, none => if c < s ∧ c ≤ x then some ({ h with heard := some s, sent := none, held := some c }, [.mine c]) else none
    | some s, some x, some a => if c < s ∧ c ≤ x then some ({ h with heard := some s, sent := none, held := some a, aside := none }, [.back c]) else none
    | _, _, _ => none
def mayGo (h : Hd) : Bool := match h.held, h.heard with
  | some c, some x => decide (x < c)
  | _, _ => false
section
variable {P : Program} {w : World} {K : PySem.W.Frag} {mg : Str → Option Value} {base : Heap}
/-- reading methods of a hand -/
def spHd (K : PySem.W.Frag) (g : Hd → PyData) : Sp := fun vs H Q _ => ∃ a o h, vs = [.ref a] ∧ H a = some o ∧ IsHand K h o ∧ ∀ v H2, Ex H H2 → Dp K H2 v (g h) → Q v H2
theorem ok_Hand_card (T : Txt w K mg) : FR P w K mg base 1 (ma K (ga K "Hand") "card") (spHd K fun h => oD h.held) := by
  refine okN T.f_Hand_card sc_Hand_card (fun _ _ _ _ _ _ us hl => match us, hl with | [_], _ => rfl) (fun vs H Q E h => by obtain ⟨_, _, _, rfl, _⟩ := h; rfl) fun cdv A outer s H vs Q E hr h => ?_
  obtain ⟨a, o, hd, rfl, ha, ⟨dx, rfl⟩, k⟩ := h
  refine ⟨_, (pss_one (ps_ret (pe_fld (pv 0) rfl))), ?_⟩
  exact s_retD (ed_fld (ev_var rfl) ha T.k_Hand T.n_Hand_card_held (get_held hd true) (oD_dp _)) k
theorem ok_Hand_aside (T : Txt w K mg) : FR P w K mg base 1 (ma K (ga K "Hand") "aside") (spHd K fun h => oD h.aside) := by
  refine okN T.f_Hand_aside sc_Hand_aside (fun _ _ _ _ _ _ us hl => match us, hl with | [_], _ => rfl) (fun vs H Q E h => by obtain ⟨_, _, _, rfl, _⟩ := h; rfl) fun cdv A outer s H vs Q E hr h => ?_
  obtain ⟨a, o, hd, rfl, ha, ⟨dx, rfl⟩, k⟩ := h
  refine ⟨_, (pss_one (ps_ret (pe_fld (pv 0) rfl))), ?_⟩
  exact s_retD (ed_fld (ev_var rfl) ha T.k_Hand T.n_Hand_put_aside (get_aside hd true) (oD_dp _)) k
theorem ok_Hand_heard (T : Txt w K mg) : FR P w K mg base 1 (ma K (ga K "Hand") "heard") (spHd K fun h => oD h.heard) := by
  refine okN T.f_Hand_heard sc_Hand_heard (fun _ _ _ _ _ _ us hl => match us, hl with | [_], _ => rfl) (fun vs H Q E h => by obtain ⟨_, _, _, rfl, _⟩ := h; rfl) fun cdv A outer s H vs Q E hr h => ?_
  obtain ⟨a, o, hd, rfl, ha, ⟨dx, rfl⟩, k⟩ := h
  refine ⟨_, (pss_one (ps_ret (pe_fld (pv 0) rfl))), ?_⟩
  exact s_retD (ed_fld (ev_var rfl) ha T.k_Hand T.n_Hand_heard_last (get_heard hd true) (oD_dp _)) k
theorem ok_Hand_may_go (T : Txt w K mg) : FR P w K mg base 1 (ma K (ga K "Hand") "may_go") (spHd K fun h => .bool (mayGo h)) := by
  refine okN T.f_Hand_may_go sc_Hand_may_go (fun _ _ _ _ _ _ us hl => match us, hl with | [_], _ => rfl) (fun vs H Q E h => by obtain ⟨_, _, _, rfl, _⟩ := h; rfl) fun cdv A outer s H vs Q E hr h => ?_
  obtain ⟨a, o, hd, rfl, ha, ⟨dx, rfl⟩, k⟩ := h
  refine ⟨_, (pss_cons (ps_if (PW.pt (pw_or (pt_not (pt_val (pe_fld (pv 0) rfl))) (pw_or (pt_cmpR op_isN (pe_fld (pv 0) rfl) pe_non (nomark _)) (pw_or1 (pt_cmpR op_isN (pe_fld (pv 0) rfl) pe_non (nomark _)))))) (pss_one (ps_ret pe_bl)) pss_nil)
      (pss_one (ps_ret (pe_cmpR op_gt (pe_fld (pv 0) rfl) (pe_fld (pv 0) rfl) (nomark _))))), ?_⟩
  have F : ∀ {f : Str} {v : V} {d : PyData} (H1 : Hp), Ex H H1 → NoAttr K (ga K "Hand") f → (handF hd).lookup f = some v → Dp K H1 v d → EvD K (tFld K (tVar 0) f) (L2.start N_Hand_may_go [V.ref a]) H1 d := fun H1 e n g d => ed_fld (ev_var rfl) (e _ _ ha) T.k_Hand n g d
  obtain ⟨c, h1⟩ : ∃ c, hd.held = c := ⟨_, rfl⟩
  obtain ⟨x, h2⟩ : ∃ x, hd.heard = x := ⟨_, rfl⟩
  · refine q_when (b := (c.isNone || x.isNone)) (et_to (et_or (et_not (et_db (F H (Ex.refl H) T.n_Hand_has_begun (get_begun hd true) (.bl _)))) fun _ => et_or (et_db (ed_op (F H (Ex.refl H) T.n_Hand_card_held (get_held hd true) (oD_dp _)) ed_n rd_isN)) fun _ => et_db (ed_op (F H (Ex.refl H) T.n_Hand_heard_last (get_heard hd true) (oD_dp _)) ed_n rd_isN)) (by rw [noneD_oD, noneD_oD, h1, h2] <;> rfl)) (fun z H1 e1 => ?_) fun z H1 e1 => ?_
    · refine s_retD (K := K) (d := .bool false) ed_b fun v H2 e2 hv => k v H2 (e1.trans e2) ?_
      have : mayGo hd = false := by
        unfold mayGo
        rw [h1, h2]
        cases c with
        | none => rfl
        | some c =>
          cases x with
          | none => rfl
          | some x => cases z
      show Dp K H2 v (.bool (mayGo hd))
      rw [this]
      exact hv
    · cases c with
      | none => cases z
      | some c =>
        cases x with
        | none => cases z
        | some x =>
          refine s_retD (d := .bool (decide (x < c))) (ed_op (F H1 e1 T.n_Hand_card_held (get_held hd true) (by rw [h1]; exact .int c)) (F H1 e1 T.n_Hand_heard_last (get_heard hd true) (by rw [h2]; exact .int x)) rd_B0) fun v H2 e2 hv => k v H2 (e1.trans e2) ?_
          have : mayGo hd = decide (x < c) := by
            unfold mayGo
            rw [h1, h2]
          show Dp K H2 v (.bool (mayGo hd))
          rw [this]
          exact hv
def spHdInit (K : PySem.W.Frag) : Sp := fun vs H Q _ => ∃ a dx c, vs = [.ref a, .int c] ∧ H a = some (.ins (ga K "Hand") dx []) ∧ cardB c = true ∧ ∀ H2, Kp (fun x => x = a) H H2 → H2 a = some (.ins (ga K "Hand") dx (handG ⟨some c, none, none, none⟩ false)) → Q .non H2
theorem ok_Hand_init (T : Txt w K mg) : FR P w K mg base 2 (ma K (ga K "Hand") "__init__") (spHdInit K) := by
  have G_is_card : FR P w K mg base 1 (ga K "is_card") (spD K R_is_card) := ok_is_card T
  refine okN T.f_Hand_init sc_Hand_init (fun _ _ _ _ _ _ us hl => match us, hl with | [_, _], _ => rfl) (fun vs H Q E h => by obtain ⟨_, _, _, rfl, _⟩ := h; rfl) fun cdv A outer s H vs Q E hr h => ?_
  obtain ⟨a, dx, c, rfl, ha, hc, k⟩ := h
  refine ⟨_, (pss_cons (ps_if (pt_not (pt_val (cl G_is_card (hr.mono (by decide)) T.g_is_card psN (pa_cons (pv 1) pa_nil)))) (pss_one ps_never) pss_nil)
      (pss_cons (ps_fld (pv 0) (pv 1) rfl)
      (pss_cons (ps_fld (pv 0) pe_non rfl)
      (pss_cons (ps_fld (pv 0) pe_non rfl)
      (pss_cons (ps_fld (pv 0) pe_non rfl)
      (pss_one (ps_fld (pv 0) pe_bl rfl))))))), ?_⟩
  refine q_when (b := false) (et_to (et_not (et_db (ed_cl (es_cons (ed_var rfl (.int c)) es_nil) ⟨c, rfl, rfl⟩))) (by rw [hc] <;> rfl)) (fun z => by cases z) fun _ H1 e1 => ?_
  refine q_fld (ev_var rfl) (e1 _ _ ha) T.k_Hand T.n_Hand_card_held (Nat.le_of_ble_eq_true rfl) (ed_var rfl (.int c)) fun v1 H2 e2 hv1 => ?_
  cases hv1
  refine q_fld (ev_var rfl) upd_same T.k_Hand T.n_Hand_sent_away (Nat.le_of_ble_eq_true rfl) ed_n fun v1 H3 e3 hv1 => ?_
  cases hv1
  refine q_fld (ev_var rfl) upd_same T.k_Hand T.n_Hand_put_aside (Nat.le_of_ble_eq_true rfl) ed_n fun v1 H4 e4 hv1 => ?_
  cases hv1
  refine q_fld (ev_var rfl) upd_same T.k_Hand T.n_Hand_heard_last (Nat.le_of_ble_eq_true rfl) ed_n fun v1 H5 e5 hv1 => ?_
  cases hv1
  refine s_fld (ev_var rfl) upd_same T.k_Hand T.n_Hand_has_begun (Nat.le_of_ble_eq_true rfl) ed_b fun v1 H6 e6 hv1 => ?_
  cases hv1
  refine k _ ?_ upd_same
  exact ((((((((((Kp.of (S := fun x => x = a) e1).trans (Kp.of e2)).upd rfl).trans (Kp.of e3)).upd rfl).trans (Kp.of e4)).upd rfl).trans (Kp.of e5)).upd rfl).trans (Kp.of e6)).upd rfl
def spHdBegin (K : PySem.W.Frag) : Sp := fun vs H Q _ => ∃ a dx c, vs = [.ref a] ∧ H a = some (.ins (ga K "Hand") dx (handG ⟨some c, none, none, none⟩ false)) ∧ ∀ p us H2, Kp (fun x => x = a) H H2 → H p = none → H2 a = some (.ins (ga K "Hand") dx (handF ⟨some c, none, none, none⟩)) → H2 p = some (.lst us) → DpAll K H2 us [Lt.D (.mine c)] → Q (.ref p) H2
theorem ok_Hand_begin (T : Txt w K mg) : FR P w K mg base 1 (ma K (ga K "Hand") "begin") (spHdBegin K) := by
  refine okN T.f_Hand_begin sc_Hand_begin (fun _ _ _ _ _ _ us hl => match us, hl with | [_], _ => rfl) (fun vs H Q E h => by obtain ⟨_, _, _, rfl, _⟩ := h; rfl) fun cdv A outer s H vs Q E hr h => ?_
  obtain ⟨a, dx, c, rfl, ha, k⟩ := h
  obtain ⟨_, hg_MINE⟩ := T.v_MINE
  refine ⟨_, (pss_cons (ps_if (pt_val (pe_fld (pv 0) rfl)) (pss_one ps_never) pss_nil)
      (pss_cons (ps_fld (pv 0) pe_bl rfl)
      (pss_one (ps_ret (pe_lst (pa_cons (pe_tup (pa_cons (pe_glob (v := .str "mine") rfl hg_MINE ⟨_, rfl⟩) (pa_cons (pe_fld (pv 0) rfl) pa_nil))) pa_nil)))))), ?_⟩
  refine q_when (b := false) (et_db (ed_fld (ev_var rfl) ha T.k_Hand T.n_Hand_has_begun (get_begun _ false) (.bl _))) (fun z => by cases z) fun _ H1 e1 => ?_
  refine q_fld (ev_var rfl) (e1 _ _ ha) T.k_Hand T.n_Hand_has_begun (Nat.le_of_ble_eq_true rfl) ed_b fun v1 H2 e2 hv1 => ?_
  cases hv1
  refine s_retN (K := K) (en_lst (es_cons (ed_tup (es_cons ed_s (es_cons (ed_fld (ev_var rfl) upd_same T.k_Hand T.n_Hand_card_held (get_held _ true) (.int c)) es_nil)) (Nat.le_of_ble_eq_true rfl)) es_nil) (Nat.le_of_ble_eq_true rfl)) fun p us H3 hp e3 h3 hv3 => ?_
  have kk : Kp (fun x => x = a) H H3 := (((Kp.of (S := fun x => x = a) e1).trans (Kp.of e2)).upd rfl).trans (Kp.of e3)
  have hp' : H p = none := by
    have := (((Kp.of (S := fun x => x = a) e1).trans (Kp.of e2)).upd (a := a) (o := .ins (ga K "Hand") dx (putF "has_begun" (.bl true) (handG ⟨some c, none, none, none⟩ false))) rfl).fr p hp
    exact this
  exact k p us H3 kk hp' (e3 _ _ upd_same) h3 hv3
end
end K59

set_option Elab.async false
set_option linter.all false
set_option maxRecDepth 100000
set_option maxHeartbeats 4000000
/-! hands that hear and go -/
namespace K59
open PySem PySem.Spec PyProof.Rows L2 Evl He
section
variable {X : Cx} {W : WX} {x m : Str} {j : Nat} {p p2 pos pos2 : Pos} {C : Addr}
/-- raise x(m) -/
theorem raiseX (hm : X.mg x = some (.ref C)) (q : PySem.W.excIn X.K C veBase "ValueError.__new__" = true ∧ PySem.W.keepIn X.K (.ref C) = true ∧ PySem.W.subIn X.K (.ref C) (.type "BaseException") = some true ∧ PySem.W.typeIn X.K (.ref C) = some (.type "type"))
    (tk : L2N.Takes X W) (hc : X.calm = true) (hg : Gl X x := by rfl) (hdb : (x == ("__debug__" : Str)) = false := by decide) : PS X (.Raise (some (.Call (.Name x p) [.Constant (.str m) j p2] [] pos)) none pos2) (fun _ σ H => W (.ref C) none σ H) :=
  L2N.ps_raise hc tk (L2N.pmk_own PySem.F.excBase_ValueError q.1 hm q.2.1 (raises_own q.2.2.1 q.2.2.2) hg hdb)
end
section
variable {P : Program} {w : World} {K : PySem.W.Frag} {mg : Str → Option Value} {base : Heap}
theorem tk_of {N : List Str} {qual : Str} {scope : Scope} {f : Addr} {cdv : Value} {A : Around} {outer : List Env} {s : Shared} {H : Hp} {E : XK} :
    L2N.Takes (cxOf (L2N.CX P w) P w K mg base N qual scope f cdv A outer s H E) (fun cls d _ H => E cls d H) := L2N.takes_of rfl rfl rfl rfl
theorem hx_of {N : List Str} {qual : Str} {scope : Scope} {f : Addr} {cdv : Value} {A : Around} {outer : List Env} {s : Shared} {H : Hp} {E : XK} :
    Passes (L2N.CX P w) (cxOf (L2N.CX P w) P w K mg base N qual scope f cdv A outer s H E) E := L2N.passes_call (W := fun cls d _ H => E cls d H) tk_of (fun _ _ _ _ h => h)
def R_is_letter (ds : List PyData) (d : PyData) : Prop := ∃ l : Lt, ds = [l.D] ∧ cardB l.c = true ∧ d = .bool true
theorem ok_is_letter (T : Txt w K mg) : FR P w K mg base 2 (ga K "is_letter") (spD K R_is_letter) := by
  have G_is_card : FR P w K mg base 1 (ga K "is_card") (spD K R_is_card) := ok_is_card T
  refine okD T.f_is_letter sc_is_letter (fun _ _ _ _ _ _ us hl => match us, hl with | [_], _ => rfl) (fun ds d h => by obtain ⟨i, rfl, _⟩ := h; rfl) fun cdv A outer s H vs Q E ds d hr hv h k => ?_
  obtain ⟨l, rfl, hc, rfl⟩ := h
  obtain ⟨v, rfl, h1⟩ := da1 hv
  obtain ⟨_, hg_MINE⟩ := T.v_MINE
  obtain ⟨_, hg_OVER⟩ := T.v_OVER
  obtain ⟨_, hg_BACK⟩ := T.v_BACK
  refine ⟨_, (pss_cons (ps_if (PW.pt (pw_or (pt_not (pt_val (pe_callB call_isi (by rfl) T.b_isinstance bt_isinstance (pa_cons (pv 0) (pa_cons (pe_bltn (v := .ty "tuple") (by rfl) T.b_tuple bt_tuple rfl) pa_nil))))) (pw_or (pt_cmpR op_ne (pe_callB call_len_seq (by rfl) T.b_len bt_len (pa_cons (pv 0) pa_nil)) pe_int (nomark _)) (pw_or1 (pt_not (pt_val (pe_callB call_isi (by rfl) T.b_isinstance bt_isinstance (pa_cons (pe_ix ix_tup (pv 0) pe_int (fun _ _ => rfl)) (pa_cons (pe_bltn (v := .ty "str") (by rfl) T.b_str bt_str rfl) pa_nil))))))))) (pss_one (ps_ret pe_bl)) pss_nil)
      (pss_one (ps_ret (pe_and (pe_cmpR op_in_seq (pe_ix ix_tup (pv 0) pe_int (fun _ _ => rfl)) (pe_tup (pa_cons (pe_glob (v := .str "mine") rfl hg_MINE ⟨_, rfl⟩) (pa_cons (pe_glob (v := .str "over") rfl hg_OVER ⟨_, rfl⟩) (pa_cons (pe_glob (v := .str "back") rfl hg_BACK ⟨_, rfl⟩) pa_nil)))) (by rfl)) (pe_one (cl G_is_card (hr.mono (by decide)) T.g_is_card psN (pa_cons (pe_ix ix_tup (pv 0) pe_int (fun _ _ => rfl)) pa_nil))))))), ?_⟩
  have h1 : Dp K H v (.tuple [.str l.k, .int l.c]) := h1
  refine q_when (b := false) (et_to (et_or (et_not (et_db (ed_isi (ed_var rfl h1) ev_c (fun _ _ => dp_tyT) kit_tt))) fun _ => et_or (et_db (ed_op (ed_lenT (ed_var rfl h1)) ed_i rd_neI)) fun _ => et_not (et_db (ed_isi (ed_op (ed_var rfl h1) ed_i (rd_ixT (j := 0) rfl rfl)) ev_c ty_str kit_ss))) rfl) (fun z => by cases z) fun _ H1 e1 => ?_
  have h1 := dp_ex e1 _ h1
  refine s_retD (ed_to (ed_andV (ed_op (d2 := .tuple ((["mine", "over", "back"] : List Str).map PyData.str)) (ed_op (ed_var rfl h1) ed_i (rd_ixT (j := 0) rfl rfl)) (ed_tup (es_cons ed_s (es_cons ed_s (es_cons ed_s es_nil))) (Nat.le_of_ble_eq_true rfl)) rd_inTS) fun _ => ed_cl (es_cons (ed_op (ed_var rfl h1) ed_i (rd_ixT (j := 1) rfl rfl)) es_nil) ⟨l.c, rfl, rfl⟩) ?_) fun v H2 e2 => k v H2 (e1.trans e2)
  rw [hc]
  cases l <;> rfl
def R_need_letter (ds : List PyData) (d : PyData) : Prop := ds = [.bool true] ∧ d = .none
theorem ok_need_letter (T : Txt w K mg) : FR P w K mg base 1 (ga K "need_letter") (spD K R_need_letter) := by
  refine okD T.f_need_letter sc_need_letter (fun _ _ _ _ _ _ us hl => match us, hl with | [_], _ => rfl) (fun ds d h => by obtain ⟨rfl, _⟩ := h; rfl) fun cdv A outer s H vs Q E ds d hr hv h k => ?_
  obtain ⟨rfl, rfl⟩ := h
  obtain ⟨v, rfl, h1⟩ := da1 hv
  refine ⟨_, (pss_one (ps_if (pt_not (pt_val (pv 0))) (pss_one ps_never) pss_nil)), ?_⟩
  exact s_when (b := false) (et_to (et_not (et_db (ed_var rfl h1))) rfl) (fun z => by cases z) fun _ H1 e1 => k _ H1 e1 .non
/-- a hand's method that changes it and gives letters: from h by a card c -/
def spHdC (K : PySem.W.Frag) (F : Hd → Int → Option (Hd × List Lt)) : Sp := fun vs H Q _ => ∃ a dx h c h' ls, vs = [.ref a, .int c] ∧ H a = some (.ins (ga K "Hand") dx (handF h)) ∧ F h c = some (h', ls) ∧
  ∀ p us H2, Kp (fun x => x = a) H H2 → H p = none → H2 a = some (.ins (ga K "Hand") dx (handF h')) → H2 p = some (.lst us) → DpAll K H2 us (ls.map Lt.D) → Q (.ref p) H2
def ltO (c : Int) : Option Int → Bool
  | some y => decide (c < y)
  | none => false
theorem ok_hear_mine (T : Txt w K mg) : FR P w K mg base 2 (ma K (ga K "Hand") "hear_mine") (spHdC K fun h c => hearF h (.mine c)) := by
  have G_need_letter : FR P w K mg base 1 (ga K "need_letter") (spD K R_need_letter) := ok_need_letter T
  refine okN T.f_Hand_hear_mine sc_Hand_hear_mine (fun _ _ _ _ _ _ us hl => match us, hl with | [_, _], _ => rfl) (fun vs H Q E h => by obtain ⟨_, _, _, _, _, _, rfl, _⟩ := h; rfl) fun cdv A outer s H vs Q E hr h => ?_
  obtain ⟨a, dx, hd, c, h', ls, rfl, ha, hF, k⟩ := h
  refine ⟨_, (pss_cons (ps_expr (cl G_need_letter (hr.mono (by decide)) T.g_need_letter psN (pa_cons (pe_or (pe_cmpR op_isN (pe_fld (pv 0) rfl) pe_non (nomark _)) (pe_one (pe_cmpR op_lt (pv 1) (pe_fld (pv 0) rfl) (nomark _)))) pa_nil)))
      (pss_cons (ps_fld (pv 0) (pv 1) rfl)
      (pss_one (ps_ret (pe_lst pa_nil))))), ?_⟩
  unfold hearF at hF
  simp only at hF
  split at hF
  · rename_i hcond
    obtain ⟨rfl, rfl⟩ : { hd with heard := some c } = h' ∧ [] = ls := by
      cases hF
      exact ⟨rfl, rfl⟩
    obtain ⟨x, hx⟩ : ∃ x, hd.heard = x := ⟨_, rfl⟩
    refine q_dropD (ed_cl (R := R_need_letter) (d := .none) (ds := [.bool true]) (es_cons (ed_to (ed_orV (a := x.isNone) (b := ltO c x) (ed_to (ed_op (ed_fld (ev_var rfl) ha T.k_Hand T.n_Hand_heard_last (get_heard hd true) (oD_dp _)) ed_n rd_isN) (by rw [noneD_oD, hx])) fun z => ?_) ?_) es_nil) ⟨rfl, rfl⟩) fun H1 e1 => ?_
    · cases x with
      | none => cases z
      | some y => exact ed_op (ed_var rfl (.int c)) (ed_fld (ev_var rfl) ha T.k_Hand T.n_Hand_heard_last (get_heard hd true) (by rw [hx]; exact .int y)) rd_B0
    · cases x with
      | none => rfl
      | some y =>
        rcases hcond with h | ⟨z, hz, hlt⟩
        · rw [hx] at h
          cases h
        · rw [hx] at hz
          cases hz
          rw [show ltO c (some y) = true from decide_eq_true hlt] <;> rfl
    · refine q_fld (ev_var rfl) (e1 _ _ ha) T.k_Hand T.n_Hand_heard_last (Nat.le_of_ble_eq_true rfl) (ed_var rfl (.int c)) fun v1 H2 e2 hv1 => ?_
      cases hv1
      refine s_retN (K := K) (en_lst es_nil (Nat.zero_le _)) fun p us H3 hp e3 h3 hv3 => ?_
      have k2 : Kp (fun x => x = a) H (upd H2 a (.ins (ga K "Hand") dx (putF "heard_last" (.int c) (handG hd true)))) := ((Kp.of (S := fun x => x = a) e1).trans (Kp.of e2)).upd rfl
      exact k p us H3 (k2.trans (Kp.of e3)) (k2.fr p hp) (e3 _ _ upd_same) h3 hv3
  · cases hF
theorem ok_hear_over (T : Txt w K mg) : FR P w K mg base 2 (ma K (ga K "Hand") "hear_over") (spHdC K fun h c => hearF h (.over c)) := by
  have G_need_letter : FR P w K mg base 1 (ga K "need_letter") (spD K R_need_letter) := ok_need_letter T
  refine okN T.f_Hand_hear_over sc_Hand_hear_over (fun _ _ _ _ _ _ us hl => match us, hl with | [_, _], _ => rfl) (fun vs H Q E h => by obtain ⟨_, _, _, _, _, _, rfl, _⟩ := h; rfl) fun cdv A outer s H vs Q E hr h => ?_
  obtain ⟨a, dx, hd, c, h', ls, rfl, ha, hF, k⟩ := h
  obtain ⟨_, hg_BACK⟩ := T.v_BACK
  refine ⟨_, (pss_cons (ps_set (i := 2) sc_Hand_hear_over.nd rfl (Or.inl rfl) (pe_ifExp (pt_cmpR op_isN (pe_fld (pv 0) rfl) pe_non (nomark _)) (pe_fld (pv 0) rfl) (pe_fld (pv 0) rfl)))
      (pss_cons (ps_expr (cl G_need_letter (hr.mono (by decide)) T.g_need_letter psN (pa_cons (pe_and (pe_cmpR op_notN (pv 2) pe_non (nomark _)) (pe_and (pe_cmpR op_gt (pv 1) (pv 2) (nomark _)) (pe_one (pe_cmpR op_isN (pe_fld (pv 0) rfl) pe_non (nomark _))))) pa_nil)))
      (pss_cons (ps_if (pt_cmpR op_isN (pe_fld (pv 0) rfl) pe_non (nomark _)) (pss_cons (ps_fld (pv 0) (pv 1) rfl)
      (pss_one (ps_ret (pe_lst pa_nil)))) pss_nil)
      (pss_cons (ps_set (i := 3) sc_Hand_hear_over.nd rfl (Or.inl rfl) (pe_fld (pv 0) rfl))
      (pss_cons (ps_fld (pv 0) (pv 1) rfl)
      (pss_one (ps_ret (pe_lst (pa_cons (pe_tup (pa_cons (pe_glob (v := .str "back") rfl hg_BACK ⟨_, rfl⟩) (pa_cons (pv 3) pa_nil))) pa_nil))))))))), ?_⟩
  obtain ⟨held, sent, aside, heard⟩ := hd
  have Fh : ∀ (H1 : Hp) (σ : K59.St), σ[0]? = some (some (.ref a)) → Ex H H1 → EvD K (tFld K (tVar 0) "card_held") σ H1 (oD held) := fun H1 σ hs e => ed_fld (ev_var hs) (e _ _ ha) T.k_Hand T.n_Hand_card_held (get_held _ true) (oD_dp _)
  have Fs : ∀ (H1 : Hp) (σ : K59.St), σ[0]? = some (some (.ref a)) → Ex H H1 → EvD K (tFld K (tVar 0) "sent_away") σ H1 (oD sent) := fun H1 σ hs e => ed_fld (ev_var hs) (e _ _ ha) T.k_Hand T.n_Hand_sent_away (get_sent _ true) (oD_dp _)
  have Fa : ∀ (H1 : Hp) (σ : K59.St), σ[0]? = some (some (.ref a)) → Ex H H1 → EvD K (tFld K (tVar 0) "put_aside") σ H1 (oD aside) := fun H1 σ hs e => ed_fld (ev_var hs) (e _ _ ha) T.k_Hand T.n_Hand_put_aside (get_aside _ true) (oD_dp _)
  cases aside with
  | some a0 => cases held <;> cases sent <;> cases hF
  | none =>
    cases held with
    | none =>
      cases sent with
      | none => cases hF
      | some s0 =>
        have hF : (if s0 < c then some ((⟨none, some s0, some c, heard⟩ : Hd), ([] : List Lt)) else none) = some (h', ls) := hF
        split at hF
        · rename_i hlt
          cases hF
          refine q_asgD (d := .int s0) (ed_if (b := true) (et_to (et_db (ed_op (Fh H _ rfl (Ex.refl H)) ed_n rd_isN)) rfl) (fun _ => Fs H _ rfl (Ex.refl H)) (fun z => by cases z)) fun v1 H1 e1 hv1 => ?_
          cases hv1
          refine q_dropD (ed_cl (R := R_need_letter) (d := .none) (ds := [.bool true]) (es_cons (ed_to (ed_andV (ed_op (ed_var rfl (.int s0)) ed_n rd_notN) fun _ => ed_andV (ed_op (ed_var rfl (.int c)) (ed_var rfl (.int s0)) rd_B0) fun _ => ed_op (Fa H1 _ rfl e1) ed_n rd_isN) (by rw [decide_eq_true hlt] <;> rfl)) es_nil) ⟨rfl, rfl⟩) fun H2 e2 => ?_
          refine q_when (b := true) (et_to (et_db (ed_op (Fh H2 _ rfl (e1.trans e2)) ed_n rd_isN)) rfl) (fun _ H3 e3 => ?_) (fun z => by cases z)
          refine q_fld (ev_var rfl) (((e1.trans e2).trans e3) _ _ ha) T.k_Hand T.n_Hand_put_aside (Nat.le_of_ble_eq_true rfl) (ed_var rfl (.int c)) fun v1 H4 e4 hv1 => ?_
          cases hv1
          refine s_retN (K := K) (en_lst es_nil (Nat.zero_le _)) fun p us H5 hp e5 h5 hv5 => ?_
          have k2 : Kp (fun x => x = a) H (upd H4 a (.ins (ga K "Hand") dx (putF "put_aside" (.int c) (handG ⟨none, some s0, none, heard⟩ true)))) := ((Kp.of (S := fun x => x = a) ((e1.trans e2).trans e3)).trans (Kp.of e4)).upd rfl
          exact k p us H5 (k2.trans (Kp.of e5)) (k2.fr p hp) (e5 _ _ upd_same) h5 hv5
        · cases hF
    | some l0 =>
      have hF : (if l0 < c then some ((⟨some c, sent, none, heard⟩ : Hd), ([.back l0] : List Lt)) else none) = some (h', ls) := by cases sent <;> exact hF
      split at hF
      · rename_i hlt
        cases hF
        refine q_asgD (d := .int l0) (ed_if (b := false) (et_to (et_db (ed_op (Fh H _ rfl (Ex.refl H)) ed_n rd_isN)) rfl) (fun z => by cases z) (fun _ => Fh H _ rfl (Ex.refl H))) fun v1 H1 e1 hv1 => ?_
        cases hv1
        refine q_dropD (ed_cl (R := R_need_letter) (d := .none) (ds := [.bool true]) (es_cons (ed_to (ed_andV (ed_op (ed_var rfl (.int l0)) ed_n rd_notN) fun _ => ed_andV (ed_op (ed_var rfl (.int c)) (ed_var rfl (.int l0)) rd_B0) fun _ => ed_op (Fa H1 _ rfl e1) ed_n rd_isN) (by rw [decide_eq_true hlt] <;> rfl)) es_nil) ⟨rfl, rfl⟩) fun H2 e2 => ?_
        refine q_when (b := false) (et_to (et_db (ed_op (Fh H2 _ rfl (e1.trans e2)) ed_n rd_isN)) rfl) (fun z => by cases z) fun _ H3 e3 => ?_
        refine q_asgD (Fh H3 _ rfl ((e1.trans e2).trans e3)) fun v1 H4 e4 hv1 => ?_
        cases hv1
        refine q_fld (ev_var rfl) ((((e1.trans e2).trans e3).trans e4) _ _ ha) T.k_Hand T.n_Hand_card_held (Nat.le_of_ble_eq_true rfl) (ed_var rfl (.int c)) fun v1 H5 e5 hv1 => ?_
        cases hv1
        refine s_retN (K := K) (en_lst (es_cons (ed_tup (es_cons ed_s (es_cons (ed_var rfl (.int l0)) es_nil)) (Nat.le_of_ble_eq_true rfl)) es_nil) (Nat.le_of_ble_eq_true rfl)) fun p us H6 hp e6 h6 hv6 => ?_
        have k2 : Kp (fun x => x = a) H (upd H5 a (.ins (ga K "Hand") dx (putF "card_held" (.int c) (handG ⟨some l0, sent, none, heard⟩ true)))) := ((Kp.of (S := fun x => x = a) (((e1.trans e2).trans e3).trans e4)).trans (Kp.of e5)).upd rfl
        exact k p us H6 (k2.trans (Kp.of e6)) (k2.fr p hp) (e6 _ _ upd_same) h6 hv6
      · cases hF
theorem ok_hear_back (T : Txt w K mg) : FR P w K mg base 2 (ma K (ga K "Hand") "hear_back") (spHdC K fun h c => hearF h (.back c)) := by
  have G_need_letter : FR P w K mg base 1 (ga K "need_letter") (spD K R_need_letter) := ok_need_letter T
  refine okN T.f_Hand_hear_back sc_Hand_hear_back (fun _ _ _ _ _ _ us hl => match us, hl with | [_, _], _ => rfl) (fun vs H Q E h => by obtain ⟨_, _, _, _, _, _, rfl, _⟩ := h; rfl) fun cdv A outer s H vs Q E hr h => ?_
  obtain ⟨a, dx, hd, c, h', ls, rfl, ha, hF, k⟩ := h
  obtain ⟨_, hg_BACK⟩ := T.v_BACK
  obtain ⟨_, hg_MINE⟩ := T.v_MINE
  refine ⟨_, (pss_cons (ps_expr (cl G_need_letter (hr.mono (by decide)) T.g_need_letter psN (pa_cons (pe_and (pe_cmpR op_notN (pe_fld (pv 0) rfl) pe_non (nomark _)) (pe_one (pe_cmpR op_notN (pe_fld (pv 0) rfl) pe_non (nomark _)))) pa_nil)))
      (pss_cons (ps_expr (cl G_need_letter (hr.mono (by decide)) T.g_need_letter psN (pa_cons (pe_and (pe_cmpR op_lt (pv 1) (pe_fld (pv 0) rfl) (nomark _)) (pe_one (pe_cmpR op_le (pv 1) (pe_fld (pv 0) rfl) (nomark _)))) pa_nil)))
      (pss_cons (ps_fld (pv 0) (pe_fld (pv 0) rfl) rfl)
      (pss_cons (ps_fld (pv 0) pe_non rfl)
      (pss_cons (ps_if (pt_cmpR op_isN (pe_fld (pv 0) rfl) pe_non (nomark _)) (pss_cons (ps_fld (pv 0) (pv 1) rfl)
      (pss_one (ps_ret (pe_lst (pa_cons (pe_tup (pa_cons (pe_glob (v := .str "mine") rfl hg_MINE ⟨_, rfl⟩) (pa_cons (pv 1) pa_nil))) pa_nil))))) pss_nil)
      (pss_cons (ps_fld (pv 0) (pe_fld (pv 0) rfl) rfl)
      (pss_cons (ps_fld (pv 0) pe_non rfl)
      (pss_one (ps_ret (pe_lst (pa_cons (pe_tup (pa_cons (pe_glob (v := .str "back") rfl hg_BACK ⟨_, rfl⟩) (pa_cons (pv 1) pa_nil))) pa_nil))))))))))), ?_⟩
  obtain ⟨held, sent, aside, heard⟩ := hd
  cases sent with
  | none => cases hF
  | some s0 =>
    cases heard with
    | none => cases hF
    | some x0 =>
      have Fs : ∀ (H1 : Hp), Ex H H1 → EvD K (tFld K (tVar 0) "sent_away") (L2.start N_Hand_hear_back [V.ref a, V.int c]) H1 (.int s0) := fun H1 e => ed_fld (ev_var rfl) (e _ _ ha) T.k_Hand T.n_Hand_sent_away (get_sent _ true) (.int s0)
      have Fx : ∀ (H1 : Hp), Ex H H1 → EvD K (tFld K (tVar 0) "heard_last") (L2.start N_Hand_hear_back [V.ref a, V.int c]) H1 (.int x0) := fun H1 e => ed_fld (ev_var rfl) (e _ _ ha) T.k_Hand T.n_Hand_heard_last (get_heard _ true) (.int x0)
      have hb : c < s0 ∧ c ≤ x0 := by
        unfold hearF at hF
        cases aside <;> simp only at hF <;> split at hF <;> first | assumption | cases hF
      refine q_dropD (ed_cl (R := R_need_letter) (d := .none) (ds := [.bool true]) (es_cons (ed_to (ed_andV (ed_op (Fs H (Ex.refl H)) ed_n rd_notN) fun _ => ed_op (Fx H (Ex.refl H)) ed_n rd_notN) rfl) es_nil) ⟨rfl, rfl⟩) fun H1 e1 => ?_
      refine q_dropD (ed_cl (R := R_need_letter) (d := .none) (ds := [.bool true]) (es_cons (ed_to (ed_andV (ed_op (ed_var rfl (.int c)) (Fs H1 e1) rd_B0) fun _ => ed_op (ed_var rfl (.int c)) (Fx H1 e1) rd_B0) (by rw [decide_eq_true hb.1, decide_eq_true hb.2] <;> rfl)) es_nil) ⟨rfl, rfl⟩) fun H2 e2 => ?_
      have e12 := e1.trans e2
      refine q_fld (ev_var rfl) (e12 _ _ ha) T.k_Hand T.n_Hand_heard_last (Nat.le_of_ble_eq_true rfl) (Fs H2 e12) fun v1 H3 e3 hv1 => ?_
      cases hv1
      refine q_fld (ev_var rfl) upd_same T.k_Hand T.n_Hand_sent_away (Nat.le_of_ble_eq_true rfl) ed_n fun v1 H4 e4 hv1 => ?_
      cases hv1
      have k4 : Kp (fun x => x = a) H (upd H4 a (.ins (ga K "Hand") dx (handG ⟨held, none, aside, some s0⟩ true))) := ((((Kp.of (S := fun x => x = a) e12).trans (Kp.of e3)).upd rfl).trans (Kp.of e4)).upd rfl
      have a4 : (upd H4 a (.ins (ga K "Hand") dx (handG ⟨held, none, aside, some s0⟩ true))) a = some (.ins (ga K "Hand") dx (handG ⟨held, none, aside, some s0⟩ true)) := upd_same
      show tSeq _ _ _ _ (upd H4 a (.ins (ga K "Hand") dx (handG ⟨held, none, aside, some s0⟩ true)))
      generalize upd H4 a (.ins (ga K "Hand") dx (handG ⟨held, none, aside, some s0⟩ true)) = H5 at k4 a4
      cases aside with
      | none =>
        have hF : (if c < s0 ∧ c ≤ x0 then some ((⟨some c, none, none, some s0⟩ : Hd), ([.mine c] : List Lt)) else none) = some (h', ls) := hF
        rw [if_pos hb] at hF
        cases hF
        refine q_when (b := true) (et_to (et_db (ed_op (ed_fld (ev_var rfl) a4 T.k_Hand T.n_Hand_put_aside (get_aside _ true) .non) ed_n rd_isN)) rfl) (fun _ H6 e6 => ?_) (fun z => by cases z)
        refine q_fld (ev_var rfl) (e6 _ _ a4) T.k_Hand T.n_Hand_card_held (Nat.le_of_ble_eq_true rfl) (ed_var rfl (.int c)) fun v1 H7 e7 hv1 => ?_
        cases hv1
        refine s_retN (K := K) (en_lst (es_cons (ed_tup (es_cons ed_s (es_cons (ed_var rfl (.int c)) es_nil)) (Nat.le_of_ble_eq_true rfl)) es_nil) (Nat.le_of_ble_eq_true rfl)) fun p us H8 hp e8 h8 hv8 => ?_
        have k2 : Kp (fun x => x = a) H (upd H7 a (.ins (ga K "Hand") dx (putF "card_held" (.int c) (handG ⟨held, none, none, some s0⟩ true)))) := ((k4.trans (Kp.of e6)).trans (Kp.of e7)).upd rfl
        exact k p us H8 (k2.trans (Kp.of e8)) (k2.fr p hp) (e8 _ _ upd_same) h8 hv8
      | some a0 =>
        have hF : (if c < s0 ∧ c ≤ x0 then some ((⟨some a0, none, none, some s0⟩ : Hd), ([.back c] : List Lt)) else none) = some (h', ls) := hF
        rw [if_pos hb] at hF
        cases hF
        refine q_when (b := false) (et_to (et_db (ed_op (ed_fld (ev_var rfl) a4 T.k_Hand T.n_Hand_put_aside (get_aside _ true) (.int a0)) ed_n rd_isN)) rfl) (fun z => by cases z) fun _ H6 e6 => ?_
        refine q_fld (ev_var rfl) (e6 _ _ a4) T.k_Hand T.n_Hand_card_held (Nat.le_of_ble_eq_true rfl) (ed_fld (ev_var rfl) (e6 _ _ a4) T.k_Hand T.n_Hand_put_aside (get_aside _ true) (.int a0)) fun v1 H7 e7 hv1 => ?_
        cases hv1
        refine q_fld (ev_var rfl) upd_same T.k_Hand T.n_Hand_put_aside (Nat.le_of_ble_eq_true rfl) ed_n fun v1 H8 e8 hv1 => ?_
        cases hv1
        refine s_retN (K := K) (en_lst (es_cons (ed_tup (es_cons ed_s (es_cons (ed_var rfl (.int c)) es_nil)) (Nat.le_of_ble_eq_true rfl)) es_nil) (Nat.le_of_ble_eq_true rfl)) fun p us H9 hp e9 h9 hv9 => ?_
        have k2 : Kp (fun x => x = a) H (upd H8 a (.ins (ga K "Hand") dx (putF "put_aside" .non (putF "card_held" (.int a0) (handG ⟨held, none, some a0, some s0⟩ true))))) := ((((k4.trans (Kp.of e6)).trans (Kp.of e7)).upd rfl).trans (Kp.of e8)).upd rfl
        exact k p us H9 (k2.trans (Kp.of e9)) (k2.fr p hp) (e9 _ _ upd_same) h9 hv9
/-- hear -/
def spHear (K : PySem.W.Frag) : Sp := fun vs H Q _ => ∃ a dx h v l h' ls, vs = [.ref a, v] ∧ H a = some (.ins (ga K "Hand") dx (handF h)) ∧ Dp K H v (Lt.D l) ∧ cardB l.c = true ∧ hearF h l = some (h', ls) ∧
  ∀ p us H2, Kp (fun x => x = a) H H2 → H p = none → H2 a = some (.ins (ga K "Hand") dx (handF h')) → H2 p = some (.lst us) → DpAll K H2 us (ls.map Lt.D) → Q (.ref p) H2
theorem ok_hear (T : Txt w K mg) : FR P w K mg base 3 (ma K (ga K "Hand") "hear") (spHear K) := by
  have G_need_letter : FR P w K mg base 1 (ga K "need_letter") (spD K R_need_letter) := ok_need_letter T
  have G_is_letter : FR P w K mg base 2 (ga K "is_letter") (spD K R_is_letter) := ok_is_letter T
  have G_Hand_hear_mine : FR P w K mg base 2 (ma K (ga K "Hand") "hear_mine") (spHdC K fun h c => hearF h (.mine c)) := ok_hear_mine T
  have G_Hand_hear_over : FR P w K mg base 2 (ma K (ga K "Hand") "hear_over") (spHdC K fun h c => hearF h (.over c)) := ok_hear_over T
  have G_Hand_hear_back : FR P w K mg base 2 (ma K (ga K "Hand") "hear_back") (spHdC K fun h c => hearF h (.back c)) := ok_hear_back T
  refine okN T.f_Hand_hear sc_Hand_hear (fun _ _ _ _ _ _ us hl => match us, hl with | [_, _], _ => rfl) (fun vs H Q E h => by obtain ⟨_, _, _, _, _, _, _, rfl, _⟩ := h; rfl) fun cdv A outer s H vs Q E hr h => ?_
  obtain ⟨a, dx, hd, v, l, h', ls, rfl, ha, hv, hc, hF, k⟩ := h
  obtain ⟨_, hg_MINE⟩ := T.v_MINE
  obtain ⟨_, hg_OVER⟩ := T.v_OVER
  refine ⟨_, (pss_cons (ps_expr (cl G_need_letter (hr.mono (by decide)) T.g_need_letter psN (pa_cons (pe_and (pe_fld (pv 0) rfl) (pe_one (cl G_is_letter (hr.mono (by decide)) T.g_is_letter psN (pa_cons (pv 1) pa_nil)))) pa_nil)))
      (pss_cons (ps_asg (pv 1) (pg_tup (by rfl) (pgs_cons (pg_name (i := 2) sc_Hand_hear.nd rfl (Or.inl rfl)) (pgs_cons (pg_name (i := 3) sc_Hand_hear.nd rfl (Or.inl rfl)) pgs_nil))))
      (pss_cons (ps_if (pt_cmpR op_eq (pv 2) (pe_glob (v := .str "mine") rfl hg_MINE ⟨_, rfl⟩) (nomark _)) (pss_one (ps_ret (me (pv 0) T.k_Hand T.m_Hand_hear_mine G_Hand_hear_mine (hr.mono (by decide)) psN (pa_cons (pv 3) pa_nil)))) pss_nil)
      (pss_one (ps_ret (pe_ifExp (pt_cmpR op_eq (pv 2) (pe_glob (v := .str "over") rfl hg_OVER ⟨_, rfl⟩) (nomark _)) (me (pv 0) T.k_Hand T.m_Hand_hear_over G_Hand_hear_over (hr.mono (by decide)) psN (pa_cons (pv 3) pa_nil)) (me (pv 0) T.k_Hand T.m_Hand_hear_back G_Hand_hear_back (hr.mono (by decide)) psN (pa_cons (pv 3) pa_nil)))))))), ?_⟩
  refine q_dropD (ed_cl (R := R_need_letter) (d := .none) (ds := [.bool true]) (es_cons (ed_to (ed_andV (ed_fld (ev_var rfl) ha T.k_Hand T.n_Hand_has_begun (get_begun hd true) (.bl true)) fun _ => ed_cl (R := R_is_letter) (es_cons (ed_var rfl hv) es_nil) ⟨l, rfl, hc, rfl⟩) rfl) es_nil) ⟨rfl, rfl⟩) fun H1 e1 => ?_
  refine q_asgG (ed_var rfl (dp_ex e1 _ hv)) fun w0 H2 e2 hw => g_tup2 hw fun x y d1 d2 => ?_
  cases d1
  cases d2
  have e12 := e1.trans e2
  cases l with
  | mine c =>
    refine q_when (b := true) (et_to (et_db (K := K) (ed_op (ed_var rfl (.str _)) ed_s rd_eqS)) rfl) (fun _ H3 e3 => ?_) (fun z => by cases z)
    refine ⟨_, rfl, a, dx, handF hd, rfl, (e12.trans e3) _ _ ha, rfl, ⟨_, rfl, a, dx, hd, c, h', ls, rfl, (e12.trans e3) _ _ ha, hF, fun p us H4 kp hp q1 q2 q3 => ?_⟩⟩
    exact k p us H4 ((Kp.of (e12.trans e3)).trans kp) (fresh_back (e12.trans e3) hp) q1 q2 q3
  | over c =>
    refine q_when (b := false) (et_to (et_db (K := K) (ed_op (ed_var rfl (.str _)) ed_s rd_eqS)) rfl) (fun z => by cases z) fun _ H3 e3 => ?_
    have e13 := e12.trans e3
    refine et_db (K := K) (ed_op (ed_var rfl (.str _)) ed_s rd_eqS) H3 (Ex.refl H3) _ fun H4 e4 => ?_
    refine ⟨_, rfl, a, dx, handF hd, rfl, (e13.trans e4) _ _ ha, rfl, ⟨_, rfl, a, dx, hd, c, h', ls, rfl, (e13.trans e4) _ _ ha, hF, fun p us H5 kp hp q1 q2 q3 => ?_⟩⟩
    exact k p us H5 ((Kp.of (e13.trans e4)).trans kp) (fresh_back (e13.trans e4) hp) q1 q2 q3
  | back c =>
    refine q_when (b := false) (et_to (et_db (K := K) (ed_op (ed_var rfl (.str _)) ed_s rd_eqS)) rfl) (fun z => by cases z) fun _ H3 e3 => ?_
    have e13 := e12.trans e3
    refine et_db (K := K) (ed_op (ed_var rfl (.str _)) ed_s rd_eqS) H3 (Ex.refl H3) _ fun H4 e4 => ?_
    refine ⟨_, rfl, a, dx, handF hd, rfl, (e13.trans e4) _ _ ha, rfl, ⟨_, rfl, a, dx, hd, c, h', ls, rfl, (e13.trans e4) _ _ ha, hF, fun p us H5 kp hp q1 q2 q3 => ?_⟩⟩
    exact k p us H5 ((Kp.of (e13.trans e4)).trans kp) (fresh_back (e13.trans e4) hp) q1 q2 q3
/-- go -/
def goF (h : Hd) : Hd := { h with sent := h.held, held := none }
def spGo (K : PySem.W.Frag) : Sp := fun vs H Q E => ∃ a dx h, vs = [.ref a] ∧ H a = some (.ins (ga K "Hand") dx (handF h)) ∧ (mayGo h = false → ∀ H2, Ex H H2 → E (.ref (ga K "Idle")) none H2) ∧
  (∀ c, h.held = some c → mayGo h = true → ∀ p us H2, Kp (fun x => x = a) H H2 → H p = none → H2 a = some (.ins (ga K "Hand") dx (handF (goF h))) → H2 p = some (.lst us) → DpAll K H2 us [Lt.D (.over c)] → Q (.ref p) H2)
theorem ok_Hand_go (T : Txt w K mg) : FR P w K mg base 2 (ma K (ga K "Hand") "go") (spGo K) := by
  have G_Hand_may_go : FR P w K mg base 1 (ma K (ga K "Hand") "may_go") (spHd K fun h => .bool (mayGo h)) := ok_Hand_may_go T
  refine okX T.f_Hand_go sc_Hand_go (fun _ _ _ _ _ _ us hl => match us, hl with | [_], _ => rfl) (fun vs H Q E h => by obtain ⟨_, _, _, rfl, _⟩ := h; rfl) fun cdv A outer s H vs Q E hr h => ?_
  obtain ⟨a, dx, hd, rfl, ha, kE, kQ⟩ := h
  obtain ⟨_, hg_OVER⟩ := T.v_OVER
  have tk := tk_of (P := P) (w := w) (K := K) (mg := mg) (base := base) (N := N_Hand_go) (qual := "Hand.go") (scope := defScope s_Hand_go) (f := ma K (ga K "Hand") "go") (cdv := cdv) (A := A) (outer := outer) (s := s) (H := H) (E := E)
  refine ⟨_, (pss_cons (ps_if (pt_not (pt_val (me0 (pv 0) T.k_Hand T.m_Hand_may_go G_Hand_may_go (hr.mono (by decide)) psN))) (pss_one (raiseX T.c_Idle T.x_Idle tk rfl)) pss_nil)
      (pss_cons (ps_fld (pv 0) (pe_fld (pv 0) rfl) rfl)
      (pss_cons (ps_fld (pv 0) pe_non rfl)
      (pss_one (ps_ret (pe_lst (pa_cons (pe_tup (pa_cons (pe_glob (v := .str "over") rfl hg_OVER ⟨_, rfl⟩) (pa_cons (pe_fld (pv 0) rfl) pa_nil))) pa_nil))))))), ?_⟩
  refine q_when (b := !mayGo hd) (et_not (et_db (fun H1 e1 Q1 q1 => ⟨_, rfl, a, dx, handF hd, rfl, e1 _ _ ha, rfl, ⟨a, _, hd, rfl, e1 _ _ ha, ⟨dx, rfl⟩, fun v H2 e2 hv => q1 v H2 e2 hv⟩⟩))) (fun z H1 e1 => ?_) fun z H1 e1 => ?_
  · exact kE (by simpa using z) H1 e1
  · have hg : mayGo hd = true := by simpa using z
    obtain ⟨c, hc⟩ : ∃ c, hd.held = some c := by
      unfold mayGo at hg
      cases h : hd.held with
      | none => rw [h] at hg; cases hg
      | some c => exact ⟨c, rfl⟩
    refine q_fld (ev_var rfl) (e1 _ _ ha) T.k_Hand T.n_Hand_sent_away (Nat.le_of_ble_eq_true rfl) (ed_fld (ev_var rfl) (e1 _ _ ha) T.k_Hand T.n_Hand_card_held (get_held hd true) (oD_dp _)) fun v1 H2 e2 hv1 => ?_
    have hv2 := oD_v hv1
    subst hv2
    refine q_fld (ev_var rfl) upd_same T.k_Hand T.n_Hand_card_held (Nat.le_of_ble_eq_true rfl) ed_n fun v1 H3 e3 hv1 => ?_
    cases hv1
    refine s_retN (K := K) (en_lst (es_cons (ed_tup (es_cons ed_s (es_cons (ed_fld (ev_var rfl) upd_same T.k_Hand T.n_Hand_sent_away rfl (by rw [hc]; exact .int c)) es_nil)) (Nat.le_of_ble_eq_true rfl)) es_nil) (Nat.le_of_ble_eq_true rfl)) fun p us H4 hp e4 h4 hv4 => ?_
    have k2 : Kp (fun x => x = a) H (upd H3 a (.ins (ga K "Hand") dx (putF "card_held" .non (putF "sent_away" (oV hd.held) (handG hd true))))) := ((((Kp.of (S := fun x => x = a) e1).trans (Kp.of e2)).upd rfl).trans (Kp.of e3)).upd rfl
    exact kQ c hc hg p us H4 (k2.trans (Kp.of e4)) (k2.fr p hp) (e4 _ _ upd_same) h4 hv4
end
end K59

set_option Elab.async false
set_option linter.all false
set_option maxRecDepth 100000
set_option maxHeartbeats 4000000
/-! nets: what lies where -/
namespace K59
open PySem PySem.Spec PyProof.Rows L2 Evl He
inductive Cl where
  | net | folk | lanes | logs | first | now | done
  | hand (i : Nat) | right (i : Nat) | left (i : Nat) | log (i : Nat)
deriving DecidableEq
def Live (n : Nat) : Cl → Prop
  | .hand i => i < n
  | .log i => i < n
  | .right i => i + 1 < n
  | .left i => i + 1 < n
  | _ => True
/-- a net's state: n hands, lanes to the right (i to i + 1) and to the left (i + 1 to i) -/
structure NS where
  n : Nat
  hd : Nat → Hd
  R : Nat → List Lt
  L : Nat → List Lt
  first : List Int
  now : List Int
  done : List (Int × Int)
  t : Nat
def laneKV (A : Cl → Addr) : Nat → List (List Key × V)
  | 0 => []
  | 1 => []
  | n + 2 => laneKV A (n + 1) ++ [([.inl (n : Int), .inl ((n : Int) + 1)], .ref (A (.right n))), ([.inl ((n : Int) + 1), .inl (n : Int)], .ref (A (.left n)))]
def netF (A : Cl → Addr) : List (Str × V) := [("folk", .ref (A .folk)), ("lanes_kept", .ref (A .lanes)), ("logs_kept", .ref (A .logs)), ("first_cards", .ref (A .first)), ("now_cards", .ref (A .now)), ("done_pairs", .ref (A .done))]
/-- pairs laid as tuples -/
inductive PrAll (H : Hp) : List V → List (Int × Int) → Prop
  | nil : PrAll H [] []
  | cons {q : Addr} {p : Int × Int} {vs : List V} {ps : List (Int × Int)} (h : H q = some (.tup [.int p.1, .int p.2])) (t : PrAll H vs ps) : PrAll H (.ref q :: vs) (p :: ps)
theorem PrAll.da {K : PySem.W.Frag} {H : Hp} {vs : List V} {ps : List (Int × Int)} (h : PrAll H vs ps) : DpAll K H vs (ps.map PrD) := by
  induction h with
  | nil => exact .nil
  | cons h _ ih => exact .cons (.tup (st_of h) (.cons (.int _) (.cons (.int _) .nil))) ih
theorem PrAll.ts {H H' : Hp} {vs : List V} {ps : List (Int × Int)} (e : TSt H H') (h : PrAll H vs ps) : PrAll H' vs ps := by
  induction h with
  | nil => exact .nil
  | cons h _ ih => exact .cons (e.tup h) ih
theorem PrAll.snoc {H : Hp} {q : Addr} {p : Int × Int} (h : H q = some (.tup [.int p.1, .int p.2])) {vs : List V} {ps : List (Int × Int)} (t : PrAll H vs ps) : PrAll H (vs ++ [.ref q]) (ps ++ [p]) := by
  induction t with
  | nil => exact .cons h .nil
  | cons a _ ih => exact .cons a ih
theorem PrAll.len {H : Hp} {vs : List V} {ps : List (Int × Int)} (t : PrAll H vs ps) : vs.length = ps.length := by
  induction t with
  | nil => rfl
  | cons _ _ ih => rw [List.length_cons, List.length_cons, ih]
/-- what stands at a cell -/
def Is (K : PySem.W.Frag) (H : Hp) (A : Cl → Addr) (s : NS) : Cl → HO → Prop
  | .net, o => ∃ dx, o = .ins (ga K "Net") dx (netF A)
  | .folk, o => o = .lst ((List.range s.n).map fun i => .ref (A (.hand i)))
  | .lanes, o => o = .dT (laneKV A s.n)
  | .logs, o => o = .lst ((List.range s.n).map fun i => .ref (A (.log i)))
  | .first, o => o = .lst (s.first.map V.int)
  | .now, o => o = .lst (s.now.map V.int)
  | .done, o => ∃ vs, o = .lst vs ∧ PrAll H vs s.done
  | .hand i, o => ∃ dx, o = .ins (ga K "Hand") dx (handF (s.hd i))
  | .right i, o => ∃ vs, o = .lst vs ∧ DpAll K H vs ((s.R i).map Lt.D)
  | .left i, o => ∃ vs, o = .lst vs ∧ DpAll K H vs ((s.L i).map Lt.D)
  | .log _, o => ∃ vs, o = .lst vs ∧ vs.length ≤ s.t
structure NetAt (K : PySem.W.Frag) (H : Hp) (A : Cl → Addr) (s : NS) : Prop where
  at_ : ∀ c, Live s.n c → ∃ o, H (A c) = some o ∧ Is K H A s c o
  inj : ∀ c d, Live s.n c → Live s.n d → A c = A d → c = d
def Foot (A : Cl → Addr) (n : Nat) (a : Addr) : Prop := ∃ c, Live n c ∧ A c = a
section
variable {K : PySem.W.Frag} {H H' : Hp} {A : Cl → Addr} {s s' : NS}
theorem Is.ts {c : Cl} {o : HO} (e : TSt H H') (h : Is K H A s c o) : Is K H' A s c o := by
  cases c with
  | done =>
    obtain ⟨vs, e1, h⟩ := h
    exact ⟨vs, e1, h.ts e⟩
  | right i =>
    obtain ⟨vs, e1, h⟩ := h
    exact ⟨vs, e1, da_ts e _ (Lts_noL _) h⟩
  | left i =>
    obtain ⟨vs, e1, h⟩ := h
    exact ⟨vs, e1, da_ts e _ (Lts_noL _) h⟩
  | _ => exact h
theorem Is.noTup {c : Cl} {o : HO} (h : Is K H A s c o) : NoT o := by
  cases c with
  | net => obtain ⟨dx, rfl⟩ := h; trivial
  | folk => cases h; trivial
  | lanes => cases h; trivial
  | logs => cases h; trivial
  | first => cases h; trivial
  | now => cases h; trivial
  | done => obtain ⟨vs, rfl, _⟩ := h; trivial
  | hand i => obtain ⟨dx, rfl⟩ := h; trivial
  | right i => obtain ⟨vs, rfl, _⟩ := h; trivial
  | left i => obtain ⟨vs, rfl, _⟩ := h; trivial
  | log i => obtain ⟨vs, rfl, _⟩ := h; trivial
theorem NetAt.noTup (h : NetAt K H A s) (a : Addr) (f : Foot A s.n a) : ∀ xs, ¬ Rd H a (.tup xs) := by
  obtain ⟨c, hc, rfl⟩ := f
  obtain ⟨o, ho, hi⟩ := h.at_ c hc
  exact no_tup ho hi.noTup
/-- nothing of the net changes -/
theorem NetAt.ex (h : NetAt K H A s) (e : Ex H H') : NetAt K H' A s := ⟨fun c hc => by
  obtain ⟨o, ho, hi⟩ := h.at_ c hc
  exact ⟨o, e _ _ ho, hi.ts (Ex.ts e)⟩, h.inj⟩
/-- others' cells change -/
theorem NetAt.kp {S : Addr → Prop} (h : NetAt K H A s) (k : Kp S H H') (hS : ∀ a, S a → ¬ Foot A s.n a) (ht : TSt H H') : NetAt K H' A s := ⟨fun c hc => by
  obtain ⟨o, ho, hi⟩ := h.at_ c hc
  exact ⟨o, k.st _ _ ho fun z => hS _ z ⟨c, hc, rfl⟩, hi.ts ht⟩, h.inj⟩
/-- one cell changes -/
theorem NetAt.one (h : NetAt K H A s) {c : Cl} (k : Kp (fun x => x = A c) H H') (hn : s'.n = s.n) (hc : Live s.n c) {o : HO} (ho : H' (A c) = some o) (hi : Is K H' A s' c o) (hs : ∀ d o, d ≠ c → Live s.n d → Is K H' A s d o → Is K H' A s' d o) : NetAt K H' A s' := by
  have ts : TSt H H' := k.ts fun a ha => by
    subst ha
    exact h.noTup _ ⟨c, hc, rfl⟩
  refine ⟨fun d hd => ?_, by rw [hn]; exact h.inj⟩
  rw [hn] at hd
  by_cases e : d = c
  · subst e
    exact ⟨o, ho, hi⟩
  · obtain ⟨u, hu, iu⟩ := h.at_ d hd
    exact ⟨u, k.st _ _ hu fun z => e (h.inj d c hd hc z), hs d u e hd (iu.ts ts)⟩
theorem NetAt.hand (h : NetAt K H A s) {i : Nat} (hi : i < s.n) : ∃ dx, H (A (.hand i)) = some (.ins (ga K "Hand") dx (handF (s.hd i))) := by
  obtain ⟨o, ho, dx, rfl⟩ := h.at_ (.hand i) hi
  exact ⟨dx, ho⟩
theorem NetAt.net (h : NetAt K H A s) : ∃ dx, H (A .net) = some (.ins (ga K "Net") dx (netF A)) := by
  obtain ⟨o, ho, dx, rfl⟩ := h.at_ .net trivial
  exact ⟨dx, ho⟩
theorem NetAt.folk (h : NetAt K H A s) : H (A .folk) = some (.lst ((List.range s.n).map fun i => .ref (A (.hand i)))) := by
  obtain ⟨o, ho, rfl⟩ := h.at_ .folk trivial
  exact ho
theorem NetAt.lanes (h : NetAt K H A s) : H (A .lanes) = some (.dT (laneKV A s.n)) := by
  obtain ⟨o, ho, rfl⟩ := h.at_ .lanes trivial
  exact ho
theorem NetAt.logs (h : NetAt K H A s) : H (A .logs) = some (.lst ((List.range s.n).map fun i => .ref (A (.log i)))) := by
  obtain ⟨o, ho, rfl⟩ := h.at_ .logs trivial
  exact ho
theorem NetAt.firstL (h : NetAt K H A s) : H (A .first) = some (.lst (s.first.map V.int)) := by
  obtain ⟨o, ho, rfl⟩ := h.at_ .first trivial
  exact ho
theorem NetAt.nowL (h : NetAt K H A s) : H (A .now) = some (.lst (s.now.map V.int)) := by
  obtain ⟨o, ho, rfl⟩ := h.at_ .now trivial
  exact ho
theorem NetAt.doneL (h : NetAt K H A s) : ∃ vs, H (A .done) = some (.lst vs) ∧ PrAll H vs s.done := by
  obtain ⟨o, ho, vs, rfl, q⟩ := h.at_ .done trivial
  exact ⟨vs, ho, q⟩
theorem NetAt.rightL (h : NetAt K H A s) {i : Nat} (hi : i + 1 < s.n) : ∃ vs, H (A (.right i)) = some (.lst vs) ∧ DpAll K H vs ((s.R i).map Lt.D) := by
  obtain ⟨o, ho, vs, rfl, q⟩ := h.at_ (.right i) hi
  exact ⟨vs, ho, q⟩
theorem NetAt.leftL (h : NetAt K H A s) {i : Nat} (hi : i + 1 < s.n) : ∃ vs, H (A (.left i)) = some (.lst vs) ∧ DpAll K H vs ((s.L i).map Lt.D) := by
  obtain ⟨o, ho, vs, rfl, q⟩ := h.at_ (.left i) hi
  exact ⟨vs, ho, q⟩
theorem NetAt.logL (h : NetAt K H A s) {i : Nat} (hi : i < s.n) : ∃ vs, H (A (.log i)) = some (.lst vs) ∧ vs.length ≤ s.t := by
  obtain ⟨o, ho, vs, rfl, q⟩ := h.at_ (.log i) hi
  exact ⟨vs, ho, q⟩
end
/-! ### the lanes' dict -/
theorem valV_app {κ : Type} [DecidableEq κ] (xs ys : List (κ × V)) (k : κ) : valV (xs ++ ys) k = (valV xs k).or (valV ys k) := by
  unfold valV
  rw [List.find?_append]
  cases xs.find? fun kv => decide (kv.1 = k) <;> rfl
theorem key2_ne {a b c d : Int} (h : ¬ (a = c ∧ b = d)) : ¬ (([.inl a, .inl b] : List Key) = [.inl c, .inl d]) := fun e => h (by
  have e1 := List.cons.inj e
  have e2 := List.cons.inj e1.2
  exact ⟨Sum.inl.inj e1.1, Sum.inl.inj e2.1⟩)
theorem lane_none (A : Cl → Addr) {a b : Int} : ∀ n : Nat, (∀ i : Nat, i + 1 < n → ¬ ((i : Int) = a ∧ (i : Int) + 1 = b) ∧ ¬ ((i : Int) + 1 = a ∧ (i : Int) = b)) → valV (laneKV A n) [.inl a, .inl b] = none
  | 0, _ => rfl
  | 1, _ => rfl
  | n + 2, h => by
    rw [laneKV, valV_app, lane_none A (n + 1) fun i hi => h i (by omega)]
    obtain ⟨h1, h2⟩ := h n (by omega)
    show valV _ _ = none
    rw [valV_neg (key2_ne h1), valV_neg (key2_ne h2)]
    rfl
theorem lane_right (A : Cl → Addr) {i : Nat} : ∀ n : Nat, i + 1 < n → valV (laneKV A n) [.inl (i : Int), .inl ((i : Int) + 1)] = some (.ref (A (.right i)))
  | 0, h => by omega
  | 1, h => by omega
  | n + 2, h => by
    rw [laneKV, valV_app]
    by_cases e : i = n
    · subst e
      rw [lane_none A (i + 1) fun j hj => ⟨fun z => by omega, fun z => by omega⟩]
      show valV _ _ = _
      rw [valV_pos rfl]
    · rw [lane_right A (n + 1) (by omega)] <;> rfl
theorem lane_left (A : Cl → Addr) {i : Nat} : ∀ n : Nat, i + 1 < n → valV (laneKV A n) [.inl ((i : Int) + 1), .inl (i : Int)] = some (.ref (A (.left i)))
  | 0, h => by omega
  | 1, h => by omega
  | n + 2, h => by
    rw [laneKV, valV_app]
    by_cases e : i = n
    · subst e
      rw [lane_none A (i + 1) fun j hj => ⟨fun z => by omega, fun z => by omega⟩]
      show valV _ _ = _
      rw [valV_neg (key2_ne fun z => by omega), valV_pos rfl]
    · rw [lane_left A (n + 1) (by omega)] <;> rfl
theorem laneKV_len (A : Cl → Addr) : ∀ n : Nat, (laneKV A n).length ≤ 2 * n
  | 0 => by simp [laneKV]
  | 1 => by simp [laneKV]
  | n + 2 => by
    have := laneKV_len A (n + 1)
    rw [laneKV, List.length_append]
    simp only [List.length_cons, List.length_nil]
    omega
/-- the addresses matter only where lanes are -/
theorem laneKV_eq {A B : Cl → Addr} : ∀ n : Nat, (∀ i, i + 1 < n → A (.right i) = B (.right i) ∧ A (.left i) = B (.left i)) → laneKV A n = laneKV B n
  | 0, _ => rfl
  | 1, _ => rfl
  | n + 2, h => by
    rw [laneKV, laneKV, laneKV_eq (n + 1) fun i hi => h i (by omega), (h n (by omega)).1, (h n (by omega)).2]
end K59

set_option Elab.async false
set_option linter.all false
set_option maxRecDepth 100000
set_option maxHeartbeats 4000000
/-! nets: notes -/
namespace K59
open PySem PySem.Spec PyProof.Rows L2 Evl He
section
variable {K : PySem.W.Frag} {H H' : Hp} {A : Cl → Addr} {s s' : NS} {vs : List V} {i : Nat}
theorem NetAt.setR (N : NetAt K H A s) (hi : i + 1 < s.n) {ls : List Lt} (k : Kp (fun x => x = A (.right i)) H H') (ho : H' (A (.right i)) = some (.lst vs)) (hd : DpAll K H' vs (ls.map Lt.D)) : NetAt K H' A { s with R := fun j => if j = i then ls else s.R j } := by
  refine N.one (c := .right i) k rfl hi ho ⟨vs, rfl, by simp only [if_true]; exact hd⟩ fun d o hne _ h => ?_
  cases d with
  | right j =>
    obtain ⟨us, e, q⟩ := h
    refine ⟨us, e, ?_⟩
    show DpAll K H' us ((if j = i then ls else s.R j).map Lt.D)
    rw [if_neg (fun z => hne (by rw [z]))]
    exact q
  | _ => exact h
theorem NetAt.setL (N : NetAt K H A s) (hi : i + 1 < s.n) {ls : List Lt} (k : Kp (fun x => x = A (.left i)) H H') (ho : H' (A (.left i)) = some (.lst vs)) (hd : DpAll K H' vs (ls.map Lt.D)) : NetAt K H' A { s with L := fun j => if j = i then ls else s.L j } := by
  refine N.one (c := .left i) k rfl hi ho ⟨vs, rfl, by simp only [if_true]; exact hd⟩ fun d o hne _ h => ?_
  cases d with
  | left j =>
    obtain ⟨us, e, q⟩ := h
    refine ⟨us, e, ?_⟩
    show DpAll K H' us ((if j = i then ls else s.L j).map Lt.D)
    rw [if_neg (fun z => hne (by rw [z]))]
    exact q
  | _ => exact h
theorem NetAt.setHd (N : NetAt K H A s) (hi : i < s.n) {h : Hd} {dx : Addr} (k : Kp (fun x => x = A (.hand i)) H H') (ho : H' (A (.hand i)) = some (.ins (ga K "Hand") dx (handF h))) : NetAt K H' A { s with hd := fun j => if j = i then h else s.hd j } := by
  refine N.one (c := .hand i) k rfl hi ho ⟨dx, by simp only [if_true]⟩ fun d o hne _ h => ?_
  cases d with
  | hand j =>
    obtain ⟨us, e⟩ := h
    refine ⟨us, ?_⟩
    show o = .ins (ga K "Hand") us (handF (if j = i then _ else s.hd j))
    rw [if_neg (fun z => hne (by rw [z]))]
    exact e
  | _ => exact h
theorem NetAt.setLog (N : NetAt K H A s) (hi : i < s.n) (k : Kp (fun x => x = A (.log i)) H H') (ho : H' (A (.log i)) = some (.lst vs)) (hz : vs.length ≤ s.t + 1) : NetAt K H' A { s with t := s.t + 1 } := by
  refine N.one (c := .log i) k rfl hi ho ⟨vs, rfl, hz⟩ fun d o hne _ h => ?_
  cases d with
  | log j =>
    obtain ⟨us, e, q⟩ := h
    exact ⟨us, e, Nat.le_succ_of_le q⟩
  | _ => exact h
theorem NetAt.setNow (N : NetAt K H A s) {ns : List Int} (k : Kp (fun x => x = A .now) H H') (ho : H' (A .now) = some (.lst (ns.map V.int))) : NetAt K H' A { s with now := ns } := by
  refine N.one (c := .now) k rfl trivial ho rfl fun d o hne _ h => ?_
  cases d with
  | now => exact absurd rfl hne
  | _ => exact h
theorem NetAt.setDone (N : NetAt K H A s) {ps : List (Int × Int)} (k : Kp (fun x => x = A .done) H H') (ho : H' (A .done) = some (.lst vs)) (hd : PrAll H' vs ps) : NetAt K H' A { s with done := ps } := by
  refine N.one (c := .done) k rfl trivial ho ⟨vs, rfl, hd⟩ fun d o hne _ h => ?_
  cases d with
  | done => exact absurd rfl hne
  | _ => exact h
theorem Foot.of {n : Nat} {c : Cl} (h : Live n c) : Foot A n (A c) := ⟨c, h, rfl⟩
theorem Kp.foot {n : Nat} {c : Cl} (k : Kp (fun x => x = A c) H H') (h : Live n c) : Kp (Foot A n) H H' := k.mono fun x e => by rw [e]; exact Foot.of h
theorem NetAt.tst (N : NetAt K H A s) (k : Kp (Foot A s.n) H H') : TSt H H' := k.ts fun a f => N.noTup a f
end
section
variable {K : PySem.W.Frag} {σ : K59.St} {H H' : Hp} {te ta tb tv t0 : TE} {d : PyData} {v : V} {A : Cl → Addr} {s : NS} {D : Ends} {tz : L2.TS} {a b : Int} {w : World} {mg : Str → Option Value}
theorem ev_nf (T : Txt w K mg) (N : NetAt K H A s) (h0 : Ev t0 σ H (.ref (A .net))) {f : Str} {v : V} (hn : NoAttr K (ga K "Net") f) (hf : (netF A).lookup f = some v) : Ev (tFld K t0 f) σ H v := by
  obtain ⟨dx, h⟩ := N.net
  exact ev_fld h0 h T.k_Net hn hf
theorem ev_lane (T : Txt w K mg) (N : NetAt K H A s) (h0 : Ev t0 σ H (.ref (A .net))) (ha : Ev ta σ H (.int a)) (hb : Ev tb σ H (.int b)) (hv : valV (laneKV A s.n) [.inl a, .inl b] = some v) :
    Ev (tDGet (tFld K t0 "lanes_kept") (tTup (tCons ta (tCons tb tNil)))) σ H v := fun H1 e Q q =>
  ev_nf T N h0 T.n_Net_lanes_kept rfl H1 e _ fun H2 e2 => eu_tup (ea_cons ha (ea_cons hb ea_nil)) (Nat.le_of_ble_eq_true rfl) H2 (e.trans e2) _ fun p H3 hp e3 h3 => by
    refine ⟨A .lanes, v, rfl, ?_, q H3 (e2.trans e3)⟩
    have h := DGet.t (k := [.inl a, .inl b]) (((e.trans e2).trans e3) _ _ N.lanes) h3
    rw [hv] at h
    exact h
theorem q_asgR {i : Nat} (h : te σ H fun v H1 => tz D (σ.set i (some v)) H1) : tSeq (tAsg te (gName i)) tz D σ H := h
theorem q_dropR (h : te σ H fun _ H1 => tz D σ H1) : tSeq (tDrop te) tz D σ H := h
/-- xs.append(e), e any data -/
theorem s_appE {l : Addr} {xs : List V} (hl : H l = some (.lst xs)) (ha : Ev ta σ H (.ref l)) (h : EvD K te σ H d) (hz : xs.length < 90000) (k : ∀ v H1, Ex H H1 → Dp K H1 v d → D.nx σ (upd H1 l (.lst (xs ++ [v])))) :
    tDrop (tBM K "list" rAppend ta (tCons te tNil)) D σ H := ha H (Ex.refl H) _ fun H1 e1 =>
  ⟨Or.inl ⟨rfl, xs, sq_of (e1 l _ hl)⟩, h H1 e1 _ fun v H2 e2 hv => ⟨l, xs, v, rfl, rfl, e2 l _ (e1 l _ hl), sz_lt (by omega), k v H2 (e1.trans e2) hv⟩⟩
theorem q_appE {l : Addr} {xs : List V} (hl : H l = some (.lst xs)) (ha : Ev ta σ H (.ref l)) (h : EvD K te σ H d) (hz : xs.length < 90000) (k : ∀ v H1, Ex H H1 → Dp K H1 v d → tz D σ (upd H1 l (.lst (xs ++ [v])))) :
    tSeq (tDrop (tBM K "list" rAppend ta (tCons te tNil))) tz D σ H := s_appE (D := { D with nx := tz D }) hl ha h hz k
theorem at_range {α : Type} (f : Nat → α) {n i : Nat} (h : i < n) : ((List.range n).map f)[i]? = some (f i) := by
  rw [List.getElem?_map, List.getElem?_range h] <;> rfl
end
/-- a letter put into its lane -/
def putL (i : Nat) (s : NS) (l : Lt) : NS := match l with
  | .over _ => { s with R := fun j => if j = i then s.R i ++ [l] else s.R j }
  | _ => if i = 0 then s else { s with L := fun j => if j = i - 1 then s.L (i - 1) ++ [l] else s.L j }
def noteS (s : NS) (i : Nat) (ls : List Lt) : NS := { ls.foldl (putL i) s with t := s.t + 1 }
theorem putL_n (i : Nat) (s : NS) (l : Lt) : (putL i s l).n = s.n ∧ (putL i s l).t = s.t := by
  cases l with
  | over c => exact ⟨rfl, rfl⟩
  | mine c =>
    show (if i = 0 then s else _).n = s.n ∧ (if i = 0 then s else _).t = s.t
    by_cases h : i = 0
    · rw [if_pos h]
      exact ⟨rfl, rfl⟩
    · rw [if_neg h]
      exact ⟨rfl, rfl⟩
  | back c =>
    show (if i = 0 then s else _).n = s.n ∧ (if i = 0 then s else _).t = s.t
    by_cases h : i = 0
    · rw [if_pos h]
      exact ⟨rfl, rfl⟩
    · rw [if_neg h]
      exact ⟨rfl, rfl⟩
theorem fold_n (i : Nat) : ∀ (ls : List Lt) (s : NS), (ls.foldl (putL i) s).n = s.n ∧ (ls.foldl (putL i) s).t = s.t
  | [], s => ⟨rfl, rfl⟩
  | l :: ls, s => by
    have h := fold_n i ls (putL i s l)
    have h2 := putL_n i s l
    exact ⟨h.1.trans h2.1, h.2.trans h2.2⟩
/-- lanes are short -/
def Short (s : NS) (b : Nat) : Prop := ∀ i, (s.R i).length ≤ b ∧ (s.L i).length ≤ b
theorem putL_short {i : Nat} {s : NS} {l : Lt} {b : Nat} (h : Short s b) : Short (putL i s l) (b + 1) := fun j => by
  have h1 := h j
  have h2 := h i
  have h3 := h (i - 1)
  have g : ∀ (f : Nat → List Lt) (m : Nat) (x : Lt), (∀ j, (f j).length ≤ b) → (if j = m then f m ++ [x] else f j).length ≤ b + 1 := fun f m x hf => by
    by_cases e : j = m
    · rw [if_pos e, List.length_append]
      exact Nat.succ_le_succ (hf m)
    · rw [if_neg e]
      exact Nat.le_succ_of_le (hf j)
  have gR := fun m x => g s.R m x fun j => (h j).1
  have gL := fun m x => g s.L m x fun j => (h j).2
  cases l with
  | over c => exact ⟨gR i _, by show (s.L j).length ≤ b + 1; omega⟩
  | mine c =>
    show ((if i = 0 then s else _ : NS).R j).length ≤ b + 1 ∧ ((if i = 0 then s else _ : NS).L j).length ≤ b + 1
    by_cases e : i = 0
    · rw [if_pos e]
      omega
    · rw [if_neg e]
      exact ⟨by show (s.R j).length ≤ b + 1; omega, gL (i - 1) _⟩
  | back c =>
    show ((if i = 0 then s else _ : NS).R j).length ≤ b + 1 ∧ ((if i = 0 then s else _ : NS).L j).length ≤ b + 1
    by_cases e : i = 0
    · rw [if_pos e]
      omega
    · rw [if_neg e]
      exact ⟨by show (s.R j).length ≤ b + 1; omega, gL (i - 1) _⟩
section
variable {P : Program} {w : World} {K : PySem.W.Frag} {mg : Str → Option Value} {base : Heap}
def spNote (K : PySem.W.Frag) : Sp := fun vs H Q _ => ∃ (A : Cl → Addr) (s : NS) (i : Nat) (what : V) (lp : Addr) (us : List V) (ls : List Lt) (d : PyData), vs = [.ref (A .net), .int (i : Int), what, .ref lp] ∧ NetAt K H A s ∧ i < s.n ∧ Dp K H what d ∧ noL d = true ∧ H lp = some (.lst us) ∧ DpAll K H us (ls.map Lt.D) ∧ ¬ Foot A s.n lp ∧
  (∀ c, .over c ∈ ls → i + 1 < s.n) ∧ ls.length ≤ 1 ∧ Short s 50000 ∧ s.t < 50000 ∧ ∀ H2, Kp (Foot A s.n) H H2 → NetAt K H2 A (noteS s i ls) → Q .non H2
theorem ok_note (T : Txt w K mg) : FR P w K mg base 1 (ma K (ga K "Net") "note") (spNote K) := by
  refine okN T.f_Net_note sc_Net_note (fun _ _ _ _ _ _ us hl => match us, hl with | [_, _, _, _], _ => rfl) (fun vs H Q E h => by obtain ⟨_, _, _, _, _, _, _, _, rfl, _⟩ := h; rfl) fun cdv A0 outer s0 H vs Q E hr h => ?_
  obtain ⟨A, s, i, what, lp, us, ls, d, rfl, N, hi, hw, hnl, hlp, hus, hnf, hov, hlen, hsh, ht, k⟩ := h
  refine ⟨_, (pss_cons (ps_for PassesOwn.never rfl (pi_list (pv 3)) (pg_name (i := 4) sc_Net_note.nd rfl (Or.inl rfl)) (pss_cons (ps_set (i := 5) sc_Net_note.nd rfl (Or.inl rfl) (pe_ifExp (pt_cmpR op_eq (pe_ix ix_tup (pv 4) pe_int (fun _ _ => rfl)) pe_str (nomark _)) (pe_op op_add (pv 1) pe_int) (pe_op op_sub (pv 1) pe_int)))
      (pss_one (ps_if (pt_cmpR op_ge (pv 5) pe_int (nomark _)) (pss_one (ps_expr (pe_bm PySem.F.plainAttrs_list PySem.F.slot_list_append PySem.F.type_list_append mt_append (pe_dget (hu_of hr) (pe_fld (pv 0) rfl) (pe_tup (pa_cons (pv 1) (pa_cons (pv 5) pa_nil))) (fun _ _ => rfl)) (pa_cons (pv 4) pa_nil)))) pss_nil))))
      (pss_one (ps_expr (pe_bm PySem.F.plainAttrs_list PySem.F.slot_list_append PySem.F.type_list_append mt_append (pe_ix ix_list (pe_fld (pv 0) rfl) (pv 1) (fun _ _ => rfl)) (pa_cons (pe_tup (pa_cons (pv 2) (pa_cons (pe_callTy call_list_of (by rfl) T.b_list bt_list (pa_cons (pv 3) pa_nil)) pa_nil))) pa_nil))))), ?_⟩
  have hlsD : (ls.map Lt.D).length = ls.length := List.length_map _
  have main : ∀ (D : Ends) (u1 u2 : Option V), (∀ H', Kp (Foot A s.n) H H' → NetAt K H' A (ls.foldl (putL i) s) → ∀ w1 w2 : Option V, D.nx [some (.ref (A .net)), some (.int (i : Int)), some what, some (.ref lp), w1, w2] H') →
      ∀ {tu : L2.TS}, (∀ (j : Nat) (l : Lt) (H' : Hp) (x : V) (w2 : Option V) (s1 : NS) (D1 : Ends), NetAt K H' A s1 → s1.n = s.n → Short s1 60000 → l ∈ ls → Dp K H' x l.D → (∀ H2 (w3 : Option V), Kp (Foot A s.n) H' H2 → NetAt K H2 A (putL i s1 l) → D1.nx [some (.ref (A .net)), some (.int (i : Int)), some what, some (.ref lp), some x, w3] H2) → tu D1 [some (.ref (A .net)), some (.int (i : Int)), some what, some (.ref lp), some x, w2] H') →
      tFor (iList K (tVar 3)) (gName 4) tu D [some (.ref (A .net)), some (.int (i : Int)), some what, some (.ref lp), u1, u2] H := fun D u1 u2 hd tu hbody => by
    refine ⟨_, rfl, lp, rfl, ⟨us, sq_of hlp⟩, s_forG (wi := iList K (tVar 3)) (R := fun _ _ => True) (P := fun H => ∃ xs, SqL K H lp xs ∧ DpAll K H xs (ls.map Lt.D)) gv_list (fun j σ' H' => ∃ w1 w2, σ' = [some (.ref (A .net)), some (.int (i : Int)), some what, some (.ref lp), w1, w2] ∧ Kp (Foot A s.n) H H' ∧ NetAt K H' A ((ls.take j).foldl (putL i) s))
      ⟨_, _, rfl, Kp.refl, N⟩ (fun j σ' H' _ ⟨_, _, _, q, _⟩ => ⟨us, sq_of (q.st _ _ hlp hnf), da_ts (N.tst q) _ (Lts_noL ls) hus⟩) ?_ ?_⟩
    · rintro j dd σ' H' x H3 hd1 ⟨w1, w2, rfl, q1, q2⟩ e3 hx
      rw [List.getElem?_map] at hd1
      cases hl : ls[j]? with
      | none => rw [hl] at hd1; cases hd1
      | some l =>
        rw [hl] at hd1
        have e5 := Option.some.inj hd1
        subst e5
        have hm : l ∈ ls := List.mem_of_getElem? hl
        have hj : j < ls.length := (List.getElem?_eq_some_iff.mp hl).1
        have hj0 : j = 0 := by omega
        subst hj0
        refine hbody 0 l H3 x w2 s _ (q2.ex e3) rfl (fun z => ⟨Nat.le_trans (hsh z).1 (by decide), Nat.le_trans (hsh z).2 (by decide)⟩) hm hx fun H2 w3 k2 n2 => ⟨_, _, rfl, (q1.trans (Kp.of e3)).trans k2, ?_⟩
        rw [List.take_succ, hl]
        exact n2
    · rintro σ' H' ⟨w1, w2, rfl, q1, q2⟩
      rw [hlsD, List.take_length] at q2
      exact hd H' q1 q2 w1 w2
  refine main _ _ _ (fun H' k1 N1 w1 w2 => ?_) (fun j l H' x w2 s1 D1 N1 hn1 hsh1 hm hx kk => ?_)
  · -- the log
    have hn1 := fold_n i ls s
    have hi1 : i < (ls.foldl (putL i) s).n := by rw [hn1.1]; exact hi
    obtain ⟨gs, hg, hgl⟩ := N1.logL hi1
    have hw1 := dp_ts (N.tst k1) _ hnl hw
    have hl1 : Dp K H' (.ref lp) (.list (ls.map Lt.D)) := .lst (.inl (.inl (k1.st _ _ hlp hnf))) (da_ts (N.tst k1) _ (Lts_noL ls) hus)
    refine s_appE hg (ev_op (ev_nf T N1 (ev_var rfl) T.n_Net_logs_kept rfl) (ev_var rfl) (rv_ixL (sq_of N1.logs) (atI_nat (at_range _ hi1)))) (ed_tup (es_cons (ed_var rfl hw1) (es_cons (en_list (ed_var rfl hl1)).toD es_nil)) (Nat.le_of_ble_eq_true rfl)) (by omega) fun v H2 e2 hv => ?_
    have kp : Kp (fun x => x = A (.log i)) H' (upd H2 (A (.log i)) (.lst (gs ++ [v]))) := (Kp.of e2).upd rfl
    have N2 := N1.setLog hi1 kp upd_same (by rw [List.length_append]; simp only [List.length_singleton]; omega)
    refine k _ (k1.trans (kp.foot (n := s.n) hi)) ?_
    rw [hn1.2] at N2
    exact N2
  · have hx' : Dp K H' x (.tuple [.str l.k, .int l.c]) := hx
    cases l with
    | over c =>
      have hi1 : i + 1 < s1.n := by rw [hn1]; exact hov c hm
      obtain ⟨rs, hR, hRd⟩ := N1.rightL hi1
      refine q_asgD (K := K) (d := .int ((i : Int) + 1)) (ed_if (b := true) (et_to (et_db (ed_op (ed_op (ed_var rfl hx') ed_i (rd_ixT (j := 0) rfl rfl)) ed_s rd_eqS)) rfl) (fun _ => ed_op (ed_var rfl (.int _)) ed_i rd_I0) (fun z => by cases z)) fun v1 H1 e1 hv1 => ?_
      cases hv1
      refine s_when (b := true) (et_to (et_db (K := K) (ed_op (ed_var rfl (.int _)) ed_i rd_B0)) (decide_eq_true (by show (0 : Int) ≤ (i : Int) + 1; omega))) (fun _ H2 e2 => ?_) (fun z => by cases z)
      have N2 := (N1.ex e1).ex e2
      have hR2 := (e1.trans e2) _ _ hR
      refine s_appE hR2 (ev_lane T N2 (ev_var rfl) (ev_var rfl) (ev_var rfl) (lane_right A s1.n hi1)) (ed_var rfl (dp_ex (e1.trans e2) _ hx)) (by
        rw [da_len hRd, List.length_map]
        have := (hsh1 i).1
        omega) fun v H3 e3 hv => ?_
      have kp : Kp (fun x => x = A (.right i)) H2 (upd H3 (A (.right i)) (.lst (rs ++ [v]))) := (Kp.of e3).upd rfl
      have ts : TSt H3 (upd H3 (A (.right i)) (.lst (rs ++ [v]))) := ts_lst (e3 _ _ hR2)
      refine kk _ _ ((Kp.of (e1.trans e2)).trans (kp.foot (n := s.n) (by show i + 1 < s.n; rw [← hn1]; exact hi1))) (N2.setR hi1 kp upd_same ?_)
      rw [List.map_append]
      exact da_app (da_ts ts _ (Lts_noL _) (da_ex ((e1.trans e2).trans e3) _ hRd)) (.cons (dp_ts ts _ rfl hv) .nil)
    | mine c =>
      refine q_asgD (K := K) (d := .int ((i : Int) - 1)) (ed_if (b := false) (et_to (et_db (ed_op (ed_op (ed_var rfl hx') ed_i (rd_ixT (j := 0) rfl rfl)) ed_s rd_eqS)) rfl) (fun z => by cases z) (fun _ => ed_op (ed_var rfl (.int _)) ed_i rd_I0)) fun v1 H1 e1 hv1 => ?_
      cases hv1
      by_cases h0 : i = 0
      · refine s_when (b := false) (et_to (et_db (K := K) (ed_op (ed_var rfl (.int _)) ed_i rd_B0)) (decide_eq_false (by show ¬ (0 : Int) ≤ (i : Int) - 1; omega))) (fun z => by cases z) (fun _ H2 e2 => ?_)
        refine kk _ _ (Kp.of (e1.trans e2)) ?_
        have : putL i s1 (.mine c) = s1 := by simp only [putL, if_pos h0]
        rw [this]
        exact (N1.ex e1).ex e2
      · obtain ⟨j0, rfl⟩ : ∃ j, i = j + 1 := ⟨i - 1, by omega⟩
        have hi1 : j0 + 1 < s1.n := by rw [hn1]; exact hi
        obtain ⟨rs, hR, hRd⟩ := N1.leftL hi1
        refine s_when (b := true) (et_to (et_db (K := K) (ed_op (ed_var rfl (.int _)) ed_i rd_B0)) (decide_eq_true (by show (0 : Int) ≤ ((j0 + 1 : Nat) : Int) - 1; omega))) (fun _ H2 e2 => ?_) (fun z => by cases z)
        have N2 := (N1.ex e1).ex e2
        have hR2 := (e1.trans e2) _ _ hR
        refine s_appE hR2 (ev_lane T N2 (ev_var rfl) (ev_var rfl) (ev_var rfl) (by
          rw [show (((j0 + 1 : Nat) : Int)) = (j0 : Int) + 1 by omega, show ((j0 : Int) + 1 - 1) = (j0 : Int) by omega]
          exact lane_left A s1.n hi1)) (ed_var rfl (dp_ex (e1.trans e2) _ hx)) (by
          rw [da_len hRd, List.length_map]
          have := (hsh1 j0).2
          omega) fun v H3 e3 hv => ?_
        have kp : Kp (fun x => x = A (.left j0)) H2 (upd H3 (A (.left j0)) (.lst (rs ++ [v]))) := (Kp.of e3).upd rfl
        have ts : TSt H3 (upd H3 (A (.left j0)) (.lst (rs ++ [v]))) := ts_lst (e3 _ _ hR2)
        refine kk _ _ ((Kp.of (e1.trans e2)).trans (kp.foot (n := s.n) (by show j0 + 1 < s.n; rw [← hn1]; exact hi1))) ?_
        refine N2.setL hi1 kp upd_same (ls := s1.L j0 ++ [.mine c]) ?_
        rw [List.map_append]
        exact da_app (da_ts ts _ (Lts_noL _) (da_ex ((e1.trans e2).trans e3) _ hRd)) (.cons (dp_ts ts _ rfl hv) .nil)
    | back c =>
      refine q_asgD (K := K) (d := .int ((i : Int) - 1)) (ed_if (b := false) (et_to (et_db (ed_op (ed_op (ed_var rfl hx') ed_i (rd_ixT (j := 0) rfl rfl)) ed_s rd_eqS)) rfl) (fun z => by cases z) (fun _ => ed_op (ed_var rfl (.int _)) ed_i rd_I0)) fun v1 H1 e1 hv1 => ?_
      cases hv1
      by_cases h0 : i = 0
      · refine s_when (b := false) (et_to (et_db (K := K) (ed_op (ed_var rfl (.int _)) ed_i rd_B0)) (decide_eq_false (by show ¬ (0 : Int) ≤ (i : Int) - 1; omega))) (fun z => by cases z) (fun _ H2 e2 => ?_)
        refine kk _ _ (Kp.of (e1.trans e2)) ?_
        have : putL i s1 (.back c) = s1 := by simp only [putL, if_pos h0]
        rw [this]
        exact (N1.ex e1).ex e2
      · obtain ⟨j0, rfl⟩ : ∃ j, i = j + 1 := ⟨i - 1, by omega⟩
        have hi1 : j0 + 1 < s1.n := by rw [hn1]; exact hi
        obtain ⟨rs, hR, hRd⟩ := N1.leftL hi1
        refine s_when (b := true) (et_to (et_db (K := K) (ed_op (ed_var rfl (.int _)) ed_i rd_B0)) (decide_eq_true (by show (0 : Int) ≤ ((j0 + 1 : Nat) : Int) - 1; omega))) (fun _ H2 e2 => ?_) (fun z => by cases z)
        have N2 := (N1.ex e1).ex e2
        have hR2 := (e1.trans e2) _ _ hR
        refine s_appE hR2 (ev_lane T N2 (ev_var rfl) (ev_var rfl) (ev_var rfl) (by
          rw [show (((j0 + 1 : Nat) : Int)) = (j0 : Int) + 1 by omega, show ((j0 : Int) + 1 - 1) = (j0 : Int) by omega]
          exact lane_left A s1.n hi1)) (ed_var rfl (dp_ex (e1.trans e2) _ hx)) (by
          rw [da_len hRd, List.length_map]
          have := (hsh1 j0).2
          omega) fun v H3 e3 hv => ?_
        have kp : Kp (fun x => x = A (.left j0)) H2 (upd H3 (A (.left j0)) (.lst (rs ++ [v]))) := (Kp.of e3).upd rfl
        have ts : TSt H3 (upd H3 (A (.left j0)) (.lst (rs ++ [v]))) := ts_lst (e3 _ _ hR2)
        refine kk _ _ ((Kp.of (e1.trans e2)).trans (kp.foot (n := s.n) (by show j0 + 1 < s.n; rw [← hn1]; exact hi1))) ?_
        refine N2.setL hi1 kp upd_same (ls := s1.L j0 ++ [.back c]) ?_
        rw [List.map_append]
        exact da_app (da_ts ts _ (Lts_noL _) (da_ex ((e1.trans e2).trans e3) _ hRd)) (.cons (dp_ts ts _ rfl hv) .nil)
end
end K59

set_option Elab.async false
set_option linter.all false
set_option maxRecDepth 100000
set_option maxHeartbeats 4000000
/-! nets: go, exchange, step -/
namespace K59
open PySem PySem.Spec PyProof.Rows L2 Evl He
theorem shL (l : Lt) : (Lt.D l).canLay0 = true := by
  have h : PyData.strOk l.k = true := by
    unfold PyData.strOk
    rw [← Array.all_toList]
    cases l with
    | mine c => exact (by decide : ("mine" : Str).cps.toList.all (fun x => decide (x < 0x110000)) = true)
    | over c => exact (by decide : ("over" : Str).cps.toList.all (fun x => decide (x < 0x110000)) = true)
    | back c => exact (by decide : ("back" : Str).cps.toList.all (fun x => decide (x < 0x110000)) = true)
  simp [Lt.D, PyData.canLay0, PyData.canLayAll0, h]
theorem dpL (l : Lt) : (Lt.D l).depth ≤ 8 := by simp [Lt.D, PyData.depth, PyData.depthAll]
theorem sh_Lts (ls : List Lt) : SeqAt.shaped (.list (ls.map Lt.D)) = true := sh_list Lt.D shL dpL ls
theorem eqv_nil {ds : List PyData} : PyData.eqv (.list ds) (.list []) = decide (ds = []) := by
  cases ds <;> simp [PyData.eqv, PyData.eqvAll]
/-- the letters from i to j -/
def laneOf (s : NS) (i j : Nat) : List Lt := if j = i + 1 ∧ j < s.n then s.R i else if i = j + 1 ∧ i < s.n then s.L j else []
def isBack : Lt → Bool
  | .back _ => true
  | _ => false
def popS (s : NS) (i j : Nat) : NS := if j = i + 1 then { s with R := fun m => if m = i then (s.R i).tail else s.R m } else { s with L := fun m => if m = j then (s.L j).tail else s.L m }
def exS (s : NS) (j : Nat) (c : Int) : NS := { s with done := s.done ++ [(s.now.getD j 0, c)], now := (s.now.set (j - 1) (s.now.getD j 0)).set j c }
def takenOf (h : Hd) : Lt → Option Int
  | .over c => some c
  | _ => h.aside
def hearS (s : NS) (j : Nat) (h : Hd) : NS := { s with hd := fun m => if m = j then h else s.hd m }
def goS (s : NS) (i : Nat) (c : Int) : NS := noteS (hearS s i (goF (s.hd i))) i [.over c]
/-- step: the state behind it, where it is sound -/
def stepS (s : NS) (i j : Nat) : Option NS := match laneOf s i j with
  | [] => none
  | l :: _ => match hearF (s.hd j) l with
    | none => none
    | some (h', ls) => if ls.any isBack = true then (match takenOf (s.hd j) l with
        | none => none
        | some c => if 1 ≤ j ∧ j < s.now.length then some (noteS (exS (hearS (popS s i j) j h') j c) j ls) else none) else some (noteS (hearS (popS s i j) j h') j ls)
theorem hear_small {h h' : Hd} {l : Lt} {ls : List Lt} (e : hearF h l = some (h', ls)) : ls.length ≤ 1 ∧ ∀ c, .over c ∉ ls := by
  have g : ∀ {o : Option (Hd × List Lt)}, (o = none ∨ ∃ g ms, o = some (g, ms) ∧ ms.length ≤ 1 ∧ ∀ c, .over c ∉ ms) → o = some (h', ls) → ls.length ≤ 1 ∧ ∀ c, .over c ∉ ls := fun {o} ho e => by
    rcases ho with rfl | ⟨g, ms, rfl, h1, h2⟩
    · cases e
    · cases e
      exact ⟨h1, h2⟩
  refine g ?_ e
  obtain ⟨held, sent, aside, heard⟩ := h
  cases l with
  | mine c =>
    by_cases z : heard = none ∨ ∃ x, heard = some x ∧ c < x
    · exact .inr ⟨_, _, if_pos z, by simp, by simp⟩
    · exact .inl (if_neg z)
  | over c =>
    cases aside with
    | some a => cases held <;> cases sent <;> exact .inl rfl
    | none =>
      cases held with
      | none =>
        cases sent with
        | none => exact .inl rfl
        | some s0 =>
          by_cases z : s0 < c
          · exact .inr ⟨_, _, if_pos z, by simp, by simp⟩
          · exact .inl (if_neg z)
      | some l0 =>
        cases sent with
        | none =>
          by_cases z : l0 < c
          · exact .inr ⟨_, _, if_pos z, by simp, by simp⟩
          · exact .inl (if_neg z)
        | some s0 =>
          by_cases z : l0 < c
          · exact .inr ⟨_, _, if_pos z, by simp, by simp⟩
          · exact .inl (if_neg z)
  | back c =>
    cases sent with
    | none => cases heard <;> cases aside <;> exact .inl rfl
    | some s0 =>
      cases heard with
      | none => cases aside <;> exact .inl rfl
      | some x0 =>
        by_cases z : c < s0 ∧ c ≤ x0
        · cases aside with
          | none => exact .inr ⟨_, _, if_pos z, by simp, by simp⟩
          | some a => exact .inr ⟨_, _, if_pos z, by simp, by simp⟩
        · cases aside with
          | none => exact .inl (if_neg z)
          | some a => exact .inl (if_neg z)
def LOk (s : NS) : Prop := ∀ i l, l ∈ s.R i ∨ l ∈ s.L i → cardB l.c = true
theorem lane_cases (s : NS) (i j : Nat) : (∃ m, i = m ∧ j = m + 1 ∧ m + 1 < s.n ∧ laneOf s i j = s.R m) ∨ (∃ m, i = m + 1 ∧ j = m ∧ m + 1 < s.n ∧ laneOf s i j = s.L m) ∨ (laneOf s i j = [] ∧ ∀ A : Cl → Addr, valV (laneKV A s.n) [.inl (i : Int), .inl (j : Int)] = none) := by
  by_cases h1 : j = i + 1 ∧ j < s.n
  · exact .inl ⟨i, rfl, h1.1, by omega, if_pos h1⟩
  · by_cases h2 : i = j + 1 ∧ i < s.n
    · exact .inr (.inl ⟨j, h2.1, rfl, by omega, by unfold laneOf; rw [if_neg h1, if_pos h2]⟩)
    · refine .inr (.inr ⟨by unfold laneOf; rw [if_neg h1, if_neg h2], fun A => lane_none A s.n fun m hm => ⟨fun z => h1 ⟨by omega, by omega⟩, fun z => h2 ⟨by omega, by omega⟩⟩⟩)
section
variable {P : Program} {w : World} {K : PySem.W.Frag} {mg : Str → Option Value} {base : Heap}
section
variable {σ : K59.St} {H H' : Hp} {ta tb t0 : TE} {A : Cl → Addr} {s : NS}
/-- self.lanes_kept.get((i, j), []) -/
theorem ed_laneG (T : Txt w K mg) (N : NetAt K H A s) (h0 : Ev t0 σ H (.ref (A .net))) {i j : Nat} (ha : Ev ta σ H (.int (i : Int))) (hb : Ev tb σ H (.int (j : Int))) :
    EvD K (tDGet2 (tFld K t0 "lanes_kept") (tTup (tCons ta (tCons tb tNil))) (tLst tNil)) σ H (.list ((laneOf s i j).map Lt.D)) := fun H1 e Q q =>
  ev_nf T N h0 T.n_Net_lanes_kept rfl H1 e _ fun H2 e2 => ⟨A .lanes, rfl, .inr ⟨_, .inl ((e.trans e2) _ _ N.lanes)⟩, eu_tup (ea_cons ha (ea_cons hb ea_nil)) (Nat.le_of_ble_eq_true rfl) H2 (e.trans e2) _ fun p H3 hp e3 h3 =>
    en_lst (K := K) es_nil (Nat.zero_le _) H3 (Ex.refl H3) _ fun p2 vs2 H4 hp2 e4 h4 hv4 => by
      have e24 := (e2.trans e3).trans e4
      have h := DGet.t (k := [.inl (i : Int), .inl (j : Int)]) ((e.trans e24) _ _ N.lanes) (e4 _ _ h3)
      have N4 := N.ex (e.trans e24)
      refine ⟨_, h, q _ H4 e24 ?_⟩
      rcases lane_cases s i j with ⟨m, rfl, rfl, hm, hl⟩ | ⟨m, rfl, rfl, hm, hl⟩ | ⟨hl, hv⟩
      · rw [show (((i + 1 : Nat) : Int)) = (i : Int) + 1 from rfl, lane_right A s.n hm, hl]
        obtain ⟨us, h5, h6⟩ := N4.rightL hm
        exact .lst (.inl (.inl h5)) h6
      · rw [show (((j + 1 : Nat) : Int)) = (j : Int) + 1 from rfl, lane_left A s.n hm, hl]
        obtain ⟨us, h5, h6⟩ := N4.leftL hm
        exact .lst (.inl (.inl h5)) h6
      · rw [hv A, hl]
        cases hv4
        exact .lst (.inl (.inl h4)) .nil⟩
end
def inR (n : Nat) (i : Int) : Bool := decide (0 ≤ i) && decide (i < (n : Int))
/-- need_hand -/
def spNeed (K : PySem.W.Frag) : Sp := fun vs H Q E => ∃ (A : Cl → Addr) (s : NS) (i : Int), vs = [.ref (A .net), .int i] ∧ NetAt K H A s ∧ (inR s.n i = false → ∀ H2, Ex H H2 → E (.ref (ga K "NoHand")) none H2) ∧ (inR s.n i = true → ∀ H2, Ex H H2 → Q (.ref (A (.hand i.toNat))) H2)
theorem inR_nat {n : Nat} {i : Int} (h : inR n i = true) : ∃ j : Nat, i = (j : Int) ∧ j < n := by
  unfold inR at h
  rw [Bool.and_eq_true, decide_eq_true_eq, decide_eq_true_eq] at h
  exact ⟨i.toNat, by omega, by omega⟩
theorem nat_inR {n i : Nat} (h : i < n) : inR n (i : Int) = true := by
  unfold inR
  rw [decide_eq_true (by omega), decide_eq_true (by omega)] <;> rfl
theorem ok_need_hand (T : Txt w K mg) : FR P w K mg base 1 (ma K (ga K "Net") "need_hand") (spNeed K) := by
  refine okX T.f_Net_need_hand sc_Net_need_hand (fun _ _ _ _ _ _ us hl => match us, hl with | [_, _], _ => rfl) (fun vs H Q E h => by obtain ⟨_, _, _, rfl, _⟩ := h; rfl) fun cdv A0 outer s0 H vs Q E hr h => ?_
  obtain ⟨A, s, i, rfl, N, kE, kQ⟩ := h
  have tk := tk_of (P := P) (w := w) (K := K) (mg := mg) (base := base) (N := N_Net_need_hand) (qual := "Net.need_hand") (scope := defScope s_Net_need_hand) (f := ma K (ga K "Net") "need_hand") (cdv := cdv) (A := A0) (outer := outer) (s := s0) (H := H) (E := E)
  refine ⟨_, (pss_cons (ps_if (PW.pt (pw_or (pt_not (pt_val (pe_callB call_isi (by rfl) T.b_isinstance bt_isinstance (pa_cons (pv 1) (pa_cons (pe_bltn (v := .ty "int") (by rfl) T.b_int bt_int rfl) pa_nil))))) (pw_or (pt_val (pe_callB call_isi (by rfl) T.b_isinstance bt_isinstance (pa_cons (pv 1) (pa_cons (pe_bltn (v := .ty "bool") (by rfl) T.b_bool bt_bool rfl) pa_nil)))) (pw_or1 (pt_not (pt_chain op_le op_lt pe_int (pv 1) (pe_callB call_len_seq (by rfl) T.b_len bt_len (pa_cons (pe_fld (pv 0) rfl) pa_nil)))))))) (pss_one (raiseX T.c_NoHand T.x_NoHand tk rfl)) pss_nil)
      (pss_one (ps_ret (pe_ix ix_list (pe_fld (pv 0) rfl) (pv 1) (fun _ _ => rfl))))), ?_⟩
  have hl := ev_len (K := K) (ev_nf (σ := L2.start N_Net_need_hand [V.ref (A .net), V.int i]) (t0 := tVar 0) T N (ev_var rfl) T.n_Net_folk rfl) (sq_of N.folk)
  rw [List.length_map, List.length_range] at hl
  refine q_when (b := !inR s.n i) (et_to (et_or (et_not (et_db (ed_isi (ed_var rfl (.int i)) ev_c ty_int kit_ii))) fun _ => et_or (et_db (ed_isi (ed_var rfl (.int i)) ev_c ty_int kit_ib)) fun _ => et_not (et_d (K := K) (ed_chain ed_i (ed_var rfl (.int i)) (d_i hl) rd_B0 rd_B0))) rfl) (fun z H1 e1 => ?_) fun z H1 e1 => ?_
  · exact kE (by simpa using z) H1 e1
  · have hi : inR s.n i = true := by simpa using z
    obtain ⟨j, rfl, hj⟩ := inR_nat hi
    exact s_ret (ev_op (ev_nf T (N.ex e1) (ev_var rfl) T.n_Net_folk rfl) (ev_var rfl) (rv_ixL (sq_of (N.ex e1).folk) (atI_nat (at_range _ hj)))) fun H2 e2 => kQ hi H2 (e1.trans e2)
/-- exchange -/
def spExch (K : PySem.W.Frag) : Sp := fun vs H Q _ => ∃ (A : Cl → Addr) (s : NS) (j : Nat) (c : Int), vs = [.ref (A .net), .int (j : Int), .int c] ∧ NetAt K H A s ∧ 1 ≤ j ∧ j < s.now.length ∧ s.done.length < 50000 ∧ ∀ H2, Kp (Foot A s.n) H H2 → NetAt K H2 A (exS s j c) → Q .non H2
theorem ok_exchange (T : Txt w K mg) : FR P w K mg base 1 (ma K (ga K "Net") "exchange") (spExch K) := by
  refine okN T.f_Net_exchange sc_Net_exchange (fun _ _ _ _ _ _ us hl => match us, hl with | [_, _, _], _ => rfl) (fun vs H Q E h => by obtain ⟨_, _, _, _, rfl, _⟩ := h; rfl) fun cdv A0 outer s0 H vs Q E hr h => ?_
  obtain ⟨A, s, j, c, rfl, N, h1, h2, h3, k⟩ := h
  refine ⟨_, (pss_cons (ps_set (i := 3) sc_Net_exchange.nd rfl (Or.inl rfl) (pe_ix ix_list (pe_fld (pv 0) rfl) (pv 1) (fun _ _ => rfl)))
      (pss_cons (ps_expr (pe_bm PySem.F.plainAttrs_list PySem.F.slot_list_append PySem.F.type_list_append mt_append (pe_fld (pv 0) rfl) (pa_cons (pe_tup (pa_cons (pv 3) (pa_cons (pv 2) pa_nil))) pa_nil)))
      (pss_cons (ps_asg (pv 3) (pg_sub (pe_fld (pv 0) rfl) (pe_op op_sub (pv 1) pe_int) set_list))
      (pss_one (ps_asg (pv 2) (pg_sub (pe_fld (pv 0) rfl) (pv 1) set_list)))))), ?_⟩
  obtain ⟨x, hx⟩ : ∃ x, s.now[j]? = some x := ⟨s.now[j], by simp [h2]⟩
  have hgx : s.now.getD j 0 = x := by rw [List.getD_eq_getElem?_getD, hx] <;> rfl
  have hxv : (s.now.map V.int)[j]? = some (.int x) := by rw [List.getElem?_map, hx] <;> rfl
  refine q_asg (ev_op (ev_nf T N (ev_var rfl) T.n_Net_now_cards rfl) (ev_var rfl) (rv_ixL (K := K) (sq_of N.nowL) (atI_nat hxv))) fun H1 e1 => ?_
  have N1 := N.ex e1
  obtain ⟨ws, hw, hwd⟩ := N1.doneL
  refine q_appU hw (ev_nf T N1 (ev_var rfl) T.n_Net_done_pairs rfl) (eu_tup (ea_cons (ev_var rfl) (ea_cons (ev_var rfl) ea_nil)) (Nat.le_of_ble_eq_true rfl)) (by rw [hwd.len]; omega) fun q H2 hq e2 h2q => ?_
  have kp : Kp (fun a => a = A .done) H1 (upd H2 (A .done) (.lst (ws ++ [.ref q]))) := (Kp.of e2).upd rfl
  have ts : TSt H2 (upd H2 (A .done) (.lst (ws ++ [.ref q]))) := ts_lst (e2 _ _ hw)
  have N2 := N1.setDone kp upd_same (ps := s.done ++ [(x, c)]) (PrAll.snoc (p := (x, c)) (ts.tup h2q) (hwd.ts ((Ex.ts e2).trans ts)))
  have k2 : Kp (Foot A s.n) H (upd H2 (A .done) (.lst (ws ++ [.ref q]))) := (Kp.of e1).trans (kp.foot trivial)
  generalize upd H2 (A .done) (.lst (ws ++ [.ref q])) = H3 at k2 N2
  have hj1 : ((j : Int) - 1) = ((j - 1 : Nat) : Int) := by omega
  have l1 : j - 1 < (s.now.map V.int).length := by rw [List.length_map]; omega
  have i1 : Ev (tOp (rI0 fun i j => .int (i - j)) (tVar 1) (tC (.int 1))) [some (.ref (A .net)), some (.int (j : Int)), some (.int c), some (.int x)] H3 (.int ((j - 1 : Nat) : Int)) := by
    rw [← hj1]
    exact ev_op (ev_var rfl) ev_c rv_I0
  refine q_setL N2.nowL (ev_var rfl) (ev_nf T N2 (ev_var rfl) T.n_Net_now_cards rfl) i1 l1 fun H4 e4 => ?_
  have kp4 : Kp (fun a => a = A .now) H3 (upd H4 (A .now) (.lst ((s.now.map V.int).set (j - 1) (.int x)))) := (Kp.of e4).upd rfl
  have N4 := N2.setNow kp4 (ns := s.now.set (j - 1) x) (by rw [upd_same, List.map_set])
  have k4 := k2.trans (kp4.foot (n := s.n) trivial)
  generalize upd H4 (A .now) (.lst ((s.now.map V.int).set (j - 1) (.int x))) = H5 at k4 N4
  refine s_setL N4.nowL (ev_var rfl) (ev_nf T N4 (ev_var rfl) T.n_Net_now_cards rfl) (ev_var rfl) (by rw [List.length_map, List.length_set]; exact h2) fun H6 e6 => ?_
  have kp6 : Kp (fun a => a = A .now) H5 (upd H6 (A .now) (.lst (((s.now.set (j - 1) x).map V.int).set j (.int c)))) := (Kp.of e6).upd rfl
  have N6 := N4.setNow kp6 (ns := (s.now.set (j - 1) x).set j c) (by rw [upd_same]; simp [List.map_set])
  refine k _ (k4.trans (kp6.foot (n := s.n) trivial)) ?_
  unfold exS
  rw [hgx]
  exact N6
/-- go -/
def spNetGo (K : PySem.W.Frag) : Sp := fun vs H Q E => ∃ (A : Cl → Addr) (s : NS) (i : Int), vs = [.ref (A .net), .int i] ∧ NetAt K H A s ∧ Short s 50000 ∧ s.t < 50000 ∧
  (inR s.n i = false → ∀ H2, Ex H H2 → E (.ref (ga K "NoHand")) none H2) ∧ (inR s.n i = true → mayGo (s.hd i.toNat) = false → ∀ H2, Ex H H2 → E (.ref (ga K "Idle")) none H2) ∧
  (inR s.n i = true → mayGo (s.hd i.toNat) = true → i.toNat + 1 < s.n ∧ ∀ c H2, (s.hd i.toNat).held = some c → Kp (Foot A s.n) H H2 → NetAt K H2 A (goS s i.toNat c) → Q .non H2)
theorem ok_Net_go (T : Txt w K mg) : FR P w K mg base 3 (ma K (ga K "Net") "go") (spNetGo K) := by
  have G_Net_note : FR P w K mg base 1 (ma K (ga K "Net") "note") (spNote K) := ok_note T
  have G_Net_need_hand : FR P w K mg base 1 (ma K (ga K "Net") "need_hand") (spNeed K) := ok_need_hand T
  have G_Hand_go : FR P w K mg base 2 (ma K (ga K "Hand") "go") (spGo K) := ok_Hand_go T
  refine okX T.f_Net_go sc_Net_go (fun _ _ _ _ _ _ us hl => match us, hl with | [_, _], _ => rfl) (fun vs H Q E h => by obtain ⟨_, _, _, rfl, _⟩ := h; rfl) fun cdv A0 outer s0 H vs Q E hr h => ?_
  obtain ⟨A, s, i, rfl, N, hsh, ht, kE, kI, kQ⟩ := h
  have hx := hx_of (P := P) (w := w) (K := K) (mg := mg) (base := base) (N := N_Net_go) (qual := "Net.go") (scope := defScope s_Net_go) (f := ma K (ga K "Net") "go") (cdv := cdv) (A := A0) (outer := outer) (s := s0) (H := H) (E := E)
  refine ⟨_, (pss_one (ps_expr (me (pv 0) T.k_Net T.m_Net_note G_Net_note (hr.mono (by decide)) psN (pa_cons (pv 1) (pa_cons (pe_tup (pa_cons pe_str pa_nil)) (pa_cons (me0 (me (pv 0) T.k_Net T.m_Net_need_hand G_Net_need_hand (hr.mono (by decide)) hx (pa_cons (pv 1) pa_nil)) T.k_Hand T.m_Hand_go G_Hand_go (hr.mono (by decide)) hx) pa_nil)))))), ?_⟩
  obtain ⟨dx, hnet⟩ := N.net
  refine ⟨_, rfl, A .net, dx, netF A, rfl, hnet, rfl, ⟨_, rfl, ed_tup (K := K) (es_cons ed_s es_nil) (Nat.le_of_ble_eq_true rfl) H (Ex.refl H) _ fun what H1 e1 hw => ?_⟩⟩
  have N1 := N.ex e1
  refine ⟨_, rfl, A .net, dx, netF A, rfl, e1 _ _ hnet, rfl, ⟨_, rfl, A, s, i, rfl, N1, fun z H2 e2 => kE z H2 (e1.trans e2), fun z H2 e2 => ?_⟩⟩
  obtain ⟨j, rfl, hj⟩ := inR_nat z
  have hj2 : ((j : Int)).toNat = j := rfl
  rw [hj2] at kI kQ ⊢
  have N2 := N1.ex e2
  obtain ⟨dxh, hh⟩ := N2.hand hj
  refine ⟨A (.hand j), dxh, _, rfl, hh, rfl, ⟨A (.hand j), dxh, s.hd j, rfl, hh, fun z2 H3 e3 => kI z z2 H3 ((e1.trans e2).trans e3), fun c hc z2 p us H3 kp hp q1 q2 q3 => ?_⟩⟩
  obtain ⟨hlt, kk⟩ := kQ z z2
  have N3 := N2.setHd hj kp q1
  have hpn : ¬ Foot A s.n p := fun f => by
    obtain ⟨cl, hcl, rfl⟩ := f
    obtain ⟨o, ho, _⟩ := N2.at_ cl hcl
    rw [hp] at ho
    cases ho
  have tsH : TSt H2 H3 := N2.tst (kp.foot (n := s.n) (c := .hand j) hj)
  refine ⟨A, _, j, what, p, us, [.over c], _, rfl, N3, hj, dp_ts tsH _ rfl (dp_ex e2 _ hw), rfl, q2, q3, hpn, fun _ _ => hlt, by simp, hsh, ht, fun H4 k4 n4 => ?_⟩
  exact kk c H4 hc (((Kp.of (e1.trans e2)).trans (kp.foot (n := s.n) (c := .hand j) hj)).trans k4) n4
end
end K59

set_option Elab.async false
set_option linter.all false
set_option maxRecDepth 100000
set_option maxHeartbeats 4000000
/-! nets: step -/
namespace K59
open PySem PySem.Spec PyProof.Rows L2 Evl He
section
variable {P : Program} {w : World} {K : PySem.W.Frag} {mg : Str → Option Value} {base : Heap}
theorem lane_cell {s : NS} {i j : Nat} {l : Lt} {r : List Lt} (A : Cl → Addr) (h : laneOf s i j = l :: r) : ∃ c : Cl, Live s.n c ∧ valV (laneKV A s.n) [.inl (i : Int), .inl (j : Int)] = some (.ref (A c)) ∧ (∀ H, NetAt K H A s → ∃ us, H (A c) = some (.lst us) ∧ DpAll K H us ((l :: r).map Lt.D)) ∧
    ∀ H H' us, NetAt K H A s → Kp (fun x => x = A c) H H' → H' (A c) = some (.lst us) → DpAll K H' us (r.map Lt.D) → NetAt K H' A (popS s i j) := by
  rcases lane_cases s i j with ⟨m, rfl, rfl, hm, hl⟩ | ⟨m, rfl, rfl, hm, hl⟩ | ⟨hl, _⟩
  · rw [h] at hl
    refine ⟨.right i, hm, lane_right A s.n hm, fun H N => ?_, fun H H' us N k ho hd => ?_⟩
    · obtain ⟨us, h1, h2⟩ := N.rightL hm
      rw [← hl] at h2
      exact ⟨us, h1, h2⟩
    · have e : popS s i (i + 1) = { s with R := fun j => if j = i then r else s.R j } := by
        unfold popS
        rw [if_pos rfl, ← hl] <;> rfl
      rw [e]
      exact N.setR hm k ho hd
  · rw [h] at hl
    refine ⟨.left j, hm, lane_left A s.n hm, fun H N => ?_, fun H H' us N k ho hd => ?_⟩
    · obtain ⟨us, h1, h2⟩ := N.leftL hm
      rw [← hl] at h2
      exact ⟨us, h1, h2⟩
    · have e : popS s (j + 1) j = { s with L := fun m => if m = j then r else s.L m } := by
        unfold popS
        rw [if_neg (by omega), ← hl] <;> rfl
      rw [e]
      exact N.setL hm k ho hd
  · rw [hl] at h
    cases h
theorem short_pop {s : NS} {i j b : Nat} (h : Short s b) : Short (popS s i j) b := fun m => by
  have h1 := h m
  have h2 := h i
  have h3 := h j
  unfold popS
  by_cases e : j = i + 1
  · rw [if_pos e]
    refine ⟨?_, h1.2⟩
    show (if m = i then (s.R i).tail else s.R m).length ≤ b
    by_cases z : m = i
    · rw [if_pos z, List.length_tail]
      omega
    · rw [if_neg z]
      exact h1.1
  · rw [if_neg e]
    refine ⟨h1.1, ?_⟩
    show (if m = j then (s.L j).tail else s.L m).length ≤ b
    by_cases z : m = j
    · rw [if_pos z, List.length_tail]
      omega
    · rw [if_neg z]
      exact h1.2
theorem pop_same {s : NS} {i j : Nat} : (popS s i j).n = s.n ∧ (popS s i j).hd = s.hd ∧ (popS s i j).t = s.t ∧ (popS s i j).first = s.first ∧ (popS s i j).now = s.now ∧ (popS s i j).done = s.done := by
  unfold popS
  by_cases e : j = i + 1
  · rw [if_pos e]
    exact ⟨rfl, rfl, rfl, rfl, rfl, rfl⟩
  · rw [if_neg e]
    exact ⟨rfl, rfl, rfl, rfl, rfl, rfl⟩
theorem sh_backs (ls : List Lt) : SeqAt.shaped (.list (ls.map fun l => .tuple [.str l.k])) = true := sh_list (fun l : Lt => .tuple [.str l.k]) (fun l => by
  have h := shL l
  simp [Lt.D, PyData.canLay0, PyData.canLayAll0] at h
  simp [PyData.canLay0, PyData.canLayAll0, h]) (fun l => by simp [PyData.depth, PyData.depthAll]) ls
theorem sh_back : SeqAt.shaped (.tuple [.str "back"]) = true := by
  have h := shL (.back 0)
  simp [Lt.D, PyData.canLay0, PyData.canLayAll0] at h
  exact sh_of (by simp only [PyData.canLay0, PyData.canLayAll0, Bool.and_true]; exact h) (by simp [PyData.depth, PyData.depthAll])
theorem any_back (ls : List Lt) : ((ls.map fun l => PyData.tuple [.str l.k]).any fun z => PyData.eqv z (.tuple [.str "back"])) = ls.any isBack := by
  rw [List.any_map]
  congr 1
  funext l
  show PyData.eqv (.tuple [.str l.k]) (.tuple [.str "back"]) = isBack l
  simp only [PyData.eqv, PyData.eqvAll, Bool.and_true]
  cases l <;> rfl
def spStep (K : PySem.W.Frag) : Sp := fun vs H Q E => ∃ (A : Cl → Addr) (s : NS) (i j : Int), vs = [.ref (A .net), .int i, .int j] ∧ NetAt K H A s ∧ Short s 50000 ∧ s.t < 50000 ∧ LOk s ∧ s.done.length < 50000 ∧
  ((inR s.n i && inR s.n j) = false → ∀ H2, Ex H H2 → E (.ref (ga K "NoHand")) none H2) ∧ ((inR s.n i && inR s.n j) = true → laneOf s i.toNat j.toNat = [] → ∀ H2, Ex H H2 → E (.ref (ga K "Empty")) none H2) ∧
  ((inR s.n i && inR s.n j) = true → laneOf s i.toNat j.toNat ≠ [] → ∃ s', stepS s i.toNat j.toNat = some s' ∧ ∀ H2, Kp (Foot A s.n) H H2 → NetAt K H2 A s' → Q .non H2)
theorem ok_step (T : Txt w K mg) : FR P w K mg base 4 (ma K (ga K "Net") "step") (spStep K) := by
  have G_Net_note : FR P w K mg base 1 (ma K (ga K "Net") "note") (spNote K) := ok_note T
  have G_Net_need_hand : FR P w K mg base 1 (ma K (ga K "Net") "need_hand") (spNeed K) := ok_need_hand T
  have G_Net_exchange : FR P w K mg base 1 (ma K (ga K "Net") "exchange") (spExch K) := ok_exchange T
  have G_Hand_hear : FR P w K mg base 3 (ma K (ga K "Hand") "hear") (spHear K) := ok_hear T
  have G_Hand_aside : FR P w K mg base 1 (ma K (ga K "Hand") "aside") (spHd K fun h => oD h.aside) := ok_Hand_aside T
  refine okX T.f_Net_step sc_Net_step (fun _ _ _ _ _ _ us hl => match us, hl with | [_, _, _], _ => rfl) (fun vs H Q E h => by obtain ⟨_, _, _, _, rfl, _⟩ := h; rfl) fun cdv A0 outer s0 H vs Q E hr h => ?_
  obtain ⟨A, s, i, j, rfl, N, hsh, ht, hlo, hdl, kE, kM, kQ⟩ := h
  have tk := tk_of (P := P) (w := w) (K := K) (mg := mg) (base := base) (N := N_Net_step) (qual := "Net.step") (scope := defScope s_Net_step) (f := ma K (ga K "Net") "step") (cdv := cdv) (A := A0) (outer := outer) (s := s0) (H := H) (E := E)
  have hx := hx_of (P := P) (w := w) (K := K) (mg := mg) (base := base) (N := N_Net_step) (qual := "Net.step") (scope := defScope s_Net_step) (f := ma K (ga K "Net") "step") (cdv := cdv) (A := A0) (outer := outer) (s := s0) (H := H) (E := E)
  refine ⟨_, (pss_cons (ps_expr (me (pv 0) T.k_Net T.m_Net_need_hand G_Net_need_hand (hr.mono (by decide)) hx (pa_cons (pv 1) pa_nil)))
      (pss_cons (ps_set (i := 3) sc_Net_step.nd rfl (Or.inl rfl) (me (pv 0) T.k_Net T.m_Net_need_hand G_Net_need_hand (hr.mono (by decide)) hx (pa_cons (pv 2) pa_nil)))
      (pss_cons (ps_if (pt_cmpR (op_eqD hr.units) (pe_dget2 (hu_of hr) (pe_fld (pv 0) rfl) (pe_tup (pa_cons (pv 1) (pa_cons (pv 2) pa_nil))) (pe_lst pa_nil) ⟨by rfl, by rfl, by rfl, by rfl⟩) (pe_lst pa_nil) (nomark _)) (pss_one (raiseX T.c_Empty T.x_Empty tk rfl)) pss_nil)
      (pss_cons (ps_set (i := 4) sc_Net_step.nd rfl (Or.inl rfl) (pe_bm PySem.F.plainAttrs_list PySem.F.slot_list_pop PySem.F.type_list_pop mt_popAt (pe_dget (hu_of hr) (pe_fld (pv 0) rfl) (pe_tup (pa_cons (pv 1) (pa_cons (pv 2) pa_nil))) (fun _ _ => rfl)) (pa_cons pe_int pa_nil)))
      (pss_cons (ps_set (i := 5) sc_Net_step.nd rfl (Or.inl rfl) (pe_ifExp (pt_cmpR op_eq (pe_ix ix_tup (pv 4) pe_int (fun _ _ => rfl)) pe_str (nomark _)) (pe_ix ix_tup (pv 4) pe_int (fun _ _ => rfl)) (me0 (pv 3) T.k_Hand T.m_Hand_aside G_Hand_aside (hr.mono (by decide)) psN)))
      (pss_cons (ps_set (i := 6) sc_Net_step.nd rfl (Or.inl rfl) (me (pv 3) T.k_Hand T.m_Hand_hear G_Hand_hear (hr.mono (by decide)) psN (pa_cons (pv 4) pa_nil)))
      (pss_cons (ps_if (pt_cmpR (op_inD (hu65 hr)) (pe_tup (pa_cons pe_str pa_nil)) (pe_lc (own := [("sent", 7)]) (g := (gName 7)) (tt := tYes) rfl sc_Net_step.nd (pi_list (pv 6)) (blkOk_by (own := [("sent", 7)]) (N := N_Net_step) (sc := defScope s_Net_step) (by decide +kernel)) (fun _ _ _ _ _ => (pg_name (i := 7) sc_Net_step.nd rfl (Or.inl rfl))) (fun _ _ _ _ _ => pts_nil) (fun _ _ _ _ _ => (pe_slice (slK K rSlT sl_tup rfl) (pv 7) po_none (po_some pe_int)))) (by rfl)) (pss_one (ps_expr (me (pv 0) T.k_Net T.m_Net_exchange G_Net_exchange (hr.mono (by decide)) psN (pa_cons (pv 2) (pa_cons (pv 5) pa_nil))))) pss_nil)
      (pss_one (ps_expr (me (pv 0) T.k_Net T.m_Net_note G_Net_note (hr.mono (by decide)) psN (pa_cons (pv 2) (pa_cons (pe_tup (pa_cons pe_str (pa_cons (pv 4) pa_nil))) (pa_cons (pv 6) pa_nil))))))))))))), ?_⟩
  obtain ⟨dx, hnet⟩ := N.net
  refine q_dropR ⟨_, rfl, A .net, dx, netF A, rfl, hnet, rfl, ⟨_, rfl, A, s, i, rfl, N, fun z H2 e2 => kE (by rw [z] <;> rfl) H2 e2, fun z1 H1 e1 => ?_⟩⟩
  have N1 := N.ex e1
  refine q_asgR ⟨_, rfl, A .net, dx, netF A, rfl, e1 _ _ hnet, rfl, ⟨_, rfl, A, s, j, rfl, N1, fun z H2 e2 => kE (by rw [z1, z] <;> rfl) H2 (e1.trans e2), fun z2 H2 e2 => ?_⟩⟩
  have N2 := N1.ex e2
  have e02 := e1.trans e2
  have hR : (inR s.n i && inR s.n j) = true := by rw [z1, z2] <;> rfl
  obtain ⟨i, rfl, hi⟩ := inR_nat z1
  obtain ⟨j, rfl, hj⟩ := inR_nat z2
  have hti : ((i : Int)).toNat = i := rfl
  have htj : ((j : Int)).toNat = j := rfl
  rw [hti, htj] at kM kQ
  rw [htj]
  refine q_when (b := decide (laneOf s i j = [])) (et_to (et_db (ed_op (ed_laneG (σ := [some (.ref (A .net)), some (.int (i : Int)), some (.int (j : Int)), some (.ref (A (.hand j))), none, none, none, none]) (t0 := tVar 0) (ta := tVar 1) (tb := tVar 2) (i := i) (j := j) T N2 (ev_var rfl) (ev_var rfl) (ev_var rfl)) (en_lst (K := K) es_nil (Nat.zero_le _)).toD (rd_eqD (sh_Lts _) sh_nil))) (by rw [eqv_nil]; exact decide_eq_decide.mpr (by simp))) (fun z H3 e3 => ?_) fun z H3 e3 => ?_
  · exact kM hR (of_decide_eq_true z) H3 (e02.trans e3)
  have hne : laneOf s i j ≠ [] := of_decide_eq_false z
  obtain ⟨s', hs', kk⟩ := kQ hR hne
  have N3 := N2.ex e3
  have e03 := e02.trans e3
  cases hl : laneOf s i j with
  | nil => exact absurd hl hne
  | cons l r =>
    obtain ⟨c, hc, hval, hget, hset⟩ := lane_cell (K := K) A hl
    obtain ⟨us, hus, husd⟩ := hget H3 N3
    unfold stepS at hs'
    rw [hl] at hs'
    simp only at hs'
    cases hh : hearF (s.hd j) l with
    | none => rw [hh] at hs'; cases hs'
    | some hp =>
      obtain ⟨h', ls⟩ := hp
      rw [hh] at hs'
      simp only at hs'
      obtain ⟨hls1, hls2⟩ := hear_small hh
      -- letter = lanes.pop(0)
      refine q_asgR (ev_lane (t0 := tVar 0) (ta := tVar 1) (tb := tVar 2) T N3 (ev_var rfl) (ev_var rfl) (ev_var rfl) hval H3 (Ex.refl H3) _ fun H4 e4 => ?_)
      have hus4 := e4 _ _ hus
      obtain ⟨x, xs, rfl, hxd, hxs⟩ : ∃ x xs, us = x :: xs ∧ Dp K H3 x l.D ∧ DpAll K H3 xs (r.map Lt.D) := by
        cases husd with
        | cons a b => exact ⟨_, _, rfl, a, b⟩
      · refine ⟨.inl ⟨rfl, _, sq_of hus4⟩, ⟨A c, _, 0, 0, x, rfl, rfl, hus4, by decide, by decide, seqIndex_of (by decide) (by simp), rfl, ?_⟩⟩
        rw [show (x :: xs).eraseIdx 0 = xs from rfl]
        have N4 := N3.ex e4
        have kp : Kp (fun a => a = A c) H4 (upd H4 (A c) (.lst xs)) := Kp.refl.upd rfl
        have ts : TSt H4 (upd H4 (A c) (.lst xs)) := ts_lst hus4
        have hx4 := dp_ex e4 _ hxd
        have N5 : NetAt K (upd H4 (A c) (.lst xs)) A (popS s i j) := hset H4 _ xs N4 kp upd_same (da_ts ts _ (Lts_noL r) (da_ex e4 _ hxs))
        have hx5 := dp_ts ts _ rfl hx4
        have k5 : Kp (Foot A s.n) H (upd H4 (A c) (.lst xs)) := (Kp.of (e03.trans e4)).trans (kp.foot (n := s.n) hc)
        generalize upd H4 (A c) (.lst xs) = H5 at k5 hx5 N5
        obtain ⟨pn, phd, pt, pf, pnow, pdone⟩ := pop_same (s := s) (i := i) (j := j)
        have hj5 : j < (popS s i j).n := by rw [pn]; exact hj
        have hx5' : Dp K H5 x (.tuple [.str l.k, .int l.c]) := hx5
        obtain ⟨dxh, hhand⟩ := N5.hand hj5
        have hk : ∀ u, EvD K (tOp (rIxT K) (tVar 4) (tC (.int 0))) [some (.ref (A .net)), some (.int (i : Int)), some (.int (j : Int)), some (.ref (A (.hand j))), some x, u, none, none] H5 (.str l.k) := fun u => ed_op (ed_var rfl hx5') ed_i (rd_ixT (j := 0) rfl rfl)
        have hk1 : ∀ u, EvD K (tOp (rIxT K) (tVar 4) (tC (.int 1))) [some (.ref (A .net)), some (.int (i : Int)), some (.int (j : Int)), some (.ref (A (.hand j))), some x, u, none, none] H5 (.int l.c) := fun u => ed_op (ed_var rfl hx5') ed_i (rd_ixT (j := 1) rfl rfl)
        -- taken
        refine q_asgD (K := K) (d := oD (takenOf (s.hd j) l)) (ed_if (b := decide (l.k = "over")) (et_db (ed_op (hk _) ed_s rd_eqS)) (fun z3 => ?_) (fun z3 => ?_)) fun tv H6 e6 htv => ?_
        · cases l with
          | over c0 => exact hk1 _
          | mine c0 => exact absurd (of_decide_eq_true z3) (by simp only [Lt.k]; decide)
          | back c0 => exact absurd (of_decide_eq_true z3) (by simp only [Lt.k]; decide)
        · have ht : takenOf (s.hd j) l = (s.hd j).aside := by
            cases l with
            | over c0 => exact absurd rfl (of_decide_eq_false z3)
            | mine c0 => rfl
            | back c0 => rfl
          rw [ht]
          exact fun H7 e7 Q7 q7 => ⟨_, rfl, A (.hand j), dxh, _, rfl, e7 _ _ hhand, rfl, ⟨_, _, (popS s i j).hd j, rfl, e7 _ _ hhand, ⟨dxh, rfl⟩, fun v H8 e8 hv => q7 v H8 e8 (by rw [phd] at hv; exact hv)⟩⟩
        have htv2 := oD_v htv
        subst htv2
        have N6 := N5.ex e6
        have hx6 := dp_ex e6 _ hx5
        have hlc : cardB l.c = true := by
          rcases lane_cases s i j with ⟨m, h1, h2, hm, hle⟩ | ⟨m, h1, h2, hm, hle⟩ | ⟨hle, _⟩
          · exact hlo m l (.inl (by rw [← hle, hl]; exact List.mem_cons_self))
          · exact hlo m l (.inr (by rw [← hle, hl]; exact List.mem_cons_self))
          · rw [hl] at hle
            cases hle
        -- hear
        refine q_asgR ⟨_, rfl, A (.hand j), dxh, _, rfl, e6 _ _ hhand, rfl, ⟨_, rfl, A (.hand j), dxh, (popS s i j).hd j, x, l, h', ls, rfl, e6 _ _ hhand, hx6, hlc, by rw [phd]; exact hh, fun p us2 H7 k7 hp7 q1 q2 q3 => ?_⟩⟩
        have hpn : ¬ Foot A s.n p := fun f => by
          obtain ⟨cl, hcl, rfl⟩ := f
          rw [← pn] at hcl
          obtain ⟨o, ho, _⟩ := N6.at_ cl hcl
          rw [hp7] at ho
          cases ho
        have N7 : NetAt K H7 A (hearS (popS s i j) j h') := N6.setHd hj5 k7 q1
        have f7 : Kp (Foot A s.n) H6 H7 := k7.foot (n := s.n) (c := .hand j) hj
        have ts7 : TSt H6 H7 := N6.tst (by rw [pn]; exact f7)
        have hx7 := dp_ts ts7 _ rfl hx6
        have k07 : Kp (Foot A s.n) H H7 := (k5.trans (Kp.of e6)).trans f7
        have hL7 : Dp K H7 (.ref p) (.list (ls.map Lt.D)) := .lst (.inl (.inl q2)) q3
        have hsh7 : Short (hearS (popS s i j) j h') 50000 := short_pop hsh
        have fin : ∀ (s2 : NS) (H8 : Hp) (u : Option V), s2.n = s.n → Short s2 50000 → s2.t = s.t → NetAt K H8 A s2 → Kp (Foot A s.n) H7 H8 → TSt H7 H8 → s' = noteS s2 j ls →
            tDrop (tMe (ga K "Net") "note" (spNote K) E0 (tVar 0) (tCons (tVar 2) (tCons (tTup (tCons (tC (.str "hear")) (tCons (tVar 4) tNil))) (tCons (tVar 6) tNil)))) { nx := fun _ H' => Q .non H', rt := Q } [some (.ref (A .net)), some (.int (i : Int)), some (.int (j : Int)), some (.ref (A (.hand j))), some x, some (oV (takenOf (s.hd j) l)), some (.ref p), u] H8 := fun s2 H8 u hn2 hsh2 ht2 N8 k8 ts8 es => by
          obtain ⟨dx8, hnet8⟩ := N8.net
          refine ⟨_, rfl, A .net, dx8, netF A, rfl, hnet8, rfl, ⟨_, rfl, ed_tup (K := K) (es_cons ed_s (es_cons (ed_var rfl (dp_ts ts8 _ rfl hx7)) es_nil)) (Nat.le_of_ble_eq_true rfl) H8 (Ex.refl H8) _ fun what H9 e9 hw => ⟨_, rfl, A, s2, j, what, p, us2, ls, _, rfl, N8.ex e9, by rw [hn2]; exact hj, hw, rfl, ?_⟩⟩⟩
          refine ⟨e9 _ _ (k8.st _ _ q2 hpn), da_ex e9 _ (da_ts ts8 _ (Lts_noL ls) q3), by rw [hn2]; exact hpn, fun c0 hc0 => absurd hc0 (hls2 c0), hls1, hsh2, by rw [ht2]; exact ht, fun H10 k10 n10 => ?_⟩
          rw [hn2] at k10
          exact kk H10 (((k07.trans k8).trans (Kp.of e9)).trans k10) (by rw [es]; exact n10)
        refine q_when (b := ls.any isBack) (et_to (et_db (ed_op (d1 := .tuple [.str "back"]) (ed_tup (es_cons ed_s es_nil) (Nat.le_of_ble_eq_true rfl)) (en_mapA Lt.D (fun l => .tuple [.str l.k]) (ii_list (ed_var rfl hL7)) (by omega) (fun _ _ => rfl)
          fun y hy => tn1 (fun _ => rfl) fun v H9 e9 hv => ⟨et_yes, fun _ => ?_⟩).toD (rd_inD sh_back (sh_backs ls)))) (any_back ls)) (fun zb H8 e8 => ?_) (fun zb H8 e8 => ?_)
        · have hv' : Dp K H9 v (.tuple [.str y.k, .int y.c]) := hv
          exact ed_slT (ed_var rfl hv') eo_none (eo_d (K := K) ed_i) (fun h => by
            have h2 : (1 : Nat) = 2 := h.2
            cases h2)
        · rw [if_pos zb] at hs'
          cases htk : takenOf (s.hd j) l with
          | none => rw [htk] at hs'; cases hs'
          | some c0 =>
            rw [htk] at hs'
            simp only at hs'
            split at hs'
            · rename_i hjj
              have N8 := N7.ex e8
              obtain ⟨dx8, hnet8⟩ := N8.net
              refine ⟨_, rfl, A .net, dx8, netF A, rfl, hnet8, rfl, ⟨_, rfl, _, rfl, A, hearS (popS s i j) j h', j, c0, rfl, N8, hjj.1, by show j < (popS s i j).now.length; rw [pnow]; exact hjj.2, by show (popS s i j).done.length < 50000; rw [pdone]; exact hdl, fun H9 k9 n9 => ?_⟩⟩
              have k9' : Kp (Foot A s.n) H8 H9 := by
                have : (hearS (popS s i j) j h').n = s.n := pn
                rw [this] at k9
                exact k9
              refine fin (exS (hearS (popS s i j) j h') j c0) H9 _ pn hsh7 pt n9 ((Kp.of e8).trans k9') ((Ex.ts e8).trans (N8.tst k9)) (Option.some.inj hs').symm
            · cases hs'
        · rw [zb] at hs'
          exact fin (hearS (popS s i j) j h') H8 _ pn hsh7 pt (N7.ex e8) (Kp.of e8) (Ex.ts e8) (Option.some.inj hs').symm
end
end K59

set_option Elab.async false
set_option linter.all false
set_option maxRecDepth 100000
set_option maxHeartbeats 4000000
/-! nets: what they tell -/
namespace K59
open PySem PySem.Spec PyProof.Rows L2 Evl He
/-- the places whose hand may go -/
def freeL (s : NS) : List Nat := (List.range s.n).filter fun i => mayGo (s.hd i)
def NI (ns : List Nat) : List Int := ns.map fun i : Nat => (i : Int)
section
variable {P : Program} {w : World} {K : PySem.W.Frag} {mg : Str → Option Value} {base : Heap}
/-- reading methods of a net: a new list -/
def spNetL (K : PySem.W.Frag) (F : NS → Prop) (g : NS → List PyData) : Sp := fun vs H Q _ => ∃ (A : Cl → Addr) (s : NS), vs = [.ref (A .net)] ∧ NetAt K H A s ∧ F s ∧ ∀ p us H2, H p = none → Ex H H2 → H2 p = some (.lst us) → DpAll K H2 us (g s) → Q (.ref p) H2
theorem ok_first_row (T : Txt w K mg) : FR P w K mg base 1 (ma K (ga K "Net") "first_row") (spNetL K (fun _ => True) fun s => DI s.first) := by
  refine okN T.f_Net_first_row sc_Net_first_row (fun _ _ _ _ _ _ us hl => match us, hl with | [_], _ => rfl) (fun vs H Q E h => by obtain ⟨_, _, rfl, _⟩ := h; rfl) fun cdv A0 outer s0 H vs Q E hr h => ?_
  obtain ⟨A, s, rfl, N, _, k⟩ := h
  refine ⟨_, (pss_one (ps_ret (pe_callTy call_list_of (by rfl) T.b_list bt_list (pa_cons (pe_fld (pv 0) rfl) pa_nil)))), ?_⟩
  exact s_retN (en_list (ed_of (ev_nf T N (ev_var rfl) T.n_Net_first_cards rfl) (.lst (sq_of N.firstL) (ints_da _)))) k
theorem ok_row (T : Txt w K mg) : FR P w K mg base 1 (ma K (ga K "Net") "row") (spNetL K (fun _ => True) fun s => DI s.now) := by
  refine okN T.f_Net_row sc_Net_row (fun _ _ _ _ _ _ us hl => match us, hl with | [_], _ => rfl) (fun vs H Q E h => by obtain ⟨_, _, rfl, _⟩ := h; rfl) fun cdv A0 outer s0 H vs Q E hr h => ?_
  obtain ⟨A, s, rfl, N, _, k⟩ := h
  refine ⟨_, (pss_one (ps_ret (pe_callTy call_list_of (by rfl) T.b_list bt_list (pa_cons (pe_fld (pv 0) rfl) pa_nil)))), ?_⟩
  exact s_retN (en_list (ed_of (ev_nf T N (ev_var rfl) T.n_Net_now_cards rfl) (.lst (sq_of N.nowL) (ints_da _)))) k
theorem ok_history (T : Txt w K mg) : FR P w K mg base 1 (ma K (ga K "Net") "history") (spNetL K (fun _ => True) fun s => s.done.map PrD) := by
  refine okN T.f_Net_history sc_Net_history (fun _ _ _ _ _ _ us hl => match us, hl with | [_], _ => rfl) (fun vs H Q E h => by obtain ⟨_, _, rfl, _⟩ := h; rfl) fun cdv A0 outer s0 H vs Q E hr h => ?_
  obtain ⟨A, s, rfl, N, _, k⟩ := h
  refine ⟨_, (pss_one (ps_ret (pe_callTy call_list_of (by rfl) T.b_list bt_list (pa_cons (pe_fld (pv 0) rfl) pa_nil)))), ?_⟩
  obtain ⟨ws, h1, h2⟩ := N.doneL
  exact s_retN (en_list (ed_of (ev_nf T N (ev_var rfl) T.n_Net_done_pairs rfl) (.lst (sq_of h1) h2.da))) k
theorem given_all (n : Nat) (v : Nat → V) : given n (fun _ => true) v = (List.range n).map v := by
  unfold given
  rw [List.filter_eq_self.mpr fun _ _ => rfl]
theorem da_range {H : Hp} (g : Nat → V) (d : Nat → PyData) (h : ∀ i, Dp K H (g i) (d i)) : ∀ ns : List Nat, DpAll K H (ns.map g) (ns.map d)
  | [] => .nil
  | i :: ns => .cons (h i) (da_range g d h ns)
theorem ok_cards (T : Txt w K mg) : FR P w K mg base 2 (ma K (ga K "Net") "cards") (spNetL K (fun s => s.n ≤ 24) fun s => (List.range s.n).map fun i => oD (s.hd i).held) := by
  have G_Hand_card : FR P w K mg base 1 (ma K (ga K "Hand") "card") (spHd K fun h => oD h.held) := ok_Hand_card T
  refine okN T.f_Net_cards sc_Net_cards (fun _ _ _ _ _ _ us hl => match us, hl with | [_], _ => rfl) (fun vs H Q E h => by obtain ⟨_, _, rfl, _⟩ := h; rfl) fun cdv A0 outer s0 H vs Q E hr h => ?_
  obtain ⟨A, s, rfl, N, hn, k⟩ := h
  refine ⟨_, (pss_one (ps_ret (pe_lc (own := [("hand", 1)]) (g := (gName 1)) (tt := tYes) rfl sc_Net_cards.nd (pi_list (pe_fld (pv 0) rfl)) (blkOk_by (own := [("hand", 1)]) (N := N_Net_cards) (sc := defScope s_Net_cards) (by decide +kernel)) (fun _ _ _ _ _ => (pg_name (i := 1) sc_Net_cards.nd rfl (Or.inl rfl))) (fun _ _ _ _ _ => pts_nil) (fun _ _ _ _ _ => (me0 (pv 1) T.k_Hand T.m_Hand_card G_Hand_card (hr.mono (by decide)) psN))))), ?_⟩
  have hl : ((List.range s.n).map fun i => V.ref (A (.hand i))).length = s.n := by rw [List.length_map, List.length_range]
  have h := el_lcL (K := K) (t := tYes) (te := tMe (ga K "Hand") "card" (spHd K fun h => oD h.held) E0 (tVar 1) tNil) (j := 1) (vs := [1]) (fun _ => true) (fun i => oV (s.hd i).held) (ev_nf (σ := L2.start N_Net_cards [V.ref (A .net)]) (t0 := tVar 0) T N (ev_var rfl) T.n_Net_folk rfl) (sq_of N.folk) (by rw [hl]; omega) (fun _ => rfl) (fun i x H1 e1 hx => et_yes) fun i x H1 e1 hx _ => ?_
  · rw [hl, given_all] at h
    exact h H (Ex.refl H) _ fun p H2 hp e2 h2 => k p _ H2 hp e2 h2 (da_range _ _ (fun i => oD_dp _) _)
  · have hi : i < s.n := by
      have := (List.getElem?_eq_some_iff.mp hx).1
      rw [hl] at this
      exact this
    rw [at_range _ hi] at hx
    cases hx
    intro H2 e2 Q2 q2
    have N2 := N.ex (e1.trans e2)
    obtain ⟨dx, hh⟩ := N2.hand hi
    exact ⟨_, rfl, A (.hand i), dx, _, rfl, hh, rfl, ⟨A (.hand i), _, s.hd i, rfl, hh, ⟨dx, rfl⟩, fun v H3 e3 hv => by
      rw [oD_v hv]
      exact q2 H3 e3⟩⟩
/-- a loop over the items of a list with their places, the list a known one -/
theorem s_forE {σ : K59.St} {H H0 : Hp} {tl : TE} {a : Addr} {xs : List V} {D : Ends} {tu : L2.TS} {i j : Nat} (h : Ev tl σ H0 (.ref a)) (hx : H0 a = some (.lst xs)) (e : Ex H0 H) (Pv : Nat → K59.St → Hp → Prop) (h0 : ∀ H1, Ex H H1 → Pv 0 σ H1) (hp : ∀ m σ' H', Pv m σ' H' → Ex H0 H')
    (hs : ∀ (m : Nat) x σ' H' H3, xs[m]? = some x → Pv m σ' H' → Ex H' H3 → tu { D with nx := Pv (m + 1), ct := Pv (m + 1), bk := D.nx } ((σ'.set i (some (.int (m : Int)))).set j (some x)) H3) (hd : ∀ σ' H', Pv xs.length σ' H' → D.nx σ' H') : tFor (iEnum K (tCons tl tNil)) (gTup K 2 (gCons (gName i) (gCons (gName j) gNil))) tu D σ H :=
  h H e _ fun H1 e1 => ⟨a, xs, rfl, sq_of (e1 _ _ (e _ _ hx)), by
    refine ⟨fun m b σ' H' => b = xs.length - m ∧ m ≤ xs.length ∧ Pv m σ' H', ⟨_, rfl, Nat.zero_le _, h0 H1 e1⟩, ?_⟩
    rintro m b σ' H' ⟨rfl, hm, p⟩
    have ha := hp m σ' H' p _ _ hx
    by_cases hlt : m < xs.length
    · refine .inr ⟨⟨xs, xs[m], sq_of ha, by simp [hlt]⟩, Pv (m + 1), fun σ2 H2 q => ⟨xs.length - (m + 1), by omega, rfl, hlt, q⟩, fun x H3 y => ?_⟩
      obtain ⟨Tp, x, rfl, hT, rfl, hxx⟩ := y
      exact ⟨Tp, _, rfl, st_of upd_same, rfl, _, _, rfl, _, _, rfl, rfl, hs m x σ' H' _ (hxx xs (sq_of ha)) p (Ex.new hT)⟩
    · have hl : m = xs.length := by omega
      exact .inl ⟨⟨xs, sq_of ha, by omega⟩, hd σ' H' (hl ▸ p)⟩⟩
theorem freeL_succ (s : NS) (m : Nat) : (List.range (m + 1)).filter (fun i => mayGo (s.hd i)) = (List.range m).filter (fun i => mayGo (s.hd i)) ++ (if mayGo (s.hd m) = true then [m] else []) := by
  rw [List.range_succ, List.filter_append, List.filter_cons]
  cases mayGo (s.hd m) <;> rfl
theorem mayGo_eq (h : Hd) : mayGo h = (!h.held.isNone && (!h.heard.isNone && (match h.held, h.heard with | some c, some x => decide (x < c) | _, _ => false))) := by
  obtain ⟨held, sent, aside, heard⟩ := h
  cases held <;> cases heard <;> rfl
theorem ok_free_hands (T : Txt w K mg) : FR P w K mg base 2 (ma K (ga K "Net") "free_hands") (spNetL K (fun s => s.n ≤ 24) fun s => DI (NI (freeL s))) := by
  have G_Hand_card : FR P w K mg base 1 (ma K (ga K "Hand") "card") (spHd K fun h => oD h.held) := ok_Hand_card T
  have G_Hand_heard : FR P w K mg base 1 (ma K (ga K "Hand") "heard") (spHd K fun h => oD h.heard) := ok_Hand_heard T
  refine okN T.f_Net_free_hands sc_Net_free_hands (fun _ _ _ _ _ _ us hl => match us, hl with | [_], _ => rfl) (fun vs H Q E h => by obtain ⟨_, _, rfl, _⟩ := h; rfl) fun cdv A0 outer s0 H vs Q E hr h => ?_
  obtain ⟨A, s, rfl, N, hn, k⟩ := h
  refine ⟨_, (pss_cons (ps_set (i := 1) sc_Net_free_hands.nd rfl (Or.inl rfl) (pe_lst pa_nil))
      (pss_cons (ps_for PassesOwn.never rfl (pi_enum (by rfl) T.b_enumerate (pa_cons (pe_fld (pv 0) rfl) pa_nil)) (pg_tup (by rfl) (pgs_cons (pg_name (i := 2) sc_Net_free_hands.nd rfl (Or.inl rfl)) (pgs_cons (pg_name (i := 3) sc_Net_free_hands.nd rfl (Or.inl rfl)) pgs_nil))) (pss_one (ps_if (PW.pt (pw_and (pt_cmpR op_notN (me0 (pv 3) T.k_Hand T.m_Hand_card G_Hand_card (hr.mono (by decide)) psN) pe_non (nomark _)) (pw_and (pt_cmpR op_notN (me0 (pv 3) T.k_Hand T.m_Hand_heard G_Hand_heard (hr.mono (by decide)) psN) pe_non (nomark _)) (pw_and1 (pt_cmpR op_gt (me0 (pv 3) T.k_Hand T.m_Hand_card G_Hand_card (hr.mono (by decide)) psN) (me0 (pv 3) T.k_Hand T.m_Hand_heard G_Hand_heard (hr.mono (by decide)) psN) (nomark _)))))) (pss_one (ps_expr (pe_bm PySem.F.plainAttrs_list PySem.F.slot_list_append PySem.F.type_list_append mt_append (pv 1) (pa_cons (pv 2) pa_nil)))) pss_nil)))
      (pss_one (ps_ret (pv 1))))), ?_⟩
  refine q_asgN (K := K) (en_lst es_nil (Nat.zero_le _)) fun l vs0 H1 hl e1 hl1 ha1 => ?_
  cases ha1
  have hlen : ((List.range s.n).map fun i => V.ref (A (.hand i))).length = s.n := by rw [List.length_map, List.length_range]
  refine s_forE (D := { nx := _, rt := Q }) (H0 := H) (ev_nf T N (ev_var rfl) T.n_Net_folk rfl) N.folk e1 (fun m σ' H' => ∃ a b, σ' = [some (.ref (A .net)), some (.ref l), a, b] ∧ Ex H H' ∧ H' l = some (.lst ((NI ((List.range m).filter fun i => mayGo (s.hd i))).map V.int))) (fun H2 e2 => ⟨_, _, rfl, e1.trans e2, e2 _ _ hl1⟩) (fun m σ' H' ⟨_, _, _, p, _⟩ => p) ?_ ?_
  · rintro m x σ' H' H3 hx ⟨_, _, rfl, p1, p2⟩ e3
    have hm : m < s.n := by
      have := (List.getElem?_eq_some_iff.mp hx).1
      rw [hlen] at this
      exact this
    rw [at_range _ hm] at hx
    cases hx
    have N3 := N.ex (p1.trans e3)
    obtain ⟨dx, hh⟩ := N3.hand hm
    have Fc : ∀ H4, Ex H3 H4 → EvD K (tMe (ga K "Hand") "card" (spHd K fun h => oD h.held) E0 (tVar 3) tNil) [some (.ref (A .net)), some (.ref l), some (.int (m : Int)), some (.ref (A (.hand m)))] H4 (oD (s.hd m).held) := fun H4 e4 H5 e5 Q5 q5 =>
      ⟨_, rfl, A (.hand m), dx, _, rfl, (e4.trans e5) _ _ hh, rfl, ⟨A (.hand m), _, s.hd m, rfl, (e4.trans e5) _ _ hh, ⟨dx, rfl⟩, fun v H6 e6 hv => q5 v H6 e6 hv⟩⟩
    have Fh : ∀ H4, Ex H3 H4 → EvD K (tMe (ga K "Hand") "heard" (spHd K fun h => oD h.heard) E0 (tVar 3) tNil) [some (.ref (A .net)), some (.ref l), some (.int (m : Int)), some (.ref (A (.hand m)))] H4 (oD (s.hd m).heard) := fun H4 e4 H5 e5 Q5 q5 =>
      ⟨_, rfl, A (.hand m), dx, _, rfl, (e4.trans e5) _ _ hh, rfl, ⟨A (.hand m), _, s.hd m, rfl, (e4.trans e5) _ _ hh, ⟨dx, rfl⟩, fun v H6 e6 hv => q5 v H6 e6 hv⟩⟩
    refine s_when (b := mayGo (s.hd m)) (et_to (et_and (et_db (ed_op (Fc H3 (Ex.refl H3)) ed_n rd_notN)) fun z1 => et_and (et_db (ed_op (Fh H3 (Ex.refl H3)) ed_n rd_notN)) fun z2 => ?_) (by rw [noneD_oD, noneD_oD, ← mayGo_eq])) (fun z H4 e4 => ?_) (fun z H4 e4 => ?_)
    · have hc := Fc H3 (Ex.refl H3)
      have hd := Fh H3 (Ex.refl H3)
      cases h1 : (s.hd m).held with
      | none => rw [h1] at z1; cases z1
      | some c =>
        cases h2 : (s.hd m).heard with
        | none => rw [h2] at z2; cases z2
        | some y =>
          rw [h1] at hc
          rw [h2] at hd
          exact et_db (ed_op hc hd rd_B0)
    · have hl4 := e4 _ _ (e3 _ _ p2)
      refine s_appE (K := K) hl4 (ev_var rfl) (ed_var rfl (.int (m : Int))) (by
        rw [List.length_map, NI, List.length_map]
        have h := List.length_filter_le (fun i => mayGo (s.hd i)) (List.range m)
        rw [List.length_range] at h
        omega) fun v H5 e5 hv => ?_
      cases hv
      refine ⟨_, _, rfl, Ex.mut ((p1.trans e3).trans (e4.trans e5)) hl, ?_⟩
      rw [upd_same, freeL_succ, if_pos z]
      simp [NI]
    · refine ⟨_, _, rfl, (p1.trans e3).trans e4, ?_⟩
      rw [freeL_succ, z, if_neg (by decide), List.append_nil]
      exact e4 _ _ (e3 _ _ p2)
  · rintro σ' H' ⟨_, _, rfl, p1, p2⟩
    rw [hlen] at p2
    exact ⟨_, rfl, k l _ H' hl p1 p2 (ints_da _)⟩
/-- lane -/
def spLane (K : PySem.W.Frag) : Sp := fun vs H Q _ => ∃ (A : Cl → Addr) (s : NS) (i j : Nat), vs = [.ref (A .net), .int (i : Int), .int (j : Int)] ∧ NetAt K H A s ∧ i < s.n ∧ j < s.n ∧ ∀ p us H2, H p = none → Ex H H2 → H2 p = some (.lst us) → DpAll K H2 us ((laneOf s i j).map Lt.D) → Q (.ref p) H2
theorem ok_lane (T : Txt w K mg) : FR P w K mg base 2 (ma K (ga K "Net") "lane") (spLane K) := by
  have G_Net_need_hand : FR P w K mg base 1 (ma K (ga K "Net") "need_hand") (spNeed K) := ok_need_hand T
  refine okN T.f_Net_lane sc_Net_lane (fun _ _ _ _ _ _ us hl => match us, hl with | [_, _, _], _ => rfl) (fun vs H Q E h => by obtain ⟨_, _, _, _, rfl, _⟩ := h; rfl) fun cdv A0 outer s0 H vs Q E hr h => ?_
  obtain ⟨A, s, i, j, rfl, N, hi, hj, k⟩ := h
  refine ⟨_, (pss_cons (ps_expr (me (pv 0) T.k_Net T.m_Net_need_hand G_Net_need_hand (hr.mono (by decide)) psN (pa_cons (pv 1) pa_nil)))
      (pss_cons (ps_expr (me (pv 0) T.k_Net T.m_Net_need_hand G_Net_need_hand (hr.mono (by decide)) psN (pa_cons (pv 2) pa_nil)))
      (pss_one (ps_ret (pe_callTy call_list_of (by rfl) T.b_list bt_list (pa_cons (pe_dget2 (hu_of hr) (pe_fld (pv 0) rfl) (pe_tup (pa_cons (pv 1) (pa_cons (pv 2) pa_nil))) (pe_lst pa_nil) ⟨by rfl, by rfl, by rfl, by rfl⟩) pa_nil)))))), ?_⟩
  obtain ⟨dx, hnet⟩ := N.net
  refine q_dropR ⟨_, rfl, A .net, dx, netF A, rfl, hnet, rfl, ⟨_, rfl, A, s, (i : Int), rfl, N, fun z => (by rw [nat_inR hi] at z; cases z), fun _ H1 e1 => ?_⟩⟩
  refine q_dropR ⟨_, rfl, A .net, dx, netF A, rfl, e1 _ _ hnet, rfl, ⟨_, rfl, A, s, (j : Int), rfl, N.ex e1, fun z => (by rw [nat_inR hj] at z; cases z), fun _ H2 e2 => ?_⟩⟩
  exact s_retN (en_list (ed_laneG (σ := L2.start N_Net_lane [V.ref (A .net), V.int i, V.int j]) (t0 := tVar 0) (ta := tVar 1) (tb := tVar 2) T ((N.ex e1).ex e2) (ev_var rfl) (ev_var rfl) (ev_var rfl))) fun p us H3 hp e3 h3 hv => k p us H3 (fresh_back (e1.trans e2) hp) ((e1.trans e2).trans e3) h3 hv
/-- way -/
def spWay (K : PySem.W.Frag) : Sp := fun vs H Q _ => ∃ (A : Cl → Addr) (s : NS) (v : V) (a b c : Int), vs = [.ref (A .net), v] ∧ NetAt K H A s ∧ Dp K H v (ThD (a, b, c)) ∧ RowOk s.first ∧ (∃ out, Led s.first s.done out) ∧ a < b ∧ b < c ∧ a ∈ s.first ∧ b ∈ s.first ∧ c ∈ s.first ∧ ∀ H2, Ex H H2 → Q (.str (wayOf s.first s.done a b c)) H2
theorem ok_way (T : Txt w K mg) : FR P w K mg base 7 (ma K (ga K "Net") "way") (spWay K) := by
  have G_way_by : FR P w K mg base 6 (ga K "way_by") (spD K R_way_by) := ok_way_by T
  have G_Net_first_row : FR P w K mg base 1 (ma K (ga K "Net") "first_row") (spNetL K (fun _ => True) fun s => DI s.first) := ok_first_row T
  have G_Net_history : FR P w K mg base 1 (ma K (ga K "Net") "history") (spNetL K (fun _ => True) fun s => s.done.map PrD) := ok_history T
  refine okN T.f_Net_way sc_Net_way (fun _ _ _ _ _ _ us hl => match us, hl with | [_, _], _ => rfl) (fun vs H Q E h => by obtain ⟨_, _, _, _, _, _, rfl, _⟩ := h; rfl) fun cdv A0 outer s0 H vs Q E hr h => ?_
  obtain ⟨A, s, v, a, b, c, rfl, N, hv, R, ⟨out, hL⟩, hab, hbc, ha, hb, hc, k⟩ := h
  refine ⟨_, (pss_one (ps_ret (cl G_way_by (hr.mono (by decide)) T.g_way_by psN (pa_cons (me0 (pv 0) T.k_Net T.m_Net_first_row G_Net_first_row (hr.mono (by decide)) psN) (pa_cons (me0 (pv 0) T.k_Net T.m_Net_history G_Net_history (hr.mono (by decide)) psN) (pa_cons (pv 1) pa_nil)))))), ?_⟩
  have F1 : EvD K (tMe (ga K "Net") "first_row" (spNetL K (fun _ => True) fun s => DI s.first) E0 (tVar 0) tNil) (L2.start N_Net_way [V.ref (A .net), v]) H (.list (DI s.first)) := fun H1 e1 Q1 q1 => by
    obtain ⟨dx, h⟩ := (N.ex e1).net
    exact ⟨_, rfl, A .net, dx, netF A, rfl, h, rfl, ⟨A, s, rfl, N.ex e1, trivial, fun p us H2 hp e2 h2 hd => q1 _ H2 e2 (.lst (sq_of h2) hd)⟩⟩
  have F2 : EvD K (tMe (ga K "Net") "history" (spNetL K (fun _ => True) fun s => s.done.map PrD) E0 (tVar 0) tNil) (L2.start N_Net_way [V.ref (A .net), v]) H (.list (s.done.map PrD)) := fun H1 e1 Q1 q1 => by
    obtain ⟨dx, h⟩ := (N.ex e1).net
    exact ⟨_, rfl, A .net, dx, netF A, rfl, h, rfl, ⟨A, s, rfl, N.ex e1, trivial, fun p us H2 hp e2 h2 hd => q1 _ H2 e2 (.lst (sq_of h2) hd)⟩⟩
  exact s_retD (ed_cl (R := R_way_by) (es_cons F1 (es_cons F2 (es_cons (ed_var rfl hv) es_nil))) ⟨s.first, out, s.done, a, b, c, rfl, R, hL, hab, hbc, ha, hb, hc, rfl⟩) fun u H2 e2 hu => by
    rw [dp_str hu]
    exact k H2 e2
end
end K59

set_option Elab.async false
set_option linter.all false
set_option maxRecDepth 100000
set_option maxHeartbeats 4000000
/-! nets: lanes walked, rest -/
namespace K59
open PySem PySem.Spec PyProof.Rows L2 Evl He
/-- the lanes in their order -/
def lanesOf (s : NS) : Nat → List ((Int × Int) × List Lt)
  | 0 => []
  | 1 => []
  | n + 2 => lanesOf s (n + 1) ++ [(((n : Int), (n : Int) + 1), s.R n), (((n : Int) + 1, (n : Int)), s.L n)]
def lyingN (s : NS) : Int := ((lanesOf s s.n).map fun e => (e.2.length : Int)).sum
def opens (s : NS) : List (Int × Int) := ((lanesOf s s.n).filter fun e => !decide (e.2 = [])).map (·.1)
def minP (p : Int × Int) (ps : List (Int × Int)) : Int × Int := ps.foldl (fun a y => if PySem.W.dataLt (PrD y) (PrD a) = true then y else a) p
theorem minP_eq (ps : List (Int × Int)) : ∀ p, PySem.W.minD (PrD p) (ps.map PrD) = PrD (minP p ps) := by
  unfold PySem.W.minD minP
  induction ps with
  | nil => exact fun p => rfl
  | cons q qs ih =>
    intro p
    rw [List.map_cons, List.foldl_cons, List.foldl_cons]
    by_cases h : PySem.W.dataLt (PrD q) (PrD p) = true
    · rw [if_pos h, if_pos h]
      exact ih q
    · rw [if_neg h, if_neg h]
      exact ih p
theorem minP_mem (ps : List (Int × Int)) : ∀ p, minP p ps ∈ p :: ps := by
  unfold minP
  induction ps with
  | nil => exact fun p => List.mem_singleton.mpr rfl
  | cons q qs ih =>
    intro p
    rw [List.foldl_cons]
    by_cases h : PySem.W.dataLt (PrD q) (PrD p) = true
    · rw [if_pos h]
      exact List.mem_cons_of_mem _ (ih q)
    · rw [if_neg h]
      rcases List.mem_cons.mp (ih p) with e | e
      · rw [e]
        exact List.mem_cons_self
      · exact List.mem_cons_of_mem _ (List.mem_cons_of_mem _ e)
theorem lanesOf_mem {s : NS} {e : (Int × Int) × List Lt} : ∀ {n : Nat}, e ∈ lanesOf s n → ∃ m : Nat, m + 1 < n ∧ (e = (((m : Int), (m : Int) + 1), s.R m) ∨ e = (((m : Int) + 1, (m : Int)), s.L m))
  | 0, h => by cases h
  | 1, h => by cases h
  | n + 2, h => by
    rw [lanesOf] at h
    rcases List.mem_append.mp h with h | h
    · obtain ⟨m, hm, r⟩ := lanesOf_mem h
      exact ⟨m, by omega, r⟩
    · rcases List.mem_cons.mp h with h | h
      · exact ⟨n, by omega, .inl h⟩
      · exact ⟨n, by omega, .inr (List.mem_singleton.mp h)⟩
theorem mem_lanesOf (s : NS) (m : Nat) : ∀ {n : Nat}, m + 1 < n → (((m : Int), (m : Int) + 1), s.R m) ∈ lanesOf s n ∧ (((m : Int) + 1, (m : Int)), s.L m) ∈ lanesOf s n
  | 0, h => by omega
  | 1, h => by omega
  | n + 2, h => by
    rw [lanesOf]
    by_cases e : m = n
    · subst e
      exact ⟨List.mem_append.mpr (.inr (by simp)), List.mem_append.mpr (.inr (by simp))⟩
    · have := mem_lanesOf s m (n := n + 1) (by omega)
      exact ⟨List.mem_append.mpr (.inl this.1), List.mem_append.mpr (.inl this.2)⟩
theorem lanesOf_len (s : NS) : ∀ n : Nat, (lanesOf s n).length ≤ 2 * n
  | 0 => by simp [lanesOf]
  | 1 => by simp [lanesOf]
  | n + 2 => by
    have := lanesOf_len s (n + 1)
    rw [lanesOf, List.length_append]
    simp only [List.length_cons, List.length_nil]
    omega
/-- an open lane's ends -/
theorem opens_mem {s : NS} {p : Int × Int} (h : p ∈ opens s) : ∃ i j : Nat, p = ((i : Int), (j : Int)) ∧ i < s.n ∧ j < s.n ∧ laneOf s i j ≠ [] := by
  obtain ⟨e, he, rfl⟩ := List.mem_map.mp h
  obtain ⟨h1, h2⟩ := List.mem_filter.mp he
  have h2 : e.2 ≠ [] := by simpa using h2
  obtain ⟨m, hm, rfl | rfl⟩ := lanesOf_mem h1
  · refine ⟨m, m + 1, rfl, by omega, hm, ?_⟩
    unfold laneOf
    rw [if_pos ⟨rfl, hm⟩]
    exact h2
  · refine ⟨m + 1, m, rfl, hm, by omega, ?_⟩
    unfold laneOf
    rw [if_neg (by omega), if_pos ⟨rfl, hm⟩]
    exact h2
theorem sum_pos_of {s : NS} (h : lyingN s ≠ 0) : opens s ≠ [] := fun e => h (by
  unfold opens at e
  unfold lyingN
  have h2 : ∀ x ∈ lanesOf s s.n, x.2 = [] := fun x hx => by
    have := List.filter_eq_nil_iff.mp (List.map_eq_nil_iff.mp e) x hx
    simpa using this
  generalize lanesOf s s.n = l at h2
  induction l with
  | nil => rfl
  | cons x xs ih =>
    rw [List.map_cons, List.sum_cons, ih fun y hy => h2 y (List.mem_cons_of_mem _ hy), h2 x List.mem_cons_self]
    rfl)
theorem sum_nn (l : List ((Int × Int) × List Lt)) : 0 ≤ (l.map fun e => (e.2.length : Int)).sum := by
  induction l with
  | nil => exact Int.le_refl _
  | cons x xs ih =>
    rw [List.map_cons, List.sum_cons]
    omega
theorem lying_nn (s : NS) : 0 ≤ lyingN s := sum_nn _
section
variable {K : PySem.W.Frag} {σ : K59.St} {H H' : Hp} {te ta tb tl td t : TE} {d : Addr} {od : Obj} {kvs : List (List Key × V)} {ds es : List PyData}
def keyD : Key → PyData
  | .inl i => .int i
  | .inr x => .str x
theorem key_dp : ∀ ks : List Key, DpAll K H (ks.map kV) (ks.map keyD)
  | [] => .nil
  | .inl i :: ks => .cons (.int i) (key_dp ks)
  | .inr x :: ks => .cons (.str x) (key_dp ks)
theorem ii_vals (h : Ev td σ H (.ref d)) (hd : H d = some (.frz od (.dT kvs))) (hv : DpAll K H (kvs.map (·.2)) ds) : IsIt K (iValsT td) σ H ds := fun H1 e R r => h H1 e _ fun H2 e2 => by
  have hd2 := (e.trans e2) _ _ hd
  refine ⟨d, od, kvs, rfl, hd2, r _ H2 (fun H3 => Ex H H3) e2 (fun H3 e3 => (e.trans e2).trans e3) fun i H3 e3 => ⟨fun dd hdd => ?_, fun hl => ⟨e3 _ _ hd, by rw [← List.length_map (f := Prod.snd) (as := kvs), da_len hv]; exact hl⟩⟩⟩
  obtain ⟨x, hx, hdx⟩ := da_at hv hdd
  rw [List.getElem?_map] at hx
  cases hk : kvs[i]? with
  | none => rw [hk] at hx; cases hx
  | some kv =>
    rw [hk] at hx
    cases hx
    refine ⟨⟨e3 _ _ hd, (List.getElem?_eq_some_iff.mp hk).1⟩, fun x H4 y => ?_⟩
    obtain ⟨rfl, k, hk2⟩ := y
    rw [hk] at hk2
    cases hk2
    exact ⟨Ex.refl _, dp_ex e3 _ hdx⟩
def itemsD (kvs : List (List Key × V)) (ds : List PyData) : List PyData := List.zipWith (fun kv d => .tuple [.tuple (kv.1.map keyD), d]) kvs ds
theorem ii_items (h : Ev td σ H (.ref d)) (hd : H d = some (.frz od (.dT kvs))) (hv : DpAll K H (kvs.map (·.2)) ds) : IsIt K (iItemsT td) σ H (itemsD kvs ds) := fun H1 e R r => h H1 e _ fun H2 e2 => by
  have hd2 := (e.trans e2) _ _ hd
  have hl0 : kvs.length = ds.length := by rw [← List.length_map (f := Prod.snd) (as := kvs), da_len hv]
  refine ⟨d, od, kvs, rfl, hd2, r _ H2 (fun H3 => Ex H H3) e2 (fun H3 e3 => (e.trans e2).trans e3) fun i H3 e3 => ⟨fun dd hdd => ?_, fun hl => ⟨e3 _ _ hd, by
    unfold itemsD at hl
    rw [List.length_zipWith] at hl
    omega⟩⟩⟩
  unfold itemsD at hdd
  rw [List.getElem?_zipWith] at hdd
  cases hk : kvs[i]? with
  | none => rw [hk] at hdd; cases hdd
  | some kv =>
    cases hdi : ds[i]? with
    | none => rw [hk, hdi] at hdd; cases hdd
    | some di =>
      rw [hk, hdi] at hdd
      have e5 := Option.some.inj hdd
      subst e5
      obtain ⟨x, hx, hdx⟩ := da_at hv hdi
      rw [List.getElem?_map, hk] at hx
      cases hx
      refine ⟨⟨e3 _ _ hd, (List.getElem?_eq_some_iff.mp hk).1⟩, fun x H4 y => ?_⟩
      obtain ⟨Tp, k, v, q, hk2, rfl, hT, hq, rfl⟩ := y
      rw [hk] at hk2
      cases hk2
      refine ⟨Ex.new hT, .tup (st_of upd_same) (.cons (.tup (st_of ((Ex.new hT) _ _ hq)) (key_dp _)) (.cons (dp_ex (e3.trans (Ex.new hT)) _ hdx) .nil))⟩
/-- a new flat list made while a dict is locked -/
theorem en_lockT (hd : H d = some (.dT kvs)) (hn : noL.noLs ds = true) (h : ∀ H1 od, Ex H H1 → EvN K t σ (upd H1 d (.frz od (.dT kvs))) ds) : EvN K (tLockE t) σ H ds := fun H1 e Q q =>
  ⟨d, .dT kvs, e _ _ hd, trivial, fun od => h H1 od e _ (Ex.refl _) _ fun p us H2 hp e2 h2 hv => by
    have hd2 : H2 d = some (.frz od (.dT kvs)) := e2 _ _ upd_same
    have hpd : p ≠ d := fun z => by
      rw [z, upd_same] at hp
      cases hp
    rw [upd_ne hpd] at hp
    refine ⟨hd2, q p us _ hp ?_ (by rw [upd_ne hpd]; exact h2) (da_ts (ts_of fun xs r => ?_) _ hn hv)⟩
    · intro a o ha
      by_cases z : a = d
      · rw [z, upd_same]
        rw [z, e _ _ hd] at ha
        exact ha
      · rw [upd_ne z]
        exact e2 _ _ (by rw [upd_ne z]; exact ha)
    · rcases r with r | ⟨ob, r⟩ <;> rw [hd2] at r <;> cases r⟩
theorem ed_sum {ns : List Int} (h : EvD K ta σ H (.list (DI ns))) : EvD K (tCB (rSum K) (tCons ta tNil)) σ H (.int ns.sum) := fun H1 e Q q => h H1 e _ fun x H2 e2 hx => by
  obtain ⟨a, xs, rfl, hs, ha⟩ := dp_lst hx
  rw [da_ints ha] at hs
  exact ⟨a, ns, rfl, hs, q _ H2 e2 (.int _)⟩
theorem PrD_alikeAll (p : Int × Int) (ps : List (Int × Int)) : PySem.W.AlikeAll (PrD p :: ps.map PrD) := ⟨fun x hx y hy => PrD_alike (p :: ps) x hx y hy, fun x hx => by
  obtain ⟨q, _, rfl⟩ := List.mem_map.mp (show x ∈ (p :: ps).map PrD from hx)
  intro z
  cases z⟩
theorem ed_minP {p : Int × Int} {ps : List (Int × Int)} (h : EvD K ta σ H (.list ((p :: ps).map PrD))) : EvD K (tCB (rMinD K) (tCons ta tNil)) σ H (PrD (minP p ps)) := fun H1 e Q q => h H1 e _ fun x H2 e2 hx => by
  obtain ⟨a, xs, rfl, hs, ha⟩ := dp_lst hx
  refine ⟨a, PrD p, ps.map PrD, rfl, hx, PrD_alikeAll p ps, dep_map PrD PrD_depth (p :: ps), fun v hv => q v H2 e2 ?_⟩
  rw [minP_eq] at hv
  exact hv
end
section
variable {P : Program} {w : World} {K : PySem.W.Frag} {mg : Str → Option Value} {base : Heap}
theorem lanes_dp {H : Hp} {A : Cl → Addr} {s : NS} : ∀ {n : Nat}, (∀ m, m + 1 < n → Dp K H (.ref (A (.right m))) (.list ((s.R m).map Lt.D)) ∧ Dp K H (.ref (A (.left m))) (.list ((s.L m).map Lt.D))) → DpAll K H ((laneKV A n).map (·.2)) ((lanesOf s n).map fun e => .list (e.2.map Lt.D))
  | 0, _ => .nil
  | 1, _ => .nil
  | n + 2, h => by
    rw [laneKV, lanesOf, List.map_append, List.map_append]
    obtain ⟨h1, h2⟩ := h n (by omega)
    exact da_app (lanes_dp fun m hm => h m (by omega)) (.cons h1 (.cons h2 .nil))
theorem items_eq (A : Cl → Addr) (s : NS) : ∀ n : Nat, itemsD (laneKV A n) ((lanesOf s n).map fun e => .list (e.2.map Lt.D)) = (lanesOf s n).map fun e => .tuple [PrD e.1, .list (e.2.map Lt.D)]
  | 0 => rfl
  | 1 => rfl
  | n + 2 => by
    have ih := items_eq A s (n + 1)
    unfold itemsD at ih ⊢
    rw [laneKV, lanesOf, List.map_append, List.map_append, List.zipWith_append (by
      clear ih
      have : ∀ n : Nat, (laneKV A n).length = (lanesOf s n).length := fun n => by
        induction n using laneKV.induct with
        | case1 => rfl
        | case2 => rfl
        | case3 n ih => rw [laneKV, lanesOf, List.length_append, List.length_append, ih] <;> rfl
      rw [List.length_map]
      exact this (n + 1)), ih]
    rfl
/-- the lanes as they stand while their dict is locked -/
theorem lanes_lock {H H1 : Hp} {A : Cl → Addr} {s : NS} {od : Obj} {kvs : List (List Key × V)} (N : NetAt K H A s) (e : Ex H H1) : DpAll K (upd H1 (A .lanes) (.frz od (.dT kvs))) ((laneKV A s.n).map (·.2)) ((lanesOf s s.n).map fun e => .list (e.2.map Lt.D)) := by
  have N1 := N.ex e
  have ts : TSt H1 (upd H1 (A .lanes) (.frz od (.dT kvs))) := ts_of fun xs r => N1.noTup _ (Foot.of (c := .lanes) trivial) xs r
  refine lanes_dp fun m hm => ⟨?_, ?_⟩
  · obtain ⟨us, h1, h2⟩ := N1.rightL hm
    refine .lst (sq_of ?_) (da_ts ts _ (Lts_noL _) h2)
    rw [upd_ne fun z => by cases N.inj (.right m) .lanes hm trivial z]
    exact h1
  · obtain ⟨us, h1, h2⟩ := N1.leftL hm
    refine .lst (sq_of ?_) (da_ts ts _ (Lts_noL _) h2)
    rw [upd_ne fun z => by cases N.inj (.left m) .lanes hm trivial z]
    exact h1
theorem net_lock {H H1 : Hp} {A : Cl → Addr} {s : NS} {od : Obj} {kvs : List (List Key × V)} (N : NetAt K H A s) (e : Ex H H1) : ∃ dx, (upd H1 (A .lanes) (.frz od (.dT kvs))) (A .net) = some (.ins (ga K "Net") dx (netF A)) := by
  obtain ⟨dx, h⟩ := (N.ex e).net
  refine ⟨dx, ?_⟩
  rw [upd_ne fun z => by cases N.inj .net .lanes trivial trivial z]
  exact h
def spLying (K : PySem.W.Frag) : Sp := fun vs H Q _ => ∃ (A : Cl → Addr) (s : NS), vs = [.ref (A .net)] ∧ NetAt K H A s ∧ s.n ≤ 24 ∧ ∀ H2, Ex H H2 → Q (.int (lyingN s)) H2
theorem ok_lying (T : Txt w K mg) : FR P w K mg base 1 (ma K (ga K "Net") "lying") (spLying K) := by
  refine okN T.f_Net_lying sc_Net_lying (fun _ _ _ _ _ _ us hl => match us, hl with | [_], _ => rfl) (fun vs H Q E h => by obtain ⟨_, _, rfl, _⟩ := h; rfl) fun cdv A0 outer s0 H vs Q E hr h => ?_
  obtain ⟨A, s, rfl, N, hn, k⟩ := h
  refine ⟨_, (pss_one (ps_ret (pe_callB (cr_sum rfl) (by rfl) T.b_sum bt_sum (pa_cons (pe_lock (pe_lc (own := [("letters", 1)]) (g := (gName 1)) (tt := tYes) rfl sc_Net_lying.nd (pi_valuesT (pe_fld (pv 0) rfl)) (blkOk_by (own := [("letters", 1)]) (N := N_Net_lying) (sc := defScope s_Net_lying) (by decide +kernel)) (fun _ _ _ _ _ => (pg_name (i := 1) sc_Net_lying.nd rfl (Or.inl rfl))) (fun _ _ _ _ _ => pts_nil) (fun _ _ _ _ _ => (pe_callB (crK K rLenS call_len_seq rfl) (by rfl) T.b_len bt_len (pa_cons (pv 1) pa_nil))))) pa_nil)))), ?_⟩
  refine s_retD (d := .int (lyingN s)) (ed_sum (ns := (lanesOf s s.n).map fun e => (e.2.length : Int)) (en_lockT N.lanes (DI_noL _) fun H1 od e1 => ?_).toD) fun v H2 e2 hv => by
    rw [dp_int hv]
    exact k H2 e2
  obtain ⟨dx, hnet⟩ := net_lock (od := od) (kvs := laneKV A s.n) N e1
  refine en_to (en_mapA (fun e : (Int × Int) × List Lt => .list (e.2.map Lt.D)) (fun e => .int (e.2.length : Int)) (ii_vals (ev_fld (ev_var rfl) hnet T.k_Net T.n_Net_lanes_kept rfl) upd_same (lanes_lock N e1)) (by have := lanesOf_len s s.n; omega) (fun _ _ => rfl)
    fun e he => tn1 (fun _ => rfl) fun v H2 e2 hv => ⟨et_yes, fun _ => ed_to (ed_len (ed_var rfl hv)) (by rw [List.length_map])⟩) (by rw [DI, List.map_map] <;> rfl)
end
end K59

set_option Elab.async false
set_option linter.all false
set_option maxRecDepth 100000
set_option maxHeartbeats 4000000
/-! nets: rest -/
namespace K59
open PySem PySem.Spec PyProof.Rows L2 Evl He
structure OkS (s : NS) : Prop where
  sh : Short s 50000
  t : s.t < 50000
  lo : LOk s
  dn : s.done.length < 50000
  n : s.n ≤ 24
/-- b turns of rest, m of them steps -/
inductive RestN : Nat → NS → Nat → NS → Prop
  | done {s : NS} (o : OkS s) (h1 : lyingN s = 0) (h2 : freeL s = []) : RestN 0 s 0 s
  | step {s s1 s2 : NS} {b m i j : Nat} {p : Int × Int} {ps : List (Int × Int)} (o : OkS s) (h1 : lyingN s ≠ 0) (h2 : opens s = p :: ps) (h3 : minP p ps = ((i : Int), (j : Int))) (h4 : stepS s i j = some s1) (r : RestN b s1 m s2) : RestN (b + 1) s (m + 1) s2
  | go {s s2 : NS} {b m i : Nat} {c : Int} {r : List Nat} (o : OkS s) (h1 : lyingN s = 0) (h2 : freeL s = i :: r) (h3 : i + 1 < s.n) (h4 : (s.hd i).held = some c) (t : RestN b (goS s i c) m s2) : RestN (b + 1) s m s2
theorem RestN.ok {b m : Nat} {s s2 : NS} (h : RestN b s m s2) : OkS s := by cases h <;> assumption
theorem noteS_n (s : NS) (i : Nat) (ls : List Lt) : (noteS s i ls).n = s.n := (fold_n i ls s).1
theorem stepS_n {s s1 : NS} {i j : Nat} (h : stepS s i j = some s1) : s1.n = s.n := by
  unfold stepS at h
  cases hl : laneOf s i j with
  | nil => rw [hl] at h; cases h
  | cons l r =>
    rw [hl] at h
    simp only at h
    cases hh : hearF (s.hd j) l with
    | none => rw [hh] at h; cases h
    | some hp =>
      rw [hh] at h
      simp only at h
      have pn := (pop_same (s := s) (i := i) (j := j)).1
      split at h
      · cases ht : takenOf (s.hd j) l with
        | none => rw [ht] at h; cases h
        | some c =>
          rw [ht] at h
          simp only at h
          split at h
          · cases h
            rw [noteS_n]
            exact pn
          · cases h
      · cases h
        rw [noteS_n]
        exact pn
theorem freeL_mem {s : NS} {i : Nat} (h : i ∈ freeL s) : i < s.n ∧ mayGo (s.hd i) = true := by
  obtain ⟨h1, h2⟩ := List.mem_filter.mp h
  exact ⟨List.mem_range.mp h1, h2⟩
section
variable {P : Program} {w : World} {K : PySem.W.Frag} {mg : Str → Option Value} {base : Heap}
def spRest (K : PySem.W.Frag) : Sp := fun vs H Q _ => ∃ (A : Cl → Addr) (s s2 : NS) (b m : Nat), vs = [.ref (A .net)] ∧ NetAt K H A s ∧ RestN b s m s2 ∧ ∀ H2, Kp (Foot A s.n) H H2 → NetAt K H2 A s2 → Q (.int (m : Int)) H2
theorem ok_rest (T : Txt w K mg) : FR P w K mg base 5 (ma K (ga K "Net") "rest") (spRest K) := by
  have G_Net_lying : FR P w K mg base 1 (ma K (ga K "Net") "lying") (spLying K) := ok_lying T
  have G_Net_free_hands : FR P w K mg base 2 (ma K (ga K "Net") "free_hands") (spNetL K (fun s => s.n ≤ 24) fun s => DI (NI (freeL s))) := ok_free_hands T
  have G_Net_step : FR P w K mg base 4 (ma K (ga K "Net") "step") (spStep K) := ok_step T
  have G_Net_go : FR P w K mg base 3 (ma K (ga K "Net") "go") (spNetGo K) := ok_Net_go T
  refine okN T.f_Net_rest sc_Net_rest (fun _ _ _ _ _ _ us hl => match us, hl with | [_], _ => rfl) (fun vs H Q E h => by obtain ⟨_, _, _, _, _, rfl, _⟩ := h; rfl) fun cdv A0 outer s0 H vs Q E hr h => ?_
  obtain ⟨A, s, s2, b, m, rfl, N, R, k⟩ := h
  refine ⟨_, (pss_cons (ps_set (i := 1) sc_Net_rest.nd rfl (Or.inl rfl) pe_int)
      (pss_cons (ps_while PassesOwn.never (PW.pt (pw_or (pt_cmpR op_gt (me0 (pv 0) T.k_Net T.m_Net_lying G_Net_lying (hr.mono (by decide)) psN) pe_int (nomark _)) (pw_or1 (pt_cmpR (op_neD hr.units) (me0 (pv 0) T.k_Net T.m_Net_free_hands G_Net_free_hands (hr.mono (by decide)) psN) (pe_lst pa_nil) (nomark _))))) (pss_one (ps_if (pt_cmpR op_gt (me0 (pv 0) T.k_Net T.m_Net_lying G_Net_lying (hr.mono (by decide)) psN) pe_int (nomark _)) (pss_cons (ps_asg (pe_callB (cr_minD rfl (hu65 hr)) (by rfl) T.b_min bt_min (pa_cons (pe_lock (pe_lc (own := [("pair", 4), ("letters", 5)]) (g := (gTup K 2 (gCons (gName 4) (gCons (gName 5) gNil))))  rfl sc_Net_rest.nd (pi_itemsT (pe_fld (pv 0) rfl)) (blkOk_by (own := [("pair", 4), ("letters", 5)]) (N := N_Net_rest) (sc := defScope s_Net_rest) (by decide +kernel)) (fun _ _ _ _ _ => (pg_tup (by rfl) (pgs_cons (pg_name (i := 4) sc_Net_rest.nd rfl (Or.inl rfl)) (pgs_cons (pg_name (i := 5) sc_Net_rest.nd rfl (Or.inl rfl)) pgs_nil)))) (fun _ _ _ _ _ => (pts_one (pt_cmpR (orK K rNeD (op_neD hr.units) rfl) (pv 5) (pe_lst pa_nil) (nomark _)))) (fun _ _ _ _ _ => (pv 4)))) pa_nil)) (pg_tup (by rfl) (pgs_cons (pg_name (i := 2) sc_Net_rest.nd rfl (Or.inl rfl)) (pgs_cons (pg_name (i := 3) sc_Net_rest.nd rfl (Or.inl rfl)) pgs_nil))))
      (pss_cons (ps_expr (me (pv 0) T.k_Net T.m_Net_step G_Net_step (hr.mono (by decide)) psN (pa_cons (pv 2) (pa_cons (pv 3) pa_nil))))
      (pss_one (ps_aug (i := 1) sc_Net_rest.nd rfl (.inl rfl) pe_int ip_add)))) (pss_one (ps_expr (me (pv 0) T.k_Net T.m_Net_go G_Net_go (hr.mono (by decide)) psN (pa_cons (pe_ix ix_list (me0 (pv 0) T.k_Net T.m_Net_free_hands G_Net_free_hands (hr.mono (by decide)) psN) pe_int (fun _ _ => rfl)) pa_nil)))))))
      (pss_one (ps_ret (pv 1))))), ?_⟩
  have FL : ∀ (σ : K59.St) (H1 : Hp) (s1 : NS), σ[0]? = some (some (.ref (A .net))) → NetAt K H1 A s1 → s1.n ≤ 24 → EvD K (tMe (ga K "Net") "lying" (spLying K) E0 (tVar 0) tNil) σ H1 (.int (lyingN s1)) := fun σ H1 s1 hσ N1 hn H2 e2 Q2 q2 => by
    obtain ⟨dx, h⟩ := (N1.ex e2).net
    exact ⟨_, hσ, A .net, dx, netF A, rfl, h, rfl, ⟨A, s1, rfl, N1.ex e2, hn, fun H3 e3 => q2 _ H3 e3 (.int _)⟩⟩
  have FF : ∀ (σ : K59.St) (H1 : Hp) (s1 : NS), σ[0]? = some (some (.ref (A .net))) → NetAt K H1 A s1 → s1.n ≤ 24 → EvD K (tMe (ga K "Net") "free_hands" (spNetL K (fun s => s.n ≤ 24) fun s => DI (NI (freeL s))) E0 (tVar 0) tNil) σ H1 (.list (DI (NI (freeL s1)))) := fun σ H1 s1 hσ N1 hn H2 e2 Q2 q2 => by
    obtain ⟨dx, h⟩ := (N1.ex e2).net
    exact ⟨_, hσ, A .net, dx, netF A, rfl, h, rfl, ⟨A, s1, rfl, N1.ex e2, hn, fun p us H3 hp e3 h3 hd => q2 _ H3 e3 (.lst (sq_of h3) hd)⟩⟩
  refine q_asg ev_c fun H0 e0 => ?_
  refine q_while (fun b' σ' H' => ∃ (s1 : NS) (m1 m2 : Nat) (x y z u : Option V), σ' = [some (.ref (A .net)), some (.int (m1 : Int)), x, y, z, u] ∧ NetAt K H' A s1 ∧ Kp (Foot A s.n) H H' ∧ s1.n = s.n ∧ RestN b' s1 m2 s2 ∧ m1 + m2 = m) b ⟨s, 0, m, _, _, _, _, rfl, N.ex e0, Kp.of e0, rfl, R, Nat.zero_add m⟩ ?_
  rintro b' σ' H' ⟨s1, m1, m2, x, y, z, u, rfl, N1, K1, hn1, R1, hm⟩
  have o1 := R1.ok
  have hn24 := o1.n
  have tst : ∀ H1, Ex H' H1 → EvT (tTest (tOp (rI0 fun i j => .bl (decide (j < i))) (tMe (ga K "Net") "lying" (spLying K) E0 (tVar 0) tNil) (tC (.int 0)))) [some (.ref (A .net)), some (.int (m1 : Int)), x, y, z, u] H1 (decide (0 < lyingN s1)) := fun H1 e1 => et_db (ed_op (FL _ _ s1 rfl (N1.ex e1) hn24) ed_i rd_B0)
  have nil_iff : (PyData.eqv (.list (DI (NI (freeL s1)))) (.list [])) = decide (freeL s1 = []) := by
    rw [eqv_nil]
    exact decide_eq_decide.mpr (by simp [NI])
  refine ⟨decide (0 < lyingN s1) || !decide (freeL s1 = []), et_or (tst H' (Ex.refl H')) fun _ => et_to (et_db (ed_op (FF _ _ s1 rfl N1 hn24) (en_lst (K := K) es_nil (Nat.zero_le _)).toD (rd_neD (sh_DI _) sh_nil))) (by rw [nil_iff]), fun hb H1 e1 => ?_, fun hb H1 e1 => ?_⟩
  · have N2 := N1.ex e1
    cases R1 with
    | done o h1 h2 =>
      rw [h1, h2] at hb
      cases hb
    | @step _ s3 _ b0 m0 i j p ps o h1 h2 h3 h4 r =>
      refine ⟨fun σ' H' => ∃ (s1 : NS) (m1 m2 : Nat) (x y z u : Option V), σ' = [some (.ref (A .net)), some (.int (m1 : Int)), x, y, z, u] ∧ NetAt K H' A s1 ∧ Kp (Foot A s.n) H H' ∧ s1.n = s.n ∧ RestN b0 s1 m2 s2 ∧ m1 + m2 = m, fun σ2 H2 p => ⟨b0, Nat.lt_succ_self _, p⟩, ?_⟩
      have hly : 0 < lyingN s1 := by
        have := lying_nn s1
        omega
      refine s_if (b := true) (et_to (tst H1 e1) (decide_eq_true hly)) (fun _ H2 e2 => ?_) (fun z => by cases z)
      have N3 := N2.ex e2
      have hop : ∀ H3 od, Ex H2 H3 → EvN K _ _ (upd H3 (A .lanes) (.frz od (.dT (laneKV A s1.n)))) ((p :: ps).map PrD) := fun H3 od e3 => by
        obtain ⟨dx, hnet⟩ := net_lock (od := od) (kvs := laneKV A s1.n) N3 e3
        exact en_to (en_lcA (t := tTest (tOp (rNeD K) (tVar 5) (tLst tNil))) (te := tVar 4) (vs := [4, 5]) (g := gTup K 2 (gCons (gName 4) (gCons (gName 5) gNil))) (wi := iItemsT (tFld K (tVar 0) "lanes_kept")) (σ := [some (.ref (A .net)), some (.int (m1 : Int)), x, y, z, u]) (fun e : (Int × Int) × List Lt => .tuple [PrD e.1, .list (e.2.map Lt.D)]) (fun e => !decide (e.2 = [])) (fun e => PrD e.1) (by
          rw [← items_eq A s1 s1.n]
          exact ii_items (ev_fld (ev_var rfl) hnet T.k_Net T.n_Net_lanes_kept rfl) upd_same (lanes_lock N3 e3)) (by have := lanesOf_len s1 s1.n; omega) (fun _ _ => rfl)
          fun e he => tn2 (fun _ _ => rfl) fun v1 v2 H4 e4 hv1 hv2 => ⟨et_to (et_db (ed_op (ed_var rfl hv2) (en_lst (K := K) es_nil (Nat.zero_le _)).toD (rd_neD (sh_Lts _) sh_nil))) (by rw [eqv_nil]; congr 1; exact decide_eq_decide.mpr (by simp)), fun _ => ed_var rfl hv1⟩) (by
            rw [← h2, opens, List.map_map] <;> rfl)
      refine q_asgG (ed_minP (K := K) (en_lockT (K := K) N3.lanes (PrD_noL (p :: ps)) hop).toD) fun v H4 e4 hv => ?_
      rw [h3] at hv
      have hv : Dp K H4 v (.tuple [.int (i : Int), .int (j : Int)]) := hv
      refine g_tup2 hv fun a1 a2 d1 d2 => ?_
      cases d1
      cases d2
      have N4 := N3.ex e4
      obtain ⟨dx, hnet⟩ := N4.net
      have hpm : ((i : Int), (j : Int)) ∈ opens s1 := by
        rw [h2, ← h3]
        exact minP_mem ps p
      obtain ⟨i', j', he, hi, hj, hne⟩ := opens_mem hpm
      have ei : i = i' := by
        have := congrArg Prod.fst he
        simp only at this
        omega
      have ej : j = j' := by
        have := congrArg Prod.snd he
        simp only at this
        omega
      subst ei
      subst ej
      have hR : (inR s1.n (i : Int) && inR s1.n (j : Int)) = true := by rw [nat_inR hi, nat_inR hj] <;> rfl
      refine q_dropR ⟨_, rfl, A .net, dx, netF A, rfl, hnet, rfl, ⟨_, rfl, _, rfl, A, s1, (i : Int), (j : Int), rfl, N4, o.sh, o.t, o.lo, o.dn, fun z => (by rw [hR] at z; cases z), fun _ z => absurd z hne, fun _ _ => ⟨s3, h4, fun H5 k5 n5 => ?_⟩⟩⟩
      refine s_aug rfl ev_c fun H6 e6 => ⟨s3, m1 + 1, m0, _, _, _, _, rfl, n5.ex e6, ?_, (stepS_n h4).trans hn1, r, by omega⟩
      rw [hn1] at k5
      exact ((K1.trans (Kp.of ((e1.trans e2).trans e4))).trans k5).trans (Kp.of e6)
    | @go _ _ b0 m0 i c r o h1 h2 h3 h4 t =>
      refine ⟨fun σ' H' => ∃ (s1 : NS) (m1 m2 : Nat) (x y z u : Option V), σ' = [some (.ref (A .net)), some (.int (m1 : Int)), x, y, z, u] ∧ NetAt K H' A s1 ∧ Kp (Foot A s.n) H H' ∧ s1.n = s.n ∧ RestN b0 s1 m2 s2 ∧ m1 + m2 = m, fun σ2 H2 p => ⟨b0, Nat.lt_succ_self _, p⟩, ?_⟩
      refine s_if (b := false) (et_to (tst H1 e1) (decide_eq_false (by omega))) (fun z => by cases z) (fun _ H2 e2 => ?_)
      have N3 := N2.ex e2
      obtain ⟨dx, hnet⟩ := N3.net
      have hfi := freeL_mem (show i ∈ freeL s1 by rw [h2]; exact List.mem_cons_self)
      have hix : EvD K (tOp (rIxL K) (tMe (ga K "Net") "free_hands" (spNetL K (fun s => s.n ≤ 24) fun s => DI (NI (freeL s))) E0 (tVar 0) tNil) (tC (.int 0))) [some (.ref (A .net)), some (.int (m1 : Int)), x, y, z, u] H2 (.int (i : Int)) := ed_op (FF _ _ s1 rfl N3 hn24) ed_i (rd_ixL (j := 0) rfl (by rw [h2] <;> rfl))
      refine ⟨_, rfl, A .net, dx, netF A, rfl, hnet, rfl, hix H2 (Ex.refl H2) _ fun v H3 e3 hv => ?_⟩
      cases hv
      refine ⟨A, s1, (i : Int), rfl, N3.ex e3, o.sh, o.t, fun z => (by rw [nat_inR hfi.1] at z; cases z), fun _ z => (by rw [show ((i : Int)).toNat = i from rfl, hfi.2] at z; cases z), fun _ _ => ⟨h3, fun c' H4 hc k4 n4 => ?_⟩⟩
      have hcc : c' = c := by
        rw [show ((i : Int)).toNat = i from rfl, h4] at hc
        exact (Option.some.inj hc).symm
      subst hcc
      refine ⟨_, m1, m2, _, _, _, _, rfl, n4, ?_, (noteS_n _ _ _).trans hn1, t, hm⟩
      rw [hn1] at k4
      exact (K1.trans (Kp.of ((e1.trans e2).trans e3))).trans k4
  · have hb2 : lyingN s1 = 0 ∧ freeL s1 = [] := by
      have h := Bool.or_eq_false_iff.mp hb
      have h1 := of_decide_eq_false h.1
      have h2 := lying_nn s1
      refine ⟨by omega, ?_⟩
      have h3 := h.2
      simpa using h3
    cases R1 with
    | done o h1 h2 =>
      have e : m1 = m := by omega
      subst e
      exact ⟨_, rfl, k H1 (K1.trans (Kp.of e1)) (N1.ex e1)⟩
    | step o h1 h2 h3 h4 r => exact absurd hb2.1 h1
    | go o h1 h2 h3 h4 t =>
      rw [h2] at hb2
      cases hb2.2
end
end K59

set_option Elab.async false
set_option linter.all false
set_option maxRecDepth 100000
set_option maxHeartbeats 4000000
/-! nets: one more hand -/
namespace K59
open PySem PySem.Spec PyProof.Rows L2 Evl He
/-- with one more hand, its first note to come -/
def moreS (s : NS) (c : Int) : NS := { s with n := s.n + 1, hd := fun m => if m = s.n then ⟨some c, none, none, none⟩ else s.hd m, R := fun m => if m + 1 = s.n then [] else s.R m, L := fun m => if m + 1 = s.n then [] else s.L m, first := s.first ++ [c], now := s.now ++ [c] }
def addS (s : NS) (c : Int) : NS := noteS (moreS s c) s.n [.mine c]
/-- the cells with those of one more hand -/
def moreA (A : Cl → Addr) (n : Nat) (xh xl xr xf : Addr) : Cl → Addr
  | .hand i => if i = n then xh else A (.hand i)
  | .log i => if i = n then xl else A (.log i)
  | .right i => if i + 1 = n then xr else A (.right i)
  | .left i => if i + 1 = n then xf else A (.left i)
  | c => A c
theorem moreA_old {A : Cl → Addr} {n : Nat} {xh xl xr xf : Addr} : ∀ {c : Cl}, Live n c → moreA A n xh xl xr xf c = A c
  | .hand i, h => if_neg (by have : i < n := h; omega)
  | .log i, h => if_neg (by have : i < n := h; omega)
  | .right i, h => if_neg (by have : i + 1 < n := h; omega)
  | .left i, h => if_neg (by have : i + 1 < n := h; omega)
  | .net, _ => rfl
  | .folk, _ => rfl
  | .lanes, _ => rfl
  | .logs, _ => rfl
  | .first, _ => rfl
  | .now, _ => rfl
  | .done, _ => rfl
theorem live_more {n : Nat} : ∀ {c : Cl}, Live (n + 1) c → Live n c ∨ c = .hand n ∨ c = .log n ∨ (∃ k, n = k + 1 ∧ c = .right k) ∨ ∃ k, n = k + 1 ∧ c = .left k
  | .hand i, h => by
    have h : i < n + 1 := h
    by_cases e : i = n
    · exact .inr (.inl (by rw [e]))
    · exact .inl (show i < n by omega)
  | .log i, h => by
    have h : i < n + 1 := h
    by_cases e : i = n
    · exact .inr (.inr (.inl (by rw [e])))
    · exact .inl (show i < n by omega)
  | .right i, h => by
    have h : i + 1 < n + 1 := h
    by_cases e : i + 1 = n
    · exact .inr (.inr (.inr (.inl ⟨i, e.symm, rfl⟩)))
    · exact .inl (show i + 1 < n by omega)
  | .left i, h => by
    have h : i + 1 < n + 1 := h
    by_cases e : i + 1 = n
    · exact .inr (.inr (.inr (.inr ⟨i, e.symm, rfl⟩)))
    · exact .inl (show i + 1 < n by omega)
  | .net, _ => .inl trivial
  | .folk, _ => .inl trivial
  | .lanes, _ => .inl trivial
  | .logs, _ => .inl trivial
  | .first, _ => .inl trivial
  | .now, _ => .inl trivial
  | .done, _ => .inl trivial
theorem live_up {n : Nat} : ∀ {c : Cl}, Live n c → Live (n + 1) c
  | .hand i, h => Nat.lt_succ_of_lt h
  | .log i, h => Nat.lt_succ_of_lt h
  | .right i, h => Nat.lt_succ_of_lt h
  | .left i, h => Nat.lt_succ_of_lt h
  | .net, _ => trivial
  | .folk, _ => trivial
  | .lanes, _ => trivial
  | .logs, _ => trivial
  | .first, _ => trivial
  | .now, _ => trivial
  | .done, _ => trivial
section
variable {K : PySem.W.Frag} {H G : Hp} {A : Cl → Addr} {s : NS} {xh xl xr xf dx : Addr} {c : Int}
theorem range_more {f g : Nat → V} {n : Nat} (h : ∀ i, i < n → f i = g i) (hn : f n = v) : (List.range (n + 1)).map f = (List.range n).map g ++ [v] := by
  rw [List.range_succ, List.map_append, List.map_congr_left fun i hi => h i (List.mem_range.mp hi)]
  show _ ++ [f n] = _
  rw [hn]
theorem add_net (N : NetAt K H A s) (hk : ∀ cl o, Live s.n cl → cl ≠ .folk → cl ≠ .lanes → cl ≠ .logs → cl ≠ .first → cl ≠ .now → H (A cl) = some o → G (A cl) = some o) (ts : TSt H G)
    (h1 : G (A .folk) = some (.lst (((List.range s.n).map fun i => .ref (A (.hand i))) ++ [.ref xh]))) (h2 : G (A .logs) = some (.lst (((List.range s.n).map fun i => .ref (A (.log i))) ++ [.ref xl])))
    (h3 : G (A .first) = some (.lst ((s.first ++ [c]).map V.int))) (h4 : G (A .now) = some (.lst ((s.now ++ [c]).map V.int))) (h5 : G (A .lanes) = some (.dT (laneKV (moreA A s.n xh xl xr xf) (s.n + 1))))
    (h6 : G xh = some (.ins (ga K "Hand") dx (handF ⟨some c, none, none, none⟩))) (h7 : G xl = some (.lst [])) (h8 : 0 < s.n → G xr = some (.lst []) ∧ G xf = some (.lst []))
    (n1 : H xh = none) (n2 : H xl = none) (n3 : 0 < s.n → H xr = none ∧ H xf = none) (n4 : xh ≠ xl) (n5 : 0 < s.n → xr ≠ xf ∧ xr ≠ xh ∧ xr ≠ xl ∧ xf ≠ xh ∧ xf ≠ xl) : NetAt K G (moreA A s.n xh xl xr xf) (moreS s c) := by
  have hB : ∀ cl, Live s.n cl → moreA A s.n xh xl xr xf cl = A cl := fun cl h => moreA_old h
  have newv : ∀ cl, Live (s.n + 1) cl → ¬ Live s.n cl → H (moreA A s.n xh xl xr xf cl) = none := fun cl h hn => by
    rcases live_more h with h | rfl | rfl | ⟨k, hk, rfl⟩ | ⟨k, hk, rfl⟩
    · exact absurd h hn
    · show H (if s.n = s.n then xh else _) = none
      rw [if_pos rfl]
      exact n1
    · show H (if s.n = s.n then xl else _) = none
      rw [if_pos rfl]
      exact n2
    · show H (if k + 1 = s.n then xr else _) = none
      rw [if_pos hk.symm]
      exact (n3 (by omega)).1
    · show H (if k + 1 = s.n then xf else _) = none
      rw [if_pos hk.symm]
      exact (n3 (by omega)).2
  refine ⟨fun cl hcl => ?_, fun a b ha hb e => ?_⟩
  · rcases live_more hcl with h | rfl | rfl | ⟨k, hk, rfl⟩ | ⟨k, hk, rfl⟩
    · rw [hB cl h]
      obtain ⟨o, ho, hi⟩ := N.at_ cl h
      cases cl with
      | net =>
        refine ⟨o, hk _ o h (by simp) (by simp) (by simp) (by simp) (by simp) ho, ?_⟩
        exact hi
      | folk => exact ⟨_, h1, congrArg HO.lst (range_more (fun i hi => by rw [hB (.hand i) hi]) (by show V.ref (if s.n = s.n then xh else _) = _; rw [if_pos rfl])).symm⟩
      | lanes => exact ⟨_, h5, rfl⟩
      | logs => exact ⟨_, h2, congrArg HO.lst (range_more (fun i hi => by rw [hB (.log i) hi]) (by show V.ref (if s.n = s.n then xl else _) = _; rw [if_pos rfl])).symm⟩
      | first => exact ⟨_, h3, rfl⟩
      | now => exact ⟨_, h4, rfl⟩
      | done =>
        refine ⟨o, hk _ o h (by simp) (by simp) (by simp) (by simp) (by simp) ho, ?_⟩
        exact hi.ts ts
      | hand i =>
        refine ⟨o, hk _ o h (by simp) (by simp) (by simp) (by simp) (by simp) ho, ?_⟩
        obtain ⟨dx, rfl⟩ := hi
        refine ⟨dx, ?_⟩
        show _ = HO.ins _ dx (handF (if i = s.n then _ else s.hd i))
        rw [if_neg (by have : i < s.n := h; omega)]
      | right i =>
        refine ⟨o, hk _ o h (by simp) (by simp) (by simp) (by simp) (by simp) ho, ?_⟩
        obtain ⟨vs, rfl, hd⟩ := hi.ts ts
        refine ⟨vs, rfl, ?_⟩
        show DpAll K G vs ((if i + 1 = s.n then [] else s.R i).map Lt.D)
        rw [if_neg (by have : i + 1 < s.n := h; omega)]
        exact hd
      | left i =>
        refine ⟨o, hk _ o h (by simp) (by simp) (by simp) (by simp) (by simp) ho, ?_⟩
        obtain ⟨vs, rfl, hd⟩ := hi.ts ts
        refine ⟨vs, rfl, ?_⟩
        show DpAll K G vs ((if i + 1 = s.n then [] else s.L i).map Lt.D)
        rw [if_neg (by have : i + 1 < s.n := h; omega)]
        exact hd
      | log i =>
        refine ⟨o, hk _ o h (by simp) (by simp) (by simp) (by simp) (by simp) ho, ?_⟩
        exact hi
    · show ∃ o, G (if s.n = s.n then xh else _) = some o ∧ ∃ dx, o = HO.ins _ dx (handF (if s.n = s.n then _ else _))
      rw [if_pos rfl, if_pos rfl]
      exact ⟨_, h6, dx, rfl⟩
    · show ∃ o, G (if s.n = s.n then xl else _) = some o ∧ ∃ vs, o = HO.lst vs ∧ vs.length ≤ s.t
      rw [if_pos rfl]
      exact ⟨_, h7, [], rfl, Nat.zero_le _⟩
    · show ∃ o, G (if k + 1 = s.n then xr else _) = some o ∧ ∃ vs, o = HO.lst vs ∧ DpAll K G vs ((if k + 1 = s.n then [] else s.R k).map Lt.D)
      rw [if_pos hk.symm, if_pos hk.symm]
      exact ⟨_, (h8 (by omega)).1, [], rfl, .nil⟩
    · show ∃ o, G (if k + 1 = s.n then xf else _) = some o ∧ ∃ vs, o = HO.lst vs ∧ DpAll K G vs ((if k + 1 = s.n then [] else s.L k).map Lt.D)
      rw [if_pos hk.symm, if_pos hk.symm]
      exact ⟨_, (h8 (by omega)).2, [], rfl, .nil⟩
  · have old_ne : ∀ cl, Live s.n cl → H (moreA A s.n xh xl xr xf cl) ≠ none := fun cl h z => by
      rw [hB cl h] at z
      obtain ⟨o, ho, _⟩ := N.at_ cl h
      rw [ho] at z
      cases z
    have vh : moreA A s.n xh xl xr xf (.hand s.n) = xh := if_pos rfl
    have vl : moreA A s.n xh xl xr xf (.log s.n) = xl := if_pos rfl
    have vr : ∀ k, s.n = k + 1 → moreA A s.n xh xl xr xf (.right k) = xr := fun k hk => if_pos hk.symm
    have vf : ∀ k, s.n = k + 1 → moreA A s.n xh xl xr xf (.left k) = xf := fun k hk => if_pos hk.symm
    by_cases oa : Live s.n a
    · by_cases ob : Live s.n b
      · rw [hB a oa, hB b ob] at e
        exact N.inj a b oa ob e
      · exact absurd (by rw [e]; exact newv b hb ob) (old_ne a oa)
    · by_cases ob : Live s.n b
      · exact absurd (by rw [← e]; exact newv a ha oa) (old_ne b ob)
      · rcases live_more ha with h | rfl | rfl | ⟨k, hk, rfl⟩ | ⟨k, hk, rfl⟩
        · exact absurd h oa
        · rcases live_more hb with h | rfl | rfl | ⟨k', hk', rfl⟩ | ⟨k', hk', rfl⟩
          · exact absurd h ob
          · rfl
          · rw [vh, vl] at e
            exact absurd e n4
          · rw [vh, vr k' hk'] at e
            exact absurd e.symm (n5 (by omega)).2.1
          · rw [vh, vf k' hk'] at e
            exact absurd e.symm (n5 (by omega)).2.2.2.1
        · rcases live_more hb with h | rfl | rfl | ⟨k', hk', rfl⟩ | ⟨k', hk', rfl⟩
          · exact absurd h ob
          · rw [vh, vl] at e
            exact absurd e.symm n4
          · rfl
          · rw [vl, vr k' hk'] at e
            exact absurd e.symm (n5 (by omega)).2.2.1
          · rw [vl, vf k' hk'] at e
            exact absurd e.symm (n5 (by omega)).2.2.2.2
        · rcases live_more hb with h | rfl | rfl | ⟨k', hk', rfl⟩ | ⟨k', hk', rfl⟩
          · exact absurd h ob
          · rw [vh, vr k hk] at e
            exact absurd e (n5 (by omega)).2.1
          · rw [vl, vr k hk] at e
            exact absurd e (n5 (by omega)).2.2.1
          · have : k = k' := by omega
            rw [this]
          · rw [vr k hk, vf k' hk'] at e
            exact absurd e (n5 (by omega)).1
        · rcases live_more hb with h | rfl | rfl | ⟨k', hk', rfl⟩ | ⟨k', hk', rfl⟩
          · exact absurd h ob
          · rw [vh, vf k hk] at e
            exact absurd e (n5 (by omega)).2.2.2.1
          · rw [vl, vf k hk] at e
            exact absurd e (n5 (by omega)).2.2.2.2
          · rw [vf k hk, vr k' hk'] at e
            exact absurd e.symm (n5 (by omega)).1
          · have : k = k' := by omega
            rw [this]
end
end K59

set_option Elab.async false
set_option linter.all false
set_option maxRecDepth 100000
set_option maxHeartbeats 4000000
/-! nets: add, come, init -/
namespace K59
open PySem PySem.Spec PyProof.Rows L2 Evl He
theorem Ex.both {G H : Hp} {l : Addr} {o : HO} (e : Ex G H) : Ex (upd G l o) (upd H l o) := fun a u z => by
  by_cases q : a = l
  · rw [q, upd_same] at z ⊢
    exact z
  · rw [upd_ne q] at z ⊢
    exact e a u z
theorem Ex.put {G H : Hp} {l : Addr} {o : HO} (e : Ex G H) (h : H l = some o) : Ex (upd G l o) H := ex_upd e h
theorem putK_new {kvs : List (List Key × V)} {k : List Key} {v : V} (h : valV kvs k = none) : putK kvs k v = kvs ++ [(k, v)] := by
  unfold putK
  rw [valV_any, h]
  rfl
section
variable {K : PySem.W.Frag} {σ : K59.St} {H : Hp} {td ta tb tv : TE} {D : Ends} {tz : L2.TS} {l : Addr} {kvs : List (List Key × V)} {a b : Int}
theorem s_dputN (hl : H l = some (.dT kvs)) (hv : EvL tv σ H []) (ht : Ev td σ H (.ref l)) (ha : Ev ta σ H (.int a)) (hb : Ev tb σ H (.int b)) (hz : kvs.length < 1000) (k : ∀ p H1, H p = none → Ex H H1 → H1 p = some (.lst []) → D.nx σ (upd H1 l (.dT (putK kvs [.inl a, .inl b] (.ref p))))) :
    sDPut td (tTup (tCons ta (tCons tb tNil))) tv D σ H := hv H (Ex.refl H) _ fun p H1 hp e1 h1 => ht H1 e1 _ fun H2 e2 => eu_tup (ea_cons ha (ea_cons hb ea_nil)) (Nat.le_of_ble_eq_true rfl) H2 (e1.trans e2) _ fun q H3 hq e3 h3 =>
  ⟨l, _, rfl, DPut.t (k := [.inl a, .inl b]) (((e1.trans e2).trans e3) _ _ hl) h3 (sz_lt (by omega)), k p H3 hp ((e1.trans e2).trans e3) ((e2.trans e3) _ _ h1)⟩
theorem q_dputN (hl : H l = some (.dT kvs)) (hv : EvL tv σ H []) (ht : Ev td σ H (.ref l)) (ha : Ev ta σ H (.int a)) (hb : Ev tb σ H (.int b)) (hz : kvs.length < 1000) (k : ∀ p H1, H p = none → Ex H H1 → H1 p = some (.lst []) → tz D σ (upd H1 l (.dT (putK kvs [.inl a, .inl b] (.ref p))))) :
    tSeq (sDPut td (tTup (tCons ta (tCons tb tNil))) tv) tz D σ H := s_dputN (D := { D with nx := tz D }) hl hv ht ha hb hz k
end
def spAdd (K : PySem.W.Frag) : Sp := fun vs H Q _ => ∃ (A : Cl → Addr) (s : NS) (c : Int), vs = [.ref (A .net), .int c] ∧ NetAt K H A s ∧ cardB c = true ∧ s.n ≤ 23 ∧ s.first.length ≤ 1000 ∧ s.now.length ≤ 1000 ∧ Short s 50000 ∧ s.t < 50000 ∧
  ∀ (A' : Cl → Addr) H2, (∀ cl, Live s.n cl → A' cl = A cl) → (∀ cl, Live (s.n + 1) cl → ¬ Live s.n cl → H (A' cl) = none) → Kp (Foot A s.n) H H2 → NetAt K H2 A' (addS s c) → Q .non H2
section
variable {P : Program} {w : World} {K : PySem.W.Frag} {mg : Str → Option Value} {base : Heap}
theorem short_more {s : NS} {c : Int} {b : Nat} (h : Short s b) : Short (moreS s c) b := fun i => by
  have h1 := h i
  refine ⟨?_, ?_⟩
  · show (if i + 1 = s.n then [] else s.R i).length ≤ b
    by_cases e : i + 1 = s.n
    · rw [if_pos e]
      exact Nat.zero_le _
    · rw [if_neg e]
      exact h1.1
  · show (if i + 1 = s.n then [] else s.L i).length ≤ b
    by_cases e : i + 1 = s.n
    · rw [if_pos e]
      exact Nat.zero_le _
    · rw [if_neg e]
      exact h1.2
theorem ok_add (T : Txt w K mg) : FR P w K mg base 4 (ma K (ga K "Net") "add") (spAdd K) := by
  have G_Hand_init : FR P w K mg base 2 (ma K (ga K "Hand") "__init__") (spHdInit K) := ok_Hand_init T
  have G_Hand_begin : FR P w K mg base 1 (ma K (ga K "Hand") "begin") (spHdBegin K) := ok_Hand_begin T
  have G_Net_note : FR P w K mg base 1 (ma K (ga K "Net") "note") (spNote K) := ok_note T
  refine okN T.f_Net_add sc_Net_add (fun _ _ _ _ _ _ us hl => match us, hl with | [_, _], _ => rfl) (fun vs H Q E h => by obtain ⟨_, _, _, rfl, _⟩ := h; rfl) fun cdv A0 outer s0 H vs Q E hr h => ?_
  obtain ⟨A, s, c, rfl, N, hc, hn, hz1, hz2, hsh, ht, k⟩ := h
  refine ⟨_, (pss_cons (ps_set (i := 2) sc_Net_add.nd rfl (Or.inl rfl) (pe_callB call_len_seq (by rfl) T.b_len bt_len (pa_cons (pe_fld (pv 0) rfl) pa_nil)))
      (pss_cons (ps_expr (pe_bm PySem.F.plainAttrs_list PySem.F.slot_list_append PySem.F.type_list_append mt_append (pe_fld (pv 0) rfl) (pa_cons (mk T.mk_Hand G_Hand_init (hr.mono (by decide)) T.c_Hand psN (pa_cons (pv 1) pa_nil)) pa_nil)))
      (pss_cons (ps_expr (pe_bm PySem.F.plainAttrs_list PySem.F.slot_list_append PySem.F.type_list_append mt_append (pe_fld (pv 0) rfl) (pa_cons (pe_lst pa_nil) pa_nil)))
      (pss_cons (ps_expr (pe_bm PySem.F.plainAttrs_list PySem.F.slot_list_append PySem.F.type_list_append mt_append (pe_fld (pv 0) rfl) (pa_cons (pv 1) pa_nil)))
      (pss_cons (ps_expr (pe_bm PySem.F.plainAttrs_list PySem.F.slot_list_append PySem.F.type_list_append mt_append (pe_fld (pv 0) rfl) (pa_cons (pv 1) pa_nil)))
      (pss_cons (ps_if (pt_cmpR op_gt (pv 2) pe_int (nomark _)) (pss_cons (ps_dput (hu_of hr) (pe_fld (pv 0) rfl) (pe_tup (pa_cons (pe_op op_sub (pv 2) pe_int) (pa_cons (pv 2) pa_nil))) (pe_lst pa_nil) rfl)
      (pss_one (ps_dput (hu_of hr) (pe_fld (pv 0) rfl) (pe_tup (pa_cons (pv 2) (pa_cons (pe_op op_sub (pv 2) pe_int) pa_nil))) (pe_lst pa_nil) rfl))) pss_nil)
      (pss_one (ps_expr (me (pv 0) T.k_Net T.m_Net_note G_Net_note (hr.mono (by decide)) psN (pa_cons (pv 2) (pa_cons (pe_tup (pa_cons pe_str pa_nil)) (pa_cons (me0 (pe_ix ix_list (pe_fld (pv 0) rfl) (pv 2) (fun _ _ => rfl)) T.k_Hand T.m_Hand_begin G_Hand_begin (hr.mono (by decide)) psN) pa_nil)))))))))))), ?_⟩
  obtain ⟨dxn, hnet⟩ := N.net
  have ne : ∀ {a b : Cl}, Live s.n a → Live s.n b → a ≠ b → A a ≠ A b := fun ha hb h z => h (N.inj _ _ ha hb z)
  have some_ne : ∀ {cl : Cl} {x : Addr}, Live s.n cl → H x = none → A cl ≠ x := fun {cl x} h hx z => by
    obtain ⟨o, ho, _⟩ := N.at_ cl h
    rw [z, hx] at ho
    cases ho
  have hlen : ∀ (f : Nat → V), ((List.range s.n).map f).length = s.n := fun f => by rw [List.length_map, List.length_range]
  have e0 := ev_len (K := K) (ev_nf (σ := L2.start N_Net_add [V.ref (A .net), V.int c]) (t0 := tVar 0) T N (ev_var rfl) T.n_Net_folk rfl) (sq_of N.folk)
  rw [hlen] at e0
  refine q_asg e0 fun H1 e1 => ?_
  -- the last note
  have fin : ∀ (Hc : Hp) (xh xl xr xf dx : Addr), (∀ cl o, Live s.n cl → cl ≠ .folk → cl ≠ .lanes → cl ≠ .logs → cl ≠ .first → cl ≠ .now → H (A cl) = some o → Hc (A cl) = some o) → Kp (Foot A s.n) H Hc →
      Hc (A .folk) = some (.lst (((List.range s.n).map fun i => .ref (A (.hand i))) ++ [.ref xh])) → Hc (A .logs) = some (.lst (((List.range s.n).map fun i => .ref (A (.log i))) ++ [.ref xl])) → Hc (A .first) = some (.lst ((s.first ++ [c]).map V.int)) → Hc (A .now) = some (.lst ((s.now ++ [c]).map V.int)) →
      Hc (A .lanes) = some (.dT (laneKV (moreA A s.n xh xl xr xf) (s.n + 1))) → Hc xh = some (.ins (ga K "Hand") dx (handG ⟨some c, none, none, none⟩ false)) → Hc xl = some (.lst []) → (0 < s.n → Hc xr = some (.lst []) ∧ Hc xf = some (.lst [])) →
      H xh = none → H xl = none → (0 < s.n → H xr = none ∧ H xf = none) → xh ≠ xl → (0 < s.n → xr ≠ xf ∧ xr ≠ xh ∧ xr ≠ xl ∧ xf ≠ xh ∧ xf ≠ xl) →
      tDrop (tMe (ga K "Net") "note" (spNote K) E0 (tVar 0) (tCons (tVar 2) (tCons (tTup (tCons (tC (.str "begin")) tNil)) (tCons (tMe (ga K "Hand") "begin" (spHdBegin K) E0 (tOp (rIxL K) (tFld K (tVar 0) "folk") (tVar 2)) tNil) tNil)))) { nx := fun _ H' => Q .non H', rt := Q } [some (.ref (A .net)), some (.int c), some (.int (s.n : Int))] Hc := fun Hc xh xl xr xf dx f1 kp g1 g2 g3 g4 g5 g6 g7 g8 n1 n2 n3 n4 n5 => by
    have hn0 := f1 .net _ trivial (by simp) (by simp) (by simp) (by simp) (by simp) hnet
    refine ⟨_, rfl, A .net, dxn, netF A, rfl, hn0, rfl, ⟨_, rfl, ed_tup (K := K) (es_cons ed_s es_nil) (Nat.le_of_ble_eq_true rfl) Hc (Ex.refl Hc) _ fun what H2 e2 hw => ?_⟩⟩
    refine ev_op (ev_fld (ev_var rfl) (e2 _ _ hn0) T.k_Net T.n_Net_folk rfl) (ev_var rfl) (rv_ixL (K := K) (sq_of (e2 _ _ g1)) (atI_nat (show (((List.range s.n).map fun i => V.ref (A (.hand i))) ++ [V.ref xh])[s.n]? = some (.ref xh) by rw [List.getElem?_append_right (by rw [hlen]; exact Nat.le_refl _), hlen, Nat.sub_self] <;> rfl))) H2 (Ex.refl H2) _ fun H3 e3 => ?_
    have e23 := e2.trans e3
    refine ⟨xh, dx, _, rfl, e23 _ _ g6, rfl, ⟨xh, dx, c, rfl, e23 _ _ g6, fun p us H4 k4 hp q1 q2 q3 => ?_⟩⟩
    have nx : ∀ cl, Live s.n cl → A cl ≠ xh := fun cl h => some_ne h n1
    have keep : ∀ a o, a ≠ xh → Hc a = some o → H4 a = some o := fun a o hne h => k4.st a o (e23 _ _ h) hne
    have tsF : ∀ a, Foot A s.n a → ∀ xs, ¬ Rd H a (.tup xs) := fun a f => N.noTup a f
    have kp4 : Kp (Foot A s.n) H H4 := ⟨fun a o ha hf => keep a o (fun z => by
        rw [z, n1] at ha
        cases ha) (kp.st a o ha hf), fun a ha => kp.fr a (fresh_back e23 (k4.fr a ha))⟩
    have ts4 : TSt H H4 := kp4.ts tsF
    have tsH : TSt H2 H4 := (Ex.ts e3).trans (k4.ts fun a ha xs r => by
      rw [ha] at r
      rcases r with r | ⟨ob, r⟩ <;> rw [e23 _ _ g6] at r <;> cases r)
    have N4 : NetAt K H4 (moreA A s.n xh xl xr xf) (moreS s c) := add_net (dx := dx) N (fun cl o h a1 a2 a3 a4 a5 ho => keep _ _ (nx cl h) (f1 cl o h a1 a2 a3 a4 a5 ho)) ts4 (keep _ _ (nx .folk trivial) g1) (keep _ _ (nx .logs trivial) g2) (keep _ _ (nx .first trivial) g3) (keep _ _ (nx .now trivial) g4) (keep _ _ (nx .lanes trivial) g5) q1 (keep _ _ (fun z => n4 z.symm) g7)
      (fun h0 => ⟨keep _ _ (n5 h0).2.1 (g8 h0).1, keep _ _ (n5 h0).2.2.2.1 (g8 h0).2⟩) n1 n2 n3 n4 n5
    refine ⟨moreA A s.n xh xl xr xf, moreS s c, s.n, what, p, us, [.mine c], _, rfl, N4, Nat.lt_succ_self _, dp_ts tsH _ rfl hw, rfl, q2, q3, fun f => ?_, fun c0 h0 => by simp at h0, Nat.le_refl _, short_more hsh, ht, fun H5 k5 n5' => ?_⟩
    · -- the letters' list is no cell
      obtain ⟨cl, hcl, hp2⟩ := f
      have hp3 : Hc p = none := fresh_back e23 hp
      rw [← hp2] at hp3
      rcases live_more hcl with h | rfl | rfl | ⟨j, hj, rfl⟩ | ⟨j, hj, rfl⟩
      · rw [moreA_old h] at hp3
        have := kp.fr _ hp3
        obtain ⟨o, ho, _⟩ := N.at_ cl h
        rw [this] at ho
        cases ho
      · rw [show moreA A s.n xh xl xr xf (.hand s.n) = xh from if_pos rfl, g6] at hp3
        cases hp3
      · rw [show moreA A s.n xh xl xr xf (.log s.n) = xl from if_pos rfl, g7] at hp3
        cases hp3
      · rw [show moreA A s.n xh xl xr xf (.right j) = xr from if_pos hj.symm, (g8 (by omega)).1] at hp3
        cases hp3
      · rw [show moreA A s.n xh xl xr xf (.left j) = xf from if_pos hj.symm, (g8 (by omega)).2] at hp3
        cases hp3
    · have newN : ∀ cl, Live (s.n + 1) cl → ¬ Live s.n cl → H (moreA A s.n xh xl xr xf cl) = none := fun cl hcl hno => by
        rcases live_more hcl with h | rfl | rfl | ⟨j, hj, rfl⟩ | ⟨j, hj, rfl⟩
        · exact absurd h hno
        · rw [show moreA A s.n xh xl xr xf (.hand s.n) = xh from if_pos rfl]
          exact n1
        · rw [show moreA A s.n xh xl xr xf (.log s.n) = xl from if_pos rfl]
          exact n2
        · rw [show moreA A s.n xh xl xr xf (.right j) = xr from if_pos hj.symm]
          exact (n3 (by omega)).1
        · rw [show moreA A s.n xh xl xr xf (.left j) = xf from if_pos hj.symm]
          exact (n3 (by omega)).2
      refine k _ H5 (fun cl h => moreA_old h) newN ⟨fun a o ha hf => k5.st a o (kp4.st a o ha hf) fun f => ?_, fun a ha => kp4.fr a (k5.fr a ha)⟩ n5'
      obtain ⟨cl, hcl, hz⟩ := f
      by_cases ho : Live s.n cl
      · rw [moreA_old ho] at hz
        exact hf ⟨cl, ho, hz⟩
      · have := newN cl hcl ho
        rw [hz, ha] at this
        cases this
  -- the new hand
  have N1 := N.ex e1
  refine q_dropR (ev_fld (ev_var rfl) (e1 _ _ hnet) T.k_Net T.n_Net_folk rfl H1 (Ex.refl H1) _ fun H2 e2 => ⟨.inl ⟨rfl, _, sq_of ((e1.trans e2) _ _ N.folk)⟩, _, rfl, fun xh dx hxh hdx hnd => ⟨xh, dx, c, rfl, upd_same, hc, fun H3 k3 h3 => ⟨rfl, ?_⟩⟩⟩)
  have e02 := e1.trans e2
  have nxh : H xh = none := fresh_back e02 hxh
  have E1 : Ex (upd H xh (.ins (ga K "Hand") dx (handG ⟨some c, none, none, none⟩ false))) H3 := fun a o ha => by
    by_cases q : a = xh
    · rw [q, upd_same] at ha
      rw [q, h3]
      exact ha
    · rw [upd_ne q] at ha
      have h2 := e02 _ _ ha
      have hd : a ≠ dx := fun z => by rw [z, hdx] at h2; cases h2
      exact k3.st a o (by rw [upd_ne q, upd_ne hd]; exact h2) q
  have ngF : ∀ cl, Live s.n cl → A cl ≠ xh := fun cl h => some_ne h nxh
  have g0 : ∀ cl o, Live s.n cl → H (A cl) = some o → H3 (A cl) = some o := fun cl o h ho => E1 _ _ (by rw [upd_ne (ngF cl h)]; exact ho)
  refine ⟨A .folk, _, .ref xh, rfl, rfl, g0 .folk _ trivial N.folk, by rw [hlen]; exact sz_lt (by omega), ?_⟩
  have E2 := Ex.both (l := A .folk) (o := .lst (((List.range s.n).map fun i => .ref (A (.hand i))) ++ [.ref xh])) E1
  generalize hHa : upd H3 (A .folk) (.lst (((List.range s.n).map fun i => .ref (A (.hand i))) ++ [.ref xh])) = Ha at E2 ⊢
  have K3 : ∀ a, Ha a = none → H a = none := fun a ha => by
    have h := fresh_back E2 ha
    by_cases q : a = A .folk
    · rw [q, upd_same] at h
      cases h
    · rw [upd_ne q] at h
      by_cases q2 : a = xh
      · rw [q2, upd_same] at h
        cases h
      · rw [upd_ne q2] at h
        exact h
  have geta : ∀ cl o, Live s.n cl → cl ≠ .folk → H (A cl) = some o → Ha (A cl) = some o := fun cl o h h1 ho => E2 _ _ (by rw [upd_ne (ne h (show Live s.n Cl.folk from trivial) h1), upd_ne (ngF cl h)]; exact ho)
  have fna := geta .net _ trivial (by simp) hnet
  -- the log
  refine q_appL (K := K) (geta .logs _ trivial (by simp) N.logs) (ev_fld (ev_var rfl) fna T.k_Net T.n_Net_logs_kept rfl) (el_lst ea_nil (Nat.zero_le _)) (by rw [hlen]; omega) fun xl Hb hxl eb hb => ?_
  have E3 := Ex.both (l := A .logs) (o := .lst (((List.range s.n).map fun i => .ref (A (.log i))) ++ [.ref xl])) (Ex.put (fun a o h => eb _ _ (E2 a o h)) hb)
  have nxl : H xl = none := K3 xl hxl
  have hlh : xh ≠ xl := fun z => by
    have h : Ha xh = some _ := E2 xh _ (by rw [upd_ne (fun q => ngF .folk trivial q.symm), upd_same])
    rw [z, hxl] at h
    cases h
  have ngL : ∀ cl, Live s.n cl → A cl ≠ xl := fun cl h => some_ne h nxl
  generalize hHc : upd Hb (A .logs) (.lst (((List.range s.n).map fun i => .ref (A (.log i))) ++ [.ref xl])) = Hc at E3 ⊢
  have getc : ∀ cl o, Live s.n cl → cl ≠ .folk → cl ≠ .logs → H (A cl) = some o → Hc (A cl) = some o := fun cl o h h1 h2 ho => E3 _ _ (by
    rw [upd_ne (ne h (show Live s.n Cl.logs from trivial) h2), upd_ne (ngL cl h), upd_ne (ne h (show Live s.n Cl.folk from trivial) h1), upd_ne (ngF cl h)]; exact ho)
  have fnc := getc .net _ trivial (by simp) (by simp) hnet
  -- first, now
  refine q_app (K := K) (getc .first _ trivial (by simp) (by simp) N.firstL) (ev_fld (ev_var rfl) fnc T.k_Net T.n_Net_first_cards rfl) (ev_var rfl) (by rw [List.length_map]; omega) fun Hd ed => ?_
  have E4 := Ex.both (l := A .first) (o := .lst (s.first.map V.int ++ [.int c])) (fun a o h => ed _ _ (E3 a o h))
  generalize hHe : upd Hd (A .first) (.lst (s.first.map V.int ++ [.int c])) = He at E4 ⊢
  have gete : ∀ cl o, Live s.n cl → cl ≠ .folk → cl ≠ .logs → cl ≠ .first → H (A cl) = some o → He (A cl) = some o := fun cl o h h1 h2 h3 ho => E4 _ _ (by
    rw [upd_ne (ne h (show Live s.n Cl.first from trivial) h3), upd_ne (ne h (show Live s.n Cl.logs from trivial) h2), upd_ne (ngL cl h), upd_ne (ne h (show Live s.n Cl.folk from trivial) h1), upd_ne (ngF cl h)]; exact ho)
  have fne := gete .net _ trivial (by simp) (by simp) (by simp) hnet
  refine q_app (K := K) (gete .now _ trivial (by simp) (by simp) (by simp) N.nowL) (ev_fld (ev_var rfl) fne T.k_Net T.n_Net_now_cards rfl) (ev_var rfl) (by rw [List.length_map]; omega) fun Hf ef => ?_
  have E5 := Ex.both (l := A .now) (o := .lst (s.now.map V.int ++ [.int c])) (fun a o h => ef _ _ (E4 a o h))
  generalize hHg : upd Hf (A .now) (.lst (s.now.map V.int ++ [.int c])) = Hg at E5 ⊢
  have Lt0 : Live s.n Cl.folk ∧ Live s.n Cl.logs ∧ Live s.n Cl.first ∧ Live s.n Cl.now ∧ Live s.n Cl.lanes := ⟨trivial, trivial, trivial, trivial, trivial⟩
  obtain ⟨Lfo, Llo, Lfi, Lno, Lla⟩ := Lt0
  have getg : ∀ cl o, Live s.n cl → cl ≠ .folk → cl ≠ .logs → cl ≠ .first → cl ≠ .now → H (A cl) = some o → Hg (A cl) = some o := fun cl o h h1 h2 h3 h4 ho => E5 _ _ (by
    rw [upd_ne (ne h Lno h4), upd_ne (ne h Lfi h3), upd_ne (ne h Llo h2), upd_ne (ngL cl h), upd_ne (ne h Lfo h1), upd_ne (ngF cl h)]; exact ho)
  have g1 : Hg (A .folk) = some (.lst (((List.range s.n).map fun i => .ref (A (.hand i))) ++ [.ref xh])) := E5 _ _ (by rw [upd_ne (ne Lfo Lno (by simp)), upd_ne (ne Lfo Lfi (by simp)), upd_ne (ne Lfo Llo (by simp)), upd_ne (ngL _ Lfo), upd_same])
  have g2 : Hg (A .logs) = some (.lst (((List.range s.n).map fun i => .ref (A (.log i))) ++ [.ref xl])) := E5 _ _ (by rw [upd_ne (ne Llo Lno (by simp)), upd_ne (ne Llo Lfi (by simp)), upd_same])
  have g3 : Hg (A .first) = some (.lst ((s.first ++ [c]).map V.int)) := by rw [List.map_append]; exact E5 _ _ (by rw [upd_ne (ne Lfi Lno (by simp)), upd_same]; rfl)
  have g4 : Hg (A .now) = some (.lst ((s.now ++ [c]).map V.int)) := by rw [List.map_append]; exact E5 _ _ (by rw [upd_same]; rfl)
  have g6 : Hg xh = some (.ins (ga K "Hand") dx (handG ⟨some c, none, none, none⟩ false)) := E5 _ _ (by rw [upd_ne (fun z => ngF _ Lno z.symm), upd_ne (fun z => ngF _ Lfi z.symm), upd_ne (fun z => ngF _ Llo z.symm), upd_ne hlh, upd_ne (fun z => ngF _ Lfo z.symm), upd_same])
  have g7 : Hg xl = some (.lst []) := E5 _ _ (by rw [upd_ne (fun z => ngL _ Lno z.symm), upd_ne (fun z => ngL _ Lfi z.symm), upd_ne (fun z => ngL _ Llo z.symm), upd_same])
  have frg : ∀ a, Hg a = none → H a = none := fun a ha => by
    have h := fresh_back E5 ha
    have st : ∀ {l : Addr} {o : HO} {M : Hp}, upd M l o a = none → M a = none := fun {l o M} h => by
      by_cases q : a = l
      · rw [q, upd_same] at h
        cases h
      · rw [upd_ne q] at h
        exact h
    exact st (st (st (st (st (st h)))))
  have kpg : Kp (Foot A s.n) H Hg := ⟨fun a o ha hf => E5 _ _ (by
    have nf : ∀ cl, Live s.n cl → a ≠ A cl := fun cl h z => hf ⟨cl, h, z.symm⟩
    have nh : a ≠ xh := fun z => by rw [z, nxh] at ha; cases ha
    have nl : a ≠ xl := fun z => by rw [z, nxl] at ha; cases ha
    rw [upd_ne (nf _ Lno), upd_ne (nf _ Lfi), upd_ne (nf _ Llo), upd_ne nl, upd_ne (nf _ Lfo), upd_ne nh]
    exact ha), frg⟩
  have fng := getg .net _ trivial (by simp) (by simp) (by simp) (by simp) hnet
  have gla := getg .lanes _ trivial (by simp) (by simp) (by simp) (by simp) N.lanes
  rcases Nat.eq_zero_or_pos s.n with hk | hk
  · refine q_when (b := false) (et_to (et_db (K := K) (ed_op (ed_var rfl (.int _)) ed_i rd_B0)) (decide_eq_false (by omega))) (fun z => by cases z) fun _ Hh eh => ?_
    refine fin Hh xh xl xh xh dx (fun cl o h a1 a2 a3 a4 a5 ho => eh _ _ (getg cl o h a1 a3 a4 a5 ho)) (kpg.trans (Kp.of eh)) (eh _ _ g1) (eh _ _ g2) (eh _ _ g3) (eh _ _ g4) ?_ (eh _ _ g6) (eh _ _ g7) (fun z => by omega) nxh nxl (fun z => by omega) hlh (fun z => by omega)
    rw [hk] at gla ⊢
    exact eh _ _ gla
  · refine q_when (b := true) (et_to (et_db (K := K) (ed_op (ed_var rfl (.int _)) ed_i rd_B0)) (decide_eq_true (by omega))) (fun _ Hh eh => ?_) (fun z => by cases z)
    obtain ⟨j, hj⟩ : ∃ j, s.n = j + 1 := ⟨s.n - 1, by omega⟩
    -- the two lanes
    have hlah := eh _ _ gla
    have fnh := eh _ _ fng
    have vi : ∀ σ : K59.St, σ[2]? = some (some (.int (s.n : Int))) → ∀ H, Ev (tOp (rI0 fun i j => .int (i - j)) (tVar 2) (tC (.int 1))) σ H (.int (j : Int)) := fun σ hσ H => ev_is (ev_op (ev_var hσ) ev_c rv_I0) (congrArg V.int (by omega))
    have vn : (s.n : Int) = (j : Int) + 1 := by omega
    have hlk : (laneKV A s.n).length < 900 := by
      have := laneKV_len A s.n
      omega
    have v1 : valV (laneKV A s.n) [.inl (j : Int), .inl (s.n : Int)] = none := lane_none A s.n fun i hi => ⟨fun z => by omega, fun z => by omega⟩
    refine q_dputN hlah (el_lst ea_nil (Nat.zero_le _)) (ev_fld (ev_var rfl) fnh T.k_Net T.n_Net_lanes_kept rfl) (vi _ rfl _) (ev_var rfl) (by omega) fun xr Hi hxr ei hir => ?_
    rw [putK_new v1]
    have nxr : H xr = none := frg _ (fresh_back eh hxr)
    have hne_of : ∀ {x y : Addr} {o : HO} {M : Hp}, M x = some o → M y = none → y ≠ x := fun hx hy z => by rw [z, hx] at hy; cases hy
    have r1 : xr ≠ xh := hne_of (eh _ _ g6) hxr
    have r2 : xr ≠ xl := hne_of (eh _ _ g7) hxr
    have hlx : A .lanes ≠ xr := some_ne Lla nxr
    have keep1 : ∀ a o, a ≠ A .lanes → Hg a = some o → (upd Hi (A .lanes) (.dT (laneKV A s.n ++ [([.inl (j : Int), .inl (s.n : Int)], .ref xr)]))) a = some o := fun a o hne ha => by
      rw [upd_ne hne]
      exact ei _ _ (eh _ _ ha)
    have hla1 : (upd Hi (A .lanes) (.dT (laneKV A s.n ++ [([.inl (j : Int), .inl (s.n : Int)], .ref xr)]))) (A .lanes) = some (.dT (laneKV A s.n ++ [([.inl (j : Int), .inl (s.n : Int)], .ref xr)])) := upd_same
    have hxr1 : (upd Hi (A .lanes) (.dT (laneKV A s.n ++ [([.inl (j : Int), .inl (s.n : Int)], .ref xr)]))) xr = some (.lst []) := by rw [upd_ne fun z => hlx z.symm]; exact hir
    have fr1 : ∀ a, (upd Hi (A .lanes) (.dT (laneKV A s.n ++ [([.inl (j : Int), .inl (s.n : Int)], .ref xr)]))) a = none → Hg a = none := fun a ha => by
      by_cases q : a = A .lanes
      · rw [q, upd_same] at ha
        cases ha
      · rw [upd_ne q] at ha
        exact fresh_back eh (fresh_back ei ha)
    generalize hHj : upd Hi (A .lanes) (.dT (laneKV A s.n ++ [([.inl (j : Int), .inl (s.n : Int)], .ref xr)])) = Hj at keep1 hla1 hxr1 fr1 ⊢
    have nnl : A .net ≠ A .lanes := ne trivial Lla (by simp)
    have v2 : valV (laneKV A s.n ++ [([.inl (j : Int), .inl (s.n : Int)], .ref xr)]) [.inl (s.n : Int), .inl (j : Int)] = none := by
      rw [valV_app, lane_none A s.n fun i hi => ⟨fun z => by omega, fun z => by omega⟩]
      show valV _ _ = none
      rw [valV_neg (key2_ne fun z => by omega)]
      rfl
    refine s_dputN hla1 (el_lst ea_nil (Nat.zero_le _)) (ev_fld (ev_var rfl) (keep1 _ _ nnl fng) T.k_Net T.n_Net_lanes_kept rfl) (ev_var rfl) (vi _ rfl _) (by rw [List.length_append, List.length_singleton]; omega) fun xf Hk hxf ek hkf => ?_
    rw [putK_new v2]
    have nxf : H xf = none := frg _ (fr1 _ hxf)
    have hne1 : ∀ {x : Addr} {o : HO}, Hj x = some o → xf ≠ x := fun hx => hne_of hx hxf
    have lnh : xh ≠ A .lanes := fun z => ngF _ Lla z.symm
    have lnl : xl ≠ A .lanes := fun z => ngL _ Lla z.symm
    have f1 : xf ≠ xh := hne1 (keep1 _ _ lnh g6)
    have f2 : xf ≠ xl := hne1 (keep1 _ _ lnl g7)
    have f3 : xf ≠ xr := hne1 hxr1
    have keep2 : ∀ a o, a ≠ A .lanes → Hj a = some o → (upd Hk (A .lanes) (.dT (laneKV A s.n ++ [([.inl (j : Int), .inl (s.n : Int)], .ref xr)] ++ [([.inl (s.n : Int), .inl (j : Int)], .ref xf)]))) a = some o := fun a o hne ha => by
      rw [upd_ne hne]
      exact ek _ _ ha
    have keep : ∀ a o, a ≠ A .lanes → Hg a = some o → (upd Hk (A .lanes) (.dT (laneKV A s.n ++ [([.inl (j : Int), .inl (s.n : Int)], .ref xr)] ++ [([.inl (s.n : Int), .inl (j : Int)], .ref xf)]))) a = some o := fun a o hne ha => keep2 a o hne (keep1 a o hne ha)
    have hla2 : (laneKV A s.n ++ [([.inl (j : Int), .inl (s.n : Int)], .ref xr)] ++ [([.inl (s.n : Int), .inl (j : Int)], .ref xf)] : List (List Key × V)) = laneKV (moreA A s.n xh xl xr xf) (s.n + 1) := by
      rw [hj]
      show _ = laneKV _ (j + 1) ++ [([.inl (j : Int), .inl ((j : Int) + 1)], V.ref (if j + 1 = j + 1 then xr else _)), ([.inl ((j : Int) + 1), .inl (j : Int)], V.ref (if j + 1 = j + 1 then xf else _))]
      rw [if_pos rfl, if_pos rfl, List.append_assoc, laneKV_eq (A := moreA A (j + 1) xh xl xr xf) (B := A) (j + 1) fun i hi => ⟨moreA_old (c := .right i) hi, moreA_old (c := .left i) hi⟩]
      rfl
    refine fin _ xh xl xr xf dx (fun cl o h a1 a2 a3 a4 a5 ho => keep _ _ (ne h Lla a2) (getg cl o h a1 a3 a4 a5 ho)) ⟨fun a o ha hf => keep _ _ (fun z => hf ⟨.lanes, Lla, z.symm⟩) (kpg.st a o ha hf), fun a ha => ?_⟩ (keep _ _ (ne Lfo Lla (by simp)) g1) (keep _ _ (ne Llo Lla (by simp)) g2) (keep _ _ (ne Lfi Lla (by simp)) g3) (keep _ _ (ne Lno Lla (by simp)) g4)
      (by rw [upd_same, hla2]) (keep _ _ lnh g6) (keep _ _ lnl g7) (fun _ => ⟨keep2 _ _ (fun z => hlx z.symm) hxr1, ?_⟩) nxh nxl (fun _ => ⟨nxr, nxf⟩) hlh (fun _ => ⟨fun z => f3 z.symm, r1, r2, f1, f2⟩)
    · by_cases q : a = A .lanes
      · rw [q, upd_same] at ha
        cases ha
      · rw [upd_ne q] at ha
        exact frg _ (fr1 _ (fresh_back ek ha))
    · rw [upd_ne fun z => some_ne Lla nxf z.symm]
      exact hkf
end
end K59

set_option Elab.async false
set_option linter.all false
set_option maxRecDepth 100000
set_option maxHeartbeats 4000000
/-! nets: come, init -/
namespace K59
open PySem PySem.Spec PyProof.Rows L2 Evl He
def comeB (s : NS) (c : Int) : Bool := cardB c && !decide (c ∈ s.first)
def spCome (K : PySem.W.Frag) : Sp := fun vs H Q E => ∃ (A : Cl → Addr) (s : NS) (c : Int), vs = [.ref (A .net), .int c] ∧ NetAt K H A s ∧ s.n ≤ 23 ∧ s.first.length ≤ 1000 ∧ s.now.length ≤ 1000 ∧ Short s 50000 ∧ s.t < 50000 ∧ (comeB s c = false → ∀ H2, Ex H H2 → E (.ref (ga K "NoCard")) none H2) ∧
  (comeB s c = true → ∀ (A' : Cl → Addr) H2, (∀ cl, Live s.n cl → A' cl = A cl) → (∀ cl, Live (s.n + 1) cl → ¬ Live s.n cl → H (A' cl) = none) → Kp (Foot A s.n) H H2 → NetAt K H2 A' (addS s c) → Q .non H2)
section
variable {P : Program} {w : World} {K : PySem.W.Frag} {mg : Str → Option Value} {base : Heap}
theorem ok_come (T : Txt w K mg) : FR P w K mg base 5 (ma K (ga K "Net") "come") (spCome K) := by
  have G_is_card : FR P w K mg base 1 (ga K "is_card") (spD K R_is_card) := ok_is_card T
  have G_Net_add : FR P w K mg base 4 (ma K (ga K "Net") "add") (spAdd K) := ok_add T
  refine okX T.f_Net_come sc_Net_come (fun _ _ _ _ _ _ us hl => match us, hl with | [_, _], _ => rfl) (fun vs H Q E h => by obtain ⟨_, _, _, rfl, _⟩ := h; rfl) fun cdv A0 outer s0 H vs Q E hr h => ?_
  obtain ⟨A, s, c, rfl, N, hn, hz1, hz2, hsh, ht, kE, kQ⟩ := h
  have tk := tk_of (P := P) (w := w) (K := K) (mg := mg) (base := base) (N := N_Net_come) (qual := "Net.come") (scope := defScope s_Net_come) (f := ma K (ga K "Net") "come") (cdv := cdv) (A := A0) (outer := outer) (s := s0) (H := H) (E := E)
  obtain ⟨_, hg_MOST_CARDS⟩ := T.v_MOST_CARDS
  refine ⟨_, (pss_cons (ps_if (PW.pt (pw_or (pt_not (pt_val (cl G_is_card (hr.mono (by decide)) T.g_is_card psN (pa_cons (pv 1) pa_nil)))) (pw_or1 (pt_cmpR op_in_seq (pv 1) (pe_fld (pv 0) rfl) (by rfl))))) (pss_one (raiseX T.c_NoCard T.x_NoCard tk rfl)) pss_nil)
      (pss_cons (ps_if (pt_cmpR op_ge (pe_callB call_len_seq (by rfl) T.b_len bt_len (pa_cons (pe_fld (pv 0) rfl) pa_nil)) (pe_glob (v := .int 24) rfl hg_MOST_CARDS ⟨_, rfl⟩) (nomark _)) (pss_one ps_never) pss_nil)
      (pss_one (ps_expr (me (pv 0) T.k_Net T.m_Net_add G_Net_add (hr.mono (by decide)) psN (pa_cons (pv 1) pa_nil)))))), ?_⟩
  refine q_when (b := !comeB s c) (et_to (et_or (et_not (et_db (ed_cl (R := R_is_card) (es_cons (ed_var rfl (.int c)) es_nil) ⟨c, rfl, rfl⟩))) fun _ => et_db (ed_op (ed_var rfl (.int c)) (ed_of (ev_nf T N (ev_var rfl) T.n_Net_first_cards rfl) (.lst (sq_of N.firstL) (ints_da _))) rd_inI)) (by
    unfold comeB
    cases cardB c <;> simp)) (fun z H1 e1 => ?_) fun z H1 e1 => ?_
  · exact kE (by simpa using z) H1 e1
  · have hcb : comeB s c = true := by simpa using z
    have N1 := N.ex e1
    have hl := ev_len (K := K) (ev_nf (σ := L2.start N_Net_come [V.ref (A .net), V.int c]) (t0 := tVar 0) T N1 (ev_var rfl) T.n_Net_folk rfl) (sq_of N1.folk)
    rw [List.length_map, List.length_range] at hl
    refine q_when (b := false) (et_to (et_db (K := K) (ed_op (d_i hl) ed_i rd_B0)) (decide_eq_false (by omega))) (fun z => by cases z) fun _ H2 e2 => ?_
    have N2 := N1.ex e2
    obtain ⟨dx, hnet⟩ := N2.net
    refine ⟨_, rfl, A .net, dx, netF A, rfl, hnet, rfl, ⟨_, rfl, A, s, c, rfl, N2, (Bool.and_eq_true_iff.mp hcb).1, hn, hz1, hz2, hsh, ht, fun A' H3 h1 h2 h3 h4 => ?_⟩⟩
    exact kQ hcb A' H3 h1 (fun cl a b => fresh_back (e1.trans e2) (h2 cl a b)) ((Kp.of (e1.trans e2)).trans h3) h4
def zeroS : NS := ⟨0, fun _ => ⟨none, none, none, none⟩, fun _ => [], fun _ => [], [], [], [], 0⟩
def initS (ns : List Int) : NS := ns.foldl addS zeroS
theorem addS_facts (s : NS) (c : Int) : (addS s c).n = s.n + 1 ∧ (addS s c).t = s.t + 1 := by
  unfold addS
  exact ⟨noteS_n _ _ _, rfl⟩
theorem putL_first (i : Nat) (s : NS) (l : Lt) : (putL i s l).first = s.first ∧ (putL i s l).now = s.now ∧ (putL i s l).done = s.done ∧ (putL i s l).hd = s.hd := by
  cases l with
  | over c => exact ⟨rfl, rfl, rfl, rfl⟩
  | mine c =>
    show (if i = 0 then s else _ : NS).first = _ ∧ (if i = 0 then s else _ : NS).now = _ ∧ (if i = 0 then s else _ : NS).done = _ ∧ (if i = 0 then s else _ : NS).hd = _
    by_cases h : i = 0
    · rw [if_pos h]
      exact ⟨rfl, rfl, rfl, rfl⟩
    · rw [if_neg h]
      exact ⟨rfl, rfl, rfl, rfl⟩
  | back c =>
    show (if i = 0 then s else _ : NS).first = _ ∧ (if i = 0 then s else _ : NS).now = _ ∧ (if i = 0 then s else _ : NS).done = _ ∧ (if i = 0 then s else _ : NS).hd = _
    by_cases h : i = 0
    · rw [if_pos h]
      exact ⟨rfl, rfl, rfl, rfl⟩
    · rw [if_neg h]
      exact ⟨rfl, rfl, rfl, rfl⟩
theorem addS_first (s : NS) (c : Int) : (addS s c).first = s.first ++ [c] ∧ (addS s c).now = s.now ++ [c] ∧ (addS s c).done = s.done := by
  have h := putL_first s.n (moreS s c) (.mine c)
  exact ⟨h.1, h.2.1, h.2.2.1⟩
theorem addS_short {s : NS} {c : Int} {b : Nat} (h : Short s b) : Short (addS s c) (b + 1) := putL_short (i := s.n) (l := .mine c) (short_more (c := c) h)
/-- a row's first part laid -/
theorem initS_facts (ns : List Int) : (initS ns).n = ns.length ∧ (initS ns).t = ns.length ∧ (initS ns).first = ns ∧ (initS ns).now = ns ∧ (initS ns).done = [] ∧ Short (initS ns) ns.length := by
  have g : ∀ (ns : List Int) (s : NS), (ns.foldl addS s).n = s.n + ns.length ∧ (ns.foldl addS s).t = s.t + ns.length ∧ (ns.foldl addS s).first = s.first ++ ns ∧ (ns.foldl addS s).now = s.now ++ ns ∧ (ns.foldl addS s).done = s.done ∧ ∀ b, Short s b → Short (ns.foldl addS s) (b + ns.length) := by
    intro ns
    induction ns with
    | nil => exact fun s => ⟨rfl, rfl, (List.append_nil _).symm, (List.append_nil _).symm, rfl, fun b h => h⟩
    | cons c cs ih =>
      intro s
      obtain ⟨h1, h2, h3, h4, h5, h6⟩ := ih (addS s c)
      obtain ⟨a1, a2⟩ := addS_facts s c
      obtain ⟨a3, a4, a5⟩ := addS_first s c
      rw [List.foldl_cons, List.length_cons]
      refine ⟨by omega, by omega, by rw [h3, a3]; simp, by rw [h4, a4]; simp, by rw [h5, a5], fun b h => ?_⟩
      have := h6 (b + 1) (addS_short h)
      rw [show b + (cs.length + 1) = b + 1 + cs.length by omega]
      exact this
  obtain ⟨h1, h2, h3, h4, h5, h6⟩ := g ns zeroS
  refine ⟨by rw [initS, h1]; exact Nat.zero_add _, by rw [initS, h2]; exact Nat.zero_add _, by rw [initS, h3]; rfl, by rw [initS, h4]; rfl, by rw [initS, h5]; rfl, ?_⟩
  have := h6 0 fun i => ⟨Nat.le_refl _, Nat.le_refl _⟩
  rw [Nat.zero_add] at this
  exact this
theorem initS_snoc (ns : List Int) (c : Int) : initS (ns ++ [c]) = addS (initS ns) c := by
  unfold initS
  rw [List.foldl_append] <;> rfl
section
variable {σ : K59.St} {H : Hp} {ta tv : TE} {a C dx : Addr} {f : Str} {fs : List (Str × V)} {D : Ends} {tz : L2.TS}
theorem q_fldL {xs : List V} (hx : Ev ta σ H (.ref a)) (ha : H a = some (.ins C dx fs)) (hc : Cls K C) (hn : NoAttr K C f) (hz : fs.length < 1000) (h : EvL tv σ H xs) (k : ∀ p H1, H p = none → (∀ b o, b ≠ a → H b = some o → H1 b = some o) → (∀ b, H1 b = none → H b = none) → H1 p = some (.lst xs) → H1 a = some (.ins C dx (putF f (.ref p) fs)) → tz D σ H1) : tSeq (sFld K ta tv f) tz D σ H :=
  h H (Ex.refl H) _ fun p H1 hp e1 h1 => hx H1 e1 _ fun H2 e2 => ⟨a, C, dx, fs, rfl, (e1.trans e2) _ _ ha, hc, hn, hz, by
    have hpa : p ≠ a := fun z => by rw [z, ha] at hp; cases hp
    exact k p _ hp (fun b o hb h => by rw [upd_ne hb]; exact (e1.trans e2) _ _ h) (fun b h => by
      by_cases q : b = a
      · rw [q, upd_same] at h
        cases h
      · rw [upd_ne q] at h
        exact fresh_back (e1.trans e2) h) (by rw [upd_ne hpa]; exact e2 _ _ h1) upd_same⟩
theorem q_fldT (hx : Ev ta σ H (.ref a)) (ha : H a = some (.ins C dx fs)) (hc : Cls K C) (hn : NoAttr K C f) (hz : fs.length < 1000) (k : ∀ p H1, H p = none → (∀ b o, b ≠ a → H b = some o → H1 b = some o) → (∀ b, H1 b = none → H b = none) → H1 p = some (.dT []) → H1 a = some (.ins C dx (putF f (.ref p) fs)) → tz D σ H1) : tSeq (sFld K ta tDNewT f) tz D σ H := fun p hp =>
  hx (upd H p (.dT [])) (Ex.new hp) _ fun H2 e2 => ⟨a, C, dx, fs, rfl, ((Ex.new hp).trans e2) _ _ ha, hc, hn, hz, by
    have hpa : p ≠ a := fun z => by rw [z, ha] at hp; cases hp
    exact k p _ hp (fun b o hb h => by rw [upd_ne hb]; exact ((Ex.new hp).trans e2) _ _ h) (fun b h => by
      by_cases q : b = a
      · rw [q, upd_same] at h
        cases h
      · rw [upd_ne q] at h
        exact fresh_back ((Ex.new hp).trans e2) h) (by rw [upd_ne hpa]; exact e2 _ _ upd_same) upd_same⟩
end
def netA0 (x p1 p2 p3 p4 p5 p6 : Addr) : Cl → Addr
  | .net => x
  | .folk => p1
  | .lanes => p2
  | .logs => p3
  | .first => p4
  | .now => p5
  | .done => p6
  | _ => 0
theorem net_zero {H : Hp} {x dx p1 p2 p3 p4 p5 p6 : Addr} (hx : H x = some (.ins (ga K "Net") dx (netF (netA0 x p1 p2 p3 p4 p5 p6)))) (h1 : H p1 = some (.lst [])) (h2 : H p2 = some (.dT [])) (h3 : H p3 = some (.lst [])) (h4 : H p4 = some (.lst [])) (h5 : H p5 = some (.lst [])) (h6 : H p6 = some (.lst []))
    (nd : [p1, p2, p3, p4, p5, p6, x].Nodup) : NetAt K H (netA0 x p1 p2 p3 p4 p5 p6) zeroS := by
  refine ⟨fun c hc => ?_, fun c d hc hd e => ?_⟩
  · cases c with
    | net => exact ⟨_, hx, dx, rfl⟩
    | folk => exact ⟨_, h1, rfl⟩
    | lanes => exact ⟨_, h2, rfl⟩
    | logs => exact ⟨_, h3, rfl⟩
    | first => exact ⟨_, h4, rfl⟩
    | now => exact ⟨_, h5, rfl⟩
    | done => exact ⟨_, h6, [], rfl, .nil⟩
    | hand i => exact absurd hc (Nat.not_lt_zero _)
    | log i => exact absurd hc (Nat.not_lt_zero _)
    | right i => exact absurd hc (Nat.not_lt_zero _)
    | left i => exact absurd hc (Nat.not_lt_zero _)
  · simp only [List.nodup_cons, List.mem_cons, List.not_mem_nil, not_or, or_false] at nd
    obtain ⟨⟨a1, a2, a3, a4, a5, a6⟩, ⟨b1, b2, b3, b4, b5⟩, ⟨c1, c2, c3, c4⟩, ⟨d1, d2, d3⟩, ⟨f1, f2⟩, g1, _⟩ := nd
    cases c <;> cases d <;> first
      | rfl
      | exact absurd hc (Nat.not_lt_zero _)
      | exact absurd hd (Nat.not_lt_zero _)
      | (simp only [netA0] at e; first | exact absurd e ‹_› | exact absurd e.symm ‹_›)
def spNetInit (K : PySem.W.Frag) : Sp := fun vs H Q _ => ∃ (x dx : Addr) (v : V) (ns : List Int), vs = [.ref x, v] ∧ H x = some (.ins (ga K "Net") dx []) ∧ Dp K H v (.list (DI ns)) ∧ RowOk ns ∧
  ∀ (A : Cl → Addr) H2, A .net = x → (∀ cl, Live ns.length cl → cl ≠ .net → H (A cl) = none) → Kp (fun a => a = x) H H2 → NetAt K H2 A (initS ns) → Q .non H2
theorem ok_Net_init (T : Txt w K mg) : FR P w K mg base 5 (ma K (ga K "Net") "__init__") (spNetInit K) := by
  have G_need_row : FR P w K mg base 3 (ga K "need_row") (spD K R_need_row) := ok_need_row T
  have G_Net_add : FR P w K mg base 4 (ma K (ga K "Net") "add") (spAdd K) := ok_add T
  refine okN T.f_Net_init sc_Net_init (fun _ _ _ _ _ _ us hl => match us, hl with | [_, _], _ => rfl) (fun vs H Q E h => by obtain ⟨_, _, _, _, rfl, _⟩ := h; rfl) fun cdv A0 outer s0 H vs Q E hr h => ?_
  obtain ⟨x, dx, v, ns, rfl, hx, hv, R, k⟩ := h
  refine ⟨_, (pss_cons (ps_expr (cl G_need_row (hr.mono (by decide)) T.g_need_row psN (pa_cons (pv 1) pa_nil)))
      (pss_cons (ps_fld (pv 0) (pe_lst pa_nil) rfl)
      (pss_cons (ps_fld (pv 0) pe_dnewT rfl)
      (pss_cons (ps_fld (pv 0) (pe_lst pa_nil) rfl)
      (pss_cons (ps_fld (pv 0) (pe_lst pa_nil) rfl)
      (pss_cons (ps_fld (pv 0) (pe_lst pa_nil) rfl)
      (pss_cons (ps_fld (pv 0) (pe_lst pa_nil) rfl)
      (pss_one (ps_for PassesOwn.never rfl (pi_list (pv 1)) (pg_name (i := 2) sc_Net_init.nd rfl (Or.inl rfl)) (pss_one (ps_expr (me (pv 0) T.k_Net T.m_Net_add G_Net_add (hr.mono (by decide)) psN (pa_cons (pv 2) pa_nil))))))))))))), ?_⟩
  refine q_dropD (ed_cl (R := R_need_row) (es_cons (ed_var rfl hv) es_nil) ⟨ns, rfl, R, rfl⟩) fun H0 e0 => ?_
  refine q_fldL (ev_var rfl) (e0 _ _ hx) T.k_Net T.n_Net_folk (Nat.le_of_ble_eq_true rfl) (el_lst ea_nil (Nat.zero_le _)) fun p1 H1 n1 k1 f1 v1 x1 => ?_
  refine q_fldT (ev_var rfl) x1 T.k_Net T.n_Net_lanes_kept (Nat.le_of_ble_eq_true rfl) fun p2 H2 n2 k2 f2 v2 x2 => ?_
  refine q_fldL (ev_var rfl) x2 T.k_Net T.n_Net_logs_kept (Nat.le_of_ble_eq_true rfl) (el_lst ea_nil (Nat.zero_le _)) fun p3 H3 n3 k3 f3 v3 x3 => ?_
  refine q_fldL (ev_var rfl) x3 T.k_Net T.n_Net_first_cards (Nat.le_of_ble_eq_true rfl) (el_lst ea_nil (Nat.zero_le _)) fun p4 H4 n4 k4 f4 v4 x4 => ?_
  refine q_fldL (ev_var rfl) x4 T.k_Net T.n_Net_now_cards (Nat.le_of_ble_eq_true rfl) (el_lst ea_nil (Nat.zero_le _)) fun p5 H5 n5 k5 f5 v5 x5 => ?_
  refine q_fldL (ev_var rfl) x5 T.k_Net T.n_Net_done_pairs (Nat.le_of_ble_eq_true rfl) (el_lst ea_nil (Nat.zero_le _)) fun p6 H6 n6 k6 f6 v6 x6 => ?_
  have hne : ∀ {M : Hp} {y z : Addr} {o : HO}, M y = some o → M z = none → y ≠ z := fun h1 h2 q => by rw [q, h2] at h1; cases h1
  have q1 : p1 ≠ x := fun z => hne (e0 _ _ hx) n1 z.symm
  have q2 : p2 ≠ x := fun z => hne x1 n2 z.symm
  have q3 : p3 ≠ x := fun z => hne x2 n3 z.symm
  have q4 : p4 ≠ x := fun z => hne x3 n4 z.symm
  have q5 : p5 ≠ x := fun z => hne x4 n5 z.symm
  have q6 : p6 ≠ x := fun z => hne x5 n6 z.symm
  have w12 := k2 _ _ q1 v1
  have w13 := k3 _ _ q1 w12
  have w14 := k4 _ _ q1 w13
  have w15 := k5 _ _ q1 w14
  have w16 := k6 _ _ q1 w15
  have w23 := k3 _ _ q2 v2
  have w24 := k4 _ _ q2 w23
  have w25 := k5 _ _ q2 w24
  have w26 := k6 _ _ q2 w25
  have w34 := k4 _ _ q3 v3
  have w35 := k5 _ _ q3 w34
  have w36 := k6 _ _ q3 w35
  have w45 := k5 _ _ q4 v4
  have w46 := k6 _ _ q4 w45
  have w56 := k6 _ _ q5 v5
  have N6 : NetAt K H6 (netA0 x p1 p2 p3 p4 p5 p6) zeroS := net_zero (dx := dx) x6 w16 w26 w36 w46 w56 v6 (by
    simp only [List.nodup_cons, List.mem_cons, List.not_mem_nil, not_or, or_false, not_false_eq_true, and_true, List.nodup_nil]
    exact ⟨⟨hne v1 n2, hne w12 n3, hne w13 n4, hne w14 n5, hne w15 n6, q1⟩, ⟨hne v2 n3, hne w23 n4, hne w24 n5, hne w25 n6, q2⟩, ⟨hne v3 n4, hne w34 n5, hne w35 n6, q3⟩, ⟨hne v4 n5, hne w45 n6, q4⟩, ⟨hne v5 n6, q5⟩, q6⟩)
  have fr : ∀ a, H6 a = none → H a = none := fun a h => fresh_back e0 (f1 _ (f2 _ (f3 _ (f4 _ (f5 _ (f6 _ h))))))
  have kp6 : Kp (fun a => a = x) H H6 := ⟨fun a o h n => k6 _ _ n (k5 _ _ n (k4 _ _ n (k3 _ _ n (k2 _ _ n (k1 _ _ n (e0 _ _ h)))))), fr⟩
  have nw : ∀ cl, Live 0 cl → cl ≠ .net → H (netA0 x p1 p2 p3 p4 p5 p6 cl) = none := fun cl hl hn => by
    have g1 := fresh_back e0 n1
    have g2 := fresh_back e0 (f1 _ n2)
    have g3 := fresh_back e0 (f1 _ (f2 _ n3))
    have g4 := fresh_back e0 (f1 _ (f2 _ (f3 _ n4)))
    have g5 := fresh_back e0 (f1 _ (f2 _ (f3 _ (f4 _ n5))))
    have g6 := fresh_back e0 (f1 _ (f2 _ (f3 _ (f4 _ (f5 _ n6)))))
    cases cl with
    | net => exact absurd rfl hn
    | folk => exact g1
    | lanes => exact g2
    | logs => exact g3
    | first => exact g4
    | now => exact g5
    | done => exact g6
    | hand i => exact absurd hl (Nat.not_lt_zero _)
    | log i => exact absurd hl (Nat.not_lt_zero _)
    | right i => exact absurd hl (Nat.not_lt_zero _)
    | left i => exact absurd hl (Nat.not_lt_zero _)
  -- the row lies apart
  obtain ⟨a, xs, rfl, hs, ha⟩ := dp_lst hv
  rw [da_ints ha] at hs
  have hlen : (DI ns).length = ns.length := List.length_map _
  have hsq : ∀ H', Kp (fun a => a = x) H H' → SqL K H' a (ns.map V.int) := fun H' kp => by
    rcases hs with (h | ⟨o, h⟩) | h
    · exact .inl (.inl (kp.st _ _ h (fun z => by rw [z, hx] at h; cases h)))
    · exact .inl (.inr ⟨o, kp.st _ _ h (fun z => by rw [z, hx] at h; cases h)⟩)
    · exact .inr h
  refine ⟨_, rfl, a, rfl, ⟨_, hsq H6 kp6⟩, s_forG (wi := iList K (tVar 1)) (R := fun _ _ => True) (ds := DI ns) (P := fun H => ∃ xs, SqL K H a xs ∧ DpAll K H xs (DI ns)) gv_list (fun i σ' H' => ∃ (A : Cl → Addr) (u : Option V), σ' = [some (.ref x), some (.ref a), u] ∧ A .net = x ∧ NetAt K H' A (initS (ns.take i)) ∧ (∀ cl, Live (ns.take i).length cl → cl ≠ .net → H (A cl) = none) ∧ Kp (fun a => a = x) H H')
    ⟨netA0 x p1 p2 p3 p4 p5 p6, _, rfl, rfl, N6, nw, kp6⟩ (fun i σ' H' _ ⟨_, _, _, _, _, _, kp⟩ => ⟨_, hsq H' kp, ints_da ns⟩) ?_ ?_⟩
  · rintro i d σ' H' y H7 hd ⟨A, u, rfl, hAx, NA, nA, kp⟩ e7 hy
    rw [List.getElem?_map] at hd
    cases hni : ns[i]? with
    | none => rw [hni] at hd; cases hd
    | some c =>
      rw [hni] at hd
      have e5 := Option.some.inj hd
      subst e5
      cases hy
      have hi : i < ns.length := (List.getElem?_eq_some_iff.mp hni).1
      have htl : (ns.take i).length = i := by rw [List.length_take]; omega
      obtain ⟨m1, m2, m3, m4, m5, m6⟩ := initS_facts (ns.take i)
      rw [htl] at m1 m2 m6 nA
      have hn24 := R.hi
      have N7 := NA.ex e7
      obtain ⟨dx7, hnet⟩ := N7.net
      refine ⟨_, rfl, x, dx7, netF A, rfl, by rw [← hAx]; exact hnet, rfl, ⟨_, rfl, A, initS (ns.take i), c, by rw [hAx], N7, R.cd c (List.mem_of_getElem? hni), by omega, by rw [m3, htl]; omega, by rw [m4, htl]; omega, fun j => ⟨Nat.le_trans (m6 j).1 (by omega), Nat.le_trans (m6 j).2 (by omega)⟩, by omega, fun A' H8 a1 a2 a3 a4 => ?_⟩⟩
      have ets : ns.take (i + 1) = ns.take i ++ [c] := by rw [List.take_succ, hni] <;> rfl
      have kp8 : Kp (fun a => a = x) H H8 := ⟨fun b o hb hn => a3.st _ _ (e7 _ _ (kp.st _ _ hb hn)) (fun ⟨cl, hcl, hz⟩ => by
        rw [m1] at hcl
        by_cases q : cl = .net
        · rw [q, hAx] at hz
          exact hn hz.symm
        · have := nA cl hcl q
          rw [hz, hb] at this
          cases this), fun b hb => kp.fr b (fresh_back e7 (a3.fr b hb))⟩
      refine ⟨A', _, rfl, by rw [a1 .net trivial, hAx], by rw [ets, initS_snoc]; exact a4, fun cl hcl hn => ?_, kp8⟩
      rw [ets, List.length_append, htl] at hcl
      rw [m1] at a1 a2
      by_cases ho : Live i cl
      · rw [a1 cl ho]
        exact nA cl ho hn
      · exact kp.fr _ (fresh_back e7 (a2 cl hcl ho))
  · rintro σ' H' ⟨A, u, rfl, hAx, NA, nA, kp⟩
    rw [hlen, List.take_length] at NA nA
    exact k A H' hAx nA kp NA
end
end K59

set_option Elab.async false
set_option linter.all false
set_option maxRecDepth 100000
set_option maxHeartbeats 4000000
/-! nets: open threes -/
namespace K59
open PySem PySem.Spec PyProof.Rows L2 Evl He
def key2 (p : Int × Int) : List Key := [.inl p.1, .inl p.2]
theorem key2_inj {p q : Int × Int} (h : key2 p = key2 q) : p = q := by
  have e1 := List.cons.inj h
  have e2 := List.cons.inj e1.2
  exact Prod.ext (Sum.inl.inj e1.1) (Sum.inl.inj e2.1)
theorem valV_some_put (kvs : List (List Key × V)) (k k' : List Key) (v : V) : (valV (putK kvs k v) k').isSome = (decide (k = k') || (valV kvs k').isSome) := by
  rw [← valV_any, ← valV_any]
  unfold putK
  by_cases h : (kvs.any fun kv => decide (kv.1 = k)) = true
  · rw [if_pos h, List.any_map]
    have e : ((fun kv : List Key × V => decide (kv.1 = k')) ∘ fun kv => if kv.1 = k then (kv.1, v) else kv) = fun kv => decide (kv.1 = k') := funext fun kv => by
      show decide ((if kv.1 = k then (kv.1, v) else kv).1 = k') = _
      by_cases q : kv.1 = k
      · rw [if_pos q]
      · rw [if_neg q]
    rw [e]
    by_cases q : k = k'
    · rw [← q, h]
      simp
    · simp [q]
  · rw [if_neg h, List.any_append]
    simp [Bool.or_comm]
def doneKV (ps : List (Int × Int)) : List (List Key × V) := ps.foldl (fun kvs p => putK kvs (key2 p) (.bl true)) []
theorem doneKV_get (ps : List (Int × Int)) (q : Int × Int) : (valV (doneKV ps) (key2 q)).isSome = decide (q ∈ ps) := by
  have g : ∀ (ps : List (Int × Int)) (kvs : List (List Key × V)), (valV (ps.foldl (fun kvs p => putK kvs (key2 p) (.bl true)) kvs) (key2 q)).isSome = (decide (q ∈ ps) || (valV kvs (key2 q)).isSome) := by
    intro ps
    induction ps with
    | nil => intro kvs; simp
    | cons p ps ih =>
      intro kvs
      rw [List.foldl_cons, ih, valV_some_put]
      by_cases e : p = q
      · subst e
        simp
      · have e2 : ¬ key2 p = key2 q := fun z => e (key2_inj z)
        have e3 : ¬ q = p := fun z => e z.symm
        simp [e2, e3]
  rw [doneKV, g]
  simp [valV]
theorem doneKV_len (ps : List (Int × Int)) : (doneKV ps).length ≤ ps.length := by
  have g : ∀ (ps : List (Int × Int)) (kvs : List (List Key × V)), (ps.foldl (fun kvs p => putK kvs (key2 p) (.bl true)) kvs).length ≤ kvs.length + ps.length := by
    intro ps
    induction ps with
    | nil => intro kvs; exact Nat.le_refl _
    | cons p ps ih =>
      intro kvs
      rw [List.foldl_cons, List.length_cons]
      have h1 := ih (putK kvs (key2 p) (.bl true))
      have h2 := length_putK kvs (key2 p) (.bl true)
      omega
  have := g ps []
  rw [List.length_nil, Nat.zero_add] at this
  exact this
theorem doneKV_snoc (ps : List (Int × Int)) (p : Int × Int) : doneKV (ps ++ [p]) = putK (doneKV ps) (key2 p) (.bl true) := by
  unfold doneKV
  rw [List.foldl_append] <;> rfl
def openB (ps : List (Int × Int)) (t : Int × Int × Int) : Bool := !decide ((t.1, t.2.1) ∈ ps) && !decide ((t.2.1, t.2.2) ∈ ps)
def openT (first : List Int) (ps : List (Int × Int)) : List (Int × Int × Int) := (threesS first).filter (openB ps)
section
variable {P : Program} {w : World} {K : PySem.W.Frag} {mg : Str → Option Value} {base : Heap}
theorem PrAll.get {H : Hp} {vs : List V} {ps : List (Int × Int)} (h : PrAll H vs ps) : ∀ {i : Nat} {x : V}, vs[i]? = some x → ∃ q p, x = .ref q ∧ ps[i]? = some p ∧ H q = some (.tup [.int p.1, .int p.2]) := by
  induction h with
  | nil => intro i x h; cases h
  | cons h _ ih =>
    intro i x hx
    cases i with
    | zero =>
      cases hx
      exact ⟨_, _, rfl, rfl, h⟩
    | succ i => exact ih hx
theorem threesS_len {ns : List Int} (hn : ns.length ≤ 24) : (threesS ns).length ≤ 13824 := by
  unfold threesS
  rw [(sortE_perm ThD _).length_eq]
  have h := threesTo_len ns hn ns.length
  omega
def spOpen (K : PySem.W.Frag) : Sp := fun vs H Q _ => ∃ (A : Cl → Addr) (s : NS), vs = [.ref (A .net)] ∧ NetAt K H A s ∧ RowOk s.first ∧ s.done.length ≤ 50000 ∧ ∀ p us H2, H p = none → Ex H H2 → H2 p = some (.lst us) → DpAll K H2 us ((openT s.first s.done).map ThD) → Q (.ref p) H2
theorem ok_open_threes (T : Txt w K mg) : FR P w K mg base 5 (ma K (ga K "Net") "open_threes") (spOpen K) := by
  have G_crossing_threes : FR P w K mg base 4 (ga K "crossing_threes") (spN K R_crossing_threes) := ok_crossing_threes T
  have G_Net_first_row : FR P w K mg base 1 (ma K (ga K "Net") "first_row") (spNetL K (fun _ => True) fun s => DI s.first) := ok_first_row T
  refine okN T.f_Net_open_threes sc_Net_open_threes (fun _ _ _ _ _ _ us hl => match us, hl with | [_], _ => rfl) (fun vs H Q E h => by obtain ⟨_, _, rfl, _⟩ := h; rfl) fun cdv A0 outer s0 H vs Q E hr h => ?_
  obtain ⟨A, s, rfl, N, R, hdn, k⟩ := h
  refine ⟨_, (pss_cons (ps_set (i := 1) sc_Net_open_threes.nd rfl (Or.inr rfl) (pe_dcT (own := [("pair", 3)]) (g := (gName 3)) (tt := tYes) (hu_of hr) rfl sc_Net_open_threes.nd (pi_list (pe_fld (pv 0) rfl)) (blkOk_by (own := [("pair", 3)]) (N := N_Net_open_threes) (sc := defScope s_Net_open_threes) (by decide +kernel)) (fun _ _ _ _ _ => (pg_name (i := 3) sc_Net_open_threes.nd rfl (Or.inl rfl))) (fun _ _ _ _ _ => pts_nil) (fun _ _ _ _ _ => (pv 3)) (fun _ _ _ _ _ => pe_bl)))
      (pss_cons (ps_set (i := 2) sc_Net_open_threes.nd rfl (Or.inl rfl) (cl G_crossing_threes (hr.mono (by decide)) T.g_crossing_threes psN (pa_cons (me0 (pv 0) T.k_Net T.m_Net_first_row G_Net_first_row (hr.mono (by decide)) psN) pa_nil)))
      (pss_one (ps_ret (pe_lc (own := [("a", 4), ("b", 5), ("c", 6)]) (g := (gTup K 3 (gCons (gName 4) (gCons (gName 5) (gCons (gName 6) gNil)))))  rfl sc_Net_open_threes.nd (pi_list (pv 2)) (blkOk_by (own := [("a", 4), ("b", 5), ("c", 6)]) (N := N_Net_open_threes) (sc := defScope s_Net_open_threes) (by decide +kernel)) (fun _ _ _ _ _ => (pg_tup (by rfl) (pgs_cons (pg_name (i := 4) sc_Net_open_threes.nd rfl (Or.inl rfl)) (pgs_cons (pg_name (i := 5) sc_Net_open_threes.nd rfl (Or.inl rfl)) (pgs_cons (pg_name (i := 6) sc_Net_open_threes.nd rfl (Or.inl rfl)) pgs_nil))))) (fun _ _ _ _ _ => (pts_one (PW.pt (pw_and (pt_cmp (pc_dnotin (hu_of hr) (pe_tup (pa_cons (pv 4) (pa_cons (pv 5) pa_nil))) (pv 1))) (pw_and1 (pt_cmp (pc_dnotin (hu_of hr) (pe_tup (pa_cons (pv 5) (pa_cons (pv 6) pa_nil))) (pv 1)))))))) (fun _ _ _ _ _ => (pe_tup (pa_cons (pv 4) (pa_cons (pv 5) (pa_cons (pv 6) pa_nil)))))))))), ?_⟩
  obtain ⟨ws, hw, hwd⟩ := N.doneL
  refine q_asgR ?_
  unfold tDcT iList
  refine ev_nf (σ := L2.start N_Net_open_threes [V.ref (A .net)]) (t0 := tVar 0) T N (ev_var rfl) T.n_Net_done_pairs rfl H (Ex.refl H) _ fun H1 e1 => ⟨A .done, rfl, ⟨ws, sq_of (e1 _ _ hw)⟩, fun d hd => ?_⟩
  have fin : ∀ H2, Ex H H2 → H d = none → H2 d = some (.dT (doneKV s.done)) → tSeq (tAsg (tCl (spN K R_crossing_threes) E0 (tCons (tMe (ga K "Net") "first_row" (spNetL K (fun _ => True) fun s => DI s.first) E0 (tVar 0) tNil) tNil)) (gName 2)) (tRet (tLc (iList K (tVar 2)) (gTup K 3 (gCons (gName 4) (gCons (gName 5) (gCons (gName 6) gNil)))) (tAnd (tB (tDNotIn (tTup (tCons (tVar 4) (tCons (tVar 5) tNil))) (tVar 1))) (tB (tDNotIn (tTup (tCons (tVar 5) (tCons (tVar 6) tNil))) (tVar 1)))) (tTup (tCons (tVar 4) (tCons (tVar 5) (tCons (tVar 6) tNil)))) [4, 5, 6])) { nx := fun _ H' => Q .non H', rt := Q } ((L2.start N_Net_open_threes [V.ref (A .net)]).set 1 (some (.ref d))) H2 := fun H2 e2 hd0 hd2 => by
    have N2 := N.ex e2
    have F1 : EvD K (tMe (ga K "Net") "first_row" (spNetL K (fun _ => True) fun s => DI s.first) E0 (tVar 0) tNil) ((L2.start N_Net_open_threes [V.ref (A .net)]).set 1 (some (.ref d))) H2 (.list (DI s.first)) := fun H3 e3 Q1 q1 => by
      obtain ⟨dx, h⟩ := (N2.ex e3).net
      exact ⟨_, rfl, A .net, dx, netF A, rfl, h, rfl, ⟨A, s, rfl, N2.ex e3, trivial, fun p us H4 hp e4 h4 hd => q1 _ H4 e4 (.lst (sq_of h4) hd)⟩⟩
    refine q_asgN (K := K) (en_cl (R := R_crossing_threes) (es_cons F1 es_nil) ⟨s.first, rfl, R, rfl⟩) fun p us H3 hp e3 h3 hv3 => ?_
    have hd3 := e3 _ _ hd2
    have g2 : ∀ {σ : K59.St} {H4 : Hp} {ta tb : TE} {a b : Int}, σ[1]? = some (some (.ref d)) → Ex H3 H4 → EvD K ta σ H4 (.int a) → EvD K tb σ H4 (.int b) → EvT (tB (tDNotIn (tTup (tCons ta (tCons tb tNil))) (tVar 1))) σ H4 (!decide ((a, b) ∈ s.done)) := fun {σ H4 ta tb a b} hσ e4 ha hb H5 e5 Q5 q5 => by
      unfold tB tDNotIn
      exact eu_tup (ea_cons ha.i (ea_cons hb.i ea_nil)) (Nat.le_of_ble_eq_true rfl) H5 e5 _ fun q H6 hq e6 h6 => ⟨_, hσ, d, _, rfl, DGet.t (k := key2 (a, b)) ((((e4.trans e5).trans e6)) _ _ hd3) h6, ⟨_, rfl, by rw [doneKV_get]; exact q5 H6 e6⟩⟩
    refine s_retN (en_lcA ThD (openB s.done) ThD (ii_list (ed_var rfl (.lst (sq_of h3) hv3))) (by have := threesS_len R.hi; omega) (fun _ _ => rfl) fun t ht => tn3 (fun _ _ _ => rfl) fun v1 v2 v3 H4 e4 a1 a2 a3 => ⟨?_, fun _ => ?_⟩) fun p us H4 hp4 e4 h4 hv4 => k p us H4 (fresh_back (e2.trans e3) hp4) ((e2.trans e3).trans e4) h4 hv4
    · exact et_and (g2 rfl e4 (ed_var rfl a1) (ed_var rfl a2)) fun _ => g2 rfl e4 (ed_var rfl a2) (ed_var rfl a3)
    · exact ed_tup (es_cons (ed_var rfl a1) (es_cons (ed_var rfl a2) (es_cons (ed_var rfl a3) es_nil))) (Nat.le_of_ble_eq_true rfl)
  have hwl := hwd.len
  refine ⟨fun i m H' => m = ws.length - i ∧ i ≤ ws.length ∧ Ex H H' ∧ H' d = some (.dT (doneKV (s.done.take i))), ⟨_, rfl, Nat.zero_le _, e1.trans (Ex.new hd), upd_same⟩, ?_⟩
  rintro i m H' ⟨rfl, hi, e2, hd2⟩
  have hd0 : H d = none := fresh_back e1 hd
  have hw2 := e2 _ _ hw
  by_cases hlt : i < ws.length
  · refine .inr ⟨⟨ws, ws[i], sq_of hw2, by simp [hlt]⟩, fun H4 => i + 1 ≤ ws.length ∧ Ex H H4 ∧ H4 d = some (.dT (doneKV (s.done.take (i + 1)))), fun H4 p => ⟨ws.length - (i + 1), by omega, rfl, p⟩, fun x H4 y => ?_⟩
    obtain ⟨rfl, y⟩ := y
    obtain ⟨q, p, rfl, hp, hq⟩ := hwd.get (y ws (sq_of hw2))
    refine ⟨rfl, _, rfl, doneKV (s.done.take i), key2 p, q, rfl, e2 _ _ hq, hd2, sz_lt (by
      have h1 := doneKV_len (s.done.take i)
      rw [List.length_take] at h1
      omega), hlt, Ex.mut e2 hd0, ?_⟩
    rw [upd_same, List.take_succ, hp]
    show _ = some (HO.dT (doneKV (s.done.take i ++ [p])))
    rw [doneKV_snoc]
  · have hl : i = ws.length := by omega
    rw [hl, hwl, List.take_length] at hd2
    exact .inl ⟨⟨ws, sq_of hw2, by omega⟩, fin H' e2 hd0 hd2⟩
end
end K59

set_option Elab.async false
set_option linter.all false
set_option maxRecDepth 100000
set_option maxHeartbeats 4000000
/-! desks: answers -/
namespace K59
open PySem PySem.Spec PyProof.Rows L2 Evl He
theorem threesTo_len9 (ns : List Int) (hn : ns.length ≤ 9) : ∀ i, (threesTo ns i).length ≤ i * 81
  | 0 => by simp [threesTo]
  | i + 1 => by
    have h := threesTo_len9 ns hn i
    rw [threesTo, List.length_append]
    cases e : ns[i]? with
    | none => simp; omega
    | some c =>
      have h1 := laterOf_len ns i c
      have h2 := threeIn_len (laterOf ns i c) c (laterOf ns i c).length
      have h3 : (laterOf ns i c).length * (laterOf ns i c).length ≤ 9 * 9 := Nat.mul_le_mul (by omega) (by omega)
      simp only
      omega
/-- what a desk's net must be for its answers -/
structure GoodR (s : NS) : Prop where
  row : RowOk s.first
  n9 : s.n ≤ 9
  fl : s.first.length = s.n
  nowc : ∀ x ∈ s.now, cardB x = true
  nowl : s.now.length ≤ 24
  ps : PsOk s.done
  pl : s.done.length ≤ 1000
  hc : ∀ i, i < s.n → ∀ c, (s.hd i).held = some c → cardB c = true
  lo : LOk s
  ll : ∀ i j, (laneOf s i j).length ≤ 1000
  ly : lyingN s ≤ 999999999
  led : ∃ out, Led s.first s.done out
def heldT : Option Int → Str
  | none => "-"
  | some c => numT c
def ltT (l : Lt) : Str := l.k ++ ":" ++ numT l.c
def threeT (t : Int × Int × Int) : Str := joinI "." [t.1, t.2.1, t.2.2]
def cardsT (s : NS) : Str := Txt.join " " ((List.range s.n).map fun i => heldT (s.hd i).held)
def laneT (s : NS) (i j : Nat) : Str := textOf ((laneOf s i j).map ltT) "none"
def freeT (s : NS) : Str := textOf ((freeL s).map fun i : Nat => numT (i : Int)) "none"
def openX (s : NS) : Str := textOf ((openT s.first s.done).map threeT) "none"
theorem freeL_len (s : NS) : (freeL s).length ≤ s.n := by
  have h := List.length_filter_le (fun i => mayGo (s.hd i)) (List.range s.n)
  rw [List.length_range] at h
  exact h
theorem later_mem {ns : List Int} {i : Nat} {c x : Int} (h : x ∈ laterOf ns i c) : x ∈ ns ∧ x < c := by
  obtain ⟨h1, h2⟩ := List.mem_filter.mp h
  exact ⟨List.mem_of_mem_drop h1, of_decide_eq_true h2⟩
theorem threeIn_mem {ls : List Int} {g : Int} {t : Int × Int × Int} : ∀ {j : Nat}, t ∈ threeIn ls g j → t.1 ∈ ls ∧ t.2.1 ∈ ls ∧ t.1 < t.2.1 ∧ t.2.2 = g
  | 0, h => by cases h
  | j + 1, h => by
    rw [threeIn] at h
    rcases List.mem_append.mp h with h | h
    · exact threeIn_mem h
    · cases e : ls[j]? with
      | none => rw [e] at h; cases h
      | some m =>
        rw [e] at h
        obtain ⟨x, hx, rfl⟩ := List.mem_map.mp h
        obtain ⟨h1, h2⟩ := List.mem_filter.mp hx
        exact ⟨List.mem_of_mem_drop h1, List.mem_of_getElem? e, of_decide_eq_true h2, rfl⟩
theorem threesTo_mem {ns : List Int} {t : Int × Int × Int} : ∀ {i : Nat}, t ∈ threesTo ns i → t.1 ∈ ns ∧ t.2.1 ∈ ns ∧ t.2.2 ∈ ns ∧ t.1 < t.2.1 ∧ t.2.1 < t.2.2
  | 0, h => by cases h
  | i + 1, h => by
    rw [threesTo] at h
    rcases List.mem_append.mp h with h | h
    · exact threesTo_mem h
    · cases e : ns[i]? with
      | none => rw [e] at h; cases h
      | some g =>
        rw [e] at h
        obtain ⟨h1, h2, h3, h4⟩ := threeIn_mem h
        have l1 := later_mem h1
        have l2 := later_mem h2
        exact ⟨l1.1, l2.1, by rw [h4]; exact List.mem_of_getElem? e, h3, by rw [h4]; exact l2.2⟩
theorem openT_ok {s : NS} (G : GoodR s) : (openT s.first s.done).length ≤ 1000 ∧ ∀ t ∈ openT s.first s.done, ∀ n ∈ [t.1, t.2.1, t.2.2], cardB n = true := by
  refine ⟨?_, fun t ht n hn => ?_⟩
  · have h1 := List.length_filter_le (openB s.done) (threesS s.first)
    have h2 := (sortE_perm ThD (threesTo s.first s.first.length)).length_eq
    have h3 := threesTo_len9 s.first (by rw [G.fl]; exact G.n9) s.first.length
    have h4 := G.fl
    have h5 := G.n9
    unfold openT
    unfold threesS at h1 ⊢
    omega
  · have h1 := (List.mem_filter.mp ht).1
    have h2 := threesTo_mem ((sortE_perm ThD _).mem_iff.mp h1)
    rcases List.mem_cons.mp hn with rfl | hn
    · exact G.row.cd _ h2.1
    rcases List.mem_cons.mp hn with rfl | hn
    · exact G.row.cd _ h2.2.1
    rw [List.mem_singleton.mp hn]
    exact G.row.cd _ h2.2.2.1
/-- what is answered -/
inductive Ans (s : NS) : Str → List Int → Str → Prop
  | row : Ans s "row" [] (joinI " " s.now)
  | first : Ans s "first" [] (joinI " " s.first)
  | cards : Ans s "cards" [] (cardsT s)
  | history : Ans s "history" [] (histT s.done)
  | lie : Ans s "lie" [] (numT (lyingN s))
  | lane (i j : Nat) (hi : i < s.n) (hj : j < s.n) : Ans s "lane" [(i : Int), (j : Int)] (laneT s i j)
  | free : Ans s "free" [] (freeT s)
  | way (a b c : Int) (h1 : a < b) (h2 : b < c) (ha : a ∈ s.first) (hb : b ∈ s.first) (hc : c ∈ s.first) : Ans s "way" [a, b, c] (wayOf s.first s.done a b c)
  | opens : Ans s "open" [] (openX s)
theorem numT_lenI {i : Nat} (h : i ≤ 999999999) : cardB (i : Int) = true := card_of (by omega) (by omega)
theorem ltT_ok {s : NS} (lo : LOk s) {i j : Nat} {l : Lt} (hl : l ∈ laneOf s i j) : Sm (ltT l) ∧ (ltT l).length ≤ 100 := by
  have hc : cardB l.c = true := by
    rcases lane_cases s i j with ⟨m, _, _, _, hle⟩ | ⟨m, _, _, _, hle⟩ | ⟨hle, _⟩
    · exact lo m l (.inl (by rw [← hle]; exact hl))
    · exact lo m l (.inr (by rw [← hle]; exact hl))
    · rw [hle] at hl
      cases hl
  have lk : l.k.length = 4 := by cases l <;> rfl
  have sk : Sm l.k := by
    cases l with
    | mine c => exact sm_of (w := "mine") (by decide)
    | over c => exact sm_of (w := "over") (by decide)
    | back c => exact sm_of (w := "back") (by decide)
  have l9 := numT_len hc
  refine ⟨sm_app (sm_app sk (sm_of (by decide))) (sm_num hc), ?_⟩
  show (l.k ++ ":" ++ numT l.c).length ≤ 100
  rw [append_len, append_len, lk]
  have : (":" : Str).length = 1 := rfl
  omega
section
variable {P : Program} {w : World} {K : PySem.W.Frag} {mg : Str → Option Value} {base : Heap}
def deskF (x : V) : List (Str × V) := [("net_there", x)]
def spAns (K : PySem.W.Frag) : Sp := fun vs H Q _ => ∃ (d dx : Addr) (A : Cl → Addr) (s : NS) (wd : Str) (ns : List Int) (v : V), vs = [.ref d, .str wd, v] ∧ Dp K H v (.list (DI ns)) ∧ H d = some (.ins (ga K "Desk") dx (deskF (.ref (A .net)))) ∧ NetAt K H A s ∧
  ((wd = "rest" ∧ ∃ b m s2, RestN b s m s2 ∧ m ≤ 999999999 ∧ ∀ H2, Kp (Foot A s.n) H H2 → NetAt K H2 A s2 → Q (.str (numT (m : Int))) H2) ∨ (∃ t, GoodR s ∧ Ans s wd ns t ∧ ∀ H2, Ex H H2 → Q (.str t) H2))
theorem en_tupof {σ : K59.St} {H : Hp} {ta : TE} {ds : List PyData} (h : EvD K ta σ H (.list ds)) : EvD K (tCB (fun xs H Q => ∃ p ys, xs = [.ref p] ∧ ((SqL K H p ys ∧ ∀ l, H l = none → Q (.ref l) (upd H l (.tup ys))) ∨ (SqT K H p ys ∧ Q (.ref p) H))) (tCons ta tNil)) σ H (.tuple ds) := fun H1 e Q q => h H1 e _ fun x H2 e2 hx => by
  obtain ⟨a, xs, rfl, hs, ha⟩ := dp_lst hx
  exact ⟨a, xs, rfl, .inl ⟨hs, fun l hl => q _ _ (e2.trans (Ex.new hl)) (.tup (st_of upd_same) (da_ex (Ex.new hl) _ ha))⟩⟩
theorem ok_answer (T : Txt w K mg) : FR P w K mg base 8 (ma K (ga K "Desk") "answer") (spAns K) := by
  have G_Net_rest : FR P w K mg base 5 (ma K (ga K "Net") "rest") (spRest K) := ok_rest T
  have G_Net_row : FR P w K mg base 1 (ma K (ga K "Net") "row") (spNetL K (fun _ => True) fun s => DI s.now) := ok_row T
  have G_Net_first_row : FR P w K mg base 1 (ma K (ga K "Net") "first_row") (spNetL K (fun _ => True) fun s => DI s.first) := ok_first_row T
  have G_Net_cards : FR P w K mg base 2 (ma K (ga K "Net") "cards") (spNetL K (fun s => s.n ≤ 24) fun s => (List.range s.n).map fun i => oD (s.hd i).held) := ok_cards T
  have G_Net_history : FR P w K mg base 1 (ma K (ga K "Net") "history") (spNetL K (fun _ => True) fun s => s.done.map PrD) := ok_history T
  have G_Net_lying : FR P w K mg base 1 (ma K (ga K "Net") "lying") (spLying K) := ok_lying T
  have G_Net_lane : FR P w K mg base 2 (ma K (ga K "Net") "lane") (spLane K) := ok_lane T
  have G_Net_free_hands : FR P w K mg base 2 (ma K (ga K "Net") "free_hands") (spNetL K (fun s => s.n ≤ 24) fun s => DI (NI (freeL s))) := ok_free_hands T
  have G_Net_way : FR P w K mg base 7 (ma K (ga K "Net") "way") (spWay K) := ok_way T
  have G_Net_open_threes : FR P w K mg base 5 (ma K (ga K "Net") "open_threes") (spOpen K) := ok_open_threes T
  have G_joined : FR P w K mg base 1 (ga K "joined") (spD K R_joined) := ok_joined T
  have G_listed : FR P w K mg base 1 (ga K "listed") (spD K R_listed) := ok_listed T
  have G_show_history : FR P w K mg base 3 (ga K "show_history") (spD K R_show_history) := ok_show_history T
  refine okN T.f_Desk_answer sc_Desk_answer (fun _ _ _ _ _ _ us hl => match us, hl with | [_, _, _], _ => rfl) (fun vs H Q E h => by obtain ⟨_, _, _, _, _, _, _, rfl, _⟩ := h; rfl) fun cdv A0 outer s0 H vs Q E hr h => ?_
  obtain ⟨d, dx, A, s, wd, ns, v, rfl, hv, hd, N, h⟩ := h
  refine ⟨_, (pss_cons (ps_set (i := 3) sc_Desk_answer.nd rfl (Or.inl rfl) (pe_fld (pv 0) rfl))
      (pss_cons (ps_if (pt_cmpR op_eq (pv 1) pe_str (nomark _)) (pss_one (ps_ret (pe_callTy call_str_int (by rfl) T.b_str bt_str (pa_cons (me0 (pv 3) T.k_Net T.m_Net_rest G_Net_rest (hr.mono (by decide)) psN) pa_nil)))) pss_nil)
      (pss_cons (ps_if (pt_cmpR op_eq (pv 1) pe_str (nomark _)) (pss_one (ps_ret (cl G_joined (hr.mono (by decide)) T.g_joined psN (pa_cons (me0 (pv 3) T.k_Net T.m_Net_row G_Net_row (hr.mono (by decide)) psN) (pa_cons pe_str pa_nil))))) pss_nil)
      (pss_cons (ps_if (pt_cmpR op_eq (pv 1) pe_str (nomark _)) (pss_one (ps_ret (cl G_joined (hr.mono (by decide)) T.g_joined psN (pa_cons (me0 (pv 3) T.k_Net T.m_Net_first_row G_Net_first_row (hr.mono (by decide)) psN) (pa_cons pe_str pa_nil))))) pss_nil)
      (pss_cons (ps_if (pt_cmpR op_eq (pv 1) pe_str (nomark _)) (pss_one (ps_ret (pe_joinK K rfl pe_str (pe_lc (own := [("card", 5)]) (g := (gName 5)) (tt := tYes) rfl sc_Desk_answer.nd (pi_list (me0 (pv 3) T.k_Net T.m_Net_cards G_Net_cards (hr.mono (by decide)) psN)) (blkOk_by (own := [("card", 5)]) (N := N_Desk_answer) (sc := defScope s_Desk_answer) (by decide +kernel)) (fun _ _ _ _ _ => (pg_name (i := 5) sc_Desk_answer.nd rfl (Or.inl rfl))) (fun _ _ _ _ _ => pts_nil) (fun _ _ _ _ _ => (pe_ifExp (pt_cmpR op_isN (pv 5) pe_non (nomark _)) pe_str (pe_callTy call_str_int (by rfl) T.b_str bt_str (pa_cons (pv 5) pa_nil)))))))) pss_nil)
      (pss_cons (ps_if (pt_cmpR op_eq (pv 1) pe_str (nomark _)) (pss_one (ps_ret (cl G_show_history (hr.mono (by decide)) T.g_show_history psN (pa_cons (me0 (pv 3) T.k_Net T.m_Net_history G_Net_history (hr.mono (by decide)) psN) pa_nil)))) pss_nil)
      (pss_cons (ps_if (pt_cmpR op_eq (pv 1) pe_str (nomark _)) (pss_one (ps_ret (pe_callTy call_str_int (by rfl) T.b_str bt_str (pa_cons (me0 (pv 3) T.k_Net T.m_Net_lying G_Net_lying (hr.mono (by decide)) psN) pa_nil)))) pss_nil)
      (pss_cons (ps_if (pt_cmpR op_eq (pv 1) pe_str (nomark _)) (pss_one (ps_ret (cl G_listed (hr.mono (by decide)) T.g_listed psN (pa_cons (pe_lc (own := [("kind", 6), ("card", 5)]) (g := (gTup K 2 (gCons (gName 6) (gCons (gName 5) gNil)))) (tt := tYes) rfl sc_Desk_answer.nd (pi_list (me (pv 3) T.k_Net T.m_Net_lane G_Net_lane (hr.mono (by decide)) psN (pa_cons (pe_ix ix_list (pv 2) pe_int (fun _ _ => rfl)) (pa_cons (pe_ix ix_list (pv 2) pe_int (fun _ _ => rfl)) pa_nil)))) (blkOk_by (own := [("kind", 6), ("card", 5)]) (N := N_Desk_answer) (sc := defScope s_Desk_answer) (by decide +kernel)) (fun _ _ _ _ _ => (pg_tup (by rfl) (pgs_cons (pg_name (i := 6) sc_Desk_answer.nd rfl (Or.inl rfl)) (pgs_cons (pg_name (i := 5) sc_Desk_answer.nd rfl (Or.inl rfl)) pgs_nil)))) (fun _ _ _ _ _ => pts_nil) (fun _ _ _ _ _ => (pe_op op_add_str (pe_op op_add_str (pv 6) pe_str) (pe_callTy call_str_int (by rfl) T.b_str bt_str (pa_cons (pv 5) pa_nil))))) pa_nil)))) pss_nil)
      (pss_cons (ps_if (pt_cmpR op_eq (pv 1) pe_str (nomark _)) (pss_one (ps_ret (cl G_listed (hr.mono (by decide)) T.g_listed psN (pa_cons (pe_lc (own := [("hand", 7)]) (g := (gName 7)) (tt := tYes) rfl sc_Desk_answer.nd (pi_list (me0 (pv 3) T.k_Net T.m_Net_free_hands G_Net_free_hands (hr.mono (by decide)) psN)) (blkOk_by (own := [("hand", 7)]) (N := N_Desk_answer) (sc := defScope s_Desk_answer) (by decide +kernel)) (fun _ _ _ _ _ => (pg_name (i := 7) sc_Desk_answer.nd rfl (Or.inl rfl))) (fun _ _ _ _ _ => pts_nil) (fun _ _ _ _ _ => (pe_callTy call_str_int (by rfl) T.b_str bt_str (pa_cons (pv 7) pa_nil)))) pa_nil)))) pss_nil)
      (pss_cons (ps_if (pt_cmpR op_eq (pv 1) pe_str (nomark _)) (pss_one (ps_ret (me (pv 3) T.k_Net T.m_Net_way G_Net_way (hr.mono (by decide)) psN (pa_cons (pe_callTy call_tuple_of (by rfl) T.b_tuple bt_tuple (pa_cons (pv 2) pa_nil)) pa_nil)))) pss_nil)
      (pss_one (ps_ret (cl G_listed (hr.mono (by decide)) T.g_listed psN (pa_cons (pe_lc (own := [("three", 4)]) (g := (gName 4)) (tt := tYes) rfl sc_Desk_answer.nd (pi_list (me0 (pv 3) T.k_Net T.m_Net_open_threes G_Net_open_threes (hr.mono (by decide)) psN)) (blkOk_by (own := [("three", 4)]) (N := N_Desk_answer) (sc := defScope s_Desk_answer) (by decide +kernel)) (fun _ _ _ _ _ => (pg_name (i := 4) sc_Desk_answer.nd rfl (Or.inl rfl))) (fun _ _ _ _ _ => pts_nil) (fun _ _ _ _ _ => (cl G_joined (hr.mono (by decide)) T.g_joined psN (pa_cons (pv 4) (pa_cons pe_str pa_nil))))) pa_nil)))))))))))))), ?_⟩
  refine q_asg (ev_fld (ev_var rfl) hd T.k_Desk T.n_Desk_net_there rfl) fun H1 e1 => ?_
  -- readings of the net at slot 3
  have RL : ∀ {F : NS → Prop} {g : NS → List PyData} {m : Str} {σ : K59.St} (H2 : Hp), σ[3]? = some (some (.ref (A .net))) → (netF A).lookup m = none → NetAt K H2 A s → F s → EvD K (tMe (ga K "Net") m (spNetL K F g) E0 (tVar 3) tNil) σ H2 (.list (g s)) := fun {F g m σ} H2 hσ hm N2 hF H3 e3 Q3 q3 => by
    obtain ⟨dxn, hn⟩ := (N2.ex e3).net
    exact ⟨_, hσ, A .net, dxn, netF A, rfl, hn, hm, ⟨A, s, rfl, N2.ex e3, hF, fun p us H4 hp e4 h4 hv4 => q3 _ H4 e4 (.lst (sq_of h4) hv4)⟩⟩
  have step : ∀ {a : Str} {D : Ends} {tu tz : L2.TS} {σ : K59.St} {H2 : Hp}, σ[1]? = some (some (.str wd)) → (wd = a → ∀ H3, Ex H2 H3 → tu { D with nx := tz D } σ H3) → (wd ≠ a → ∀ H3, Ex H2 H3 → tz D σ H3) → tSeq (tIfS (tTest (tOp rEq (tVar 1) (tC (.str a)))) tu tNext) tz D σ H2 := fun {a D tu tz σ H2} hσ h1 h2 =>
    q_when (b := decide (wd = a)) (et_db (K := K) (ed_op (ed_var hσ (.str wd)) ed_s rd_eqS)) (fun z => h1 (of_decide_eq_true z)) (fun z => h2 (of_decide_eq_false z))
  refine step rfl (fun w1 H2 e2 => ?_) fun w1 H2 e2 => ?_
  · -- rest
    rcases h with ⟨_, b, m, s2, R, hm, k⟩ | ⟨t, G, an, k⟩
    · have N2 := (N.ex e1).ex e2
      obtain ⟨dxn, hn⟩ := N2.net
      refine ⟨_, rfl, A .net, dxn, netF A, rfl, hn, rfl, ⟨A, s, s2, b, m, rfl, N2, R, fun H3 k3 n3 => ⟨_, rfl, log_card (numT_lenI hm), k H3 ((Kp.of (e1.trans e2)).trans k3) n3⟩⟩⟩
    · cases an <;> exact absurd w1 (by decide)
  rcases h with ⟨hw, _⟩ | ⟨t, G, an, k⟩
  · exact absurd hw w1
  have N2 := (N.ex e1).ex e2
  have k : ∀ {H3 : Hp} {u : V}, Ex H2 H3 → Dp K H3 u (.str t) → Q u H3 := fun {H3 u} e3 hu => by
    rw [dp_str hu]
    exact k H3 ((e1.trans e2).trans e3)
  have hv := dp_ex (e1.trans e2) _ hv
  refine step rfl (fun w2 H3 e3 => ?_) fun w2 H3 e3 => ?_
  · cases an <;> first | exact absurd w2 (by decide) | exact s_retD (ed_cl (R := R_joined) (es_cons (RL H3 rfl rfl (N2.ex e3) trivial) (es_cons ed_s es_nil)) ⟨s.now, " ", .inl rfl, G.nowc, Nat.le_trans G.nowl (by decide), by decide, rfl⟩) fun u H20 e20 hu => k (e3.trans e20) hu
  refine step rfl (fun w3 H4 e4 => ?_) fun w3 H4 e4 => ?_
  · cases an <;> first | exact absurd w3 (by decide) | exact s_retD (ed_cl (R := R_joined) (es_cons (RL H4 rfl rfl (N2.ex (e3.trans e4)) trivial) (es_cons ed_s es_nil)) ⟨s.first, " ", .inl rfl, G.row.cd, Nat.le_trans G.row.hi (by decide), by decide, rfl⟩) fun u H20 e20 hu => k ((e3.trans e4).trans e20) hu
  have e34 := e3.trans e4
  refine step rfl (fun w4 H5 e5 => ?_) fun w4 H5 e5 => ?_
  · have hb : (((List.range s.n).map fun i => heldT (s.hd i).held).map (·.length)).sum + ((List.range s.n).map fun i => heldT (s.hd i).held).length * (" " : Str).length ≤ 16777216 := jb_of (b := 9) (fun x hx => by
      obtain ⟨i, hi, rfl⟩ := List.mem_map.mp hx
      cases hh : (s.hd i).held with
      | none => exact (by decide : ("-" : Str).length ≤ 9)
      | some c => exact numT_len (G.hc i (List.mem_range.mp hi) c hh)) (by rw [List.length_map, List.length_range]; have := G.n9; omega) (by decide) (by decide)
    cases an <;> first | exact absurd w4 (by decide) | exact s_retD (ed_join (ys := (List.range s.n).map fun i => heldT (s.hd i).held) ed_s (ed_to (en_mapA (fun i : Nat => oD (s.hd i).held) (fun i => .str (heldT (s.hd i).held)) (ii_list (RL H5 rfl rfl (N2.ex (e34.trans e5)) (by have := G.n9; omega))) (by rw [List.length_range]; have := G.n9; omega) (fun _ _ => rfl) fun i hi => tn1 (fun _ => rfl) fun u H20 e20 hu => ⟨et_yes, fun _ => by
      cases hh : (s.hd i).held with
      | none =>
        rw [hh] at hu
        exact ed_if (b := true) (et_to (et_db (ed_op (ed_var rfl hu) ed_n rd_isN)) rfl) (fun _ => ed_s) (fun z => by cases z)
      | some c =>
        rw [hh] at hu
        exact ed_if (b := false) (et_to (et_db (ed_op (ed_var rfl hu) ed_n rd_isN)) rfl) (fun z => by cases z) (fun _ => ed_strI (ed_var rfl hu) (G.hc i (List.mem_range.mp hi) c hh))⟩).toD (by rw [List.map_map] <;> rfl)) hb) fun u H20 e20 hu => k ((e34.trans e5).trans e20) hu
  have e35 := e34.trans e5
  refine step rfl (fun w5 H6 e6 => ?_) fun w5 H6 e6 => ?_
  · cases an <;> first | exact absurd w5 (by decide) | exact s_retD (ed_cl (R := R_show_history) (es_cons (RL H6 rfl rfl (N2.ex (e35.trans e6)) trivial) es_nil) ⟨s.done, rfl, G.ps, G.pl, rfl⟩) fun u H20 e20 hu => k ((e35.trans e6).trans e20) hu
  have e36 := e35.trans e6
  refine step rfl (fun w6 H7 e7 => ?_) fun w6 H7 e7 => ?_
  · have hly : EvD K (tMe (ga K "Net") "lying" (spLying K) E0 (tVar 3) tNil) ((L2.start N_Desk_answer [.ref d, .str wd, v]).set 3 (some (.ref (A .net)))) H7 (.int (lyingN s)) := fun H8 e8 Q8 q8 => by
      have N8 := N2.ex ((e36.trans e7).trans e8)
      obtain ⟨dxn, hn⟩ := N8.net
      exact ⟨_, rfl, A .net, dxn, netF A, rfl, hn, rfl, ⟨A, s, rfl, N8, by have := G.n9; omega, fun H9 e9 => q8 _ H9 e9 (.int _)⟩⟩
    cases an <;> first | exact absurd w6 (by decide) | exact s_retD (ed_strI hly (card_of (lying_nn s) G.ly)) fun u H20 e20 hu => k ((e36.trans e7).trans e20) hu
  have e37 := e36.trans e7
  refine step rfl (fun w7 H8 e8 => ?_) fun w7 H8 e8 => ?_
  · cases an with
    | lane i j hi hj =>
      have hv8 := dp_ex (e37.trans e8) _ hv
      have hla : EvD K (tMe (ga K "Net") "lane" (spLane K) E0 (tVar 3) (tCons (tOp (rIxL K) (tVar 2) (tC (.int 0))) (tCons (tOp (rIxL K) (tVar 2) (tC (.int 1))) tNil))) ((L2.start N_Desk_answer [.ref d, .str "lane", v]).set 3 (some (.ref (A .net)))) H8 (.list ((laneOf s i j).map Lt.D)) := fun H9 e9 Q9 q9 => by
        obtain ⟨dxn, hn⟩ := (N2.ex ((e37.trans e8).trans e9)).net
        refine ⟨_, rfl, A .net, dxn, netF A, rfl, hn, rfl, ed_op (ed_var rfl hv8) ed_i (rd_ixL (j := 0) rfl rfl) H9 e9 _ fun u1 H10 e10 h10 => ed_op (ed_var rfl hv8) ed_i (rd_ixL (j := 1) rfl rfl) H10 (e9.trans e10) _ fun u2 H11 e11 h11 => ?_⟩
        cases h10
        cases h11
        exact ⟨A, s, i, j, rfl, N2.ex ((((e37.trans e8).trans e9).trans e10).trans e11), hi, hj, fun p us H12 hp e12 h12 hv12 => q9 _ H12 ((e10.trans e11).trans e12) (.lst (sq_of h12) hv12)⟩
      refine s_retD (ed_cl (R := R_listed) (es_cons (ed_to (en_mapA (fun l : Lt => .tuple [.str l.k, .int l.c]) (fun l => .str (ltT l)) (ii_list hla) (by have := G.ll i j; omega) (fun _ _ => rfl) fun l hl => tn2 (fun _ _ => rfl) fun u1 u2 H20 e20 h1 h2 => ⟨et_yes, fun _ => ?_⟩).toD (congrArg PyData.list (List.map_map (g := PyData.str) (f := ltT)).symm)) es_nil) ⟨_, rfl, fun x hx => ?_, fun x hx => ?_, by rw [List.length_map]; exact G.ll i j, rfl⟩) fun u H20 e20 hu => k ((e37.trans e8).trans e20) hu
      · have hc : cardB l.c = true := by
          rcases lane_cases s i j with ⟨m, _, _, _, hle⟩ | ⟨m, _, _, _, hle⟩ | ⟨hle, _⟩
          · exact G.lo m l (.inl (by rw [← hle]; exact hl))
          · exact G.lo m l (.inr (by rw [← hle]; exact hl))
          · rw [hle] at hl
            cases hl
        have lk : l.k.length = 4 := by cases l <;> rfl
        have l9 := numT_len hc
        exact ed_op (ed_op (ed_var rfl h1) ed_s (rd_addS (by rw [lk]; exact Nat.le_of_ble_eq_true rfl))) (ed_strI (ed_var rfl h2) hc) (rd_addS (by rw [append_len, lk]; have : (":" : Str).length = 1 := rfl; omega))
      · obtain ⟨l, hl, rfl⟩ := List.mem_map.mp hx
        exact (ltT_ok G.lo hl).1
      · obtain ⟨l, hl, rfl⟩ := List.mem_map.mp hx
        exact (ltT_ok G.lo hl).2
    | _ => exact absurd w7 (by decide)
  have e38 := e37.trans e8
  refine step rfl (fun w8 H9 e9 => ?_) fun w8 H9 e9 => ?_
  · cases an with
    | free =>
      refine s_retD (ed_cl (R := R_listed) (es_cons (ed_to (en_mapA (fun i : Nat => .int (i : Int)) (fun i => .str (numT (i : Int))) (xs := freeL s) (ii_list (ed_to (RL H9 rfl rfl (N2.ex (e38.trans e9)) (by have := G.n9; omega)) (congrArg PyData.list (List.map_map (g := PyData.int) (f := fun i : Nat => (i : Int)))))) ?_ (fun _ _ => rfl) fun i hi => tn1 (fun _ => rfl) fun u1 H20 e20 h1 => ⟨et_yes, fun _ => ed_strI (ed_var rfl h1) (numT_lenI ?_)⟩).toD (congrArg PyData.list (List.map_map (g := PyData.str) (f := fun i : Nat => numT (i : Int))).symm)) es_nil) ⟨_, rfl, fun x hx => ?_, fun x hx => ?_, ?_, rfl⟩) fun u H20 e20 hu => k ((e38.trans e9).trans e20) hu
      · have := freeL_len s
        have := G.n9
        omega
      · have := (freeL_mem hi).1
        have := G.n9
        omega
      · obtain ⟨i, hi, rfl⟩ := List.mem_map.mp hx
        exact sm_num (numT_lenI (by have := (freeL_mem hi).1; have := G.n9; omega))
      · obtain ⟨i, hi, rfl⟩ := List.mem_map.mp hx
        exact Nat.le_trans (numT_len (numT_lenI (by have := (freeL_mem hi).1; have := G.n9; omega))) (by decide)
      · rw [List.length_map]
        have := freeL_len s
        have := G.n9
        omega
    | _ => exact absurd w8 (by decide)
  have e39 := e38.trans e9
  refine step rfl (fun w9 H10 e10 => ?_) fun w9 H10 e10 => ?_
  · cases an with
    | way a b c h1 h2 ha hb hc =>
      have hv10 := dp_ex (e39.trans e10) _ hv
      have N10 := N2.ex (e39.trans e10)
      obtain ⟨dxn, hn⟩ := N10.net
      refine ⟨_, rfl, A .net, dxn, netF A, rfl, hn, rfl, en_tupof (ed_var rfl hv10) H10 (Ex.refl H10) _ fun u H11 e11 hu => ?_⟩
      exact ⟨A, s, u, a, b, c, rfl, N10.ex e11, hu, G.row, G.led, h1, h2, ha, hb, hc, fun H12 e12 => k ((e39.trans e10).trans (e11.trans e12)) (.str _)⟩
    | _ => exact absurd w9 (by decide)
  · cases an with
    | opens =>
      have e3A := e39.trans e10
      have hop : EvD K (tMe (ga K "Net") "open_threes" (spOpen K) E0 (tVar 3) tNil) ((L2.start N_Desk_answer [.ref d, .str "open", v]).set 3 (some (.ref (A .net)))) H10 (.list ((openT s.first s.done).map ThD)) := fun H11 e11 Q11 q11 => by
        have N11 := N2.ex (e3A.trans e11)
        obtain ⟨dxn, hn⟩ := N11.net
        exact ⟨_, rfl, A .net, dxn, netF A, rfl, hn, rfl, ⟨A, s, rfl, N11, G.row, Nat.le_trans G.pl (by decide), fun p us H12 hp e12 h12 hv12 => q11 _ H12 e12 (.lst (sq_of h12) hv12)⟩⟩
      have ho := openT_ok G
      refine s_retD (ed_cl (R := R_listed) (es_cons (ed_to (en_mapA ThD (fun t => .str (threeT t)) (ii_list hop) (Nat.le_trans ho.1 (by decide)) (fun _ _ => rfl) fun t ht => tn1 (fun _ => rfl) fun u1 H20 e20 h1 => ⟨et_yes, fun _ => ed_cl (es_cons (ed_var rfl h1) (es_cons ed_s es_nil)) ⟨[t.1, t.2.1, t.2.2], ".", .inr rfl, ho.2 t ht, Nat.le_of_ble_eq_true rfl, by decide, rfl⟩⟩).toD (congrArg PyData.list (List.map_map (g := PyData.str) (f := threeT)).symm)) es_nil) ⟨_, rfl, fun x hx => ?_, fun x hx => ?_, by rw [List.length_map]; exact ho.1, rfl⟩) fun u H20 e20 hu => k (e3A.trans e20) hu
      · obtain ⟨t, ht, rfl⟩ := List.mem_map.mp hx
        exact sm_joinI (sm_of (by decide)) (ho.2 t ht)
      · obtain ⟨t, ht, rfl⟩ := List.mem_map.mp hx
        exact Nat.le_trans (joinI_len (g := ".") (ho.2 t ht)) (Nat.le_of_ble_eq_true rfl)
    | way a b c h1 h2 ha hb hc => exact absurd rfl w9
    | row => exact absurd rfl w2
    | first => exact absurd rfl w3
    | cards => exact absurd rfl w4
    | history => exact absurd rfl w5
    | lie => exact absurd rfl w6
    | lane i j hi hj => exact absurd rfl w7
    | free => exact absurd rfl w8
end
end K59

set_option Elab.async false
set_option linter.all false
set_option maxRecDepth 100000
set_option maxHeartbeats 4000000
/-! desks: deeds, sayings -/
namespace K59
open PySem PySem.Spec PyProof.Rows L2 Evl He
theorem tMe_of {σ : K59.St} {H : Hp} {ta : TE} {t : TA} {C dx a : Addr} {m : Str} {sp : Sp} {E : XK} {fs : List (Str × V)} {Q : VK} (ha : Ev ta σ H (.ref a)) (hI : H a = some (.ins C dx fs)) (hm : fs.lookup m = none) (h : ∀ H1, Ex H H1 → t σ H1 fun vs H2 => sp (.ref a :: vs) H2 Q E) : tMe C m sp E ta t σ H Q :=
  ha H (Ex.refl H) _ fun H1 e1 => ⟨a, dx, fs, rfl, e1 _ _ hI, hm, h H1 e1⟩
theorem s_dropR {σ : K59.St} {H : Hp} {te : TE} {D : Ends} (h : te σ H fun _ H1 => D.nx σ H1) : tDrop te D σ H := h
/-- what is refused -/
inductive Rf where
  | noHand | idle | empty | noCard
deriving DecidableEq
def Rf.cls (K : PySem.W.Frag) : Rf → Value
  | .noHand => .ref (ga K "NoHand")
  | .idle => .ref (ga K "Idle")
  | .empty => .ref (ga K "Empty")
  | .noCard => .ref (ga K "NoCard")
def goR (s : NS) (i : Int) : Rf ⊕ NS := if inR s.n i = false then .inl .noHand else match mayGo (s.hd i.toNat), (s.hd i.toNat).held with
  | true, some c => .inr (goS s i.toNat c)
  | _, _ => .inl .idle
def stepR (s : NS) (i j : Int) : Rf ⊕ NS := if (inR s.n i && inR s.n j) = false then .inl .noHand else match stepS s i.toNat j.toNat with
  | some s' => .inr s'
  | none => .inl .empty
def comeR (s : NS) (c : Int) : Rf ⊕ NS := if comeB s c = true then .inr (addS s c) else .inl .noCard
/-- a deed's words -/
inductive Deed where
  | go (i : Int) | step (i j : Int) | come (c : Int)
def Deed.w : Deed → Str
  | .go _ => "go"
  | .step _ _ => "step"
  | .come _ => "come"
def Deed.ns : Deed → List Int
  | .go i => [i]
  | .step i j => [i, j]
  | .come c => [c]
def Deed.R (s : NS) : Deed → Rf ⊕ NS
  | .go i => goR s i
  | .step i j => stepR s i j
  | .come c => comeR s c
/-- what a net must be for deeds -/
structure DeedOk (s : NS) : Prop where
  sh : Short s 50000
  t : s.t < 50000
  lo : LOk s
  dn : s.done.length < 50000
  n : s.n ≤ 23
  fl : s.first.length ≤ 1000
  nl : s.now.length ≤ 1000
  go : ∀ i, i < s.n → mayGo (s.hd i) = true → i + 1 < s.n
  step : ∀ i j, laneOf s i j ≠ [] → ∃ s', stepS s i j = some s'
theorem mayGo_held {h : Hd} (g : mayGo h = true) : ∃ c, h.held = some c := by
  unfold mayGo at g
  cases e : h.held with
  | none => rw [e] at g; cases g
  | some c => exact ⟨c, rfl⟩
/-- the outcomes of a deed, told by the net's own methods' promises -/
def Outc (K : PySem.W.Frag) (A : Cl → Addr) (s : NS) (r : Rf ⊕ NS) (H : Hp) (Q : Hp → Prop) (E : XK) : Prop := match r with
  | .inl k => ∀ H2, Ex H H2 → E (k.cls K) none H2
  | .inr s' => ∀ (A' : Cl → Addr) H2, (∀ cl, Live s.n cl → A' cl = A cl) → (∀ cl, Live s'.n cl → ¬ Live s.n cl → H (A' cl) = none) → Kp (Foot A s.n) H H2 → NetAt K H2 A' s' → Q H2
section
variable {K : PySem.W.Frag} {A : Cl → Addr} {s : NS} {H : Hp} {Q : VK} {E : XK}
theorem go_sp {i : Int} (N : NetAt K H A s) (D : DeedOk s) (h : Outc K A s (goR s i) H (Q .non) E) : spNetGo K [.ref (A .net), .int i] H Q E := by
  refine ⟨A, s, i, rfl, N, D.sh, D.t, fun z => ?_, fun z1 z2 => ?_, fun z1 z2 => ?_⟩
  · unfold goR at h
    rw [if_pos z] at h
    exact h
  · unfold goR at h
    rw [if_neg (by rw [z1]; decide), z2] at h
    exact h
  · obtain ⟨j, rfl, hj⟩ := inR_nat z1
    refine ⟨D.go j hj z2, fun c H2 hc k n => ?_⟩
    unfold goR at h
    rw [if_neg (by rw [z1]; decide), z2, hc] at h
    have hn : (goS s ((j : Int)).toNat c).n = s.n := noteS_n _ _ _
    exact h A H2 (fun _ _ => rfl) (fun cl a b => absurd (by rw [hn] at a; exact a) b) k n
theorem step_sp {i j : Int} (N : NetAt K H A s) (D : DeedOk s) (h : Outc K A s (stepR s i j) H (Q .non) E) : spStep K [.ref (A .net), .int i, .int j] H Q E := by
  refine ⟨A, s, i, j, rfl, N, D.sh, D.t, D.lo, D.dn, fun z => ?_, fun z1 z2 => ?_, fun z1 z2 => ?_⟩
  · unfold stepR at h
    rw [if_pos z] at h
    exact h
  · unfold stepR at h
    have : stepS s i.toNat j.toNat = none := by
      unfold stepS
      rw [z2]
    rw [if_neg (by rw [z1]; decide), this] at h
    exact h
  · obtain ⟨s', hs'⟩ := D.step _ _ z2
    refine ⟨s', hs', fun H2 k n => ?_⟩
    unfold stepR at h
    rw [if_neg (by rw [z1]; decide), hs'] at h
    have hn := stepS_n hs'
    exact h A H2 (fun _ _ => rfl) (fun cl a b => absurd (by rw [hn] at a; exact a) b) k n
theorem come_sp {c : Int} (N : NetAt K H A s) (D : DeedOk s) (h : Outc K A s (comeR s c) H (Q .non) E) : spCome K [.ref (A .net), .int c] H Q E := by
  refine ⟨A, s, c, rfl, N, D.n, D.fl, D.nl, D.sh, D.t, fun z => ?_, fun z A' H2 a1 a2 a3 a4 => ?_⟩
  · unfold comeR at h
    rw [if_neg (by rw [z]; decide)] at h
    exact h
  · unfold comeR at h
    rw [if_pos z] at h
    exact h A' H2 a1 (fun cl a b => a2 cl (by rw [(addS_facts s c).1] at a; exact a) b) a3 a4
theorem Outc.ex {r : Rf ⊕ NS} {H' : Hp} {Q : Hp → Prop} (e : Ex H H') (h : Outc K A s r H Q E) : Outc K A s r H' Q E := by
  cases r with
  | inl k => exact fun H2 e2 => h H2 (e.trans e2)
  | inr s' => exact fun A' H2 a1 a2 a3 a4 => h A' H2 a1 (fun cl a b => fresh_back e (a2 cl a b)) ((Kp.of e).trans a3) a4
theorem Outc.imp {r : Rf ⊕ NS} {Q Q' : Hp → Prop} (h : Outc K A s r H Q E) (i : ∀ H2, Q H2 → Q' H2) : Outc K A s r H Q' E := by
  cases r with
  | inl k => exact h
  | inr s' => exact fun A' H2 a1 a2 a3 a4 => i H2 (h A' H2 a1 a2 a3 a4)
end
section
variable {P : Program} {w : World} {K : PySem.W.Frag} {mg : Str → Option Value} {base : Heap}
def spDeskInit (K : PySem.W.Frag) : Sp := fun vs H Q _ => ∃ d dx, vs = [.ref d] ∧ H d = some (.ins (ga K "Desk") dx []) ∧ ∀ H2, Kp (fun a => a = d) H H2 → H2 d = some (.ins (ga K "Desk") dx (deskF .non)) → Q .non H2
theorem ok_Desk_init (T : Txt w K mg) : FR P w K mg base 1 (ma K (ga K "Desk") "__init__") (spDeskInit K) := by
  refine okN T.f_Desk_init sc_Desk_init (fun _ _ _ _ _ _ us hl => match us, hl with | [_], _ => rfl) (fun vs H Q E h => by obtain ⟨_, _, rfl, _⟩ := h; rfl) fun cdv A0 outer s0 H vs Q E hr h => ?_
  obtain ⟨d, dx, rfl, hd, k⟩ := h
  refine ⟨_, (pss_one (ps_fld (pv 0) pe_non rfl)), ?_⟩
  refine s_fld (ev_var rfl) hd T.k_Desk T.n_Desk_net_there (Nat.le_of_ble_eq_true rfl) ed_n fun v1 H1 e1 hv1 => ?_
  cases hv1
  exact k _ ((Kp.of (S := fun a => a = d) e1).upd rfl) upd_same
def spDeed (K : PySem.W.Frag) : Sp := fun vs H Q E => ∃ (d dx : Addr) (A : Cl → Addr) (s : NS) (g : Deed) (v : V), vs = [.ref d, .str g.w, v] ∧ Dp K H v (.list (DI g.ns)) ∧ H d = some (.ins (ga K "Desk") dx (deskF (.ref (A .net)))) ∧ NetAt K H A s ∧ DeedOk s ∧ Outc K A s (g.R s) H (Q (.str "ok")) E
theorem ok_do_deed (T : Txt w K mg) : FR P w K mg base 6 (ma K (ga K "Desk") "do_deed") (spDeed K) := by
  have G_Net_go : FR P w K mg base 3 (ma K (ga K "Net") "go") (spNetGo K) := ok_Net_go T
  have G_Net_step : FR P w K mg base 4 (ma K (ga K "Net") "step") (spStep K) := ok_step T
  have G_Net_come : FR P w K mg base 5 (ma K (ga K "Net") "come") (spCome K) := ok_come T
  refine okX T.f_Desk_do_deed sc_Desk_do_deed (fun _ _ _ _ _ _ us hl => match us, hl with | [_, _, _], _ => rfl) (fun vs H Q E h => by obtain ⟨_, _, _, _, _, _, rfl, _⟩ := h; rfl) fun cdv A0 outer s0 H vs Q E hr h => ?_
  obtain ⟨d, dx, A, s, g, v, rfl, hv, hd, N, D, O⟩ := h
  have hx := hx_of (P := P) (w := w) (K := K) (mg := mg) (base := base) (N := N_Desk_do_deed) (qual := "Desk.do_deed") (scope := defScope s_Desk_do_deed) (f := ma K (ga K "Desk") "do_deed") (cdv := cdv) (A := A0) (outer := outer) (s := s0) (H := H) (E := E)
  refine ⟨_, (pss_cons (ps_if (pt_cmpR op_eq (pv 1) pe_str (nomark _)) (pss_one (ps_expr (me (pe_fld (pv 0) rfl) T.k_Net T.m_Net_go G_Net_go (hr.mono (by decide)) hx (pa_cons (pe_ix ix_list (pv 2) pe_int (fun _ _ => rfl)) pa_nil)))) (pss_one (ps_if (pt_cmpR op_eq (pv 1) pe_str (nomark _)) (pss_one (ps_expr (me (pe_fld (pv 0) rfl) T.k_Net T.m_Net_step G_Net_step (hr.mono (by decide)) hx (pa_cons (pe_ix ix_list (pv 2) pe_int (fun _ _ => rfl)) (pa_cons (pe_ix ix_list (pv 2) pe_int (fun _ _ => rfl)) pa_nil))))) (pss_one (ps_expr (me (pe_fld (pv 0) rfl) T.k_Net T.m_Net_come G_Net_come (hr.mono (by decide)) hx (pa_cons (pe_ix ix_list (pv 2) pe_int (fun _ _ => rfl)) pa_nil)))))))
      (pss_one (ps_ret pe_str))), ?_⟩
  cases g with
  | go i =>
    refine q_if (b := true) (et_to (et_db (K := K) (ed_op (ed_var rfl (.str _)) ed_s rd_eqS)) rfl) (fun _ H1 e1 => ?_) (fun z => by cases z)
    have N1 := N.ex e1
    obtain ⟨dxn, hn⟩ := N1.net
    refine s_dropR (tMe_of (ev_fld (K := K) (ta := tVar 0) (σ := L2.start N_Desk_do_deed [.ref d, .str "go", v]) (ev_var rfl) (e1 _ _ hd) T.k_Desk T.n_Desk_net_there rfl) hn rfl fun H2 e2 => ed_op (σ := L2.start N_Desk_do_deed [.ref d, .str "go", v]) (ed_var rfl (dp_ex (e1.trans e2) _ hv)) ed_i (rd_ixL (j := 0) rfl rfl) H2 (Ex.refl H2) _ fun u H3 e3 hu => ?_)
    cases hu
    unfold tNil
    dsimp only
    refine go_sp (((N1.ex e2)).ex e3) D ?_
    exact O.ex ((e1.trans e2).trans e3)
  | step i j =>
    refine q_if (b := false) (et_to (et_db (K := K) (ed_op (ed_var rfl (.str _)) ed_s rd_eqS)) rfl) (fun z => by cases z) (fun _ H1 e1 => ?_)
    refine s_if (b := true) (et_to (et_db (K := K) (ed_op (ed_var rfl (.str _)) ed_s rd_eqS)) rfl) (fun _ H1b e1b => ?_) (fun z => by cases z)
    have e1 := e1.trans e1b
    have N1 := N.ex e1
    obtain ⟨dxn, hn⟩ := N1.net
    have hv1 := dp_ex e1 _ hv
    refine s_dropR (tMe_of (ev_fld (K := K) (ta := tVar 0) (σ := L2.start N_Desk_do_deed [.ref d, .str "step", v]) (ev_var rfl) (e1 _ _ hd) T.k_Desk T.n_Desk_net_there rfl) hn rfl fun H2 e2 => ed_op (σ := L2.start N_Desk_do_deed [.ref d, .str "step", v]) (ed_var rfl (dp_ex e2 _ hv1)) ed_i (rd_ixL (j := 0) rfl rfl) H2 (Ex.refl H2) _ fun u H3 e3 hu =>
      ed_op (σ := L2.start N_Desk_do_deed [.ref d, .str "step", v]) (ed_var rfl (dp_ex (e2.trans e3) _ hv1)) ed_i (rd_ixL (j := 1) rfl rfl) H3 (Ex.refl H3) _ fun u2 H4 e4 hu2 => ?_)
    cases hu
    cases hu2
    unfold tNil
    dsimp only
    refine step_sp (((N1.ex e2)).ex (e3.trans e4)) D ?_
    exact O.ex ((e1.trans e2).trans (e3.trans e4))
  | come c =>
    refine q_if (b := false) (et_to (et_db (K := K) (ed_op (ed_var rfl (.str _)) ed_s rd_eqS)) rfl) (fun z => by cases z) (fun _ H1 e1 => ?_)
    refine s_if (b := false) (et_to (et_db (K := K) (ed_op (ed_var rfl (.str _)) ed_s rd_eqS)) rfl) (fun z => by cases z) (fun _ H1b e1b => ?_)
    have e1 := e1.trans e1b
    have N1 := N.ex e1
    obtain ⟨dxn, hn⟩ := N1.net
    refine s_dropR (tMe_of (ev_fld (K := K) (ta := tVar 0) (σ := L2.start N_Desk_do_deed [.ref d, .str "come", v]) (ev_var rfl) (e1 _ _ hd) T.k_Desk T.n_Desk_net_there rfl) hn rfl fun H2 e2 => ed_op (σ := L2.start N_Desk_do_deed [.ref d, .str "come", v]) (ed_var rfl (dp_ex (e1.trans e2) _ hv)) ed_i (rd_ixL (j := 0) rfl rfl) H2 (Ex.refl H2) _ fun u H3 e3 hu => ?_)
    cases hu
    unfold tNil
    dsimp only
    refine come_sp (((N1.ex e2)).ex e3) D ?_
    exact O.ex ((e1.trans e2).trans e3)
/-- a saying -/
def spSay (K : PySem.W.Frag) : Sp := fun vs H Q E => ∃ (d dx : Addr) (wd : Str) (ns : List Int) (x : V), vs = [.ref d, .str (rowT wd ns)] ∧ WordOk wd ns ∧ (∀ n ∈ ns, cardB n = true) ∧ ns.length ≤ 24 ∧ H d = some (.ins (ga K "Desk") dx (deskF x)) ∧
  ((wd = "net" ∧ RowOk ns ∧ ∀ (A' : Cl → Addr) H2, (∀ cl, Live ns.length cl → H (A' cl) = none) → Kp (fun a => a = d) H H2 → H2 d = some (.ins (ga K "Desk") dx (deskF (.ref (A' .net)))) → NetAt K H2 A' (initS ns) → Q (.str "ok") H2) ∨
   ∃ (A : Cl → Addr) (s : NS), x = .ref (A .net) ∧ NetAt K H A s ∧
    ((∃ g : Deed, wd = g.w ∧ ns = g.ns ∧ DeedOk s ∧ Outc K A s (g.R s) H (Q (.str "ok")) E) ∨
     (wd = "rest" ∧ ∃ b m s2, RestN b s m s2 ∧ m ≤ 999999999 ∧ ∀ H2, Kp (Foot A s.n) H H2 → NetAt K H2 A s2 → Q (.str (numT (m : Int))) H2) ∨
     (∃ t, GoodR s ∧ Ans s wd ns t ∧ ∀ H2, Ex H H2 → Q (.str t) H2)))
theorem deed_words (g : Deed) : g.w ∈ (["go", "step", "come"] : List Str) ∧ g.w ≠ "net" := by
  cases g <;> exact ⟨by simp [Deed.w], by simp only [Deed.w]; decide⟩
theorem ans_words {s : NS} {wd : Str} {ns : List Int} {t : Str} (h : Ans s wd ns t) : wd ∉ (["go", "step", "come"] : List Str) ∧ wd ≠ "net" := by
  cases h <;> decide
theorem ok_say (T : Txt w K mg) : FR P w K mg base 9 (ma K (ga K "Desk") "say") (spSay K) := by
  have G_words_of : FR P w K mg base 2 (ga K "words_of") (spD K R_words_of) := ok_words_of T
  have G_Net_init : FR P w K mg base 5 (ma K (ga K "Net") "__init__") (spNetInit K) := ok_Net_init T
  have G_Desk_do_deed : FR P w K mg base 6 (ma K (ga K "Desk") "do_deed") (spDeed K) := ok_do_deed T
  have G_Desk_answer : FR P w K mg base 8 (ma K (ga K "Desk") "answer") (spAns K) := ok_answer T
  refine okX T.f_Desk_say sc_Desk_say (fun _ _ _ _ _ _ us hl => match us, hl with | [_, _], _ => rfl) (fun vs H Q E h => by obtain ⟨_, _, _, _, _, rfl, _⟩ := h; rfl) fun cdv A0 outer s0 H vs Q E hr h => ?_
  obtain ⟨d, dx, wd, ns, x, rfl, hw, hc, hn, hd, h⟩ := h
  have hx := hx_of (P := P) (w := w) (K := K) (mg := mg) (base := base) (N := N_Desk_say) (qual := "Desk.say") (scope := defScope s_Desk_say) (f := ma K (ga K "Desk") "say") (cdv := cdv) (A := A0) (outer := outer) (s := s0) (H := H) (E := E)
  refine ⟨_, (pss_cons (ps_asg (cl G_words_of (hr.mono (by decide)) T.g_words_of psN (pa_cons (pv 1) pa_nil)) (pg_tup (by rfl) (pgs_cons (pg_name (i := 2) sc_Desk_say.nd rfl (Or.inl rfl)) (pgs_cons (pg_name (i := 3) sc_Desk_say.nd rfl (Or.inl rfl)) pgs_nil))))
      (pss_cons (ps_if (pt_cmpR op_eq (pv 2) pe_str (nomark _)) (pss_cons (ps_fld (pv 0) (mk T.mk_Net G_Net_init (hr.mono (by decide)) T.c_Net psN (pa_cons (pv 3) pa_nil)) rfl)
      (pss_one (ps_ret pe_str))) pss_nil)
      (pss_cons (ps_if (pt_cmpR op_isN (pe_fld (pv 0) rfl) pe_non (nomark _)) (pss_one ps_never) pss_nil)
      (pss_one (ps_ret (pe_ifExp (pt_cmpR op_in_seq (pv 2) (pe_tup (pa_cons pe_str (pa_cons pe_str (pa_cons pe_str pa_nil)))) (by rfl)) (me (pv 0) T.k_Desk T.m_Desk_do_deed G_Desk_do_deed (hr.mono (by decide)) hx (pa_cons (pv 2) (pa_cons (pv 3) pa_nil))) (me (pv 0) T.k_Desk T.m_Desk_answer G_Desk_answer (hr.mono (by decide)) psN (pa_cons (pv 2) (pa_cons (pv 3) pa_nil))))))))), ?_⟩
  refine q_asgG (ed_cl (R := R_words_of) (d := .tuple [.str wd, .list (DI ns)]) (es_cons (ed_var rfl (.str _)) es_nil) ⟨wd, ns, rfl, hw, hc, hn, rfl⟩) fun w0 H1 e1 hw0 => g_tup2 hw0 fun v1 v2 d1 d2 => ?_
  cases d1
  rcases h with ⟨rfl, R, k⟩ | ⟨A, s, rfl, N, h⟩
  · refine q_when (b := true) (et_to (et_db (K := K) (ed_op (ed_var rfl (.str _)) ed_s rd_eqS)) rfl) (fun _ H2 e2 => ?_) (fun z => by cases z)
    have d2' := dp_ex e2 _ d2
    have e12 := e1.trans e2
    refine ⟨v2, rfl, fun y dy hy hdy hne => ?_⟩
    have hd2 := e12 _ _ hd
    have hyd : y ≠ d := fun z => by rw [z, hd2] at hy; cases hy
    have hdd : dy ≠ d := fun z => by rw [z, hd2] at hdy; cases hdy
    have eX : Ex H2 (upd (upd H2 dy (.own y)) y (.ins (ga K "Net") dy [])) := fun a o ha => by
      rw [upd_ne (fun z => by rw [z, hy] at ha; cases ha), upd_ne (fun z => by rw [z, hdy] at ha; cases ha)]
      exact ha
    refine ⟨y, dy, v2, ns, rfl, upd_same, dp_ex eX _ d2', R, fun A' H3 hA hfr k3 n3 => ⟨rfl, _, rfl, d, ga K "Desk", dx, deskF x, rfl, ?_, T.k_Desk, T.n_Desk_net_there, Nat.le_of_ble_eq_true rfl, ?_⟩⟩
    · exact k3.st _ _ (eX _ _ hd2) fun z => hyd z.symm
    · have k03 : Kp (fun a => a = d) H H3 := ⟨fun a o ha hn => k3.st _ _ (eX _ _ (e12 _ _ ha)) (fun z => by rw [z, fresh_back e12 hy] at ha; cases ha), fun a ha => fresh_back (e12.trans eX) (k3.fr a ha)⟩
      have nd : ∀ cl, Live ns.length cl → H (A' cl) = none := fun cl hl => by
        by_cases q : cl = .net
        · rw [q, hA]
          exact fresh_back e12 hy
        · exact fresh_back (e12.trans eX) (hfr cl hl q)
      have n4 : NetAt K (upd H3 d (.ins (ga K "Desk") dx (deskF (.ref y)))) A' (initS ns) := n3.kp (S := fun a => a = d) (Kp.refl.upd rfl) (fun a ha f => by
        obtain ⟨cl, hcl, hz⟩ := f
        rw [(initS_facts ns).1] at hcl
        have h1 := nd cl hcl
        rw [hz, ha, hd] at h1
        cases h1) (ts_of fun xs r => by
          have h1 : H3 d = some (.ins (ga K "Desk") dx (deskF x)) := k3.st _ _ (eX _ _ hd2) fun z => hyd z.symm
          rcases r with r | ⟨ob, r⟩ <;> rw [h1] at r <;> cases r)
      refine k A' _ nd (k03.upd rfl) ?_ n4
      rw [upd_same, hA]
      rfl
  · have hne : wd ≠ "net" := by
      rcases h with ⟨g, rfl, _⟩ | ⟨rfl, _⟩ | ⟨t, _, an, _⟩
      · exact (deed_words g).2
      · decide
      · exact (ans_words an).2
    refine q_when (b := decide (wd = "net")) (et_db (K := K) (ed_op (ed_var rfl (.str _)) ed_s rd_eqS)) (fun z => absurd (of_decide_eq_true z) hne) fun _ H2 e2 => ?_
    have e12 := e1.trans e2
    refine q_when (b := decide (V.ref (A .net) = V.non)) (et_test (ev_op (ev_fld (K := K) (ta := tVar 0) (ev_var rfl) (e12 _ _ hd) T.k_Desk T.n_Desk_net_there rfl) ev_c (rv_val fun H1 _ Q q => ⟨rfl, q⟩))) (fun z => absurd (of_decide_eq_true z) fun h => nomatch h) fun _ H3 e3 => ?_
    have e13 := e12.trans e3
    have hin : EvD K (tOp (rIn K false) (tVar 2) (tTup (tCons (tC (.str "go")) (tCons (tC (.str "step")) (tCons (tC (.str "come")) tNil))))) (((L2.start N_Desk_say [.ref d, .str (rowT wd ns)]).set 2 (some (.str wd))).set 3 (some v2)) H3 (.bool (decide (wd ∈ (["go", "step", "come"] : List Str)))) :=
      ed_op (d2 := .tuple ((["go", "step", "come"] : List Str).map PyData.str)) (ed_var rfl (.str _)) (ed_tup (es_cons ed_s (es_cons ed_s (es_cons ed_s es_nil))) (Nat.le_of_ble_eq_true rfl)) rd_inTS
    refine et_db hin H3 (Ex.refl H3) _ fun H4 e4 => ?_
    have e14 := e13.trans e4
    have N4 := N.ex e14
    have hd4 := e14 _ _ hd
    have d24 := dp_ex ((e2.trans e3).trans e4) _ d2
    rcases h with ⟨g, rfl, rfl, D, O⟩ | ⟨rfl, b, m, s2, hR, hm, k⟩ | ⟨t, G, an, k⟩
    · rw [decide_eq_true (deed_words g).1]
      exact ⟨_, rfl, d, dx, _, rfl, hd4, rfl, ⟨_, rfl, _, rfl, d, dx, A, s, g, v2, rfl, d24, hd4, N4, D, O.ex e14⟩⟩
    · exact ⟨_, rfl, d, dx, _, rfl, hd4, rfl, ⟨_, rfl, _, rfl, d, dx, A, s, "rest", ns, v2, rfl, d24, hd4, N4, .inl ⟨rfl, b, m, s2, hR, hm, fun H5 k5 n5 => k H5 ((Kp.of e14).trans k5) n5⟩⟩⟩
    · rw [decide_eq_false (ans_words an).1]
      exact ⟨_, rfl, d, dx, _, rfl, hd4, rfl, ⟨_, rfl, _, rfl, d, dx, A, s, wd, ns, v2, rfl, d24, hd4, N4, .inr ⟨t, G, an, fun H5 e5 => k H5 (e14.trans e5)⟩⟩⟩
end
end K59

set_option Elab.async false
set_option linter.all false
set_option maxRecDepth 100000
set_option maxHeartbeats 4000000
set_option exponentiation.threshold 3000
/-! the law's dips -/
namespace K59
open PySem PySem.Spec PyProof.Rows L2 Evl He
def CPowW (a n : Int) : Prop := 0 ≤ n ∧ (Builtin.Int.intBits a : Int) * n ≤ 2 ^ 27
theorem op_powW {X : Cx} : OpR X (binaryOp .Pow) (rI CPowW fun i j => .int (i ^ j.toNat)) := opI fun _ _ _ _ _ _ _ hc q => pow_int hc.1 hc.2 q
theorem pow_ok {a n : Int} {k : Nat} (ha : a.natAbs < 2 ^ k) (h0 : 0 < k) (hk : k ≤ 1000) (hn : 0 ≤ n) (hn2 : n ≤ 100) : CPowW a n := by
  have hl := PySem.Flt.log2_lt_of h0 ha
  have hb : Builtin.Int.intBits a ≤ 1001 := by
    unfold Builtin.Int.intBits
    split <;> omega
  refine ⟨hn, ?_⟩
  have h1 : (Builtin.Int.intBits a : Int) * n ≤ 1001 * n := Int.mul_le_mul_of_nonneg_right (by omega) hn
  omega
def PotAt (H : Hp) (p : Addr) (m : Nat) : Prop := ∃ a b c : Int, H p = some (.lst [.int a, .int b, .int c]) ∧ 0 ≤ b ∧ b < 2 ^ 200 ∧ 0 ≤ c ∧ c ≤ (m : Int)
theorem PotAt.mono {H : Hp} {p : Addr} {m n : Nat} (h : PotAt H p m) (hn : m ≤ n) : PotAt H p n := by
  obtain ⟨a, b, c, h1, h2, h3, h4, h5⟩ := h
  exact ⟨a, b, c, h1, h2, h3, h4, by omega⟩
theorem PotAt.ex {H H' : Hp} {p : Addr} {m : Nat} (h : PotAt H p m) (e : Ex H H') : PotAt H' p m := by
  obtain ⟨a, b, c, h1, r⟩ := h
  exact ⟨a, b, c, e _ _ h1, r⟩
theorem PotAt.kp {S : Addr → Prop} {H H' : Hp} {p : Addr} {m : Nat} (h : PotAt H p m) (k : Kp S H H') (hp : ¬ S p) : PotAt H' p m := by
  obtain ⟨a, b, c, h1, r⟩ := h
  exact ⟨a, b, c, k.st _ _ h1 hp, r⟩
section
variable {P : Program} {w : World} {K : PySem.W.Frag} {mg : Str → Option Value} {base : Heap}
def spPot (K : PySem.W.Frag) : Sp := fun vs H Q _ => ∃ (a : Addr) (ns : List Int) (k : Nat), vs = [.ref a, .int (k : Int)] ∧ SqL K H a (ns.map V.int) ∧ k ≤ 100 ∧ ∀ p H2, H p = none → Ex H H2 → PotAt H2 p 0 → Q (.ref p) H2
theorem ok_pot (T : Txt w K mg) : FR P w K mg base 1 (ga K "_law_pot") (spPot K) := by
  refine okN T.f__law_pot sc__law_pot (fun _ _ _ _ _ _ us hl => match us, hl with | [_, _], _ => rfl) (fun vs H Q E h => by obtain ⟨_, _, _, rfl, _⟩ := h; rfl) fun cdv A0 outer s0 H vs Q E hr h => ?_
  obtain ⟨a, ns, k, rfl, hs, hk, kQ⟩ := h
  refine ⟨_, (pss_cons (ps_set (i := 2) sc__law_pot.nd rfl (Or.inl rfl) pe_int)
      (pss_cons (ps_if (pt_cmpR op_lt (pv 1) (pe_callB call_len_seq (by rfl) T.b_len bt_len (pa_cons (pv 0) pa_nil)) (nomark _)) (pss_one (ps_set (i := 2) sc__law_pot.nd rfl (Or.inl rfl) (pe_ix ix_list (pv 0) (pv 1) (fun _ _ => rfl)))) pss_nil)
      (pss_one (ps_ret (pe_lst (pa_cons (pe_callB (call_max2 rfl) (by rfl) T.b_max bt_max (pa_cons pe_int (pa_cons (pe_op op_sub (pv 2) (pe_op op_powW pe_int pe_int)) pa_nil))) (pa_cons (pe_op op_add (pe_op op_add (pe_op op_mulW (pe_op op_mod (pv 2) (pe_op op_add (pe_op op_powW pe_int pe_int) pe_int)) pe_int) (pe_op op_mulW pe_int (pv 1))) pe_int) (pa_cons pe_int pa_nil)))))))), ?_⟩
  refine q_asg ev_c fun H1 e1 => ?_
  have hl := ev_len (K := K) (ta := tVar 0) (σ := (L2.start N__law_pot [.ref a, .int k]).set 2 (some (.int 0))) (ev_var rfl) (ex_l e1 hs)
  have cell : ∃ c : Int, ∀ {D : Ends} {tz : L2.TS}, (∀ H2, Ex H1 H2 → tz D ((L2.start N__law_pot [.ref a, .int k]).set 2 (some (.int c))) H2) → tSeq (tIfS (tTest (tOp (rI0 fun i j => .bl (decide (i < j))) (tVar 1) (tCB (rLenS K) (tCons (tVar 0) tNil)))) (tAsg (tOp (rIxL K) (tVar 0) (tVar 1)) (gName 2)) tNext) tz D ((L2.start N__law_pot [.ref a, .int k]).set 2 (some (.int 0))) H1 := by
    by_cases hlt : k < ns.length
    · obtain ⟨c, hc⟩ : ∃ c, ns[k]? = some c := ⟨ns[k], by simp [hlt]⟩
      refine ⟨c, fun {D tz} hz => q_when (b := true) (et_is (et_test (ev_op (ev_var rfl) hl rv_I0)) (decide_eq_true (by rw [List.length_map]; omega))) (fun _ H2 e2 => ?_) (fun z => by cases z)⟩
      exact s_asg (ev_op (ev_var rfl) (ev_var rfl) (rv_ixL (ex_l (e1.trans e2) hs) (atI_nat (show (ns.map V.int)[k]? = some (.int c) by rw [List.getElem?_map, hc] <;> rfl)))) fun H3 e3 => hz H3 (e2.trans e3)
    · exact ⟨0, fun {D tz} hz => q_when (b := false) (et_is (et_test (ev_op (ev_var rfl) hl rv_I0)) (decide_eq_false (by rw [List.length_map]; omega))) (fun z => by cases z) (fun _ H2 e2 => hz H2 e2)⟩
  obtain ⟨c, hcell⟩ := cell
  refine hcell fun H2 e2 => ?_
  have pw : ∀ {σ : K59.St} {H : Hp} {n : Int}, 0 ≤ n → n ≤ 100 → Ev (tOp (rI CPowW fun i j => .int (i ^ j.toNat)) (tC (.int 10)) (tC (.int n))) σ H (.int ((10 : Int) ^ n.toNat)) := fun h0 h1 => ev_op ev_c ev_c (rv_I (pow_ok (k := 4) (by decide) (by decide) (by decide) h0 h1))
  have hm : (0 : Int) < (10 : Int) ^ (44 : Int).toNat + 57 := by decide
  have b0 := Int.emod_nonneg c (Int.ne_of_gt hm)
  have b1 := Int.emod_lt_of_pos c hm
  have b2 : (10 : Int) ^ (44 : Int).toNat + 57 < 2 ^ 150 := by decide
  generalize hM : (10 : Int) ^ (44 : Int).toNat + 57 = M at hm b0 b1 b2
  have hmod : c % M < 2 ^ 150 := by omega
  refine s_retL (xs := [.int (if c - (10 : Int) ^ (18 : Int).toNat > 0 then c - (10 : Int) ^ (18 : Int).toNat else 0), .int (c % M * 512 + 3 * (k : Int) + 2), .int 0]) (el_lst (ea_cons (ev_max2 ev_c (ev_op (ev_var rfl) (pw (by decide) (by decide)) rv_I0)) (ea_cons ?_ (ea_cons ev_c ea_nil))) (Nat.le_of_ble_eq_true rfl)) fun p H3 hp e3 h3 => kQ p H3 (fresh_back (e1.trans e2) hp) ((e1.trans e2).trans e3) ⟨_, _, _, h3, by omega, ?_, Int.le_refl _, Int.le_refl _⟩
  · refine ev_op (ev_op (ev_op (ev_op (ev_var rfl) (ev_is (ev_op (pw (n := 44) (by decide) (by decide)) ev_c rv_I0) (congrArg V.int hM)) (rv_I hm)) ev_c (rv_I (wide_mul (a := 151) (b := 11) ?_ (by decide) (by decide) (by decide) (by decide)))) (ev_op ev_c (ev_var rfl) (rv_I (wide_mul (a := 3) (b := 8) (by decide) ?_ (by decide) (by decide) (by decide)))) rv_I0) ev_c rv_I0
    · have : (2 : Int) ^ 150 = ((2 ^ 150 : Nat) : Int) := by decide
      have h2 : (2 : Nat) ^ 150 ≤ 2 ^ 151 := by decide
      omega
    · rw [Int.natAbs_natCast]
      have : (2 : Nat) ^ 8 = 256 := by decide
      omega
  · have h1 : (2 : Int) ^ 200 = 2 ^ 150 * 2 ^ 50 := by decide
    have h2 : (2 : Int) ^ 50 = 1125899906842624 := by decide
    rw [h1, h2]
    have h3 : (0 : Int) < 2 ^ 150 := by decide
    omega
def spDip (K : PySem.W.Frag) : Sp := fun vs H Q _ => ∃ (p : Addr) (many : Int) (m : Nat), vs = [.ref p, .int many] ∧ 1 ≤ many ∧ many < 2 ^ 40 ∧ PotAt H p m ∧ m ≤ 1000000 ∧ ∀ r H2, 0 ≤ r → r < many → Kp (fun a => a = p) H H2 → PotAt H2 p (m + 1) → Q (.int r) H2
theorem ok_dip (T : Txt w K mg) : FR P w K mg base 1 (ga K "_law_dip") (spDip K) := by
  refine okN T.f__law_dip sc__law_dip (fun _ _ _ _ _ _ us hl => match us, hl with | [_, _], _ => rfl) (fun vs H Q E h => by obtain ⟨_, _, _, rfl, _⟩ := h; rfl) fun cdv A0 outer s0 H vs Q E hr h => ?_
  obtain ⟨p, many, m, rfl, h1, h2, ⟨a, b, c, hp, b0, b1, c0, c1⟩, hm, k⟩ := h
  refine ⟨_, (pss_cons (ps_if (pt_cmpR op_gt (pe_ix ix_list (pv 0) pe_int (fun _ _ => rfl)) pe_int (nomark _)) (pss_cons (ps_set (i := 2) sc__law_dip.nd rfl (Or.inl rfl) (pe_op op_mod (pe_ix ix_list (pv 0) pe_int (fun _ _ => rfl)) (pv 1)))
      (pss_cons (ps_asg (pe_op op_fdivW (pe_ix ix_list (pv 0) pe_int (fun _ _ => rfl)) (pv 1)) (pg_sub (pv 0) pe_int set_list))
      (pss_one (ps_ret (pv 2))))) pss_nil)
      (pss_cons (ps_asg (pe_op op_add (pe_ix ix_list (pv 0) pe_int (fun _ _ => rfl)) pe_int) (pg_sub (pv 0) pe_int set_list))
      (pss_cons (ps_set (i := 3) sc__law_dip.nd rfl (Or.inl rfl) (pe_op op_mod (pe_op op_powW (pe_op op_add (pe_ix ix_list (pv 0) pe_int (fun _ _ => rfl)) (pe_op op_mulW pe_int (pe_ix ix_list (pv 0) pe_int (fun _ _ => rfl)))) pe_int) (pe_op op_add (pe_op op_powW pe_int pe_int) pe_int)))
      (pss_cons (ps_set (i := 3) sc__law_dip.nd rfl (Or.inl rfl) (pe_op op_mod (pe_op op_powW (pe_op op_add (pv 3) (pe_op op_mulW pe_int (pe_ix ix_list (pv 0) pe_int (fun _ _ => rfl)))) pe_int) (pe_op op_add (pe_op op_powW pe_int pe_int) pe_int)))
      (pss_one (ps_ret (pe_op op_mod (pe_op op_fdivW (pv 3) pe_int) (pv 1)))))))), ?_⟩
  have ix : ∀ {σ : K59.St} {H1 : Hp} {xs : List V} {i : Nat} {v : V}, σ[0]? = some (some (.ref p)) → H1 p = some (.lst xs) → xs[i]? = some v → Ev (tOp (rIxL K) (tVar 0) (tC (.int (i : Int)))) σ H1 v := fun hσ h hv => ev_op (ev_var hσ) ev_c (rv_ixL (sq_of h) (atI_nat hv))
  refine q_when (b := decide (a > 0)) (et_test (ev_op (ix (i := 0) rfl hp rfl) ev_c rv_I0)) (fun z H1 e1 => ?_) fun z H1 e1 => ?_
  · have hp1 := e1 _ _ hp
    refine q_asg (ev_op (ix (i := 0) rfl hp1 rfl) (ev_var rfl) (rv_I (show 0 < many by omega))) fun H2 e2 => ?_
    have hp2 := e2 _ _ hp1
    refine q_setL (j := 0) hp2 (ev_op (ix (i := 0) rfl hp2 rfl) (ev_var rfl) (rv_I (wide_div (b := 41) (show 0 < many by omega) (by
      have : (2 : Int) ^ 40 = 1099511627776 := by decide
      have : (2 : Nat) ^ 41 = 2199023255552 := by decide
      omega) (by decide) (by decide)))) (ev_var rfl) ev_c (by simp) fun H3 e3 => ?_
    refine s_ret (ev_var rfl) fun H4 e4 => ?_
    have kp : Kp (fun a => a = p) H (upd H3 p (.lst ([.int a, .int b, .int c].set 0 (.int (a / many))))) := (((Kp.of (S := fun a => a = p) e1).trans (Kp.of e2)).trans (Kp.of e3)).upd rfl
    exact k _ H4 (Int.emod_nonneg a (by omega)) (Int.emod_lt_of_pos a (by omega)) (kp.trans (Kp.of e4)) ⟨_, b, c, e4 _ _ upd_same, b0, b1, c0, by omega⟩
  · have hp1 := e1 _ _ hp
    refine q_setL (j := 2) hp1 (ev_op (ix (i := 2) rfl hp1 rfl) ev_c rv_I0) (ev_var rfl) ev_c (by simp) fun H2 e2 => ?_
    have hp2 : (upd H2 p (.lst ([.int a, .int b, .int c].set 2 (.int (c + 1))))) p = some (.lst [.int a, .int b, .int (c + 1)]) := upd_same
    have kp2 : Kp (fun a => a = p) H (upd H2 p (.lst ([.int a, .int b, .int c].set 2 (.int (c + 1))))) := ((Kp.of (S := fun a => a = p) e1).trans (Kp.of e2)).upd rfl
    generalize upd H2 p (.lst ([.int a, .int b, .int c].set 2 (.int (c + 1)))) = H3 at hp2 kp2
    have pw : ∀ {σ : K59.St} {H : Hp} {n : Int}, 0 ≤ n → n ≤ 100 → Ev (tOp (rI CPowW fun i j => .int (i ^ j.toNat)) (tC (.int 10)) (tC (.int n))) σ H (.int ((10 : Int) ^ n.toNat)) := fun h0 h1 => ev_op ev_c ev_c (rv_I (pow_ok (k := 4) (by decide) (by decide) (by decide) h0 h1))
    have hM1 : (0 : Int) < (10 : Int) ^ (41 : Int).toNat + 37 := by decide
    have hM2 : (0 : Int) < (10 : Int) ^ (42 : Int).toNat + 63 := by decide
    have hM1b : (10 : Int) ^ (41 : Int).toNat + 37 < 2 ^ 200 := by decide
    have hM2b : (10 : Int) ^ (42 : Int).toNat + 63 < 2 ^ 200 := by decide
    generalize hMM1 : (10 : Int) ^ (41 : Int).toNat + 37 = M1 at hM1 hM1b
    generalize hMM2 : (10 : Int) ^ (42 : Int).toNat + 63 = M2 at hM2 hM2b
    have t200 : (2 : Int) ^ 200 = ((2 ^ 200 : Nat) : Int) := by decide
    have hbig : (2 : Nat) ^ 200 + 2 ^ 80 ≤ 2 ^ 201 := by decide
    have t80 : (2 : Nat) ^ 80 = 1208925819614629174706176 := by decide
    have t30 : (2 : Nat) ^ 30 = 1073741824 := by decide
    have t21 : (2 : Nat) ^ 21 = 2097152 := by decide
    have mulc : ∀ f : Int, 0 ≤ f → f ≤ 1000000000 → CMulW f (c + 1) := fun f f0 f1 => wide_mul (a := 30) (b := 21) (by omega) (by omega) (by decide) (by decide) (by decide)
    have small : ∀ (y f : Int), 0 ≤ y → y < 2 ^ 200 → 0 ≤ f → f ≤ 1000000000 → (y + f * (c + 1)).natAbs < 2 ^ 201 := fun y f y0 y1 f0 f1 => by
      have g0 : 0 ≤ f * (c + 1) := Int.mul_nonneg f0 (by omega)
      have g1 : f * (c + 1) ≤ 1000000000 * (c + 1) := Int.mul_le_mul_of_nonneg_right f1 (by omega)
      omega
    refine q_asg (v := .int ((b + 433494437 * (c + 1)) ^ (3 : Int).toNat % M1)) (ev_op (ev_op (ev_op (ix (i := 1) rfl hp2 rfl) (ev_op ev_c (ix (i := 2) rfl hp2 rfl) (rv_I (mulc _ (by decide) (by decide)))) rv_I0) ev_c (rv_I (pow_ok (k := 201) (small b 433494437 b0 b1 (by decide) (by decide)) (by decide) (by decide) (by decide) (by decide)))) (ev_is (ev_op (pw (n := 41) (by decide) (by decide)) ev_c rv_I0) (congrArg V.int hMM1)) (rv_I hM1)) fun H4 e4 => ?_
    have hp4 := e4 _ _ hp2
    have x0 := Int.emod_nonneg ((b + 433494437 * (c + 1)) ^ (3 : Int).toNat) (Int.ne_of_gt hM1)
    have x1 := Int.emod_lt_of_pos ((b + 433494437 * (c + 1)) ^ (3 : Int).toNat) hM1
    generalize (b + 433494437 * (c + 1)) ^ (3 : Int).toNat % M1 = x at x0 x1
    refine q_asg (v := .int ((x + 971215073 * (c + 1)) ^ (5 : Int).toNat % M2)) (ev_op (ev_op (ev_op (ev_var rfl) (ev_op ev_c (ix (i := 2) rfl hp4 rfl) (rv_I (mulc _ (by decide) (by decide)))) rv_I0) ev_c (rv_I (pow_ok (k := 201) (small x 971215073 x0 (by omega) (by decide) (by decide)) (by decide) (by decide) (by decide) (by decide)))) (ev_is (ev_op (pw (n := 42) (by decide) (by decide)) ev_c rv_I0) (congrArg V.int hMM2)) (rv_I hM2)) fun H5 e5 => ?_
    have hp5 := e5 _ _ hp4
    generalize (x + 971215073 * (c + 1)) ^ (5 : Int).toNat % M2 = y
    refine s_ret (ev_op (ev_op (ev_var rfl) ev_c (rv_I (wide_div (b := 18) (by decide) (by decide) (by decide) (by decide)))) (ev_var rfl) (rv_I (show 0 < many by omega))) fun H6 e6 => ?_
    exact k _ H6 (Int.emod_nonneg _ (by omega)) (Int.emod_lt_of_pos _ (by omega)) ((kp2.trans (Kp.of (e4.trans e5))).trans (Kp.of e6)) ⟨a, b, c + 1, e6 _ _ hp5, b0, b1, by omega, by omega⟩
end
end K59

set_option Elab.async false
set_option linter.all false
set_option maxRecDepth 100000
set_option maxHeartbeats 4000000
/-! the law's rows -/
namespace K59
open PySem PySem.Spec PyProof.Rows L2 Evl He
section
variable {P : Program} {w : World} {K : PySem.W.Frag} {mg : Str → Option Value} {base : Heap}
section
variable {σ : K59.St} {H : Hp} {t0 tm ta tb : TE} {p : Addr} {many : Int} {m : Nat} {Q : VK}
theorem dipR (h0 : Ev t0 σ H (.ref p)) (h1 : Ev tm σ H (.int many)) (l1 : 1 ≤ many) (l2 : many < 2 ^ 40) (hp : PotAt H p m) (hm : m ≤ 1000000) (k : ∀ r H2, 0 ≤ r → r < many → Kp (fun a => a = p) H H2 → PotAt H2 p (m + 1) → Q (.int r) H2) : tCl (spDip K) E0 (tCons t0 (tCons tm tNil)) σ H Q :=
  h0 H (Ex.refl H) _ fun H1 e1 => h1 H1 e1 _ fun H2 e2 => ⟨p, many, m, rfl, l1, l2, hp.ex (e1.trans e2), hm, fun r H3 a b c d => k r H3 a b ((Kp.of (e1.trans e2)).trans c) d⟩
theorem lst_R {t : TA} (h : t σ H fun vs H1 => vs.length ≤ sizeLine ∧ ∀ p, H1 p = none → Q (.ref p) (upd H1 p (.lst vs))) : tLst t σ H Q := h
theorem cons_R {tr : TA} {Q : List V → Hp → Prop} (h : ta σ H fun x H1 => tr σ H1 fun vs H2 => Q (x :: vs) H2) : tCons ta tr σ H Q := h
theorem op_R {r : R2} (h : ta σ H fun x H1 => tb σ H1 fun y H2 => r x y H2 Q) : tOp r ta tb σ H Q := h
theorem c_R {v : V} (h : Q v H) : tC v σ H Q := h
theorem nil_R {Q : List V → Hp → Prop} (h : Q [] H) : tNil σ H Q := h
theorem var_R {i : Nat} {v : V} (h : σ[i]? = some (some v)) (q : Q v H) : tVar i σ H Q := ⟨v, h, q⟩
theorem ev_R {v : V} (h : Ev ta σ H v) (q : ∀ H1, Ex H H1 → Q v H1) : ta σ H Q := h H (Ex.refl H) _ q
theorem ret_R {D : Ends} (h : ta σ H D.rt) : tRet ta D σ H := h
theorem ixL_R {a : Addr} {xs : List V} {i : Int} {v : V} (h : SqL K H a xs) (hi : atI xs i = some v) (q : Q v H) : rIxL K (.ref a) (.int i) H Q := ⟨a, xs, i, v, rfl, rfl, h, hi, q⟩
theorem cl_R {sp : Sp} {E : XK} {t : TA} (h : t σ H fun vs H1 => sp vs H1 Q E) : tCl sp E t σ H Q := h
theorem app_R {l : Addr} {xs : List V} {e : TE} {D : Ends} (hl : H l = some (.lst xs)) (ha : Ev ta σ H (.ref l)) (h : ∀ H1, Ex H H1 → e σ H1 fun v H2 => rAppend (.ref l) [v] H2 fun _ H3 => D.nx σ H3) : tDrop (tBM K "list" rAppend ta (tCons e tNil)) D σ H :=
  ha H (Ex.refl H) _ fun H1 e1 => ⟨.inl ⟨rfl, xs, sq_of (e1 _ _ hl)⟩, h H1 e1⟩
theorem sz3 : (3 : Nat) ≤ sizeLine := by decide
theorem sz2 : (2 : Nat) ≤ sizeLine := by decide
theorem sz1 : (1 : Nat) ≤ sizeLine := by decide
theorem pick2 {α : Type} {x y : α} {r : Int} (h0 : 0 ≤ r) (h1 : r < 2) : ∃ v, atI [x, y] r = some v ∧ (v = x ∨ v = y) := by
  have : r = 0 ∨ r = 1 := by omega
  rcases this with rfl | rfl
  · exact ⟨x, rfl, .inl rfl⟩
  · exact ⟨y, rfl, .inr rfl⟩
theorem pick3 {α : Type} {x y z : α} {r : Int} (h0 : 0 ≤ r) (h1 : r < 3) : ∃ v, atI [x, y, z] r = some v ∧ (v = x ∨ v = y ∨ v = z) := by
  have : r = 0 ∨ r = 1 ∨ r = 2 := by omega
  rcases this with rfl | rfl | rfl
  · exact ⟨x, rfl, .inl rfl⟩
  · exact ⟨y, rfl, .inr (.inl rfl)⟩
  · exact ⟨z, rfl, .inr (.inr rfl)⟩
end
theorem kp_ex {S : Addr → Prop} {H H1 H2 : Hp} (k : Kp S H H1) (e : Ex H1 H2) : Kp S H H2 := k.trans (Kp.of e)
def spCards (K : PySem.W.Frag) : Sp := fun vs H Q _ => ∃ (p : Addr) (many : Nat) (m : Nat), vs = [.ref p, .int (many : Int)] ∧ 1 ≤ many ∧ many ≤ 7 ∧ PotAt H p m ∧ m ≤ 900000 ∧ ∀ (q : Addr) (ns : List Int) (H2 : Hp), H q = none → Kp (fun a => a = p) H H2 → PotAt H2 p (m + 20) → H2 q = some (.lst (ns.map V.int)) → ns.length = many → (∀ x ∈ ns, cardB x = true) → ns.Pairwise (· < ·) → Q (.ref q) H2
theorem ok_law_cards (T : Txt w K mg) : FR P w K mg base 2 (ga K "_law_cards") (spCards K) := by
  have G__law_dip : FR P w K mg base 1 (ga K "_law_dip") (spDip K) := ok_dip T
  refine okN T.f__law_cards sc__law_cards (fun _ _ _ _ _ _ us hl => match us, hl with | [_, _], _ => rfl) (fun vs H Q E h => by obtain ⟨_, _, _, rfl, _⟩ := h; rfl) fun cdv A0 outer s0 H vs Q E hr h => ?_
  obtain ⟨p, many, m, rfl, h1, h7, hp, hm, k⟩ := h
  refine ⟨_, (pss_cons (ps_set (i := 2) sc__law_cards.nd rfl (Or.inl rfl) (pe_ix ix_list (pe_lst (pa_cons pe_int (pa_cons pe_int (pa_cons pe_int pa_nil)))) (cl G__law_dip (hr.mono (by decide)) T.g__law_dip psN (pa_cons (pv 0) (pa_cons pe_int pa_nil))) (fun _ _ => rfl)))
      (pss_cons (ps_set (i := 3) sc__law_cards.nd rfl (Or.inl rfl) (pe_lst (pa_cons (pe_ix ix_list (pe_lst (pa_cons pe_int (pa_cons (cl G__law_dip (hr.mono (by decide)) T.g__law_dip psN (pa_cons (pv 0) (pa_cons pe_int pa_nil))) pa_nil))) (cl G__law_dip (hr.mono (by decide)) T.g__law_dip psN (pa_cons (pv 0) (pa_cons pe_int pa_nil))) (fun _ _ => rfl)) pa_nil)))
      (pss_cons (ps_while PassesOwn.never (pt_cmpR op_lt (pe_callB call_len_seq (by rfl) T.b_len bt_len (pa_cons (pv 3) pa_nil)) (pv 1) (nomark _)) (pss_one (ps_expr (pe_bm PySem.F.plainAttrs_list PySem.F.slot_list_append PySem.F.type_list_append mt_append (pv 3) (pa_cons (pe_op op_add (pe_op op_add (pe_ix ix_list (pv 3) (pe_un un_neg pe_int) (fun _ _ => rfl)) pe_int) (cl G__law_dip (hr.mono (by decide)) T.g__law_dip psN (pa_cons (pv 0) (pa_cons (pv 2) pa_nil)))) pa_nil)))))
      (pss_cons (ps_set (i := 4) sc__law_cards.nd rfl (Or.inr rfl) (pe_ix ix_list (pe_lst (pa_cons pe_int (pa_cons pe_int (pa_cons (pe_op op_sub pe_int (pe_ix ix_list (pv 3) (pe_un un_neg pe_int) (fun _ _ => rfl))) pa_nil)))) (cl G__law_dip (hr.mono (by decide)) T.g__law_dip psN (pa_cons (pv 0) (pa_cons pe_int pa_nil))) (fun _ _ => rfl)))
      (pss_one (ps_ret (pe_lc (own := [("_law_card", 5)]) (g := (gName 5)) (tt := tYes) rfl sc__law_cards.nd (pi_list (pv 3)) (blkOk_by (own := [("_law_card", 5)]) (N := N__law_cards) (sc := defScope s__law_cards) (by decide +kernel)) (fun _ _ _ _ _ => (pg_name (i := 5) sc__law_cards.nd rfl (Or.inl rfl))) (fun _ _ _ _ _ => pts_nil) (fun _ _ _ _ _ => (pe_op op_add (pv 5) (pv 4)))))))))), ?_⟩
  have pne : ∀ {H : Hp} {m : Nat} {q : Addr}, PotAt H p m → H q = none → q ≠ p := fun {H m q} hp hq z => by
    obtain ⟨_, _, _, h, _⟩ := hp
    rw [z, h] at hq
    cases hq
  -- wide
  refine q_asgR (op_R (lst_R (cons_R (c_R (cons_R (c_R (cons_R (c_R (nil_R ⟨sz3, fun q0 hq0 => dipR (ev_var rfl) ev_c (by decide) (by decide) (hp.ex (Ex.new hq0)) (by omega) fun r H2 r0 r1 k2 hp2 => ?_⟩)))))))))
  obtain ⟨wv, hwv, hw3⟩ := pick3 (x := V.int 1) (y := V.int 9) (z := V.int 30000000) r0 r1
  obtain ⟨wide, rfl, w0, w1⟩ : ∃ wide : Int, wv = .int wide ∧ 1 ≤ wide ∧ wide ≤ 30000000 := by
    rcases hw3 with rfl | rfl | rfl <;> exact ⟨_, rfl, by decide, by decide⟩
  refine ixL_R (sq_of (k2.st _ _ upd_same (pne hp hq0))) hwv ?_
  have w40 : wide < 2 ^ 40 := by
    have : (2 : Int) ^ 40 = 1099511627776 := by decide
    omega
  have kA : Kp (fun a => a = p) H H2 := (Kp.of (Ex.new hq0)).trans k2
  -- found
  refine q_asgR (lst_R (cons_R (op_R (lst_R (cons_R (c_R (cons_R (dipR (ev_var rfl) ev_c (by decide) (by decide) hp2 (by omega) fun r2 H3 r20 r21 k3 hp3 => nil_R ⟨sz2, fun q1 hq1 => dipR (ev_var rfl) ev_c (by decide) (by decide) (hp3.ex (Ex.new hq1)) (by omega) fun r3 H4 r30 r31 k4 hp4 => ?_⟩))))))))
  obtain ⟨fv, hfv, hf2⟩ := pick2 (x := V.int 0) (y := V.int r2) r30 r31
  obtain ⟨f0, rfl, f00, f01⟩ : ∃ f0 : Int, fv = .int f0 ∧ 0 ≤ f0 ∧ f0 ≤ 200000000 := by
    rcases hf2 with rfl | rfl
    · exact ⟨_, rfl, by decide, by decide⟩
    · exact ⟨_, rfl, r20, by omega⟩
  refine ixL_R (sq_of (k4.st _ _ upd_same (pne hp3 hq1))) hfv (nil_R ⟨sz1, fun l hl => ?_⟩)
  have kB : Kp (fun a => a = p) H H4 := ((kA.trans k3).trans (Kp.of (Ex.new hq1))).trans k4
  have lp : l ≠ p := pne hp4 hl
  have nl : H l = none := kB.fr _ hl
  refine q_while (fun b σ' H' => ∃ (ns : List Int) (x : Int) (m' : Nat), σ' = [some (.ref p), some (.int (many : Int)), some (.int wide), some (.ref l), none, none] ∧ b + (ns.length + 1) = many ∧ H' l = some (.lst ((ns ++ [x]).map V.int)) ∧ (∀ y ∈ ns, 0 ≤ y ∧ y < x) ∧ ns.Pairwise (· < ·) ∧ 0 ≤ x ∧ x ≤ 200000000 + 30000000 * (ns.length : Int) ∧ Kp (fun a => a = p) H H' ∧ PotAt H' p m' ∧ m' ≤ m + 3 + ns.length)
    (many - 1) ⟨[], f0, m + 3, rfl, by simp; omega, upd_same, by simp, List.Pairwise.nil, f00, by simpa using f01, kB.new nl, hp4.ex (Ex.new hl), Nat.le_refl _⟩ ?_
  rintro b σ' H' ⟨ns, x, m', rfl, hb, hL, hns, hpw, x0, x1, kp, hpm, hm'⟩
  have lenE : EvD K (tCB (rLenS K) (tCons (tVar 3) tNil)) [some (.ref p), some (.int (many : Int)), some (.int wide), some (.ref l), none, none] H' (.int ((ns.length + 1 : Nat) : Int)) := ed_to (ed_len (ds := DI (ns ++ [x])) (ed_var rfl (.lst (sq_of hL) (ints_da _)))) (by simp [DI])
  refine ⟨decide (((ns.length + 1 : Nat) : Int) < (many : Int)), et_db (ed_op lenE (ed_var rfl (.int _)) rd_B0), fun hlt H5 e5 => ?_, fun hlt H5 e5 => ?_⟩
  · have hlt := of_decide_eq_true hlt
    refine ⟨fun σ' H' => ∃ (ns : List Int) (x : Int) (m' : Nat), σ' = [some (.ref p), some (.int (many : Int)), some (.int wide), some (.ref l), none, none] ∧ (b - 1) + (ns.length + 1) = many ∧ H' l = some (.lst ((ns ++ [x]).map V.int)) ∧ (∀ y ∈ ns, 0 ≤ y ∧ y < x) ∧ ns.Pairwise (· < ·) ∧ 0 ≤ x ∧ x ≤ 200000000 + 30000000 * (ns.length : Int) ∧ Kp (fun a => a = p) H H' ∧ PotAt H' p m' ∧ m' ≤ m + 3 + ns.length, fun σ2 H2 h => ⟨b - 1, by omega, h⟩, ?_⟩
    have hL5 := e5 _ _ hL
    refine app_R hL5 (ev_var rfl) fun H6 e6 => op_R (op_R (op_R (var_R rfl (ev_R (ev_un ev_c ru_neg) fun H7 e7 => ixL_R (sq_of ((e6.trans e7) _ _ hL5)) (by rw [List.map_append]; exact atI_last _ _) (c_R ⟨x, 1, rfl, rfl, dipR (ev_var rfl) (ev_var rfl) w0 w40 (hpm.ex ((e5.trans e6).trans e7)) (by omega) fun r H8 r0 r1 k8 hp8 => ⟨x + 1, r, rfl, rfl, ?_⟩⟩)))))
    have hL8 : H8 l = some (.lst ((ns ++ [x]).map V.int)) := k8.st _ _ ((e6.trans e7) _ _ hL5) lp
    refine ⟨l, _, _, rfl, rfl, hL8, sz_lt (by simp; omega), ns ++ [x], x + 1 + r, m' + 1, rfl, by simp; omega, by rw [upd_same]; simp, fun y hy => ?_, ?_, by omega, by simp; omega, (((kp.trans (Kp.of ((e5.trans e6).trans e7))).trans k8).new nl), hp8.kp (S := fun a => a = l) (Kp.refl.upd rfl) (fun z => lp z.symm), by simp; omega⟩
    · rcases List.mem_append.mp hy with hy | hy
      · have := hns y hy
        omega
      · rw [List.mem_singleton.mp hy]
        omega
    · refine List.pairwise_append.mpr ⟨hpw, List.pairwise_singleton _ _, fun a ha b hb => ?_⟩
      rw [List.mem_singleton.mp hb]
      exact (hns a ha).2
  · have hge : ns.length + 1 = many := by
      have := of_decide_eq_false hlt
      omega
    have hL5 := e5 _ _ hL
    have hpw2 : (ns ++ [x]).Pairwise (· < ·) := List.pairwise_append.mpr ⟨hpw, List.pairwise_singleton _ _, fun a ha b hb => by
      rw [List.mem_singleton.mp hb]
      exact (hns a ha).2⟩
    have hx9 : x ≤ 999999999 := by omega
    -- more
    refine q_asgR (op_R (lst_R (cons_R (c_R (cons_R (c_R (cons_R (op_R (c_R (op_R (var_R rfl (ev_R (ev_un ev_c ru_neg) fun H7 e7 => ixL_R (sq_of (e7 _ _ hL5)) (by rw [List.map_append]; exact atI_last _ _) ⟨_, _, rfl, rfl, nil_R ⟨sz3, fun q2 hq2 => dipR (ev_var rfl) ev_c (by decide) (by decide) ((hpm.ex (e5.trans e7)).ex (Ex.new hq2)) (by omega) fun r4 H8 r40 r41 k8 hp8 => ?_⟩⟩))))))))))))
    obtain ⟨mv, hmv, hm3⟩ := pick3 (x := V.int 0) (y := V.int 0) (z := V.int (999999999 - x)) r40 r41
    obtain ⟨more, rfl, mo0, mo1⟩ : ∃ more : Int, mv = .int more ∧ 0 ≤ more ∧ more ≤ 999999999 - x := by
      rcases hm3 with rfl | rfl | rfl <;> exact ⟨_, rfl, by omega, by omega⟩
    refine ixL_R (sq_of (k8.st _ _ upd_same (pne (hpm.ex (e5.trans e7)) hq2))) hmv ?_
    have hL8 : H8 l = some (.lst ((ns ++ [x]).map V.int)) := k8.st _ _ ((Ex.new hq2) _ _ (e7 _ _ hL5)) lp
    have k08 : Kp (fun a => a = p) H H8 := (kp.trans (Kp.of ((e5.trans e7).trans (Ex.new hq2)))).trans k8
    refine s_retN (K := K) (en_mapA PyData.int (fun y => .int (y + more)) (xs := ns ++ [x]) (ii_list (ed_var rfl (.lst (sq_of hL8) (ints_da _)))) (by simp; omega) (fun _ _ => rfl) fun y hy => tn1 (fun _ => rfl) fun v H9 e9 hv => ⟨et_yes, fun _ => ed_op (ed_var rfl hv) (ed_var rfl (.int more)) rd_I0⟩) fun q us H9 hq e9 h9 hv9 => ?_
    have hus := da_ints (ns := (ns ++ [x]).map fun y => y + more) (by rw [DI, List.map_map]; exact hv9)
    rw [hus] at h9
    refine k q ((ns ++ [x]).map fun y => y + more) H9 (k08.fr _ hq) (kp_ex k08 e9) ((hp8.ex e9).mono (by omega)) h9 (by simp; omega) (fun y hy => ?_) (List.Pairwise.map _ (fun a b hab => by omega) hpw2)
    obtain ⟨z, hz, rfl⟩ := List.mem_map.mp hy
    have : 0 ≤ z ∧ z ≤ x := by
      rcases List.mem_append.mp hz with hz | hz
      · have := hns z hz
        omega
      · rw [List.mem_singleton.mp hz]
        omega
    exact card_of (by omega) (by omega)
end
end K59

set_option Elab.async false
set_option linter.all false
set_option maxRecDepth 100000
set_option maxHeartbeats 4000000
/-! the law's rows, mixed -/
namespace K59
open PySem PySem.Spec PyProof.Rows L2 Evl He
section
variable {P : Program} {w : World} {K : PySem.W.Frag} {mg : Str → Option Value} {base : Heap}
theorem erase_perm {x : Int} : ∀ {xs : List Int} {k : Nat}, xs[k]? = some x → (x :: xs.eraseIdx k).Perm xs
  | [], _, h => by cases h
  | y :: ys, 0, h => by
    have e := Option.some.inj (show some y = some x from h)
    rw [e]
    exact List.Perm.refl _
  | y :: ys, k + 1, h => (List.Perm.swap y x _).trans (List.Perm.cons y (erase_perm (show ys[k]? = some x from h)))
theorem erase_map {α β : Type} (f : α → β) : ∀ (xs : List α) (k : Nat), (xs.map f).eraseIdx k = (xs.eraseIdx k).map f
  | [], _ => rfl
  | _ :: _, 0 => rfl
  | x :: xs, k + 1 => congrArg (fun l => f x :: l) (erase_map f xs k)
theorem perm_pop {xs ys : List Int} {k : Nat} {x : Int} (h : xs[k]? = some x) : (ys ++ [x] ++ xs.eraseIdx k).Perm (ys ++ xs) := by
  rw [List.append_assoc]
  exact List.Perm.append_left ys (erase_perm h)
theorem perm_ins {xs : List Int} {x : Int} (k : Nat) : (xs.take k ++ [x] ++ xs.drop k).Perm (x :: xs) := by
  rw [List.append_assoc, List.singleton_append]
  have h := List.perm_middle (a := x) (l₁ := xs.take k) (l₂ := xs.drop k)
  rw [List.take_append_drop] at h
  exact h
def spRow (K : PySem.W.Frag) : Sp := fun vs H Q _ => ∃ (p : Addr) (m : Nat), vs = [.ref p, .int 7] ∧ PotAt H p m ∧ m ≤ 800000 ∧ ∀ (q : Addr) (ns : List Int) (H2 : Hp), H q = none → Kp (fun a => a = p) H H2 → PotAt H2 p (m + 100) → H2 q = some (.lst (ns.map V.int)) → RowOk ns → ns.length ≤ 7 → Q (.ref q) H2
theorem ok_law_row (T : Txt w K mg) : FR P w K mg base 3 (ga K "_law_row") (spRow K) := by
  have G__law_dip : FR P w K mg base 1 (ga K "_law_dip") (spDip K) := ok_dip T
  have G__law_cards : FR P w K mg base 2 (ga K "_law_cards") (spCards K) := ok_law_cards T
  refine okN T.f__law_row sc__law_row (fun _ _ _ _ _ _ us hl => match us, hl with | [_, _], _ => rfl) (fun vs H Q E h => by obtain ⟨_, _, rfl, _⟩ := h; rfl) fun cdv A0 outer s0 H vs Q E hr h => ?_
  obtain ⟨p, m, rfl, hp, hm, k⟩ := h
  refine ⟨_, (pss_cons (ps_set (i := 2) sc__law_row.nd rfl (Or.inr rfl) (cl G__law_cards (hr.mono (by decide)) T.g__law_cards psN (pa_cons (pv 0) (pa_cons (pe_op op_add pe_int (cl G__law_dip (hr.mono (by decide)) T.g__law_dip psN (pa_cons (pv 0) (pa_cons (pv 1) pa_nil)))) pa_nil))))
      (pss_cons (ps_set (i := 3) sc__law_row.nd rfl (Or.inl rfl) (cl G__law_dip (hr.mono (by decide)) T.g__law_dip psN (pa_cons (pv 0) (pa_cons pe_int pa_nil))))
      (pss_cons (ps_if (pt_cmpR op_eq (pv 3) pe_int (nomark _)) (pss_one (ps_ret (pe_lc (own := [("_law_turn", 5)]) (g := (gName 5)) (tt := tYes) rfl sc__law_row.nd (pi_range1 (by rfl) T.b_range (pa_cons (pe_callB call_len_seq (by rfl) T.b_len bt_len (pa_cons (pv 2) pa_nil)) pa_nil)) (blkOk_by (own := [("_law_turn", 5)]) (N := N__law_row) (sc := defScope s__law_row) (by decide +kernel)) (fun _ _ _ _ _ => (pg_name (i := 5) sc__law_row.nd rfl (Or.inl rfl))) (fun _ _ _ _ _ => pts_nil) (fun _ _ _ _ _ => (pe_bmK K rfl PySem.F.plainAttrs_list PySem.F.slot_list_pop PySem.F.type_list_pop mt_popAt (pv 2) (pa_cons (cl G__law_dip (hr.mono (by decide)) T.g__law_dip psN (pa_cons (pv 0) (pa_cons (pe_callB (crK K rLenS call_len_seq rfl) (by rfl) T.b_len bt_len (pa_cons (pv 2) pa_nil)) pa_nil))) pa_nil)))))) pss_nil)
      (pss_cons (ps_set (i := 4) sc__law_row.nd rfl (Or.inl rfl) (pe_revL (pv 2)))
      (pss_cons (ps_for PassesOwn.never rfl (pi_range1 (by rfl) T.b_range (pa_cons (pe_ix ix_list (pe_lst (pa_cons pe_int (pa_cons (pe_op op_add pe_int (cl G__law_dip (hr.mono (by decide)) T.g__law_dip psN (pa_cons (pv 0) (pa_cons pe_int pa_nil)))) pa_nil))) (pe_op op_sub (pv 3) pe_int) (fun _ _ => rfl)) pa_nil)) (pg_name (i := 5) sc__law_row.nd rfl (Or.inl rfl)) (pss_cons (ps_set (i := 6) sc__law_row.nd rfl (Or.inl rfl) (pe_bm PySem.F.plainAttrs_list PySem.F.slot_list_pop PySem.F.type_list_pop mt_popAt (pv 4) (pa_cons (cl G__law_dip (hr.mono (by decide)) T.g__law_dip psN (pa_cons (pv 0) (pa_cons (pe_callB call_len_seq (by rfl) T.b_len bt_len (pa_cons (pv 4) pa_nil)) pa_nil))) pa_nil)))
      (pss_one (ps_expr (pe_bm PySem.F.plainAttrs_list PySem.F.slot_list_insert PySem.F.type_list_insert mt_insert (pv 4) (pa_cons (cl G__law_dip (hr.mono (by decide)) T.g__law_dip psN (pa_cons (pv 0) (pa_cons (pe_op op_add (pe_callB call_len_seq (by rfl) T.b_len bt_len (pa_cons (pv 4) pa_nil)) pe_int) pa_nil))) (pa_cons (pv 6) pa_nil)))))))
      (pss_one (ps_ret (pv 4)))))))), ?_⟩
  have pne : ∀ {H : Hp} {m : Nat} {q : Addr}, PotAt H p m → H q = none → q ≠ p := fun {H m q} hp hq z => by
    obtain ⟨_, _, _, h, _⟩ := hp
    rw [z, h] at hq
    cases hq
  have h40 : (2 : Int) ^ 40 = 1099511627776 := by decide
  -- the cards
  refine q_asgR (cl_R (cons_R (var_R rfl (cons_R (op_R (c_R (dipR (ev_var rfl) (ev_var rfl) (by decide) (by decide) hp (by omega) fun r H1 r0 r1 k1 hp1 => ⟨1, r, rfl, rfl, nil_R ?_⟩)))))))
  obtain ⟨many, hmany⟩ : ∃ many : Nat, (1 + r : Int) = (many : Int) := ⟨(1 + r).toNat, by omega⟩
  refine ⟨p, many, m + 1, by dsimp only; rw [hmany], by omega, by omega, hp1, by omega, fun a ns H2 ha k2 hp2 hl hlen hc hpw => ?_⟩
  have nd : ns.Nodup := hpw.imp fun h => Int.ne_of_lt h
  have ap : a ≠ p := pne hp1 ha
  have k02 := k1.trans k2
  have na : H a = none := k1.fr _ ha
  have rowOk : ∀ {rs : List Int}, rs.Perm ns → RowOk rs ∧ rs.length ≤ 7 := fun {rs} h => by
    have hl := h.length_eq
    exact ⟨⟨by omega, by omega, fun x hx => hc x (h.mem_iff.mp hx), h.nodup_iff.mpr nd⟩, by omega⟩
  -- the way
  refine q_asgR (dipR (ev_var rfl) ev_c (by decide) (by decide) hp2 (by omega) fun way H3 w0 w1 k3 hp3 => ?_)
  have hl3 := k3.st _ _ hl ap
  have k03 := k02.trans k3
  refine q_when (b := decide (way = 0)) (et_db (K := K) (ed_op (ed_var rfl (.int _)) ed_i rd_eqI)) (fun z H4 e4 => ?_) fun z H4 e4 => ?_
  · -- all cards drawn
    have hl4 := e4 _ _ hl3
    have hp4 := hp3.ex e4
    have k04 := kp_ex k03 e4
    have hll := ed_len (K := K) (σ := ((L2.start N__law_row [.ref p, .int 7]).set 2 (some (.ref a))).set 3 (some (.int way))) (ta := tVar 2) (ds := DI ns) (H := H4) (ed_var rfl (.lst (sq_of hl4) (ints_da ns)))
    have h62 : (2 : Int) ^ 62 = 4611686018427387904 := by decide
    have hnl : (DI ns).length = ns.length := List.length_map _
    refine ret_R ?_
    unfold tLc iRng1
    refine cons_R (ev_R hll.i fun H5 e5 => nil_R ⟨_, rfl, by omega, by rw [hnl]; omega, fun D hD => ?_⟩)
    rw [hnl]
    have hl5 := e5 _ _ hl4
    have Da : D ≠ a := fun z => by rw [z, hl5] at hD; cases hD
    have Dp0 : D ≠ p := pne (hp4.ex e5) hD
    have k05 := kp_ex k04 e5
    refine ⟨fun i b H' => b = ns.length - i ∧ i ≤ ns.length ∧ ∃ (rs xs : List Int) (m' : Nat), H' D = some (.lst (rs.map V.int)) ∧ H' a = some (.lst (xs.map V.int)) ∧ (rs ++ xs).Perm ns ∧ rs.length = i ∧ PotAt H' p m' ∧ m' ≤ m + 25 + i ∧ Kp (fun a => a = p) H H', ⟨_, rfl, Nat.zero_le _, [], ns, m + 1 + 20 + 1, upd_same, by rw [upd_ne fun z => Da z.symm]; exact hl5, List.Perm.refl _, rfl, (hp4.ex e5).ex (Ex.new hD), by omega, kp_ex k05 (Ex.new hD)⟩, ?_⟩
    rintro i b H' ⟨rfl, hi, rs, xs, m', g1, g2, g3, g4, g5, g6, g7⟩
    have hxl := g3.length_eq
    rw [List.length_append] at hxl
    by_cases hlt : i < ns.length
    · refine .inr ⟨by show i < _; omega, fun H' => i + 1 ≤ ns.length ∧ ∃ (rs xs : List Int) (m' : Nat), H' D = some (.lst (rs.map V.int)) ∧ H' a = some (.lst (xs.map V.int)) ∧ (rs ++ xs).Perm ns ∧ rs.length = i + 1 ∧ PotAt H' p m' ∧ m' ≤ m + 25 + (i + 1) ∧ Kp (fun a => a = p) H H', fun H6 h => ⟨ns.length - (i + 1), by omega, rfl, h⟩, fun x H6 y => ?_⟩
      obtain ⟨rfl, rfl⟩ := y
      refine ⟨rfl, ?_⟩
      show tBM K "list" rPopAt (tVar 2) (tCons (tCl (spDip K) E0 (tCons (tVar 0) (tCons (tCB (rLenS K) (tCons (tVar 2) tNil)) tNil))) tNil) _ H6 _
      refine var_R (v := .ref a) rfl ⟨.inl ⟨rfl, _, sq_of g2⟩, cons_R (dipR (ev_var rfl) (ed_len (K := K) (ds := DI xs) (ed_var rfl (.lst (sq_of g2) (ints_da xs)))).i ?_ ?_ g5 (by omega) fun r H7 r0 r1 k7 hp7 => nil_R ?_)⟩
      · rw [show (DI xs).length = xs.length from List.length_map _]
        omega
      · rw [show (DI xs).length = xs.length from List.length_map _]
        omega
      · rw [show (DI xs).length = xs.length from List.length_map _] at r1
        obtain ⟨j, rfl⟩ : ∃ j : Nat, r = (j : Int) := ⟨r.toNat, by omega⟩
        have hj : j < xs.length := by omega
        obtain ⟨x, hx⟩ : ∃ x, xs[j]? = some x := ⟨xs[j], by simp [hj]⟩
        have ga := k7.st _ _ g2 ap
        have gD := k7.st _ _ g1 Dp0
        refine ⟨a, _, (j : Int), j, .int x, rfl, rfl, ga, by omega, by omega, seqIndex_of (by omega) (by rw [List.length_map]; omega), by rw [List.getElem?_map, hx] <;> rfl, rs.map V.int, by rw [upd_ne Da]; exact gD, ?_, hlt, rs ++ [x], xs.eraseIdx j, m' + 1, ?_, ?_, ?_, by simp; omega, ?_, by omega, ?_⟩
        · rw [List.length_map]
          exact sz_lt (by omega)
        · rw [upd_same]
          simp
        · rw [upd_ne fun z => Da z.symm, upd_same, erase_map]
        · exact (perm_pop hx).trans g3
        · exact (hp7.kp (S := fun b => b = a) (Kp.refl.upd rfl) fun z => ap z.symm).kp (S := fun b => b = D) (Kp.refl.upd rfl) fun z => Dp0 z.symm
        · exact ((g7.trans k7).new na).new (k05.fr _ hD)
    · have hi2 : i = ns.length := by omega
      have hx0 : xs = [] := List.length_eq_zero_iff.mp (by omega)
      subst hx0
      rw [List.append_nil] at g3
      exact .inl ⟨by show _ ≤ i; omega, k D rs H' (k05.fr _ hD) g7 (g5.mono (by omega)) g1 (rowOk g3).1 (rowOk g3).2⟩
  · have hw : way ≠ 0 := of_decide_eq_false z
    have hl4 := e4 _ _ hl3
    have hp4 := hp3.ex e4
    have k04 := kp_ex k03 e4
    have na4 : H4 a ≠ none := fun z => by rw [hl4] at z; cases z
    -- reversed
    refine q_asgR ⟨_, rfl, a, _, rfl, sq_of hl4, fun b hb => ?_⟩
    have bp : b ≠ p := pne hp4 hb
    have nb : H b = none := k04.fr _ hb
    have kb : Kp (fun a => a = p) H (upd H4 b (.lst (ns.map V.int).reverse)) := kp_ex k04 (Ex.new hb)
    have hp5 := hp4.ex (Ex.new (o := .lst (ns.map V.int).reverse) hb)
    have hb5 : (upd H4 b (.lst (ns.map V.int).reverse)) b = some (.lst (ns.reverse.map V.int)) := by rw [upd_same, List.map_reverse]
    generalize upd H4 b (.lst (ns.map V.int).reverse) = H5 at kb hp5 hb5
    unfold tSeq tFor iRng1
    refine cons_R (op_R (lst_R (cons_R (c_R (cons_R (op_R (c_R (dipR (ev_var rfl) ev_c (by decide) (by decide) hp5 (by omega) fun r H6 r0 r1 k6 hp6 => ⟨1, r, rfl, rfl, nil_R ⟨sz2, fun q hq => ev_R (ev_op (ev_var rfl) ev_c rv_I0) fun H7 e7 => ?_⟩⟩))))))))
    obtain ⟨nv, hnv, hn2⟩ := pick2 (x := V.int 0) (y := V.int (1 + r)) (r := way - 1) (by omega) (by omega)
    obtain ⟨nt, rfl, nt0, nt1⟩ : ∃ nt : Nat, nv = .int (nt : Int) ∧ 0 ≤ nt ∧ nt ≤ 4 := by
      rcases hn2 with rfl | rfl
      · exact ⟨0, rfl, Nat.le_refl _, by omega⟩
      · exact ⟨(1 + r).toNat, congrArg V.int (by omega), Nat.zero_le _, by omega⟩
    have k17 : Kp (fun a => a = p) H5 H7 := (k6.trans (Kp.of (Ex.new hq))).trans (Kp.of e7)
    have hb7 := k17.st _ _ hb5 bp
    have hp7 := (hp6.ex (Ex.new hq)).ex e7
    have kb7 := kb.trans k17
    have h62 : (2 : Int) ^ 62 = 4611686018427387904 := by decide
    refine ixL_R (sq_of (e7 _ _ upd_same)) hnv (nil_R ⟨(nt : Int), rfl, by omega, by omega, ?_⟩)
    rw [show ((nt : Int)).toNat = nt from rfl]
    refine ⟨fun i b' σ' H' => b' = nt - i ∧ i ≤ nt ∧ ∃ (rs : List Int) (m' : Nat) (u1 u2 : Option V), σ' = [some (.ref p), some (.int 7), some (.ref a), some (.int way), some (.ref b), u1, u2] ∧ H' b = some (.lst (rs.map V.int)) ∧ rs.Perm ns ∧ PotAt H' p m' ∧ m' ≤ m + 30 + 2 * i ∧ Kp (fun a => a = p) H H', ⟨_, rfl, Nat.zero_le _, ns.reverse, _, _, _, rfl, hb7, List.reverse_perm ns, hp7, by omega, kb7⟩, ?_⟩
    rintro i b' σ' H' ⟨rfl, hi, rs, m', u1, u2, rfl, g1, g2, g3, g4, g5⟩
    have hrl := g2.length_eq
    by_cases hlt : i < nt
    · refine .inr ⟨hlt, fun σ' H' => i + 1 ≤ nt ∧ ∃ (rs : List Int) (m' : Nat) (u1 u2 : Option V), σ' = [some (.ref p), some (.int 7), some (.ref a), some (.int way), some (.ref b), u1, u2] ∧ H' b = some (.lst (rs.map V.int)) ∧ rs.Perm ns ∧ PotAt H' p m' ∧ m' ≤ m + 30 + 2 * (i + 1) ∧ Kp (fun a => a = p) H H', fun σ2 H2 h => ⟨nt - (i + 1), by omega, rfl, h⟩, fun x H8 y => ?_⟩
      obtain ⟨rfl, rfl⟩ := y
      have len : ∀ (σ : K59.St) (H9 : Hp) (ys : List Int), σ[4]? = some (some (.ref b)) → H9 b = some (.lst (ys.map V.int)) → Ev (tCB (rLenS K) (tCons (tVar 4) tNil)) σ H9 (.int (ys.length : Int)) := fun σ H9 ys hσ h => by
        have := ed_len (K := K) (ta := tVar 4) (σ := σ) (H := H9) (ds := DI ys) (ed_var hσ (.lst (sq_of h) (ints_da ys)))
        rw [show (DI ys).length = ys.length from List.length_map _] at this
        exact this.i
      show tSeq (tAsg (tBM K "list" rPopAt (tVar 4) (tCons (tCl (spDip K) E0 (tCons (tVar 0) (tCons (tCB (rLenS K) (tCons (tVar 4) tNil)) tNil))) tNil)) (gName 6)) _ _ [some (.ref p), some (.int 7), some (.ref a), some (.int way), some (.ref b), some _, u2] H8
      refine q_asgR (var_R (v := .ref b) rfl ⟨.inl ⟨rfl, _, sq_of g1⟩, cons_R (dipR (ev_var rfl) (len _ _ rs rfl g1) (by omega) (by omega) g3 (by omega) fun r H9 r0 r1 k9 hp9 => nil_R ?_)⟩)
      obtain ⟨j, rfl⟩ : ∃ j : Nat, r = (j : Int) := ⟨r.toNat, by omega⟩
      have hj : j < rs.length := by omega
      obtain ⟨x, hx⟩ : ∃ x, rs[j]? = some x := ⟨rs[j], by simp [hj]⟩
      have gb := k9.st _ _ g1 bp
      have h63 : (2 : Int) ^ 63 = 9223372036854775808 := by decide
      refine ⟨b, _, (j : Int), j, .int x, rfl, rfl, gb, by omega, by omega, seqIndex_of (by omega) (by rw [List.length_map]; omega), by rw [List.getElem?_map, hx] <;> rfl, ?_⟩
      rw [erase_map]
      have hpA := hp9.kp (S := fun c => c = b) (H' := upd H9 b (.lst ((rs.eraseIdx j).map V.int))) (Kp.refl.upd rfl) fun z => bp z.symm
      have kA : Kp (fun a => a = p) H (upd H9 b (.lst ((rs.eraseIdx j).map V.int))) := (g5.trans k9).new nb
      have gA : (upd H9 b (.lst ((rs.eraseIdx j).map V.int))) b = some (.lst ((rs.eraseIdx j).map V.int)) := upd_same
      generalize upd H9 b (.lst ((rs.eraseIdx j).map V.int)) = HA at hpA kA gA
      have hel : (rs.eraseIdx j).length = rs.length - 1 := by
        have h := (erase_perm hx).length_eq
        rw [List.length_cons] at h
        omega
      refine s_dropR (var_R (v := .ref b) rfl ⟨.inl ⟨rfl, _, sq_of gA⟩, cons_R (dipR (many := ((rs.eraseIdx j).length : Int) + 1) (ev_var rfl) (ev_op (len _ _ _ rfl gA) ev_c rv_I0) (by omega) (by omega) hpA (by omega) fun r2 HB r20 r21 kB hpB => cons_R (var_R (v := .int x) rfl (nil_R ?_)))⟩)
      have gB := kB.st _ _ gA bp
      refine ⟨b, _, r2, .int x, rfl, rfl, gB, by rw [List.length_map]; exact sz_lt (by omega), r20, by omega, hlt, (rs.eraseIdx j).take r2.toNat ++ [x] ++ (rs.eraseIdx j).drop r2.toNat, m' + 1 + 1, _, _, rfl, by rw [upd_same]; simp [List.map_take, List.map_drop], ((perm_ins r2.toNat).trans (erase_perm hx)).trans g2, hpB.kp (S := fun c => c = b) (Kp.refl.upd rfl) fun z => bp z.symm, by omega, (kA.trans kB).new nb⟩
    · have hi2 : i = nt := by omega
      refine .inl ⟨by show nt ≤ i; omega, ?_⟩
      exact ⟨_, rfl, k b rs H' nb g5 (g3.mono (by omega)) g1 (rowOk g2).1 (rowOk g2).2⟩
end
end K59

set_option Elab.async false
set_option linter.all false
set_option maxRecDepth 100000
set_option maxHeartbeats 4000000
/-! the law's words -/
namespace K59
open PySem PySem.Spec PyProof.Rows L2 Evl He
section
variable {K : PySem.W.Frag} {σ : K59.St} {H : Hp} {ta tb te : TE} {ds es : List PyData} {Q : VK}
theorem en_cat (ha : EvN K ta σ H ds) (hb : EvN K tb σ H es) (hz : ds.length + es.length ≤ 90000) : EvN K (tOp rCat ta tb) σ H (ds ++ es) := fun H1 e Q q =>
  ha H1 e _ fun p us H2 hp e2 h2 hu => hb H2 (e.trans e2) _ fun p2 ws H3 hp2 e3 h3 hw => ⟨p, p2, us, ws, rfl, rfl, e3 _ _ h2, h3, sz_of (by rw [da_len hu, da_len hw]; omega), fun p3 hp3 => q p3 _ _ (fresh_back (e2.trans e3) hp3) ((e2.trans e3).trans (Ex.new hp3)) upd_same (da_ex (Ex.new hp3) _ (da_app (da_ex e3 _ hu) hw))⟩
theorem par_R {i j : Nat} {t : TA} {D : Ends} {tz : L2.TS} (h : t σ H fun vs H1 => ∃ v w, vs = [v, w] ∧ tz D ((σ.set i (some v)).set j (some w)) H1) : tSeq (tPar i j t) tz D σ H := h
theorem q_ifC {c : TT} {tu tz : L2.TS} {D : Ends} (Good : Hp → Prop) (cont : ∀ H1, Good H1 → tz D σ H1) (h : (∀ H1, Good H1 → tz D σ H1) → c σ H fun b H1 => if b = true then tu { D with nx := tz D } σ H1 else tz D σ H1) : tSeq (tIfS c tu tNext) tz D σ H := h cont
theorem lcT_R {g : TG} {t : TT} {e : TE} {vs : List Nat} (h : te σ H fun x H1 => tLc (iTup K (tC x)) g t e vs σ H1 Q) : tLc (iTup K te) g t e vs σ H Q := h
theorem pick4 {α : Type} {x y z u : α} {r : Int} (h0 : 0 ≤ r) (h1 : r < 4) : ∃ v, atI [x, y, z, u] r = some v ∧ (v = x ∨ v = y ∨ v = z ∨ v = u) := by
  have : r = 0 ∨ r = 1 ∨ r = 2 ∨ r = 3 := by omega
  rcases this with rfl | rfl | rfl | rfl
  · exact ⟨x, rfl, .inl rfl⟩
  · exact ⟨y, rfl, .inr (.inl rfl)⟩
  · exact ⟨z, rfl, .inr (.inr (.inl rfl))⟩
  · exact ⟨u, rfl, .inr (.inr (.inr rfl))⟩
theorem sz4 : (4 : Nat) ≤ sizeLine := by decide
theorem cb_R {r : List V → Hp → VK → Prop} {t : TA} (h : t σ H fun vs H1 => r vs H1 Q) : tCB r t σ H Q := h
theorem bool_int {b : Bool} (h : EvD K ta σ H (.bool b)) : EvD K (tCB (fun xs H Q => (∃ i, xs = [.int i] ∧ Q (.int i) H) ∨ ∃ k, xs = [.bl k] ∧ Q (.int (if k then 1 else 0)) H) (tCons ta tNil)) σ H (.int (if b = true then 1 else 0)) := fun H1 e Q q => h H1 e _ fun v H2 e2 hv => by
  cases hv
  exact .inr ⟨b, rfl, q _ H2 e2 (.int _)⟩
end
section
variable {P : Program} {w : World} {K : PySem.W.Frag} {mg : Str → Option Value} {base : Heap}
def laneXs (n : Nat) : List (Int × Int) := ((List.range (n - 1)).map fun i : Nat => ((i : Int), (i : Int) + 1)) ++ ((List.range (n - 1)).map fun i : Nat => ((i : Int) + 1, (i : Int)))
theorem laneXs_mem {n : Nat} {pr : Int × Int} (h : pr ∈ laneXs n) : ∃ i j : Nat, pr = ((i : Int), (j : Int)) ∧ i < n ∧ j < n := by
  rcases List.mem_append.mp h with h | h
  · obtain ⟨i, hi, rfl⟩ := List.mem_map.mp h
    have := List.mem_range.mp hi
    exact ⟨i, i + 1, rfl, by omega, by omega⟩
  · obtain ⟨i, hi, rfl⟩ := List.mem_map.mp h
    have := List.mem_range.mp hi
    exact ⟨i + 1, i, rfl, by omega, by omega⟩
def openPr (s : NS) (pr : Int × Int) : Bool := !decide (laneOf s pr.1.toNat pr.2.toNat = [])
def GoodW (s : NS) : Prop := 1 ≤ s.n ∧ s.n ≤ 9 ∧ s.first.length = s.n ∧ ∀ x ∈ s.first, cardB x = true
def spWords (K : PySem.W.Frag) : Sp := fun vs H Q _ => ∃ (p : Addr) (A : Cl → Addr) (s : NS) (m : Nat), vs = [.ref p, .ref (A .net), .int 9] ∧ PotAt H p m ∧ m ≤ 800000 ∧ NetAt K H A s ∧ ¬ Foot A s.n p ∧ GoodW s ∧
  (∀ (q : Addr) (g : Deed) (H2 : Hp), H q = none → Kp (fun a => a = p) H H2 → PotAt H2 p (m + 30) → H2 q = some (.lst ((g.w :: g.ns.map numT).map V.str)) → (∀ x ∈ g.ns, cardB x = true) → (∀ c, g = .come c → s.n < 9) → Q (.ref q) H2) ∧
  (∀ (q : Addr) (H2 : Hp), H q = none → Kp (fun a => a = p) H H2 → PotAt H2 p (m + 30) → H2 q = some (.lst [.str "rest"]) → Q (.ref q) H2)
theorem ok_law_words (T : Txt w K mg) : FR P w K mg base 3 (ga K "_law_words") (spWords K) := by
  have G__law_dip : FR P w K mg base 1 (ga K "_law_dip") (spDip K) := ok_dip T
  have G_Net_cards : FR P w K mg base 2 (ma K (ga K "Net") "cards") (spNetL K (fun s => s.n ≤ 24) fun s => (List.range s.n).map fun i => oD (s.hd i).held) := ok_cards T
  have G_Net_free_hands : FR P w K mg base 2 (ma K (ga K "Net") "free_hands") (spNetL K (fun s => s.n ≤ 24) fun s => DI (NI (freeL s))) := ok_free_hands T
  have G_Net_first_row : FR P w K mg base 1 (ma K (ga K "Net") "first_row") (spNetL K (fun _ => True) fun s => DI s.first) := ok_first_row T
  have G_Net_lane : FR P w K mg base 2 (ma K (ga K "Net") "lane") (spLane K) := ok_lane T
  refine okN T.f__law_words sc__law_words (fun _ _ _ _ _ _ us hl => match us, hl with | [_, _, _], _ => rfl) (fun vs H Q E h => by obtain ⟨_, _, _, _, rfl, _⟩ := h; rfl) fun cdv A0 outer s0 H vs Q E hr h => ?_
  obtain ⟨p, A, s, m, rfl, hp, hm, N, hpf, ⟨n1, n9, hfl, hfc⟩, kD, kR⟩ := h
  refine ⟨_, (pss_cons (ps_par (i := 3) (j := 4) (by rfl) sc__law_words.nd rfl rfl (by decide) rfl rfl (pa_cons (pe_callB call_len_seq (by rfl) T.b_len bt_len (pa_cons (me0 (pv 1) T.k_Net T.m_Net_cards G_Net_cards (hr.mono (by decide)) psN) pa_nil)) (pa_cons (me0 (pv 1) T.k_Net T.m_Net_free_hands G_Net_free_hands (hr.mono (by decide)) psN) pa_nil)) (by rfl))
      (pss_cons (ps_set (i := 5) sc__law_words.nd rfl (Or.inl rfl) (cl G__law_dip (hr.mono (by decide)) T.g__law_dip psN (pa_cons (pv 0) (pa_cons (pe_op op_add (pv 3) (pe_callTy call_int1 (by rfl) T.b_int bt_int (pa_cons (pe_cmpR op_eq (cl G__law_dip (hr.mono (by decide)) T.g__law_dip psN (pa_cons (pv 0) (pa_cons pe_int pa_nil))) pe_int (nomark _)) pa_nil))) pa_nil))))
      (pss_cons (ps_set (i := 6) sc__law_words.nd rfl (Or.inl rfl) (cl G__law_dip (hr.mono (by decide)) T.g__law_dip psN (pa_cons (pv 0) (pa_cons pe_int pa_nil))))
      (pss_cons (ps_if (PW.pt (pw_and (pt_cmpR op_lt (pv 6) pe_int (nomark _)) (pw_and1 (pt_cmpR (op_neD hr.units) (pv 4) (pe_lst pa_nil) (nomark _))))) (pss_one (ps_ret (pe_lst (pa_cons pe_str (pa_cons (pe_callTy call_str_int (by rfl) T.b_str bt_str (pa_cons (pe_ix ix_list (pv 4) (cl G__law_dip (hr.mono (by decide)) T.g__law_dip psN (pa_cons (pv 0) (pa_cons (pe_callB call_len_seq (by rfl) T.b_len bt_len (pa_cons (pv 4) pa_nil)) pa_nil))) (fun _ _ => rfl)) pa_nil)) pa_nil))))) pss_nil)
      (pss_cons (ps_if (pt_cmpR op_eq (pv 6) pe_int (nomark _)) (pss_one (ps_ret (pe_lst (pa_cons pe_str (pa_cons (pe_callTy call_str_int (by rfl) T.b_str bt_str (pa_cons (pv 5) pa_nil)) pa_nil))))) pss_nil)
      (pss_cons (ps_if (PW.pt (pw_and (pt_cmpR op_eq (pv 6) pe_int (nomark _)) (pw_and1 (pt_cmpR op_lt (pv 3) (pv 2) (nomark _))))) (pss_cons (ps_set (i := 7) sc__law_words.nd rfl (Or.inl rfl) (pe_lst (pa_cons (cl G__law_dip (hr.mono (by decide)) T.g__law_dip psN (pa_cons (pv 0) (pa_cons pe_int pa_nil))) (pa_cons (pe_op op_add (pe_callB (cr_max rfl) (by rfl) T.b_max bt_max (pa_cons (me0 (pv 1) T.k_Net T.m_Net_first_row G_Net_first_row (hr.mono (by decide)) psN) pa_nil)) pe_int) (pa_cons (cl G__law_dip (hr.mono (by decide)) T.g__law_dip psN (pa_cons (pv 0) (pa_cons (pe_op op_powW pe_int pe_int) pa_nil))) (pa_cons (pe_callB (cr_min rfl) (by rfl) T.b_min bt_min (pa_cons (me0 (pv 1) T.k_Net T.m_Net_first_row G_Net_first_row (hr.mono (by decide)) psN) pa_nil)) pa_nil))))))
      (pss_one (ps_ret (pe_lst (pa_cons pe_str (pa_cons (pe_callTy call_str_int (by rfl) T.b_str bt_str (pa_cons (pe_callB (call_min2 rfl) (by rfl) T.b_min bt_min (pa_cons pe_int (pa_cons (pe_ix ix_list (pv 7) (cl G__law_dip (hr.mono (by decide)) T.g__law_dip psN (pa_cons (pv 0) (pa_cons pe_int pa_nil))) (fun _ _ => rfl)) pa_nil))) pa_nil)) pa_nil)))))) pss_nil)
      (pss_cons (ps_if (PW.pt (pw_and (pt_cmpR op_eq (pv 6) pe_int (nomark _)) (pw_and1 (pt_cmpR op_eq (cl G__law_dip (hr.mono (by decide)) T.g__law_dip psN (pa_cons (pv 0) (pa_cons pe_int pa_nil))) pe_int (nomark _))))) (pss_one (ps_ret (pe_lst (pa_cons pe_str pa_nil)))) pss_nil)
      (pss_cons (ps_set (i := 8) sc__law_words.nd rfl (Or.inl rfl) (pe_op op_cat (pe_lc (own := [("_law_at", 10)]) (g := (gName 10)) (tt := tYes) rfl sc__law_words.nd (pi_range1 (by rfl) T.b_range (pa_cons (pe_op op_sub (pv 3) pe_int) pa_nil)) (blkOk_by (own := [("_law_at", 10)]) (N := N__law_words) (sc := defScope s__law_words) (by decide +kernel)) (fun _ _ _ _ _ => (pg_name (i := 10) sc__law_words.nd rfl (Or.inl rfl))) (fun _ _ _ _ _ => pts_nil) (fun _ _ _ _ _ => (pe_tup (pa_cons (pv 10) (pa_cons (pe_op op_add (pv 10) pe_int) pa_nil))))) (pe_lc (own := [("_law_at", 10)]) (g := (gName 10)) (tt := tYes) rfl sc__law_words.nd (pi_range1 (by rfl) T.b_range (pa_cons (pe_op op_sub (pv 3) pe_int) pa_nil)) (blkOk_by (own := [("_law_at", 10)]) (N := N__law_words) (sc := defScope s__law_words) (by decide +kernel)) (fun _ _ _ _ _ => (pg_name (i := 10) sc__law_words.nd rfl (Or.inl rfl))) (fun _ _ _ _ _ => pts_nil) (fun _ _ _ _ _ => (pe_tup (pa_cons (pe_op op_add (pv 10) pe_int) (pa_cons (pv 10) pa_nil)))))))
      (pss_cons (ps_setLc (i := 8) (own := [("_law_pair", 9)]) (g := (gName 9))  rfl sc__law_words.nd rfl rfl (sw_true rfl rfl rfl (by decide +kernel)) (pi_list (pv 8)) (blkOk_by (own := [("_law_pair", 9)]) (N := N__law_words) (sc := defScope s__law_words) (by decide +kernel)) (fun _ _ _ _ _ => (pg_name (i := 9) sc__law_words.nd rfl (Or.inl rfl))) (fun _ _ _ _ _ => (pts_one (pt_cmpR (orK K rNeD (op_neD hr.units) rfl) (me (pv 1) T.k_Net T.m_Net_lane G_Net_lane (hr.mono (by decide)) psN (pa_cons (pe_ix (ixK K rIxT ix_tup rfl) (pv 9) pe_int (fun _ _ => rfl)) (pa_cons (pe_ix (ixK K rIxT ix_tup rfl) (pv 9) pe_int (fun _ _ => rfl)) pa_nil))) (pe_lst pa_nil) (nomark _)))) (fun _ _ _ _ _ => (pv 9)))
      (pss_cons (ps_if (PW.pt (pw_or (pt_cmpR op_eq (pv 6) pe_int (nomark _)) (pw_or1 (pt_cmpR (op_eqD hr.units) (pv 8) (pe_lst pa_nil) (nomark _))))) (pss_one (ps_ret (pe_lst (pa_cons pe_str (pa_cons (pe_callTy call_str_int (by rfl) T.b_str bt_str (pa_cons (pv 5) pa_nil)) (pa_cons (pe_callTy call_str_int (by rfl) T.b_str bt_str (pa_cons (pe_callB (call_max2 rfl) (by rfl) T.b_max bt_max (pa_cons pe_int (pa_cons (pe_op op_sub (pe_op op_add (pv 5) pe_int) (pe_op op_mulW pe_int (cl G__law_dip (hr.mono (by decide)) T.g__law_dip psN (pa_cons (pv 0) (pa_cons pe_int pa_nil))))) pa_nil))) pa_nil)) pa_nil)))))) pss_nil)
      (pss_one (ps_ret (pe_op op_cat (pe_lst (pa_cons pe_str pa_nil)) (pe_lc (own := [("_law_hand", 11)]) (g := (gName 11)) (tt := tYes) rfl sc__law_words.nd (pi_tup (pe_ix ix_list (pv 8) (cl G__law_dip (hr.mono (by decide)) T.g__law_dip psN (pa_cons (pv 0) (pa_cons (pe_callB call_len_seq (by rfl) T.b_len bt_len (pa_cons (pv 8) pa_nil)) pa_nil))) (fun _ _ => rfl))) (blkOk_by (own := [("_law_hand", 11)]) (N := N__law_words) (sc := defScope s__law_words) (by decide +kernel)) (fun _ _ _ _ _ => (pg_name (i := 11) sc__law_words.nd rfl (Or.inl rfl))) (fun _ _ _ _ _ => pts_nil) (fun _ _ _ _ _ => (pe_callTy call_str_int (by rfl) T.b_str bt_str (pa_cons (pv 11) pa_nil))))))))))))))))), ?_⟩
  have h40 : (2 : Int) ^ 40 = 1099511627776 := by decide
  have pne : ∀ {H : Hp} {m : Nat} {q : Addr}, PotAt H p m → H q = none → q ≠ p := fun {H m q} hp hq z => by
    obtain ⟨_, _, _, h, _⟩ := hp
    rw [z, h] at hq
    cases hq
  have potNT : ∀ {H : Hp} {m : Nat}, PotAt H p m → ∀ a, a = p → ∀ xs, ¬ Rd H a (.tup xs) := fun {H m} hp a ha xs r => by
    obtain ⟨_, _, _, h, _⟩ := hp
    rw [ha] at r
    rcases r with r | ⟨ob, r⟩ <;> rw [h] at r <;> cases r
  have netK : ∀ {H1 H2 : Hp} {m : Nat}, NetAt K H1 A s → PotAt H1 p m → Kp (fun a => a = p) H1 H2 → NetAt K H2 A s := fun {H1 H2 m} N1 hp1 k => N1.kp k (fun a ha f => hpf (by rw [← ha]; exact f)) (k.ts (potNT hp1))
  have RL : ∀ {F : NS → Prop} {g : NS → List PyData} {mm : Str} {σ : K59.St} {t0 : TE} (H2 : Hp), Ev t0 σ H2 (.ref (A .net)) → (netF A).lookup mm = none → NetAt K H2 A s → F s → EvN K (tMe (ga K "Net") mm (spNetL K F g) E0 t0 tNil) σ H2 (g s) := fun {F g mm σ t0} H2 hσ hmm N2 hF H3 e3 Q3 q3 => by
    obtain ⟨dxn, hn⟩ := (N2.ex e3).net
    exact hσ H3 e3 _ fun H4 e4 => ⟨A .net, dxn, netF A, rfl, e4 _ _ hn, hmm, ⟨A, s, rfl, (N2.ex e3).ex e4, hF, fun p us H5 hp e5 h5 hv5 => q3 p us H5 (fresh_back e4 hp) (e4.trans e5) h5 hv5⟩⟩
  -- many, free
  refine par_R (cons_R ?_)
  refine ed_len (K := K) (RL (F := fun s => s.n ≤ 24) (g := fun s => (List.range s.n).map fun i => oD (s.hd i).held) (mm := "cards") (σ := L2.start N__law_words [.ref p, .ref (A .net), .int 9]) (t0 := tVar 1) H (ev_var rfl) rfl N (by omega)).toD H (Ex.refl H) _ fun v1 H1 e1 hv1 => ?_
  rw [List.length_map, List.length_range] at hv1
  cases hv1
  refine cons_R ?_
  refine RL (F := fun s => s.n ≤ 24) (g := fun s => DI (NI (freeL s))) (mm := "free_hands") (σ := L2.start N__law_words [.ref p, .ref (A .net), .int 9]) (t0 := tVar 1) H1 (ev_var rfl) rfl (N.ex e1) (by omega) H1 (Ex.refl H1) _ fun f us H2 hf e2 h2 hv2 => nil_R ⟨_, _, rfl, ?_⟩
  have hus := da_ints hv2
  subst hus
  have e12 := e1.trans e2
  have hp2 := hp.ex e12
  have N2 := N.ex e12
  have fp : f ≠ p := pne (hp.ex e1) hf
  -- one
  refine q_asgR (cl_R (cons_R (var_R rfl (cons_R (op_R (var_R (v := .int (s.n : Int)) rfl ?_))))))
  refine cons_R (op_R (dipR (ev_var rfl) ev_c (by decide) (by decide) hp2 (by omega) fun r H3 r0 r1 k3 hp3 => c_R ⟨rfl, nil_R (.inr ⟨_, rfl, ⟨_, _, rfl, rfl, nil_R ?_⟩⟩)⟩))
  obtain ⟨x, hx, hx1⟩ : ∃ x : Int, (if (decide (V.int r = V.int 0)) = true then (1 : Int) else 0) = x ∧ 0 ≤ x ∧ x ≤ 1 := ⟨_, rfl, by split <;> omega, by split <;> omega⟩
  rw [hx]
  refine ⟨p, (s.n : Int) + x, m + 1, rfl, by omega, by omega, hp3, by omega, fun one H4 o0 o1 k4 hp4 => ?_⟩
  have o9 : one ≤ 9 := by omega
  have N3 := netK N2 hp2 k3
  have N4 := netK N3 hp3 k4
  have f4 := k4.st _ _ (k3.st _ _ h2 fp) fp
  have k04 : Kp (fun a => a = p) H H4 := ((Kp.of e12).trans k3).trans k4
  -- way
  refine q_asgR (dipR (ev_var rfl) ev_c (by decide) (by decide) hp4 (by omega) fun way H5 w0 w1 k5 hp5 => ?_)
  have N5 := netK N4 hp4 k5
  have f5 := k5.st _ _ f4 fp
  have k05 := k04.trans k5
  have one_ok : cardB one = true := card_of o0 (by omega)
  have hS : ∃ σ : K59.St, σ = [some (.ref p), some (.ref (A .net)), some (.int 9), some (.int (s.n : Int)), some (.ref f), some (.int one), some (.int way), none, none, none, none, none] := ⟨_, rfl⟩
  have frD : ∀ H', Ex H5 H' → Dp K H' (.ref f) (.list (DI (NI (freeL s)))) := fun H' e => .lst (sq_of (e _ _ f5)) (ints_da _)
  refine q_when (b := decide (way < 4) && !decide (freeL s = [])) (et_and (et_db (K := K) (ed_op (ed_var rfl (.int _)) ed_i rd_B0)) fun _ => et_to (et_db (ed_op (ed_var rfl (frD H5 (Ex.refl H5))) (en_lst (K := K) es_nil (Nat.zero_le _)).toD (rd_neD (sh_DI _) sh_nil))) (by rw [eqv_nil]; congr 1; exact decide_eq_decide.mpr (by simp [NI]))) (fun z H6 e6 => ?_) fun z H6 e6 => ?_
  · -- go, a free hand
    have hne : freeL s ≠ [] := by
      have := (Bool.and_eq_true_iff.mp z).2
      simpa using this
    have hfl0 : 0 < (freeL s).length := List.length_pos_iff.mpr hne
    have hfl9 := freeL_len s
    have lenE := (ed_len (K := K) (ta := tVar 4) (σ := [some (.ref p), some (.ref (A .net)), some (.int 9), some (.int (s.n : Int)), some (.ref f), some (.int one), some (.int way), none, none, none, none, none]) (ed_var rfl (frD H6 e6))).i
    rw [show (DI (NI (freeL s))).length = (freeL s).length by simp [DI, NI]] at lenE
    refine ret_R (lst_R (cons_R (c_R (cons_R (cons_R (op_R (var_R (v := .ref f) rfl (dipR (ev_var rfl) lenE (by omega) (by omega) (hp5.ex e6) (by omega) fun r2 H7 r20 r21 k7 hp7 => ?_))))))))
    obtain ⟨j, rfl⟩ : ∃ j : Nat, r2 = (j : Int) := ⟨r2.toNat, by omega⟩
    have hj : j < (freeL s).length := by omega
    obtain ⟨i, hi⟩ : ∃ i, (freeL s)[j]? = some i := ⟨(freeL s)[j], by simp [hj]⟩
    have hil := (freeL_mem (List.mem_of_getElem? hi)).1
    have ic : cardB (i : Int) = true := numT_lenI (by omega)
    refine ixL_R (sq_of (k7.st _ _ (e6 _ _ f5) fp)) (atI_nat (show ((NI (freeL s)).map V.int)[j]? = some (.int (i : Int)) by rw [NI, List.map_map, List.getElem?_map, hi] <;> rfl)) (nil_R ⟨(i : Int), rfl, log_card ic, nil_R ⟨sz2, fun q hq => ?_⟩⟩)
    have k07 := (kp_ex k05 e6).trans k7
    exact kD q (.go (i : Int)) _ (k07.fr _ hq) (kp_ex k07 (Ex.new hq)) ((hp7.ex (Ex.new hq)).mono (by omega)) upd_same (fun x hx => by rw [List.mem_singleton.mp hx]; exact ic) (fun c hc => nomatch hc)
  -- go, any hand
  refine q_when (b := decide (way = 4)) (et_db (K := K) (ed_op (ed_var rfl (.int _)) ed_i rd_eqI)) (fun z2 H7 e7 => ?_) fun z2 H7 e7 => ?_
  · refine s_retN (K := K) (en_lst (es_cons ed_s (es_cons (ed_strI (ed_var rfl (.int one)) one_ok) es_nil)) (Nat.le_of_ble_eq_true rfl)) fun q us H8 hq e8 h8 hv8 => ?_
    have k07 := kp_ex (kp_ex k05 e6) e7
    have hu := da_strs (ns := ["go", numT one]) hv8
    rw [hu] at h8
    exact kD q (.go one) _ (k07.fr _ hq) (kp_ex k07 e8) ((hp5.ex ((e6.trans e7).trans e8)).mono (by omega)) h8 (fun x hx => by rw [List.mem_singleton.mp hx]; exact one_ok) (fun c hc => nomatch hc)
  have e57 := e6.trans e7
  have k07 := kp_ex k05 e57
  have hp7 := hp5.ex e57
  have N7 := N5.ex e57
  -- come
  refine q_when (b := decide (way = 5) && decide ((s.n : Int) < 9)) (et_and (et_db (K := K) (ed_op (ed_var rfl (.int _)) ed_i rd_eqI)) fun _ => et_db (K := K) (ed_op (ed_var rfl (.int _)) (ed_var rfl (.int _)) rd_B0)) (fun z3 H8 e8 => ?_) fun z3 H8 e8 => ?_
  · -- come
    have z3 := Bool.and_eq_true_iff.mp z3
    have hn9 : s.n < 9 := by have := of_decide_eq_true z3.2; omega
    have hp8 := hp7.ex e8
    have N8 := N7.ex e8
    have k08 := kp_ex k07 e8
    have hmem : ∃ y, y ∈ s.first := by
      cases h : s.first with
      | nil => rw [h] at hfl; simp at hfl; omega
      | cons y ys => exact ⟨y, List.mem_cons_self⟩
    have hfpos : 0 < s.first.length := by omega
    have fc : ∀ y ∈ s.first, 0 ≤ y ∧ y ≤ 999999999 := fun y hy => by
      obtain ⟨n, rfl, hn⟩ := card_nat (hfc y hy)
      omega
    have p9 : ((10 : Int) ^ (9 : Int).toNat) = 1000000000 := by decide
    refine q_asgR (lst_R (cons_R (dipR (ev_var rfl) ev_c (by decide) (by decide) hp8 (by omega) fun ra H9 ra0 ra1 k9 hp9 => cons_R (op_R (cb_R (cons_R ?_))))))
    have N9 := netK N8 hp8 k9
    refine RL (F := fun _ => True) (g := fun s => DI s.first) (mm := "first_row") (t0 := tVar 1) H9 (ev_var rfl) rfl N9 trivial H9 (Ex.refl H9) _ fun fr us H10 hfr e10 h10 hv10 => nil_R ?_
    have hu := da_ints hv10
    rw [hu] at h10
    refine ⟨fr, s.first, rfl, sq_of h10, hfpos, fun mx hmx hmax => c_R ⟨mx, 1, rfl, rfl, cons_R (cl_R (cons_R (var_R rfl (cons_R (ev_R (ev_op ev_c ev_c (rv_I (pow_ok (k := 4) (by decide) (by decide) (by decide) (by decide) (by decide)))) fun H11 e11 => nil_R ⟨p, _, m + 4, rfl, by decide, by decide, (hp9.ex (e10.trans e11)).mono (by omega), by omega, fun rb H12 rb0 rb1 k12 hp12 => ?_⟩)))))⟩⟩
    have N11 := N9.ex (e10.trans e11)
    have N12 := netK N11 (hp9.ex (e10.trans e11)) k12
    refine cons_R (cb_R (cons_R ?_))
    refine RL (F := fun _ => True) (g := fun s => DI s.first) (mm := "first_row") (t0 := tVar 1) H12 (ev_var rfl) rfl N12 trivial H12 (Ex.refl H12) _ fun fr2 us2 H13 hfr2 e13 h13 hv13 => nil_R ?_
    have hu2 := da_ints hv13
    rw [hu2] at h13
    refine ⟨fr2, s.first, rfl, sq_of h13, hfpos, fun mn hmn hmin => nil_R ⟨sz4, fun l hl => ?_⟩⟩
    have hp13 := hp12.ex e13
    have lp : l ≠ p := pne hp13 hl
    have k13 : Kp (fun a => a = p) H H13 := ((((k08.trans k9).trans (Kp.of (e10.trans e11))).trans k12).trans (Kp.of e13))
    refine ret_R (lst_R (cons_R (c_R (cons_R (cb_R (cons_R (cb_R (cons_R (c_R (cons_R (op_R (var_R (v := .ref l) rfl (dipR (ev_var rfl) ev_c (by decide) (by decide) (hp13.ex (Ex.new hl)) (by omega) fun r5 H14 r50 r51 k14 hp14 => ?_)))))))))))))
    obtain ⟨cv, hcv, hc4⟩ := pick4 (x := V.int ra) (y := V.int (mx + 1)) (z := V.int rb) (u := V.int mn) r50 r51
    obtain ⟨c0, rfl, c00⟩ : ∃ c0 : Int, cv = .int c0 ∧ 0 ≤ c0 := by
      rcases hc4 with rfl | rfl | rfl | rfl
      · exact ⟨_, rfl, ra0⟩
      · exact ⟨_, rfl, by have := fc mx hmx; omega⟩
      · exact ⟨_, rfl, rb0⟩
      · exact ⟨_, rfl, (fc mn hmn).1⟩
    have hcc : cardB (if c0 < 999999999 then c0 else 999999999) = true := by
      by_cases h : c0 < 999999999
      · rw [if_pos h]
        exact card_of c00 (by omega)
      · rw [if_neg h]
        decide
    refine ixL_R (sq_of (k14.st _ _ upd_same lp)) hcv (nil_R ⟨_, _, rfl, nil_R ⟨_, rfl, log_card hcc, nil_R ⟨sz2, fun q hq => ?_⟩⟩⟩)
    have k014 : Kp (fun a => a = p) H H14 := (kp_ex k13 (Ex.new hl)).trans k14
    exact kD q (.come _) _ (k014.fr _ hq) (kp_ex k014 (Ex.new hq)) ((hp14.ex (Ex.new hq)).mono (by omega)) upd_same (fun x hx => by rw [List.mem_singleton.mp hx]; exact hcc) (fun c hc => hn9)
  have hp8 := hp7.ex e8
  have N8 := N7.ex e8
  have k08 := kp_ex k07 e8
  -- rest
  refine q_ifC (fun H1 => PotAt H1 p (m + 4) ∧ NetAt K H1 A s ∧ Kp (fun a => a = p) H H1) (fun H9 ⟨hp9, N9, k09⟩ => ?_) fun cont => ?_
  · -- the lanes
    have h62 : (2 : Int) ^ 62 = 4611686018427387904 := by decide
    have hnn : ((s.n : Int) - 1).toNat = s.n - 1 := by omega
    have rng : ∀ (σ : K59.St) (H : Hp), σ[3]? = some (some (.int (s.n : Int))) → IsIt K (iRng1 (tCons (tOp (rI0 fun i j => .int (i - j)) (tVar 3) (tC (.int 1))) tNil)) σ H ((List.range (s.n - 1)).map fun i : Nat => PyData.int (i : Int)) := fun σ H hσ => by
      rw [← hnn]
      exact ii_rng1 (ed_op (ed_var hσ (.int _)) ed_i rd_I0) (by omega) (by omega)
    refine q_asgN (K := K) (ds := (laneXs s.n).map PrD) (en_to (en_cat (en_mapA (fun i : Nat => .int (i : Int)) (fun i => PrD ((i : Int), (i : Int) + 1)) (rng _ _ rfl) (by rw [List.length_range]; omega) (fun _ _ => rfl) fun i hi => tn1 (fun _ => rfl) fun v H10 e10 hv => ⟨et_yes, fun _ => ed_tup (es_cons (ed_var rfl hv) (es_cons (ed_op (ed_var rfl hv) ed_i rd_I0) es_nil)) (Nat.le_of_ble_eq_true rfl)⟩)
      (en_mapA (fun i : Nat => .int (i : Int)) (fun i => PrD ((i : Int) + 1, (i : Int))) (rng _ _ rfl) (by rw [List.length_range]; omega) (fun _ _ => rfl) fun i hi => tn1 (fun _ => rfl) fun v H10 e10 hv => ⟨et_yes, fun _ => ed_tup (es_cons (ed_op (ed_var rfl hv) ed_i rd_I0) (es_cons (ed_var rfl hv) es_nil)) (Nat.le_of_ble_eq_true rfl)⟩) (by rw [List.length_map, List.length_map, List.length_range]; omega)) (by rw [laneXs, List.map_append, List.map_map, List.map_map] <;> rfl)) fun l8 us8 H10 hl8 e10 h8 hv8 => ?_
    have hxl : (laneXs s.n).length ≤ 16 := by
      rw [laneXs, List.length_append, List.length_map, List.length_map, List.length_range]
      omega
    refine q_asgN (K := K) (ds := ((laneXs s.n).filter (openPr s)).map PrD) (en_lcA PrD (openPr s) PrD (ii_list (ed_var rfl (.lst (sq_of h8) hv8))) (by omega) (fun _ _ => rfl) fun pr hpr => tn1 (fun _ => rfl) fun v H11 e11 hv => ⟨?_, fun _ => ed_var rfl hv⟩) fun l9 us9 H11 hl9 e11 h9 hv9 => ?_
    · obtain ⟨i, j, rfl, hi, hj⟩ := laneXs_mem hpr
      have hvp : Dp K H11 v (.tuple [.int (i : Int), .int (j : Int)]) := hv
      refine et_to (et_db (ed_op (d1 := .list ((laneOf s i j).map Lt.D)) (fun H12 e12 Q q => ?_) (en_lst (K := K) es_nil (Nat.zero_le _)).toD (rd_neD (sh_Lts _) sh_nil))) (by rw [eqv_nil]; unfold openPr; congr 1; exact decide_eq_decide.mpr (by simp))
      obtain ⟨dxn, hn⟩ := (((N9.ex e10).ex e11).ex e12).net
      refine ⟨_, rfl, A .net, dxn, netF A, rfl, hn, rfl, ed_op (ed_var rfl hvp) ed_i (rd_ixT (j := 0) rfl rfl) H12 e12 _ fun u1 H13 e13 hu1 => ed_op (ed_var rfl hvp) ed_i (rd_ixT (j := 1) rfl rfl) H13 (e12.trans e13) _ fun u2 H14 e14 hu2 => ?_⟩
      cases hu1
      cases hu2
      exact ⟨A, s, i, j, rfl, ((((N9.ex e10).ex e11).ex e12).ex e13).ex e14, hi, hj, fun p2 us H15 hp2 e15 h15 hv15 => q _ H15 ((e13.trans e14).trans e15) (.lst (sq_of h15) hv15)⟩
    · generalize hys : (laneXs s.n).filter (openPr s) = ys at hv9
      have hyl : ys.length ≤ 16 := by
        rw [← hys]
        exact Nat.le_trans (List.length_filter_le _ _) hxl
      have hyr : ∀ pr ∈ ys, ∃ i j : Nat, pr = ((i : Int), (j : Int)) ∧ i < s.n ∧ j < s.n := fun pr hpr => by
        rw [← hys] at hpr
        exact laneXs_mem (List.mem_filter.mp hpr).1
      have hp11 := (hp9.ex e10).ex e11
      have k011 := kp_ex (kp_ex k09 e10) e11
      have dY : ∀ H', Ex H11 H' → Dp K H' (.ref l9) (.list (ys.map PrD)) := fun H' e => dp_ex e _ (.lst (sq_of h9) hv9)
      refine q_when (b := decide (way = 7) || decide (ys = [])) (et_or (et_db (K := K) (ed_op (ed_var rfl (.int _)) ed_i rd_eqI)) fun _ => et_to (et_db (ed_op (ed_var rfl (dY _ (Ex.refl _))) (en_lst (K := K) es_nil (Nat.zero_le _)).toD (rd_eqD (sh_Prs _) sh_nil))) (by rw [eqv_nil]; exact decide_eq_decide.mpr (by simp))) (fun z H12 e12 => ?_) fun z H12 e12 => ?_
      · -- step, any two
        have hp12 := hp11.ex e12
        refine ret_R (lst_R (cons_R (c_R (cons_R ?_))))
        refine cb_R (cons_R (var_R (v := .int one) rfl (nil_R ⟨one, rfl, log_card one_ok, ?_⟩)))
        refine cons_R (cb_R (cons_R (cb_R (cons_R (c_R (cons_R ?_))))))
        refine op_R (ev_R (ev_op (ev_var rfl) ev_c rv_I0) fun H13 e13 => op_R (c_R ?_))
        refine dipR (ev_var rfl) ev_c (by decide) (by decide) (hp12.ex e13) (by omega) fun r7 H14 r70 r71 k14 hp14 => ⟨2, r7, rfl, rfl, wide_mul (a := 3) (b := 3) (by decide) (by omega) (by decide) (by decide) (by decide), ?_⟩
        refine ⟨_, _, rfl, rfl, nil_R ⟨_, _, rfl, nil_R ⟨_, rfl, log_card ?_, nil_R ⟨sz3, fun q hq => ?_⟩⟩⟩⟩
        · by_cases h : one + 1 - 2 * r7 > 0
          · rw [if_pos h]
            exact card_of (by omega) (by omega)
          · rw [if_neg h]
            decide
        · have hcc : cardB (if one + 1 - 2 * r7 > 0 then one + 1 - 2 * r7 else 0) = true := by
            by_cases h : one + 1 - 2 * r7 > 0
            · rw [if_pos h]
              exact card_of (by omega) (by omega)
            · rw [if_neg h]
              decide
          have k014 := (kp_ex (kp_ex k011 e12) e13).trans k14
          refine kD q (.step one _) _ (k014.fr _ hq) (kp_ex k014 (Ex.new hq)) ((hp14.ex (Ex.new hq)).mono (by omega)) upd_same (fun x hx => ?_) (fun c hc => nomatch hc)
          rcases List.mem_cons.mp hx with rfl | hx
          · exact one_ok
          · rw [List.mem_singleton.mp hx]
            exact hcc
      · -- step, an open lane
        have hp12 := hp11.ex e12
        have hne : ys ≠ [] := of_decide_eq_false (Bool.or_eq_false_iff.mp z).2
        have hy0 : 0 < ys.length := List.length_pos_iff.mpr hne
        refine ret_R (op_R (lst_R (cons_R (c_R (nil_R ⟨sz1, fun q0 hq0 => ?_⟩)))))
        have e13 : Ex H12 (upd H12 q0 (.lst [.str "step"])) := Ex.new hq0
        have hp13 := hp12.ex e13
        have lenE := (ed_len (K := K) (ta := tVar 8) (σ := [some (.ref p), some (.ref (A .net)), some (.int 9), some (.int (s.n : Int)), some (.ref f), some (.int one), some (.int way), none, some (.ref l9), none, none, none]) (ed_var rfl (dY _ (e12.trans e13)))).i
        rw [List.length_map] at lenE
        refine lcT_R (op_R (var_R (v := .ref l9) rfl ?_))
        refine dipR (ev_var rfl) lenE (by omega) (by omega) hp13 (by omega) fun r8 H14 r80 r81 k14 hp14 => ?_
        obtain ⟨j0, rfl⟩ : ∃ j : Nat, r8 = (j : Int) := ⟨r8.toNat, by omega⟩
        have hj0 : j0 < ys.length := by omega
        obtain ⟨pr, hpr⟩ : ∃ pr, ys[j0]? = some pr := ⟨ys[j0], by simp [hj0]⟩
        obtain ⟨i, j, rfl, hi, hj⟩ := hyr pr (List.mem_of_getElem? hpr)
        have l9p : l9 ≠ p := pne (hp9.ex e10) hl9
        have q0p : q0 ≠ p := pne hp12 hq0
        have h914 := k14.st _ _ ((e12.trans e13) _ _ h9) l9p
        have d914 : DpAll K H14 us9 (ys.map PrD) := da_ts (k14.ts (potNT hp13)) _ (PrD_noL ys) (da_ex (e12.trans e13) _ hv9)
        obtain ⟨xv, hxv, hxd⟩ := da_at d914 (show (ys.map PrD)[j0]? = some (PrD ((i : Int), (j : Int))) by rw [List.getElem?_map, hpr] <;> rfl)
        refine ixL_R (sq_of h914) (atI_nat hxv) ?_
        have ic : cardB (i : Int) = true := numT_lenI (by omega)
        have jc : cardB (j : Int) = true := numT_lenI (by omega)
        refine en_mapA (K := K) PyData.int (fun x => .str (numT x)) (xs := [(i : Int), (j : Int)]) (ii_tup (ed_of ev_c hxd)) (Nat.le_of_ble_eq_true rfl) (fun _ _ => rfl) (fun x hx => tn1 (fun _ => rfl) fun v H15 e15 hv => ⟨et_yes, fun _ => ed_strI (ed_var rfl hv) ?_⟩) H14 (Ex.refl H14) _ fun p2 us2 H15 hp2 e15 h15 hv15 => ?_
        · rcases List.mem_cons.mp hx with rfl | hx
          · exact ic
          · rw [List.mem_singleton.mp hx]
            exact jc
        · have hu := da_strs (ns := [numT i, numT j]) hv15
          rw [hu] at h15
          have k015 := kp_ex ((kp_ex (kp_ex k011 e12) e13).trans k14) e15
          refine ⟨q0, p2, [.str "step"], _, rfl, rfl, e15 _ _ (k14.st _ _ upd_same q0p), h15, sz3, fun q hq => ?_⟩
          refine kD q (.step (i : Int) (j : Int)) _ (k015.fr _ hq) (kp_ex k015 (Ex.new hq)) ((((hp14.ex e15).ex (Ex.new hq))).mono (by omega)) upd_same (fun x hx => ?_) (fun c hc => nomatch hc)
          rcases List.mem_cons.mp hx with rfl | hx
          · exact ic
          · rw [List.mem_singleton.mp hx]
            exact jc
  · have c6 : Ev (tOp rEq (tVar 6) (tC (.int 6))) [some (.ref p), some (.ref (A .net)), some (.int 9), some (.int (s.n : Int)), some (.ref f), some (.int one), some (.int way), none, none, none, none, none] H8 (.bl (decide (V.int way = V.int 6))) := ev_op (ev_var rfl) ev_c (rv_eq rfl)
    unfold tAnd tTest
    refine ev_R c6 fun H9 e9 => ⟨_, rfl, ?_⟩
    have hp9 := hp8.ex e9
    have N9 := N8.ex e9
    have k09 := kp_ex k08 e9
    cases decide (V.int way = V.int 6) with
    | false => exact cont H9 ⟨hp9.mono (by omega), N9, k09⟩
    | true =>
      refine op_R (dipR (ev_var rfl) ev_c (by decide) (by decide) hp9 (by omega) fun r6 H10 r60 r61 k10 hp10 => c_R ⟨rfl, _, rfl, ?_⟩)
      have k010 := k09.trans k10
      have N10 := netK N9 hp9 k10
      cases decide (V.int r6 = V.int 0) with
      | false => exact cont H10 ⟨hp10.mono (by omega), N10, k010⟩
      | true =>
        refine s_retN (K := K) (en_lst (es_cons ed_s es_nil) (Nat.le_of_ble_eq_true rfl)) fun q us H11 hq e11 h11 hv11 => ?_
        have hu := da_strs (ns := ["rest"]) hv11
        rw [hu] at h11
        exact kR q H11 (k010.fr _ hq) (kp_ex k010 e11) ((hp10.ex e11).mono (by omega)) h11
end
end K59

set_option Elab.async false
set_option linter.all false
set_option maxRecDepth 100000
set_option maxHeartbeats 4000000
/-! the law's threes -/
namespace K59
open PySem PySem.Spec PyProof.Rows L2 Evl He
abbrev sortI (ns : List Int) : List Int := sortE PyData.int ns
theorem leI (a b : Int) : PySem.W.dataLe false (fun d : PyData => d) (.int a) (.int b) = decide (a ≤ b) := congrFun (congrFun (PySem.W.dataLe_int (β := Int) (k := fun x => x)) a) b
theorem sortI_sorted (ns : List Int) : (sortI ns).Pairwise (· ≤ ·) := by
  have h := List.pairwise_mergeSort (le := fun a b : Int => PySem.W.dataLe false (fun d : PyData => d) (.int a) (.int b)) (fun a b c h1 h2 => by
    rw [leI] at *
    have := of_decide_eq_true h1
    have := of_decide_eq_true h2
    exact decide_eq_true (by omega)) (fun a b => by
    rw [leI, leI]
    by_cases h : a ≤ b
    · rw [decide_eq_true h] <;> rfl
    · rw [decide_eq_true (show b ≤ a by omega), Bool.or_true]) ns
  exact h.imp fun {a b} q => by
    rw [leI] at q
    exact of_decide_eq_true q
theorem sortI_self {ns : List Int} (h : ns.Pairwise (· ≤ ·)) : sortI ns = ns := List.mergeSort_of_pairwise (h.imp fun {a b} q => by
  rw [leI]
  exact decide_eq_true q)
section
variable {K : PySem.W.Frag} {σ : K59.St} {H : Hp} {ta : TE}
theorem en_sortedI {ns : List Int} (h : EvD K ta σ H (.list (DI ns))) : EvN K (tCB (rSortedD K) (tCons ta tNil)) σ H (DI (sortI ns)) := by
  rw [DI, ← sortD_map]
  exact en_sorted h (DI_alike ns) (PySem.W.Sortable.others fun b => ⟨(fun z => nomatch z), (fun xs z => nomatch z)⟩) fun d hd => by
    obtain ⟨p, _, rfl⟩ := List.mem_map.mp hd
    simp [PyData.depth]
end
section
variable {P : Program} {w : World} {K : PySem.W.Frag} {mg : Str → Option Value} {base : Heap}
def TsOk (ns : List Int) (ts : List (Int × Int × Int)) : Prop := ∀ t ∈ ts, t.1 < t.2.1 ∧ t.2.1 < t.2.2 ∧ t.1 ∈ ns ∧ t.2.1 ∈ ns ∧ t.2.2 ∈ ns
def spThrees (K : PySem.W.Frag) : Sp := fun vs H Q _ => ∃ (v : V) (ns : List Int), vs = [v] ∧ Dp K H v (.list (DI ns)) ∧ ns.length ≤ 9 ∧ ns.Nodup ∧ ∀ (q : Addr) (us : List V) (ts : List (Int × Int × Int)) (H2 : Hp), H q = none → Ex H H2 → H2 q = some (.lst us) → DpAll K H2 us (ts.map ThD) → TsOk ns ts → ts.length ≤ 1000 → Q (.ref q) H2
theorem pw_get {zs : List Int} (h : zs.Pairwise (· < ·)) {i j : Nat} {x y : Int} (hx : zs[i]? = some x) (hy : zs[j]? = some y) (hij : i < j) : x < y := by
  obtain ⟨h1, e1⟩ := List.getElem?_eq_some_iff.mp hx
  obtain ⟨h2, e2⟩ := List.getElem?_eq_some_iff.mp hy
  rw [← e1, ← e2]
  exact List.pairwise_iff_getElem.mp h i j h1 h2 hij
theorem ok_law_threes (T : Txt w K mg) : FR P w K mg base 1 (ga K "_law_threes") (spThrees K) := by
  refine okN T.f__law_threes sc__law_threes (fun _ _ _ _ _ _ us hl => match us, hl with | [_], _ => rfl) (fun vs H Q E h => by obtain ⟨_, _, rfl, _⟩ := h; rfl) fun cdv A0 outer s0 H vs Q E hr h => ?_
  obtain ⟨v, ns, rfl, hv, hn, hnd, k⟩ := h
  refine ⟨_, (pss_cons (ps_set (i := 1) sc__law_threes.nd rfl (Or.inl rfl) (pe_callB (cr_sortedD (hu65 hr)) (by rfl) T.b_sorted bt_sorted (pa_cons (pv 0) pa_nil)))
      (pss_cons (ps_set (i := 2) sc__law_threes.nd rfl (Or.inl rfl) (pe_lst pa_nil))
      (pss_cons (ps_for PassesOwn.never rfl (pi_enum (by rfl) T.b_enumerate (pa_cons (pv 1) pa_nil)) (pg_tup (by rfl) (pgs_cons (pg_name (i := 3) sc__law_threes.nd rfl (Or.inl rfl)) (pgs_cons (pg_name (i := 4) sc__law_threes.nd rfl (Or.inr rfl)) pgs_nil))) (pss_one (ps_for PassesOwn.never rfl (pi_enum (by rfl) T.b_enumerate (pa_cons (pe_slice sl_list (pv 1) (po_some (pe_op op_add (pv 3) pe_int)) po_none) pa_nil)) (pg_tup (by rfl) (pgs_cons (pg_name (i := 5) sc__law_threes.nd rfl (Or.inl rfl)) (pgs_cons (pg_name (i := 6) sc__law_threes.nd rfl (Or.inr rfl)) pgs_nil))) (pss_one (ps_expr (pe_bm PySem.F.plainAttrs_list PySem.F.slot_list_extend PySem.F.type_list_extend mt_extend (pv 2) (pa_cons (pe_lc (own := [("_law_z", 7)]) (g := (gName 7)) (tt := tYes) rfl sc__law_threes.nd (pi_list (pe_slice sl_list (pv 1) (po_some (pe_op op_add (pe_op op_add (pv 3) (pv 5)) pe_int)) po_none)) (blkOk_by (own := [("_law_z", 7)]) (N := N__law_threes) (sc := defScope s__law_threes) (by decide +kernel)) (fun _ _ _ _ _ => (pg_name (i := 7) sc__law_threes.nd rfl (Or.inl rfl))) (fun _ _ _ _ _ => pts_nil) (fun _ _ _ _ _ => (pe_tup (pa_cons (pv 4) (pa_cons (pv 6) (pa_cons (pv 7) pa_nil)))))) pa_nil)))))))
      (pss_one (ps_ret (pv 2)))))), ?_⟩
  have hperm := sortE_perm PyData.int ns
  have hzl : (sortI ns).length ≤ 9 := by rw [hperm.length_eq]; exact hn
  have hzs : (sortI ns).Pairwise (· < ·) := by
    have h1 := sortI_sorted ns
    have h2 : (sortI ns).Nodup := hperm.nodup_iff.mpr hnd
    exact (h1.and h2).imp fun {a b} q => by
      have := q.1
      have := q.2
      omega
  have hmem : ∀ x, x ∈ sortI ns → x ∈ ns := fun x hx => hperm.mem_iff.mp hx
  refine q_asgN (K := K) (en_sortedI (ed_var rfl hv)) fun c us1 H1 hc e1 h1 hv1 => ?_
  generalize hz : sortI ns = zs at hzl hzs hmem hv1
  have hu1 := da_ints hv1
  rw [hu1] at h1
  refine q_asgN (K := K) (en_lst es_nil (Nat.zero_le _)) fun l us2 H2 hl e2 h2 hv2 => ?_
  cases hv2
  have hc2 := e2 _ _ h1
  have lc : l ≠ c := fun z => by rw [z, h1] at hl; cases hl
  have dz : ∀ H', Ex H1 H' → Dp K H' (.ref c) (.list (DI zs)) := fun H' e => .lst (sq_of (e _ _ h1)) (ints_da zs)
  have hDl : (DI zs).length = zs.length := List.length_map _
  refine q_forV (H0 := H1) (iv_enum (ev_var rfl) (dz H1 (Ex.refl H1))) e2 (fun i σ' H' => ∃ (u1 u2 u3 u4 u5 : Option V) (ws : List V) (ts : List (Int × Int × Int)), σ' = [some v, some (.ref c), some (.ref l), u1, u2, u3, u4, u5] ∧ Ex H1 H' ∧ H' l = some (.lst ws) ∧ DpAll K H' ws (ts.map ThD) ∧ TsOk ns ts ∧ ts.length ≤ i * 81) (fun H3 e3 => ⟨_, _, _, _, _, _, [], rfl, e2.trans e3, e3 _ _ h2, .nil, (fun t ht => by cases ht), Nat.zero_le _⟩) (fun i σ' H' _ ⟨_, _, _, _, _, _, _, _, p, _⟩ => p) ?_ ?_
  · rintro i d σ' H' x H3 hd ⟨_, _, _, _, _, ws, ts, rfl, p1, p2, p3, p4, p5⟩ e3 hx
    obtain ⟨xi, hxi, rfl⟩ := enumA_get hd
    have hi : i < zs.length := (List.getElem?_eq_some_iff.mp hxi).1
    refine g_tup2 hx fun a1 a2 d1 d2 => ?_
    cases d1
    cases d2
    have e13 := p1.trans e3
    unfold tFor iEnum
    refine cons_R (en_to (en_sl (ed_var rfl (dz H3 e13)) (eo_d (K := K) (ed_op (ed_var rfl (.int _)) ed_i rd_I0)) eo_none) (cutD_from PyData.int zs (i + 1) rfl) H3 (Ex.refl H3) _ fun b usb H4 hb e4 h4 hv4 => nil_R ⟨b, usb, rfl, sq_of h4, ?_⟩)
    have hub := da_ints (ns := zs.drop (i + 1)) hv4
    rw [hub] at h4
    have e14 := e13.trans e4
    have hbl : l ≠ b := fun z => by
      have := e3 _ _ p2
      rw [z, hb] at this
      cases this
    have nl1 : H1 l = none := hl
    refine s_forG (wi := iEnum K tNil) (R := fun _ _ => True) (ds := enumD 0 (DI (zs.drop (i + 1)))) gv_enum (fun j σ' H' => ∃ (u3 u4 u5 : Option V) (ws : List V) (ts : List (Int × Int × Int)), σ' = [some v, some (.ref c), some (.ref l), some (.int (i : Nat)), some (.int xi), u3, u4, u5] ∧ Ex (upd H1 b (.lst ((zs.drop (i + 1)).map V.int))) H' ∧ H' l = some (.lst ws) ∧ DpAll K H' ws (ts.map ThD) ∧ TsOk ns ts ∧ ts.length ≤ i * 81 + j * 9)
      ⟨_, _, _, ws, ts, rfl, ex_upd e14 h4, e4 _ _ (e3 _ _ p2), da_ex (e3.trans e4) _ p3, p4, by omega⟩ (fun j σ' H' _ ⟨_, _, _, _, _, _, q, _⟩ => ⟨_, sq_of (q _ _ upd_same), ints_da _⟩) ?_ ?_
    · rintro j d σ' H' x H5 hd ⟨u3, u4, u5, ws, ts, rfl, q1, q2, q3, q4, q5⟩ e5 hx
      obtain ⟨yj, hyj, rfl⟩ := enumA_get hd
      have hj : j < (zs.drop (i + 1)).length := (List.getElem?_eq_some_iff.mp hyj).1
      rw [List.length_drop] at hj
      rw [List.getElem?_drop] at hyj
      refine g_tup2 hx fun a1 a2 d1 d2 => ?_
      cases d1
      cases d2
      have eB := fun a o h => e5 a o (q1 a o h)
      have e15 : Ex H1 H5 := fun a o h => eB a o (by rw [upd_ne (fun z => by rw [z, fresh_back e13 hb] at h; cases h)]; exact h)
      have hxy := pw_get hzs hxi hyj (by omega)
      refine s_extN (e5 _ _ q2) (da_ex e5 _ q3) (ThD_noL _) (ThD_noL ((zs.drop (i + j + 2)).map fun z => (xi, yj, z))) (ev_var rfl) (en_to (en_mapA PyData.int (fun z => ThD (xi, yj, z)) (xs := zs.drop (i + j + 2)) (ii_list (en_to (en_sl (ed_var rfl (dz H5 e15)) (eo_d (K := K) (ed_op (ed_op (ed_var rfl (.int _)) (ed_var rfl (.int _)) rd_I0) ed_i rd_I0)) eo_none) (cutD_from PyData.int zs (i + j + 2) rfl)).toD) (by rw [List.length_drop]; omega) (fun _ _ => rfl)
        fun z hz => tn1 (fun _ => rfl) fun v3 H6 e6 hv3 => ⟨et_yes, fun _ => ed_tup (es_cons (ed_var rfl (.int xi)) (es_cons (ed_var rfl (.int yj)) (es_cons (ed_var rfl hv3) es_nil))) (Nat.le_of_ble_eq_true rfl)⟩) (by rw [List.map_map] <;> rfl)) ?_ fun ws2 H6 k1 k2 k3 k4 => ⟨_, _, _, ws2, ts ++ (zs.drop (i + j + 2)).map fun z => (xi, yj, z), rfl, k1 _ eB (by rw [upd_ne hbl]; exact nl1), k3, by rw [List.map_append]; exact k4, fun t ht => ?_, ?_⟩
      · have hB : i * 81 ≤ 9 * 81 := Nat.mul_le_mul_right 81 (by omega)
        have hC : j * 9 ≤ 9 * 9 := Nat.mul_le_mul_right 9 (by omega)
        rw [List.length_map, List.length_map, List.length_map, List.length_drop]
        omega
      · rcases List.mem_append.mp ht with ht | ht
        · exact q4 t ht
        · obtain ⟨z, hz, rfl⟩ := List.mem_map.mp ht
          obtain ⟨m, hm⟩ := List.mem_iff_getElem?.mp hz
          rw [List.getElem?_drop] at hm
          exact ⟨hxy, pw_get hzs hyj hm (by omega), hmem _ (List.mem_of_getElem? hxi), hmem _ (List.mem_of_getElem? hyj), hmem _ (List.mem_of_getElem? hm)⟩
      · rw [List.length_append, List.length_map, List.length_drop, Nat.succ_mul]
        omega
    · rintro σ' H' ⟨u3, u4, u5, ws, ts, rfl, q1, q2, q3, q4, q5⟩
      refine ⟨_, _, _, _, _, ws, ts, rfl, fun a o h => q1 a o (by rw [upd_ne (fun z => by rw [z, fresh_back e13 hb] at h; cases h)]; exact h), q2, q3, q4, ?_⟩
      rw [enumD_len, show (DI (zs.drop (i + 1))).length = zs.length - (i + 1) by rw [List.length_map, List.length_drop]] at q5
      rw [Nat.succ_mul]
      have : (zs.length - (i + 1)) * 9 ≤ 9 * 9 := Nat.mul_le_mul_right 9 (by omega)
      omega
  · rintro σ' H' ⟨_, _, _, _, _, ws, ts, rfl, p1, p2, p3, p4, p5⟩
    rw [enumD_len, hDl] at p5
    exact ⟨_, rfl, k l ws ts H' (fresh_back e1 hl) (e1.trans p1) p2 p3 p4 (by omega)⟩
end
end K59

set_option Elab.async false
set_option linter.all false
set_option maxRecDepth 100000
set_option maxHeartbeats 4000000
/-! plain mathematics: channels -/
namespace K59
/-- what a hand takes in, letter by letter: the card heard last, the card sent away -/
def runB : Option Int → Option Int → List Lt → Option (Option Int × Option Int)
  | h, x, [] => some (h, x)
  | h, x, .mine m :: L => if h = none ∨ ∃ y, h = some y ∧ m < y then runB (some m) x L else none
  | h, x, .back d :: L => match x, h with
    | some s, some y => if d < s ∧ d ≤ y then runB (some s) none L else none
    | _, _ => none
  | _, _, .over _ :: _ => none
theorem runB_app : ∀ (L M : List Lt) (h x : Option Int), runB h x (L ++ M) = (runB h x L).bind fun r => runB r.1 r.2 M
  | [], M, h, x => rfl
  | .mine m :: L, M, h, x => by
    show (if h = none ∨ ∃ y, h = some y ∧ m < y then runB (some m) x (L ++ M) else none) = _
    show _ = (if h = none ∨ ∃ y, h = some y ∧ m < y then runB (some m) x L else none).bind _
    by_cases c : h = none ∨ ∃ y, h = some y ∧ m < y
    · rw [if_pos c, if_pos c, runB_app L M]
    · rw [if_neg c, if_neg c] <;> rfl
  | .back d :: L, M, h, x => by
    cases x with
    | none => rfl
    | some s =>
      cases h with
      | none => rfl
      | some y =>
        show (if d < s ∧ d ≤ y then runB (some s) none (L ++ M) else none) = (if d < s ∧ d ≤ y then runB (some s) none L else none).bind _
        by_cases c : d < s ∧ d ≤ y
        · rw [if_pos c, if_pos c, runB_app L M]
        · rw [if_neg c, if_neg c] <;> rfl
  | .over c :: L, M, h, x => rfl
/-- the card of a back letter on its way -/
def pend : List Lt → Option Int
  | [] => none
  | .back d :: _ => some d
  | _ :: L => pend L
theorem pend_app (L M : List Lt) : pend (L ++ M) = (pend L).or (pend M) := by
  induction L with
  | nil => cases h : pend M <;> simp [pend, h]
  | cons l L ih =>
    cases l with
    | back d => rfl
    | mine m => exact ih
    | over c => exact ih
theorem runB_inv : ∀ {L : List Lt} {h x h2 x2 : Option Int}, runB h x L = some (h2, x2) → (pend L = none ∧ x2 = x ∧ (∀ y z, h = some y → h2 = some z → z ≤ y) ∧ (h ≠ none → h2 ≠ none)) ∨ (∃ d s, pend L = some d ∧ x = some s ∧ x2 = none ∧ h2 ≠ none ∧ d < s)
  | [], h, x, h2, x2, e => by
    cases e
    exact .inl ⟨rfl, rfl, fun y z a b => by rw [a] at b; cases b; exact Int.le_refl _, fun z => z⟩
  | .mine m :: L, h, x, h2, x2, e => by
    have e : (if h = none ∨ ∃ y, h = some y ∧ m < y then runB (some m) x L else none) = some (h2, x2) := e
    split at e
    · rename_i c
      rcases runB_inv e with ⟨a1, a2, a3, a4⟩ | ⟨d, s, a1, a2, a3, a4, a5⟩
      · refine .inl ⟨a1, a2, fun y z b1 b2 => ?_, fun _ => a4 (by simp)⟩
        have h1 := a3 m z rfl b2
        rcases c with c | ⟨y', c1, c2⟩
        · rw [c] at b1
          cases b1
        · rw [b1] at c1
          cases c1
          omega
      · exact .inr ⟨d, s, a1, a2, a3, a4, a5⟩
    · cases e
  | .back d :: L, h, x, h2, x2, e => by
    cases x with
    | none => cases e
    | some s =>
      cases h with
      | none => cases e
      | some y =>
        have e : (if d < s ∧ d ≤ y then runB (some s) none L else none) = some (h2, x2) := e
        split at e
        · rename_i c
          refine .inr ⟨d, s, rfl, rfl, ?_⟩
          rcases runB_inv e with ⟨a1, a2, a3, a4⟩ | ⟨d', s', a1, a2, a3, a4, a5⟩
          · exact ⟨a2, a4 (by simp), c.1⟩
          · cases a2
        · cases e
  | .over c :: L, h, x, h2, x2, e => by cases e
def core (h : Hd) : Option Int := h.held.or h.sent
/-- a hand of its own -/
def HdOk (h : Hd) : Prop := (∃ c, h.held = some c ∧ h.sent = none ∧ h.aside = none) ∨ (h.held = none ∧ ∃ x, h.sent = some x ∧ h.heard ≠ none)
/-- what lies between a hand and its right neighbour -/
structure Ch (a b : Hd) (R L : List Lt) : Prop where
  run : ∃ c sa, core b = some c ∧ runB a.heard a.sent L = some (some c, sa)
  idle : a.sent = none → R = [] ∧ b.aside = none
  wait : ∀ x, a.sent = some x → pend L = none → (∀ c, core b = some c → c < x) ∧ ((R = [.over x] ∧ b.aside = none) ∨ (R = [] ∧ b.aside = some x))
  back : ∀ x d, a.sent = some x → pend L = some d → R = [] ∧ b.aside = none
theorem core_held {h : Hd} {c : Int} (e : h.held = some c) : core h = some c := by unfold core; rw [e]; rfl
theorem core_sent {h : Hd} {c : Int} (e : h.held = none) (e2 : h.sent = some c) : core h = some c := by unfold core; rw [e, e2]; rfl
/-- go: the channel to the right -/
theorem ch_go {a b : Hd} {R L : List Lt} {c : Int} (C : Ch a b R L) (ha : a.held = some c) (hs : a.sent = none) (g : mayGo a = true) : Ch (goF a) b (R ++ [.over c]) L := by
  obtain ⟨cb, sa, h1, h2⟩ := C.run
  obtain ⟨i1, i2⟩ := C.idle hs
  obtain ⟨y, hy, hyc⟩ : ∃ y, a.heard = some y ∧ y < c := by
    unfold mayGo at g
    rw [ha] at g
    cases e : a.heard with
    | none => rw [e] at g; cases g
    | some y =>
      rw [e] at g
      exact ⟨y, rfl, of_decide_eq_true g⟩
  have hp : pend L = none := by
    rcases runB_inv h2 with ⟨p, _⟩ | ⟨d, s, _, p, _⟩
    · exact p
    · rw [hs] at p
      cases p
  have hle : cb ≤ y := by
    rcases runB_inv h2 with ⟨_, _, p, _⟩ | ⟨d, s, _, p, _⟩
    · exact p y cb hy rfl
    · rw [hs] at p
      cases p
  have rs : ∀ (L : List Lt) (h : Option Int) (r : Option Int) (sa : Option Int), pend L = none → runB h none L = some (r, sa) → runB h (some c) L = some (r, some c) := by
    intro L
    induction L with
    | nil =>
      intro h r sa _ e
      cases e
      rfl
    | cons l L ih =>
      intro h r sa hp e
      cases l with
      | mine m =>
        have e : (if h = none ∨ ∃ y, h = some y ∧ m < y then runB (some m) none L else none) = some (r, sa) := e
        show (if h = none ∨ ∃ y, h = some y ∧ m < y then runB (some m) (some c) L else none) = _
        split at e
        · rename_i q
          rw [if_pos q]
          exact ih _ _ _ hp e
        · cases e
      | back d => cases hp
      | over d => cases e
  rw [hs] at h2
  have es : (goF a).sent = some c := ha
  refine ⟨⟨cb, some c, h1, ?_⟩, fun z => (by rw [es] at z; cases z), fun x hx _ => ?_, fun x d _ q => (by rw [hp] at q; cases q)⟩
  · rw [es]
    exact rs L a.heard _ _ hp h2
  · rw [es] at hx
    cases hx
    refine ⟨fun c' hc' => ?_, .inl ⟨by rw [i1] <;> rfl, i2⟩⟩
    rw [h1] at hc'
    cases hc'
    omega
/-- a mine letter is heard -/
theorem ch_mine {a b : Hd} {R L : List Lt} {m : Int} (C : Ch a b R (.mine m :: L)) : (a.heard = none ∨ ∃ y, a.heard = some y ∧ m < y) ∧ Ch { a with heard := some m } b R L := by
  obtain ⟨cb, sa, h1, h2⟩ := C.run
  have h2 : (if a.heard = none ∨ ∃ y, a.heard = some y ∧ m < y then runB (some m) a.sent L else none) = some (some cb, sa) := h2
  split at h2
  · rename_i q
    exact ⟨q, ⟨cb, sa, h1, h2⟩, C.idle, C.wait, C.back⟩
  · cases h2
/-- an over letter is heard by a hand that holds -/
theorem ch_over_held {a b : Hd} {L : List Lt} {x l : Int} (C : Ch a b [.over x] L) (hb : b.held = some l) : a.sent = some x ∧ l < x ∧ b.aside = none ∧ pend L = none ∧ Ch a { b with held := some x } [] (L ++ [.back l]) := by
  obtain ⟨cb, sa, h1, h2⟩ := C.run
  have hcb : cb = l := by
    rw [core_held hb] at h1
    exact (Option.some.inj h1).symm
  subst hcb
  cases hs : a.sent with
  | none =>
    have := (C.idle hs).1
    cases this
  | some s =>
    cases hp : pend L with
    | some d =>
      have := (C.back s d hs hp).1
      cases this
    | none =>
      obtain ⟨w1, w2⟩ := C.wait s hs hp
      rcases w2 with ⟨w2, w3⟩ | ⟨w2, _⟩
      · cases w2
        have hlt := w1 cb h1
        have hsa : sa = some x := by
          rcases runB_inv h2 with ⟨_, q, _⟩ | ⟨d, s', q, _⟩
          · rw [q, hs]
          · rw [hp] at q
            cases q
        have hpe : pend (L ++ [.back cb]) = some cb := by
          rw [pend_app, hp] <;> rfl
        refine ⟨rfl, hlt, w3, rfl, ⟨x, none, rfl, ?_⟩, fun z => (by rw [hs] at z; cases z), fun y hy q => (by rw [hpe] at q; cases q), fun y d hy q => ⟨rfl, w3⟩⟩
        rw [hs] at h2
        rw [hs, runB_app, h2, hsa]
        show (if cb < x ∧ cb ≤ cb then runB (some x) none [] else none) = _
        rw [if_pos ⟨hlt, Int.le_refl _⟩] <;> rfl
      · cases w2
/-- an over letter is put aside -/
theorem ch_over_aside {a b : Hd} {L : List Lt} {x y : Int} (C : Ch a b [.over x] L) (hb : b.held = none) (hy : b.sent = some y) : y < x ∧ b.aside = none ∧ Ch a { b with aside := some x } [] L := by
  obtain ⟨cb, sa, h1, h2⟩ := C.run
  have hc : core b = some y := core_sent hb hy
  cases hs : a.sent with
  | none =>
    have := (C.idle hs).1
    cases this
  | some s =>
    cases hp : pend L with
    | some d =>
      have := (C.back s d hs hp).1
      cases this
    | none =>
      obtain ⟨w1, w2⟩ := C.wait s hs hp
      rcases w2 with ⟨w2, w3⟩ | ⟨w2, _⟩
      · cases w2
        exact ⟨w1 y hc, w3, ⟨cb, sa, h1, h2⟩, fun z => (by rw [hs] at z; cases z), fun z hz q => by
          rw [hs] at hz
          cases hz
          exact ⟨w1, .inr ⟨rfl, rfl⟩⟩, fun z d hz q => (by rw [hp] at q; cases q)⟩
      · cases w2
/-- a back letter is heard: the channel it came through; h' is the hand behind it (its card of its own) -/
theorem ch_back {a b : Hd} {R L : List Lt} {d : Int} (C : Ch a b R (.back d :: L)) : ∃ x y, a.sent = some x ∧ a.heard = some y ∧ d < x ∧ d ≤ y ∧ R = [] ∧ b.aside = none ∧ pend L = none ∧ ∀ h' : Hd, h'.sent = none → h'.heard = some x → Ch h' b [] L := by
  obtain ⟨cb, sa, h1, h2⟩ := C.run
  cases hs : a.sent with
  | none => rw [hs] at h2; cases h2
  | some x =>
    cases hh : a.heard with
    | none => rw [hs, hh] at h2; cases h2
    | some y =>
      rw [hs, hh] at h2
      have h2 : (if d < x ∧ d ≤ y then runB (some x) none L else none) = some (some cb, sa) := h2
      split at h2
      · rename_i q
        obtain ⟨r1, r2⟩ := C.back x d hs rfl
        have hp : pend L = none := by
          rcases runB_inv h2 with ⟨p, _⟩ | ⟨d', s', _, p, _⟩
          · exact p
          · cases p
        refine ⟨x, y, rfl, rfl, q.1, q.2, r1, r2, hp, fun h' e1 e2 => ⟨⟨cb, sa, h1, by rw [e1, e2]; exact h2⟩, fun _ => ⟨rfl, r2⟩, fun z hz _ => (by rw [e1] at hz; cases hz), fun z d' hz _ => (by rw [e1] at hz; cases hz)⟩⟩
      · cases h2
/-- the left channel of a hand that took a card back with nothing aside: it tells the card -/
theorem ch_tell {a b b' : Hd} {R L : List Lt} {x d : Int} (C : Ch a b R L) (hc : core b = some x) (hd : d < x) (ha : b.aside = none) (hc' : core b' = some d) (ha' : b'.aside = none) : Ch a b' R (L ++ [.mine d]) := by
  obtain ⟨cb, sa, h1, h2⟩ := C.run
  have hcb : cb = x := by rw [hc] at h1; exact (Option.some.inj h1).symm
  subst hcb
  have hp : pend (L ++ [.mine d]) = pend L := by
    rw [pend_app]
    cases pend L <;> rfl
  refine ⟨⟨d, sa, hc', ?_⟩, fun z => ⟨(C.idle z).1, ha'⟩, fun z hz q => ?_, fun z d' hz q => ⟨(C.back z d' hz (by rw [← hp]; exact q)).1, ha'⟩⟩
  · rw [runB_app, h2]
    show (if some cb = none ∨ ∃ y, some cb = some y ∧ d < y then runB (some d) sa [] else none) = _
    rw [if_pos (.inr ⟨cb, rfl, hd⟩)] <;> rfl
  · rw [hp] at q
    obtain ⟨w1, w2⟩ := C.wait z hz q
    refine ⟨fun c hcc => ?_, ?_⟩
    · rw [hc'] at hcc
      cases hcc
      have := w1 cb hc
      omega
    · rcases w2 with ⟨w2, w3⟩ | ⟨w2, w3⟩
      · exact .inl ⟨w2, ha'⟩
      · rw [ha] at w3
        cases w3
/-- .. with a card aside: it takes that card, and sends back the other -/
theorem ch_swap {a b b' : Hd} {R L : List Lt} {x d c : Int} (C : Ch a b R L) (hc : core b = some x) (hd : d < x) (ha : b.aside = some c) (hc' : core b' = some c) (ha' : b'.aside = none) : a.sent = some c ∧ x < c ∧ pend L = none ∧ R = [] ∧ Ch a b' [] (L ++ [.back d]) := by
  obtain ⟨cb, sa, h1, h2⟩ := C.run
  have hcb : cb = x := by rw [hc] at h1; exact (Option.some.inj h1).symm
  subst hcb
  cases hs : a.sent with
  | none =>
    have := (C.idle hs).2
    rw [ha] at this
    cases this
  | some s =>
    cases hp : pend L with
    | some d' =>
      have := (C.back s d' hs hp).2
      rw [ha] at this
      cases this
    | none =>
      obtain ⟨w1, w2⟩ := C.wait s hs hp
      rcases w2 with ⟨_, w3⟩ | ⟨w2, w3⟩
      · rw [ha] at w3
        cases w3
      · rw [ha] at w3
        cases w3
        have hlt := w1 cb hc
        have hsa : sa = some c := by
          rcases runB_inv h2 with ⟨_, q, _⟩ | ⟨_, _, q, _⟩
          · rw [q, hs]
          · rw [hp] at q
            cases q
        have hpe : pend (L ++ [.back d]) = some d := by
          rw [pend_app, hp] <;> rfl
        refine ⟨rfl, hlt, rfl, w2, ⟨c, none, hc', ?_⟩, fun z => (by rw [hs] at z; cases z), fun y hy q => (by rw [hpe] at q; cases q), fun y d' hy q => ⟨rfl, ha'⟩⟩
        rw [hs] at h2
        rw [hs, runB_app, h2, hsa]
        show (if d < c ∧ d ≤ cb then runB (some c) none [] else none) = _
        rw [if_pos ⟨by omega, by omega⟩] <;> rfl
end K59

set_option Elab.async false
set_option linter.all false
set_option maxRecDepth 100000
set_option maxHeartbeats 4000000
/-! plain mathematics: whole nets -/
namespace K59
def cardAt (s : NS) (i : Nat) : Option Int := (pend (s.L i)).or (core (s.hd i))
structure Good (s : NS) : Prop where
  n1 : 1 ≤ s.n
  hd : ∀ i, i < s.n → HdOk (s.hd i)
  last : (s.hd (s.n - 1)).heard = none
  asd0 : (s.hd 0).aside = none
  ch : ∀ i, i + 1 < s.n → Ch (s.hd i) (s.hd (i + 1)) (s.R i) (s.L i)
  out : ∀ j, s.n ≤ j + 1 → s.L j = [] ∧ s.R j = []
  now : ∀ i, i < s.n → s.now[i]? = cardAt s i
  nl : s.now.length = s.n
  fl : s.first.length = s.n
  row : RowOk s.first
  led : Led s.first s.done s.now
  cdl : ∀ i l, l ∈ s.R i ∨ l ∈ s.L i → l.c ∈ s.first
  cdh : ∀ i, i < s.n → ∀ c, (s.hd i).held = some c ∨ (s.hd i).sent = some c ∨ (s.hd i).aside = some c → c ∈ s.first
theorem note_facts (s : NS) (i : Nat) (ls : List Lt) : (noteS s i ls).n = s.n ∧ (noteS s i ls).hd = s.hd ∧ (noteS s i ls).first = s.first ∧ (noteS s i ls).now = s.now ∧ (noteS s i ls).done = s.done := by
  have g : ∀ (ls : List Lt) (s : NS), (ls.foldl (putL i) s).n = s.n ∧ (ls.foldl (putL i) s).hd = s.hd ∧ (ls.foldl (putL i) s).first = s.first ∧ (ls.foldl (putL i) s).now = s.now ∧ (ls.foldl (putL i) s).done = s.done := by
    intro ls
    induction ls with
    | nil => exact fun s => ⟨rfl, rfl, rfl, rfl, rfl⟩
    | cons l ls ih =>
      intro s
      obtain ⟨h1, h2, h3, h4, h5⟩ := ih (putL i s l)
      obtain ⟨f1, f2, f3, f4⟩ := putL_first i s l
      have f0 := (putL_n i s l).1
      exact ⟨h1.trans f0, h2.trans f4, h3.trans f1, h4.trans f2, h5.trans f3⟩
  exact g ls s
theorem go_last {s : NS} (G : Good s) {i : Nat} (hi : i < s.n) (g : mayGo (s.hd i) = true) : i + 1 < s.n := by
  have hh : (s.hd i).heard ≠ none := fun z => by
    unfold mayGo at g
    rw [z] at g
    cases h : (s.hd i).held <;> rw [h] at g <;> cases g
  by_cases e : i = s.n - 1
  · rw [e] at hh
    exact absurd G.last hh
  · omega
theorem good_go {s : NS} (G : Good s) {i : Nat} {c : Int} (hi : i < s.n) (g : mayGo (s.hd i) = true) (hc : (s.hd i).held = some c) : Good (goS s i c) := by
  have hlt := go_last G hi g
  have hok := G.hd i hi
  obtain ⟨hs, hasd⟩ : (s.hd i).sent = none ∧ (s.hd i).aside = none := by
    rcases hok with ⟨c', h1, h2, h3⟩ | ⟨h1, _⟩
    · exact ⟨h2, h3⟩
    · rw [h1] at hc
      cases hc
  have hC := ch_go (G.ch i hlt) hc hs g
  have hidle := (G.ch i hlt).idle hs
  have ehd : ∀ m, (goS s i c).hd m = if m = i then goF (s.hd i) else s.hd m := fun m => rfl
  have eR : ∀ m, (goS s i c).R m = if m = i then s.R i ++ [.over c] else s.R m := fun m => rfl
  have eL : (goS s i c).L = s.L := rfl
  have hcore : ∀ m, core ((goS s i c).hd m) = core (s.hd m) := fun m => by
    rw [ehd]
    by_cases e : m = i
    · rw [if_pos e, e, core_held hc]
      exact core_sent (h := goF (s.hd i)) rfl hc
    · rw [if_neg e]
  have hasd2 : ∀ m, ((goS s i c).hd m).aside = (s.hd m).aside := fun m => by
    rw [ehd]
    by_cases e : m = i
    · rw [if_pos e, e]
      rfl
    · rw [if_neg e]
  have hheard : ∀ m, ((goS s i c).hd m).heard = (s.hd m).heard := fun m => by
    rw [ehd]
    by_cases e : m = i
    · rw [if_pos e, e]
      rfl
    · rw [if_neg e]
  refine ⟨G.n1, fun m hm => ?_, by rw [hheard]; exact G.last, by rw [hasd2]; exact G.asd0, fun m hm => ?_, fun j hj => ?_, fun m hm => ?_, G.nl, G.fl, G.row, G.led, fun m l hl => ?_, fun m hm c' hc' => ?_⟩
  · rw [ehd]
    by_cases e : m = i
    · rw [if_pos e]
      refine .inr ⟨rfl, c, hc, fun z => ?_⟩
      have z : (s.hd i).heard = none := z
      unfold mayGo at g
      rw [z, hc] at g
      cases g
    · rw [if_neg e]
      exact G.hd m hm
  · by_cases e : m = i
    · subst e
      have h1 : (goS s m c).hd m = goF (s.hd m) := by rw [ehd, if_pos rfl]
      have h2 : (goS s m c).hd (m + 1) = s.hd (m + 1) := by rw [ehd, if_neg (by omega)]
      rw [h1, h2, eR, if_pos rfl]
      exact hC
    · have h1 : (goS s i c).hd m = s.hd m := by rw [ehd, if_neg e]
      rw [h1, eR, if_neg e]
      have C := G.ch m hm
      exact ⟨by rw [hcore]; exact C.run, by rw [hasd2]; exact C.idle, by rw [hcore, hasd2]; exact C.wait, by rw [hasd2]; exact C.back⟩
  · refine ⟨(G.out j hj).1, ?_⟩
    rw [eR, if_neg (by have : s.n ≤ j + 1 := hj; omega)]
    exact (G.out j hj).2
  · show s.now[m]? = (pend (s.L m)).or (core ((goS s i c).hd m))
    rw [hcore]
    exact G.now m hm
  · rw [eR] at hl
    by_cases e : m = i
    · rw [if_pos e] at hl
      rcases hl with hl | hl
      · rcases List.mem_append.mp hl with hl | hl
        · exact G.cdl i l (.inl hl)
        · rw [List.mem_singleton.mp hl]
          exact G.cdh i hi c (.inl hc)
      · exact G.cdl m l (.inr hl)
    · rw [if_neg e] at hl
      exact G.cdl m l hl
  · rw [ehd] at hc'
    by_cases e : m = i
    · rw [if_pos e] at hc'
      rcases hc' with h | h | h
      · cases h
      · exact G.cdh i hi c' (.inl h)
      · exact G.cdh i hi c' (.inr (.inr h))
    · rw [if_neg e] at hc'
      exact G.cdh m hm c' hc'
end K59

set_option Elab.async false
set_option linter.all false
set_option maxRecDepth 100000
set_option maxHeartbeats 4000000
/-! plain mathematics: counting the wrong pairs -/
namespace K59
def below (c : Int) (xs : List Int) : Nat := (xs.filter fun x => decide (x < c)).length
def invN : List Int → Nat
  | [] => 0
  | c :: cs => below c cs + invN cs
theorem below_perm {c : Int} {xs ys : List Int} (h : xs.Perm ys) : below c xs = below c ys := (h.filter _).length_eq
theorem below_cons (c a : Int) (xs : List Int) : below c (a :: xs) = (if a < c then 1 else 0) + below c xs := by
  unfold below
  by_cases e : a < c
  · rw [List.filter_cons_of_pos (by simpa using e), if_pos e, List.length_cons]
    omega
  · rw [List.filter_cons_of_neg (by simpa using e), if_neg e]
    omega
theorem inv_swap {x y : Int} (h : x < y) (B : List Int) : ∀ A : List Int, invN (A ++ y :: x :: B) = invN (A ++ x :: y :: B) + 1
  | [] => by
    show below y (x :: B) + (below x B + invN B) = below x (y :: B) + (below y B + invN B) + 1
    rw [below_cons, below_cons, if_pos h, if_neg (by omega)]
    omega
  | a :: A => by
    show below a (A ++ y :: x :: B) + invN (A ++ y :: x :: B) = below a (A ++ x :: y :: B) + invN (A ++ x :: y :: B) + 1
    rw [inv_swap h B A, below_perm (swap_perm A B x y)]
    omega
theorem below_len (c : Int) (xs : List Int) : below c xs ≤ xs.length := List.length_filter_le _ _
end K59

set_option Elab.async false
set_option linter.all false
set_option maxRecDepth 100000
set_option maxHeartbeats 4000000
/-! plain mathematics: the measure of a net -/
namespace K59
def isMine : Lt → Bool
  | .mine _ => true
  | _ => false
def mineN (L : List Lt) : Nat := (L.filter isMine).length
/-- the weight of a channel, from the sender's card and its two lanes -/
def chW (a : Hd) (R L : List Lt) : Nat := (if a.sent = none then 3 else if R ≠ [] then 2 else if pend L ≠ none then 5 else 1) + mineN L
def chSum (s : NS) : Nat → Nat
  | 0 => 0
  | k + 1 => chSum s k + chW (s.hd k) (s.R k) (s.L k)
def phi (s : NS) : Nat := 5 * invN s.now + chSum s s.n
theorem chSum_same {s s' : NS} : ∀ {k : Nat}, (∀ i, i < k → chW (s'.hd i) (s'.R i) (s'.L i) = chW (s.hd i) (s.R i) (s.L i)) → chSum s' k = chSum s k
  | 0, _ => rfl
  | k + 1, h => by
    show chSum s' k + _ = chSum s k + _
    rw [chSum_same fun i hi => h i (by omega), h k (by omega)]
/-- one channel changes -/
theorem chSum_one {s s' : NS} {m : Nat} : ∀ {k : Nat}, m < k → (∀ i, i < k → i ≠ m → chW (s'.hd i) (s'.R i) (s'.L i) = chW (s.hd i) (s.R i) (s.L i)) → chSum s' k + chW (s.hd m) (s.R m) (s.L m) = chSum s k + chW (s'.hd m) (s'.R m) (s'.L m)
  | 0, h, _ => by omega
  | k + 1, hm, h => by
    show chSum s' k + _ + _ = chSum s k + _ + _
    by_cases e : m = k
    · rw [e, chSum_same fun i hi => h i (by omega) (by omega)]
      omega
    · have := chSum_one (k := k) (by omega) fun i hi => h i (by omega)
      rw [h k (by omega) (by omega)]
      omega
theorem mineN_app (L M : List Lt) : mineN (L ++ M) = mineN L + mineN M := by
  unfold mineN
  rw [List.filter_append, List.length_append]
theorem chW_sent {a b : Hd} (h : a.sent = b.sent) (R L : List Lt) : chW a R L = chW b R L := by
  unfold chW
  rw [h]
theorem chW_free {a : Hd} (h : a.sent = none) (R L : List Lt) : chW a R L = 3 + mineN L := by
  unfold chW
  rw [if_pos h]
theorem chW_over {a : Hd} {x : Int} (h : a.sent = some x) {R : List Lt} (hR : R ≠ []) (L : List Lt) : chW a R L = 2 + mineN L := by
  unfold chW
  rw [h, if_neg (by simp), if_pos hR]
theorem chW_back {a : Hd} {x d : Int} (h : a.sent = some x) {L : List Lt} (hL : pend L = some d) : chW a [] L = 5 + mineN L := by
  unfold chW
  rw [h, hL, if_neg (by simp), if_neg (by simp), if_pos (by simp)]
theorem chW_aside {a : Hd} {x : Int} (h : a.sent = some x) {L : List Lt} (hL : pend L = none) : chW a [] L = 1 + mineN L := by
  unfold chW
  rw [h, hL, if_neg (by simp), if_neg (by simp), if_neg (by simp)]
theorem chW_tell {a : Hd} {R L : List Lt} (d : Int) : chW a R (L ++ [.mine d]) = chW a R L + 1 := by
  have hp : pend (L ++ [.mine d]) = pend L := by
    rw [pend_app]
    cases pend L <;> rfl
  have hm : mineN (L ++ [.mine d]) = mineN L + 1 := by rw [mineN_app] <;> rfl
  unfold chW
  rw [hp, hm]
  omega
/-- two neighbour channels change -/
theorem chSum_two {s s' : NS} {m : Nat} : ∀ {k : Nat}, m + 1 < k → (∀ i, i < k → i ≠ m → i ≠ m + 1 → chW (s'.hd i) (s'.R i) (s'.L i) = chW (s.hd i) (s.R i) (s.L i)) → chSum s' k + (chW (s.hd m) (s.R m) (s.L m) + chW (s.hd (m + 1)) (s.R (m + 1)) (s.L (m + 1))) = chSum s k + (chW (s'.hd m) (s'.R m) (s'.L m) + chW (s'.hd (m + 1)) (s'.R (m + 1)) (s'.L (m + 1)))
  | 0, h, _ => by omega
  | k + 1, hm, h => by
    show chSum s' k + _ + _ = chSum s k + _ + _
    by_cases e : m + 1 = k
    · have := chSum_one (s := s) (s' := s') (m := m) (k := k) (by omega) fun i hi h0 => h i (by omega) h0 (by omega)
      rw [← e]
      rw [← e] at this
      omega
    · have := chSum_two (k := k) (by omega) fun i hi => h i (by omega)
      rw [h k (by omega) (by omega) (by omega)]
      omega
theorem inv_set {xs : List Int} {m : Nat} {l x : Int} (hx : xs[m]? = some x) (hl : xs[m + 1]? = some l) (hlt : l < x) : invN ((xs.set m l).set (m + 1) x) + 1 = invN xs := by
  obtain ⟨h1, a1⟩ := List.getElem?_eq_some_iff.mp hx
  obtain ⟨h2, a2⟩ := List.getElem?_eq_some_iff.mp hl
  have e : xs = xs.take m ++ x :: l :: xs.drop (m + 2) := by
    rw [← a1, ← a2, ← List.drop_eq_getElem_cons h2, ← List.drop_eq_getElem_cons h1, List.take_append_drop]
  have e2 : (xs.set m l).set (m + 1) x = xs.take m ++ l :: x :: xs.drop (m + 2) := by
    have hl : (xs.take m).length = m := by rw [List.length_take]; omega
    generalize xs.take m = A at e hl
    generalize xs.drop (m + 2) = B at e
    rw [e, List.set_append_right _ _ (by omega), List.set_append_right _ _ (by omega), hl]
    simp
  rw [e2]
  conv => rhs; rw [e]
  exact (inv_swap hlt _ _).symm
end K59

set_option Elab.async false
set_option linter.all false
set_option maxRecDepth 100000
set_option maxHeartbeats 4000000
/-! plain mathematics: steps -/
namespace K59
theorem good_upd {s s' : NS} {j : Nat} {h' : Hd} (G : Good s) (hn : s'.n = s.n) (hf : s'.first = s.first) (hh : ∀ k, s'.hd k = if k = j then h' else s.hd k) (hj : j < s.n) (hok : HdOk h') (hlast : j = s.n - 1 → h'.heard = none) (hz : j = 0 → h'.aside = none)
    (hR : ∀ k, k ≠ j → k + 1 ≠ j → s'.R k = s.R k ∧ s'.L k = s.L k) (c1 : ∀ k, k + 1 = j → Ch (s.hd k) h' (s'.R k) (s'.L k)) (c2 : j + 1 < s.n → Ch h' (s.hd (j + 1)) (s'.R j) (s'.L j)) (co : s.n ≤ j + 1 → s'.L j = [] ∧ s'.R j = [])
    (now : ∀ i, i < s.n → s'.now[i]? = cardAt s' i) (nl : s'.now.length = s.n) (led : Led s.first s'.done s'.now) (cdl : ∀ i l, l ∈ s'.R i ∨ l ∈ s'.L i → l.c ∈ s.first) (cdh : ∀ c, h'.held = some c ∨ h'.sent = some c ∨ h'.aside = some c → c ∈ s.first) : Good s' := by
  have hne : ∀ k, k ≠ j → s'.hd k = s.hd k := fun k e => by rw [hh, if_neg e]
  have heq : s'.hd j = h' := by rw [hh, if_pos rfl]
  refine ⟨by rw [hn]; exact G.n1, fun k hk => ?_, ?_, ?_, fun k hk => ?_, fun k hk => ?_, fun i hi => now i (by rw [← hn]; exact hi), by rw [nl, hn], by rw [hf, hn]; exact G.fl, by rw [hf]; exact G.row, by rw [hf]; exact led, fun i l hl => by rw [hf]; exact cdl i l hl, fun k hk c hc => ?_⟩
  · rw [hn] at hk
    by_cases e : k = j
    · rw [e, heq]
      exact hok
    · rw [hne k e]
      exact G.hd k hk
  · rw [hn]
    by_cases e : s.n - 1 = j
    · rw [e, heq]
      exact hlast e.symm
    · rw [hne _ e]
      exact G.last
  · by_cases e : 0 = j
    · rw [e, heq]
      exact hz e.symm
    · rw [hne _ e]
      exact G.asd0
  · rw [hn] at hk
    by_cases e : k = j
    · subst e
      rw [heq, hne (k + 1) (by omega)]
      exact c2 hk
    · by_cases e2 : k + 1 = j
      · rw [hne k e, e2, heq]
        exact c1 k e2
      · rw [hne k e, hne (k + 1) e2, (hR k e e2).1, (hR k e e2).2]
        exact G.ch k hk
  · rw [hn] at hk
    by_cases e : k = j
    · rw [e] at hk ⊢
      exact co hk
    · by_cases e2 : k + 1 = j
      · omega
      · rw [(hR k e e2).1, (hR k e e2).2]
        exact G.out k hk
  · rw [hn] at hk
    rw [hf]
    by_cases e : k = j
    · rw [e, heq] at hc
      exact cdh c hc
    · rw [hne k e] at hc
      exact G.cdh k hk c hc
/-- neighbours cross -/
theorem led_cross {s : NS} (G : Good s) {m : Nat} {l x : Int} (hm : m + 1 < s.n) (hx : s.now[m]? = some x) (hl : s.now[m + 1]? = some l) (hlt : l < x) : Led s.first (s.done ++ [(l, x)]) ((s.now.set m l).set (m + 1) x) := by
  have h1 : m < s.now.length := by rw [G.nl]; omega
  have h2 : m + 1 < s.now.length := by rw [G.nl]; omega
  have e : s.now = s.now.take m ++ x :: l :: s.now.drop (m + 2) := by
    have a1 : s.now[m] = x := (List.getElem?_eq_some_iff.mp hx).2
    have a2 : s.now[m + 1] = l := (List.getElem?_eq_some_iff.mp hl).2
    rw [← a1, ← a2, ← List.drop_eq_getElem_cons h2, ← List.drop_eq_getElem_cons h1, List.take_append_drop]
  have h := G.led.snoc e hlt
  have e2 : (s.now.set m l).set (m + 1) x = s.now.take m ++ l :: x :: s.now.drop (m + 2) := by
    have hl : (s.now.take m).length = m := by rw [List.length_take]; omega
    generalize hA : s.now.take m = A at e hl
    generalize hB : s.now.drop (m + 2) = B at e
    rw [e, List.set_append_right _ _ (by omega), List.set_append_right _ _ (by omega), hl]
    simp
  rw [e2]
  exact h
theorem set2_get {xs : List Int} {m : Nat} {l x : Int} (h : m + 1 < xs.length) (i : Nat) : ((xs.set m l).set (m + 1) x)[i]? = if i = m then some l else if i = m + 1 then some x else xs[i]? := by
  rw [List.getElem?_set]
  by_cases e : m + 1 = i
  · subst e
    rw [if_pos rfl, if_pos (by rw [List.length_set]; exact h), if_neg (by omega), if_pos rfl]
  · rw [if_neg e, List.getElem?_set]
    by_cases e2 : m = i
    · subst e2
      rw [if_pos rfl, if_pos (by omega), if_pos rfl]
    · rw [if_neg e2, if_neg (fun z => e2 z.symm), if_neg (fun z => e z.symm)]
theorem card_core {s : NS} {i : Nat} (h : pend (s.L i) = none) : cardAt s i = core (s.hd i) := by
  unfold cardAt
  rw [h] <;> rfl
/-- the state behind an over letter that a holding hand hears -/
theorem good_over_held {s : NS} (G : Good s) {m : Nat} {x l : Int} (hm : m + 1 < s.n) (hR : s.R m = [.over x]) (hl : (s.hd (m + 1)).held = some l) : ∃ s', stepS s m (m + 1) = some s' ∧ Good s' ∧ phi s' < phi s ∧ (∀ k, s'.hd k = if k = m + 1 then { s.hd (m + 1) with held := some x } else s.hd k) ∧ (∀ k, s'.R k = if k = m then [] else s.R k) ∧ (∀ k, s'.L k = if k = m then s.L m ++ [.back l] else s.L k) ∧ s'.done = s.done ++ [(l, x)] := by
  have C := G.ch m hm
  rw [hR] at C
  obtain ⟨hs, hlt, hasd, hp, C'⟩ := ch_over_held C hl
  have hlane : laneOf s m (m + 1) = [.over x] := by
    unfold laneOf
    rw [if_pos ⟨rfl, hm⟩, hR]
  have hok := G.hd (m + 1) hm
  have hsent : (s.hd (m + 1)).sent = none := by
    rcases hok with ⟨_, _, h2, _⟩ | ⟨h1, _⟩
    · exact h2
    · rw [h1] at hl
      cases hl
  have hear : hearF (s.hd (m + 1)) (.over x) = some ({ s.hd (m + 1) with held := some x }, [.back l]) := by
    generalize s.hd (m + 1) = h at hl hasd
    obtain ⟨a, b, c, d⟩ := h
    cases hl
    cases hasd
    cases b <;> exact if_pos hlt
  have hpj : pend (s.L (m + 1)) = none := by
    by_cases e : m + 1 + 1 < s.n
    · obtain ⟨c, sa, _, h2⟩ := (G.ch (m + 1) e).run
      rcases runB_inv h2 with ⟨q, _⟩ | ⟨d, s0, _, q, _⟩
      · exact q
      · rw [hsent] at q
        cases q
    · rw [(G.out (m + 1) (by omega)).1]
      rfl
  have nj : s.now[m + 1]? = some l := by rw [G.now _ hm, card_core hpj, core_held hl]
  have hok0 := G.hd m (by omega)
  have hheld0 : (s.hd m).held = none := by
    rcases hok0 with ⟨_, _, h2, _⟩ | ⟨h1, _⟩
    · rw [hs] at h2
      cases h2
    · exact h1
  have ni : s.now[m]? = some x := by rw [G.now _ (by omega), card_core hp, core_sent hheld0 hs]
  have hgd : s.now.getD (m + 1) 0 = l := by rw [List.getD_eq_getElem?_getD, nj] <;> rfl
  refine ⟨noteS (exS (hearS (popS s m (m + 1)) (m + 1) { s.hd (m + 1) with held := some x }) (m + 1) x) (m + 1) [.back l], ?_, ?_⟩
  · unfold stepS
    rw [hlane]
    simp only
    rw [hear]
    simp only [List.any_cons, isBack, Bool.true_or, if_true, takenOf]
    rw [if_pos ⟨by omega, by rw [G.nl]; exact hm⟩]
  · obtain ⟨pn, phd, pt, pf, pnow, pdone⟩ := pop_same (s := s) (i := m) (j := m + 1)
    obtain ⟨fn, fh, ff, fnow, fdone⟩ := note_facts (exS (hearS (popS s m (m + 1)) (m + 1) { s.hd (m + 1) with held := some x }) (m + 1) x) (m + 1) [.back l]
    have eR : ∀ k, (noteS (exS (hearS (popS s m (m + 1)) (m + 1) { s.hd (m + 1) with held := some x }) (m + 1) x) (m + 1) [.back l]).R k = if k = m then [] else s.R k := fun k => by
      show (popS s m (m + 1)).R k = _
      unfold popS
      rw [if_pos rfl]
      show (if k = m then (s.R m).tail else s.R k) = _
      rw [hR]
      rfl
    have eL : ∀ k, (noteS (exS (hearS (popS s m (m + 1)) (m + 1) { s.hd (m + 1) with held := some x }) (m + 1) x) (m + 1) [.back l]).L k = if k = m then s.L m ++ [.back l] else s.L k := fun k => by
      have h0 : (popS s m (m + 1)).L = s.L := by
        unfold popS
        rw [if_pos rfl]
      show (if k = m + 1 - 1 then (popS s m (m + 1)).L (m + 1 - 1) ++ [.back l] else (popS s m (m + 1)).L k) = _
      rw [h0, Nat.add_sub_cancel]
    have enow : (noteS (exS (hearS (popS s m (m + 1)) (m + 1) { s.hd (m + 1) with held := some x }) (m + 1) x) (m + 1) [.back l]).now = (s.now.set m l).set (m + 1) x := by
      rw [fnow]
      show ((popS s m (m + 1)).now.set (m + 1 - 1) ((popS s m (m + 1)).now.getD (m + 1) 0)).set (m + 1) x = _
      rw [pnow, hgd, Nat.add_sub_cancel]
    have edone : (noteS (exS (hearS (popS s m (m + 1)) (m + 1) { s.hd (m + 1) with held := some x }) (m + 1) x) (m + 1) [.back l]).done = s.done ++ [(l, x)] := by
      rw [fdone]
      show (popS s m (m + 1)).done ++ [((popS s m (m + 1)).now.getD (m + 1) 0, x)] = _
      rw [pdone, pnow, hgd]
    have ehd : ∀ k, (noteS (exS (hearS (popS s m (m + 1)) (m + 1) { s.hd (m + 1) with held := some x }) (m + 1) x) (m + 1) [.back l]).hd k = if k = m + 1 then { s.hd (m + 1) with held := some x } else s.hd k := fun k => by
      rw [fh]
      show (if k = m + 1 then _ else (popS s m (m + 1)).hd k) = _
      rw [phd]
    have en := fn.trans pn
    have ef := ff.trans pf
    generalize noteS (exS (hearS (popS s m (m + 1)) (m + 1) { s.hd (m + 1) with held := some x }) (m + 1) x) (m + 1) [.back l] = s' at eR eL enow edone ehd en ef
    have nlen : m + 1 < s.now.length := by rw [G.nl]; exact hm
    have xin : x ∈ s.first := G.cdh m (by omega) x (.inr (.inl hs))
    refine ⟨good_upd G en ef ehd hm (.inl ⟨x, rfl, hsent, hasd⟩) (fun e => by rw [e]; exact G.last) (fun e => by omega) (fun k h1 h2 => ?_) (fun k hk => ?_) (fun hlt2 => ?_) (fun h => ?_) (fun i hi => ?_) (by rw [enow, List.length_set, List.length_set]; exact G.nl) (by rw [edone, enow]; exact led_cross G hm ni nj hlt) (fun i l0 hl0 => ?_) (fun c hc => ?_), ?_, ehd, eR, eL, edone⟩
    · have : k ≠ m := by omega
      rw [eR, eL, if_neg this, if_neg this]
      exact ⟨rfl, rfl⟩
    · have : k = m := by omega
      subst this
      rw [eR, eL, if_pos rfl, if_pos rfl]
      exact C'
    · rw [eR, eL, if_neg (by omega), if_neg (by omega)]
      have Cj := G.ch (m + 1) hlt2
      exact ⟨Cj.run, Cj.idle, Cj.wait, Cj.back⟩
    · rw [eR, eL, if_neg (by omega), if_neg (by omega)]
      exact G.out (m + 1) h
    · rw [enow, set2_get nlen]
      unfold cardAt
      rw [eL, ehd]
      by_cases e1 : i = m
      · rw [if_pos e1, if_pos e1, pend_app, hp] <;> rfl
      · rw [if_neg e1, if_neg e1]
        by_cases e2 : i = m + 1
        · rw [if_pos e2, if_pos e2, e2, hpj]
          rfl
        · rw [if_neg e2, if_neg e2]
          exact G.now i hi
    · rw [eR, eL] at hl0
      by_cases e1 : i = m
      · rw [if_pos e1, if_pos e1] at hl0
        rcases hl0 with h | h
        · cases h
        · rcases List.mem_append.mp h with h | h
          · exact G.cdl m l0 (.inr h)
          · rw [List.mem_singleton.mp h]
            exact G.cdh (m + 1) hm l (.inl hl)
      · rw [if_neg e1, if_neg e1] at hl0
        exact G.cdl i l0 hl0
    · rcases hc with h | h | h
      · cases h
        exact xin
      · exact G.cdh (m + 1) hm c (.inr (.inl h))
      · exact G.cdh (m + 1) hm c (.inr (.inr h))
    · have hi := inv_set ni nj hlt
      have h := chSum_one (s := s) (s' := s') (m := m) (k := s.n) (by omega) fun i hi e => by
        rw [ehd, eR, eL, if_neg e, if_neg e]
        by_cases e2 : i = m + 1
        · rw [if_pos e2, e2]
          exact chW_sent rfl _ _
        · rw [if_neg e2]
      have hpe : pend (s.L m ++ [.back l]) = some l := by
        rw [pend_app, hp] <;> rfl
      rw [ehd, eR, eL, if_neg (by omega), if_pos rfl, if_pos rfl, hR, chW_over hs (by simp), chW_back hs hpe, mineN_app] at h
      have h0 : mineN [.back l] = 0 := rfl
      unfold phi
      rw [en, enow]
      omega
end K59

set_option Elab.async false
set_option linter.all false
set_option maxRecDepth 100000
set_option maxHeartbeats 4000000
/-! plain mathematics: steps, the rest -/
namespace K59
theorem now_same {s s' : NS} (G : Good s) (hn : s'.now = s.now) (hc : ∀ i, i < s.n → cardAt s' i = cardAt s i) : ∀ i, i < s.n → s'.now[i]? = cardAt s' i := fun i hi => by rw [hn, hc i hi, G.now i hi]
/-- an over letter put aside -/
theorem good_over_aside {s : NS} (G : Good s) {m : Nat} {x : Int} (hm : m + 1 < s.n) (hR : s.R m = [.over x]) (hl : (s.hd (m + 1)).held = none) : ∃ s', stepS s m (m + 1) = some s' ∧ Good s' ∧ phi s' < phi s := by
  have C := G.ch m hm
  rw [hR] at C
  have hok := G.hd (m + 1) hm
  obtain ⟨y, hy, hh0⟩ : ∃ y, (s.hd (m + 1)).sent = some y ∧ (s.hd (m + 1)).heard ≠ none := by
    rcases hok with ⟨c, h1, _⟩ | ⟨_, y, h2, h3⟩
    · rw [h1] at hl
      cases hl
    · exact ⟨y, h2, h3⟩
  obtain ⟨hlt, hasd, C'⟩ := ch_over_aside C hl hy
  have hlane : laneOf s m (m + 1) = [.over x] := by
    unfold laneOf
    rw [if_pos ⟨rfl, hm⟩, hR]
  have hear : hearF (s.hd (m + 1)) (.over x) = some ({ s.hd (m + 1) with aside := some x }, []) := by
    generalize s.hd (m + 1) = h at hl hasd hy
    obtain ⟨a, b, c, d⟩ := h
    cases hl
    cases hasd
    cases hy
    exact if_pos hlt
  refine ⟨noteS (hearS (popS s m (m + 1)) (m + 1) { s.hd (m + 1) with aside := some x }) (m + 1) [], ?_, ?_⟩
  · unfold stepS
    rw [hlane]
    simp only
    rw [hear]
    rfl
  · obtain ⟨pn, phd, pt, pf, pnow, pdone⟩ := pop_same (s := s) (i := m) (j := m + 1)
    obtain ⟨fn, fh, ff, fnow, fdone⟩ := note_facts (hearS (popS s m (m + 1)) (m + 1) { s.hd (m + 1) with aside := some x }) (m + 1) []
    have eR : ∀ k, (noteS (hearS (popS s m (m + 1)) (m + 1) { s.hd (m + 1) with aside := some x }) (m + 1) []).R k = if k = m then [] else s.R k := fun k => by
      show (popS s m (m + 1)).R k = _
      unfold popS
      rw [if_pos rfl]
      show (if k = m then (s.R m).tail else s.R k) = _
      rw [hR]
      rfl
    have eL : (noteS (hearS (popS s m (m + 1)) (m + 1) { s.hd (m + 1) with aside := some x }) (m + 1) []).L = s.L := by
      show (popS s m (m + 1)).L = _
      unfold popS
      rw [if_pos rfl]
    have ehd : ∀ k, (noteS (hearS (popS s m (m + 1)) (m + 1) { s.hd (m + 1) with aside := some x }) (m + 1) []).hd k = if k = m + 1 then { s.hd (m + 1) with aside := some x } else s.hd k := fun k => by
      rw [fh]
      show (if k = m + 1 then _ else (popS s m (m + 1)).hd k) = _
      rw [phd]
    have en := fn.trans pn
    have ef := ff.trans pf
    have enow := fnow.trans pnow
    have edone := fdone.trans pdone
    generalize noteS (hearS (popS s m (m + 1)) (m + 1) { s.hd (m + 1) with aside := some x }) (m + 1) [] = s' at eR eL enow edone ehd en ef
    have hs : (s.hd m).sent = some x := by
      cases h : (s.hd m).sent with
      | none => have := (C.idle h).1; cases this
      | some z =>
        cases hp : pend (s.L m) with
        | some d => have := (C.back z d h hp).1; cases this
        | none =>
          rcases (C.wait z h hp).2 with ⟨w, _⟩ | ⟨w, _⟩
          · cases w
            rfl
          · cases w
    have xin : x ∈ s.first := G.cdh m (by omega) x (.inr (.inl hs))
    refine ⟨good_upd G en ef ehd hm (.inr ⟨hl, y, hy, hh0⟩) (fun e => by rw [e] at hh0; exact absurd G.last hh0) (fun e => by omega) (fun k h1 h2 => ?_) (fun k hk => ?_) (fun hlt2 => ?_) (fun h => ?_) (now_same G enow fun i hi => ?_) (by rw [enow]; exact G.nl) (by rw [edone, enow]; exact G.led) (fun i l0 hl0 => ?_) (fun c hc => ?_), ?_⟩
    · rw [eR, eL, if_neg (by omega)]
      exact ⟨rfl, rfl⟩
    · have : k = m := by omega
      subst this
      rw [eR, eL, if_pos rfl]
      exact C'
    · rw [eR, eL, if_neg (by omega)]
      have Cj := G.ch (m + 1) hlt2
      exact ⟨Cj.run, Cj.idle, Cj.wait, Cj.back⟩
    · rw [eR, eL, if_neg (by omega)]
      exact G.out (m + 1) h
    · unfold cardAt
      rw [eL, ehd]
      by_cases e : i = m + 1
      · rw [if_pos e, e]
        rfl
      · rw [if_neg e]
    · rw [eR, eL] at hl0
      by_cases e1 : i = m
      · rw [if_pos e1] at hl0
        rcases hl0 with h | h
        · cases h
        · exact G.cdl i l0 (.inr h)
      · rw [if_neg e1] at hl0
        exact G.cdl i l0 hl0
    · rcases hc with h | h | h
      · exact G.cdh (m + 1) hm c (.inl h)
      · exact G.cdh (m + 1) hm c (.inr (.inl h))
      · cases h
        exact xin
    · have h := chSum_one (s := s) (s' := s') (m := m) (k := s.n) (by omega) fun i hi e => by
        rw [ehd, eR, eL, if_neg e]
        by_cases e2 : i = m + 1
        · rw [if_pos e2, e2]
          exact chW_sent rfl _ _
        · rw [if_neg e2]
      have hp : pend (s.L m) = none := by
        cases hp : pend (s.L m) with
        | some d => have := (C.back x d hs hp).1; cases this
        | none => rfl
      rw [ehd, eR, eL, if_neg (by omega), if_pos rfl, hR, chW_over hs (by simp), chW_aside hs hp] at h
      unfold phi
      rw [en, enow]
      omega
theorem lane_l {s : NS} {m : Nat} (hm : m + 1 < s.n) : laneOf s (m + 1) m = s.L m := by
  unfold laneOf
  rw [if_neg (by omega), if_pos ⟨rfl, hm⟩]
/-- a mine letter is heard -/
theorem good_mine {s : NS} (G : Good s) {m : Nat} {c : Int} {r : List Lt} (hm : m + 1 < s.n) (hL : s.L m = .mine c :: r) : ∃ s', stepS s (m + 1) m = some s' ∧ Good s' ∧ phi s' < phi s ∧ (∀ k, s'.hd k = if k = m then { s.hd m with heard := some c } else s.hd k) ∧ s'.R = s.R ∧ (∀ k, s'.L k = if k = m then r else s.L k) ∧ s'.done = s.done := by
  have C := G.ch m hm
  rw [hL] at C
  obtain ⟨hcond, C'⟩ := ch_mine C
  have hear : hearF (s.hd m) (.mine c) = some ({ s.hd m with heard := some c }, []) := if_pos hcond
  refine ⟨noteS (hearS (popS s (m + 1) m) m { s.hd m with heard := some c }) m [], ?_, ?_⟩
  · unfold stepS
    rw [lane_l hm, hL]
    simp only
    rw [hear]
    rfl
  · obtain ⟨pn, phd, pt, pf, pnow, pdone⟩ := pop_same (s := s) (i := m + 1) (j := m)
    obtain ⟨fn, fh, ff, fnow, fdone⟩ := note_facts (hearS (popS s (m + 1) m) m { s.hd m with heard := some c }) m []
    have eR : (noteS (hearS (popS s (m + 1) m) m { s.hd m with heard := some c }) m []).R = s.R := by
      show (popS s (m + 1) m).R = _
      unfold popS
      rw [if_neg (by omega)]
    have eL : ∀ k, (noteS (hearS (popS s (m + 1) m) m { s.hd m with heard := some c }) m []).L k = if k = m then r else s.L k := fun k => by
      show (popS s (m + 1) m).L k = _
      unfold popS
      rw [if_neg (by omega)]
      show (if k = m then (s.L m).tail else s.L k) = _
      rw [hL]
      rfl
    have ehd : ∀ k, (noteS (hearS (popS s (m + 1) m) m { s.hd m with heard := some c }) m []).hd k = if k = m then { s.hd m with heard := some c } else s.hd k := fun k => by
      rw [fh]
      show (if k = m then _ else (popS s (m + 1) m).hd k) = _
      rw [phd]
    have en := fn.trans pn
    have ef := ff.trans pf
    have enow := fnow.trans pnow
    have edone := fdone.trans pdone
    generalize noteS (hearS (popS s (m + 1) m) m { s.hd m with heard := some c }) m [] = s' at eR eL enow edone ehd en ef
    have hok : HdOk { s.hd m with heard := some c } := by
      rcases G.hd m (by omega) with ⟨a, b⟩ | ⟨a, y, b, d⟩
      · exact .inl ⟨a, b⟩
      · exact .inr ⟨a, y, b, by simp⟩
    refine ⟨good_upd G en ef ehd (by omega) hok (fun e => by omega) (fun e => by subst e; exact G.asd0) (fun k h1 h2 => by rw [eR, eL, if_neg h1]; exact ⟨rfl, rfl⟩) (fun k hk => ?_) (fun hlt2 => ?_) (fun h => by omega) (now_same G enow fun i hi => ?_) (by rw [enow]; exact G.nl) (by rw [edone, enow]; exact G.led) (fun i l0 hl0 => ?_) (fun c' hc => G.cdh m (by omega) c' hc), ?_, ehd, eR, eL, edone⟩
    · rw [eR, eL, if_neg (by omega)]
      have Ck := G.ch k (by omega)
      rw [hk] at Ck
      exact ⟨Ck.run, Ck.idle, Ck.wait, Ck.back⟩
    · rw [eR, eL, if_pos rfl]
      exact C'
    · unfold cardAt
      rw [eL, ehd]
      by_cases e : i = m
      · rw [if_pos e, if_pos e, e, hL]
        rfl
      · rw [if_neg e, if_neg e]
    · rw [eR, eL] at hl0
      by_cases e1 : i = m
      · rw [if_pos e1] at hl0
        rcases hl0 with h | h
        · exact G.cdl i l0 (.inl h)
        · refine G.cdl m l0 (.inr ?_)
          rw [hL]
          exact List.mem_cons_of_mem _ h
      · rw [if_neg e1] at hl0
        exact G.cdl i l0 hl0
    · have h := chSum_one (s := s) (s' := s') (m := m) (k := s.n) (by omega) fun i hi e => by
        rw [ehd, eR, eL, if_neg e, if_neg e]
      have h1 : chW (s'.hd m) (s'.R m) (s'.L m) + 1 = chW (s.hd m) (s.R m) (s.L m) := by
        rw [ehd, eR, eL, if_pos rfl, if_pos rfl, hL]
        have hp : pend (.mine c :: r) = pend r := rfl
        have hn : mineN (.mine c :: r) = mineN r + 1 := rfl
        rw [show chW { s.hd m with heard := some c } (s.R m) r = chW (s.hd m) (s.R m) r by exact chW_sent rfl _ _]
        unfold chW
        rw [hp, hn]
        omega
      unfold phi
      rw [en, enow]
      omega
end K59

set_option Elab.async false
set_option linter.all false
set_option maxRecDepth 100000
set_option maxHeartbeats 4000000
/-! plain mathematics: back letters -/
namespace K59
theorem hear_back_plain {h : Hd} {x y d : Int} (hs : h.sent = some x) (hy : h.heard = some y) (ha : h.aside = none) (h1 : d < x) (h2 : d ≤ y) : hearF h (.back d) = some (⟨some d, none, none, some x⟩, [.mine d]) := by
  obtain ⟨a, b, c, e⟩ := h
  cases hs; cases hy; cases ha
  exact if_pos ⟨h1, h2⟩
theorem hear_back_aside {h : Hd} {x y d c : Int} (hs : h.sent = some x) (hy : h.heard = some y) (ha : h.aside = some c) (h1 : d < x) (h2 : d ≤ y) : hearF h (.back d) = some (⟨some c, none, none, some x⟩, [.back d]) := by
  obtain ⟨a, b, c', e⟩ := h
  cases hs; cases hy; cases ha
  exact if_pos ⟨h1, h2⟩
theorem good_back_plain {s : NS} (G : Good s) {m : Nat} {d : Int} {r : List Lt} (hm : m + 1 < s.n) (hL : s.L m = .back d :: r) (ha : (s.hd m).aside = none) : ∃ s', stepS s (m + 1) m = some s' ∧ Good s' ∧ phi s' < phi s ∧ (∀ k, s'.hd k = if k = m then ⟨some d, none, none, (s.hd m).sent⟩ else s.hd k) ∧ s'.done = s.done := by
  have C := G.ch m hm
  rw [hL] at C
  obtain ⟨x, y, hs, hy, hdx, hdy, hR, hasd, hp, C'⟩ := ch_back C
  have hear := hear_back_plain hs hy ha hdx hdy
  have hheld : (s.hd m).held = none := by
    rcases G.hd m (by omega) with ⟨_, _, h2, _⟩ | ⟨h1, _⟩
    · rw [hs] at h2; cases h2
    · exact h1
  refine ⟨noteS (hearS (popS s (m + 1) m) m ⟨some d, none, none, some x⟩) m [.mine d], ?_, ?_⟩
  · unfold stepS
    rw [lane_l hm, hL]
    simp only
    rw [hear]
    rfl
  · obtain ⟨pn, phd, pt, pf, pnow, pdone⟩ := pop_same (s := s) (i := m + 1) (j := m)
    obtain ⟨fn, fh, ff, fnow, fdone⟩ := note_facts (hearS (popS s (m + 1) m) m ⟨some d, none, none, some x⟩) m [.mine d]
    have pR : (popS s (m + 1) m).R = s.R := by
      unfold popS
      rw [if_neg (by omega)]
    have pL : ∀ k, (popS s (m + 1) m).L k = if k = m then r else s.L k := fun k => by
      unfold popS
      rw [if_neg (by omega)]
      show (if k = m then (s.L m).tail else s.L k) = _
      rw [hL]
      rfl
    have eR : (noteS (hearS (popS s (m + 1) m) m ⟨some d, none, none, some x⟩) m [.mine d]).R = s.R := by
      show (if m = 0 then _ else _ : NS).R = _
      by_cases e : m = 0
      · rw [if_pos e]
        exact pR
      · rw [if_neg e]
        exact pR
    have eL : ∀ k, (noteS (hearS (popS s (m + 1) m) m ⟨some d, none, none, some x⟩) m [.mine d]).L k = if k + 1 = m then s.L k ++ [.mine d] else if k = m then r else s.L k := fun k => by
      show (if m = 0 then _ else _ : NS).L k = _
      by_cases e : m = 0
      · rw [if_pos e, if_neg (by omega)]
        exact pL k
      · rw [if_neg e]
        show (if k = m - 1 then (popS s (m + 1) m).L (m - 1) ++ [.mine d] else (popS s (m + 1) m).L k) = _
        rw [pL, pL, if_neg (show ¬ m - 1 = m by omega)]
        by_cases e2 : k + 1 = m
        · rw [if_pos (show k = m - 1 by omega), if_pos e2, show m - 1 = k by omega]
        · rw [if_neg (show ¬ k = m - 1 by omega), if_neg e2]
    have ehd : ∀ k, (noteS (hearS (popS s (m + 1) m) m ⟨some d, none, none, some x⟩) m [.mine d]).hd k = if k = m then ⟨some d, none, none, some x⟩ else s.hd k := fun k => by
      rw [fh]
      show (if k = m then _ else (popS s (m + 1) m).hd k) = _
      rw [phd]
    have en := fn.trans pn
    have ef := ff.trans pf
    have enow := fnow.trans pnow
    have edone := fdone.trans pdone
    generalize noteS (hearS (popS s (m + 1) m) m ⟨some d, none, none, some x⟩) m [.mine d] = s' at eR eL enow edone ehd en ef
    have din : d ∈ s.first := G.cdl m (.back d) (.inr (by rw [hL]; exact List.mem_cons_self))
    refine ⟨good_upd G en ef ehd (by omega) (.inl ⟨d, rfl, rfl, rfl⟩) (fun e => by omega) (fun _ => rfl) (fun k h1 h2 => by rw [eR, eL, if_neg h2, if_neg h1]; exact ⟨rfl, rfl⟩) (fun k hk => ?_) (fun hlt2 => ?_) (fun h => by omega) (now_same G enow fun i hi => ?_) (by rw [enow]; exact G.nl) (by rw [edone, enow]; exact G.led) (fun i l0 hl0 => ?_) (fun c' hc => ?_), ?_, fun k => by rw [ehd, hs], edone⟩
    · rw [eR, eL, if_pos hk]
      have Ck := G.ch k (by omega)
      rw [hk] at Ck
      exact ch_tell Ck (core_sent hheld hs) hdx ha rfl rfl
    · rw [eR, eL, if_neg (by omega), if_pos rfl, hR]
      exact C' _ rfl rfl
    · unfold cardAt
      rw [eL, ehd]
      by_cases e : i = m
      · rw [if_neg (show ¬ i + 1 = m by omega), if_pos e, if_pos e, e, hL, hp]
        rfl
      · rw [if_neg e]
        by_cases e2 : i + 1 = m
        · rw [if_pos e2, if_neg e, pend_app]
          cases pend (s.L i) <;> rfl
        · rw [if_neg e2, if_neg e]
    · rw [eR, eL] at hl0
      by_cases e2 : i + 1 = m
      · rw [if_pos e2] at hl0
        rcases hl0 with h | h
        · exact G.cdl i l0 (.inl h)
        · rcases List.mem_append.mp h with h | h
          · exact G.cdl i l0 (.inr h)
          · rw [List.mem_singleton.mp h]
            exact din
      · rw [if_neg e2] at hl0
        by_cases e1 : i = m
        · rw [if_pos e1] at hl0
          rcases hl0 with h | h
          · exact G.cdl i l0 (.inl h)
          · refine G.cdl m l0 (.inr ?_)
            rw [hL]
            exact List.mem_cons_of_mem _ h
        · rw [if_neg e1] at hl0
          exact G.cdl i l0 hl0
    · rcases hc with h | h | h
      · cases h
        exact din
      · cases h
      · cases h
    · have e0 : chW (s.hd m) (s.R m) (s.L m) = 5 + mineN r := by
        rw [hL, hR]
        exact chW_back hs rfl
      have e1 : chW (s'.hd m) (s'.R m) (s'.L m) = 3 + mineN r := by
        rw [ehd, eR, eL, if_pos rfl, if_neg (by omega), if_pos rfl]
        exact chW_free rfl _ _
      by_cases z : m = 0
      · have h := chSum_one (s := s) (s' := s') (m := m) (k := s.n) (by omega) fun i hi e => by
          rw [ehd, eR, eL, if_neg e, if_neg (by omega), if_neg e]
        unfold phi
        rw [en, enow]
        omega
      · obtain ⟨k, rfl⟩ : ∃ k, m = k + 1 := ⟨m - 1, by omega⟩
        have h := chSum_two (s := s) (s' := s') (m := k) (k := s.n) (by omega) fun i hi e1 e2 => by
          rw [ehd, eR, eL, if_neg e2, if_neg (by omega), if_neg e2]
        have e2 : chW (s'.hd k) (s'.R k) (s'.L k) = chW (s.hd k) (s.R k) (s.L k) + 1 := by
          rw [ehd, eR, eL, if_neg (by omega), if_pos rfl]
          exact chW_tell d
        unfold phi
        rw [en, enow]
        omega
theorem good_back_aside {s : NS} (G : Good s) {k : Nat} {d c : Int} {r : List Lt} (hm : k + 1 + 1 < s.n) (hL : s.L (k + 1) = .back d :: r) (ha : (s.hd (k + 1)).aside = some c) : ∃ s', stepS s (k + 1 + 1) (k + 1) = some s' ∧ Good s' ∧ phi s' < phi s := by
  have C := G.ch (k + 1) hm
  rw [hL] at C
  obtain ⟨x, y, hs, hy, hdx, hdy, hR, hasd, hp, C'⟩ := ch_back C
  have hear := hear_back_aside hs hy ha hdx hdy
  have hheld : (s.hd (k + 1)).held = none := by
    rcases G.hd (k + 1) (by omega) with ⟨_, _, h2, _⟩ | ⟨h1, _⟩
    · rw [hs] at h2; cases h2
    · exact h1
  obtain ⟨hsk, hxc, hpk, hRk, Ck'⟩ := ch_swap (b' := ⟨some c, none, none, some x⟩) (G.ch k (by omega)) (core_sent hheld hs) hdx ha rfl rfl
  have hheldk : (s.hd k).held = none := by
    rcases G.hd k (by omega) with ⟨_, _, h2, _⟩ | ⟨h1, _⟩
    · rw [hsk] at h2; cases h2
    · exact h1
  have nk : s.now[k]? = some c := by rw [G.now _ (by omega), card_core hpk, core_sent hheldk hsk]
  have nk1 : s.now[k + 1]? = some d := by
    rw [G.now _ (by omega)]
    unfold cardAt
    rw [hL]
    rfl
  have hgd : s.now.getD (k + 1) 0 = d := by rw [List.getD_eq_getElem?_getD, nk1] <;> rfl
  have nlen : k + 1 < s.now.length := by rw [G.nl]; omega
  refine ⟨noteS (exS (hearS (popS s (k + 1 + 1) (k + 1)) (k + 1) ⟨some c, none, none, some x⟩) (k + 1) c) (k + 1) [.back d], ?_, ?_⟩
  · unfold stepS
    rw [lane_l hm, hL]
    simp only
    rw [hear]
    simp only [List.any_cons, isBack, Bool.true_or, if_true, takenOf]
    rw [ha]
    simp only
    rw [if_pos ⟨by omega, nlen⟩]
  · obtain ⟨pn, phd, pt, pf, pnow, pdone⟩ := pop_same (s := s) (i := k + 1 + 1) (j := k + 1)
    obtain ⟨fn, fh, ff, fnow, fdone⟩ := note_facts (exS (hearS (popS s (k + 1 + 1) (k + 1)) (k + 1) ⟨some c, none, none, some x⟩) (k + 1) c) (k + 1) [.back d]
    have pR : (popS s (k + 1 + 1) (k + 1)).R = s.R := by
      unfold popS
      rw [if_neg (by omega)]
    have pL : ∀ i, (popS s (k + 1 + 1) (k + 1)).L i = if i = k + 1 then r else s.L i := fun i => by
      unfold popS
      rw [if_neg (by omega)]
      show (if i = k + 1 then (s.L (k + 1)).tail else s.L i) = _
      rw [hL]
      rfl
    have eR : (noteS (exS (hearS (popS s (k + 1 + 1) (k + 1)) (k + 1) ⟨some c, none, none, some x⟩) (k + 1) c) (k + 1) [.back d]).R = s.R := pR
    have eL : ∀ i, (noteS (exS (hearS (popS s (k + 1 + 1) (k + 1)) (k + 1) ⟨some c, none, none, some x⟩) (k + 1) c) (k + 1) [.back d]).L i = if i = k then s.L k ++ [.back d] else if i = k + 1 then r else s.L i := fun i => by
      show (if i = k + 1 - 1 then (popS s (k + 1 + 1) (k + 1)).L (k + 1 - 1) ++ [.back d] else (popS s (k + 1 + 1) (k + 1)).L i) = _
      rw [pL, pL, Nat.add_sub_cancel, if_neg (show ¬ k = k + 1 by omega)]
    have enow : (noteS (exS (hearS (popS s (k + 1 + 1) (k + 1)) (k + 1) ⟨some c, none, none, some x⟩) (k + 1) c) (k + 1) [.back d]).now = (s.now.set k d).set (k + 1) c := by
      rw [fnow]
      show ((popS s (k + 1 + 1) (k + 1)).now.set (k + 1 - 1) ((popS s (k + 1 + 1) (k + 1)).now.getD (k + 1) 0)).set (k + 1) c = _
      rw [pnow, hgd, Nat.add_sub_cancel]
    have edone : (noteS (exS (hearS (popS s (k + 1 + 1) (k + 1)) (k + 1) ⟨some c, none, none, some x⟩) (k + 1) c) (k + 1) [.back d]).done = s.done ++ [(d, c)] := by
      rw [fdone]
      show (popS s (k + 1 + 1) (k + 1)).done ++ [((popS s (k + 1 + 1) (k + 1)).now.getD (k + 1) 0, c)] = _
      rw [pdone, pnow, hgd]
    have ehd : ∀ i, (noteS (exS (hearS (popS s (k + 1 + 1) (k + 1)) (k + 1) ⟨some c, none, none, some x⟩) (k + 1) c) (k + 1) [.back d]).hd i = if i = k + 1 then ⟨some c, none, none, some x⟩ else s.hd i := fun i => by
      rw [fh]
      show (if i = k + 1 then _ else (popS s (k + 1 + 1) (k + 1)).hd i) = _
      rw [phd]
    have en := fn.trans pn
    have ef := ff.trans pf
    generalize noteS (exS (hearS (popS s (k + 1 + 1) (k + 1)) (k + 1) ⟨some c, none, none, some x⟩) (k + 1) c) (k + 1) [.back d] = s' at eR eL enow edone ehd en ef
    have din : d ∈ s.first := G.cdl (k + 1) (.back d) (.inr (by rw [hL]; exact List.mem_cons_self))
    refine ⟨good_upd G en ef ehd (by omega) (.inl ⟨c, rfl, rfl, rfl⟩) (fun e => by omega) (fun e => by omega) (fun i h1 h2 => by rw [eR, eL, if_neg (by omega), if_neg h1]; exact ⟨rfl, rfl⟩) (fun i hi => ?_) (fun hlt2 => ?_) (fun h => by omega) (fun i hi => ?_) (by rw [enow, List.length_set, List.length_set]; exact G.nl) (by rw [edone, enow]; exact led_cross G (by omega) nk nk1 (by omega)) (fun i l0 hl0 => ?_) (fun c' hc => ?_), ?_⟩
    · have : i = k := by omega
      subst this
      rw [eR, eL, if_pos rfl, hRk]
      exact Ck'
    · rw [eR, eL, if_neg (by omega), if_pos rfl, hR]
      exact C' _ rfl rfl
    · rw [enow, set2_get nlen]
      unfold cardAt
      rw [eL, ehd]
      by_cases e1 : i = k
      · rw [if_pos e1, if_pos e1, pend_app, hpk] <;> rfl
      · rw [if_neg e1, if_neg e1]
        by_cases e2 : i = k + 1
        · rw [if_pos e2, if_pos e2, if_pos e2, hp]
          rfl
        · rw [if_neg e2, if_neg e2, if_neg e2]
          exact G.now i hi
    · rw [eR, eL] at hl0
      by_cases e1 : i = k
      · rw [if_pos e1] at hl0
        rcases hl0 with h | h
        · exact G.cdl i l0 (.inl h)
        · rcases List.mem_append.mp h with h | h
          · exact G.cdl k l0 (.inr h)
          · rw [List.mem_singleton.mp h]
            exact din
      · rw [if_neg e1] at hl0
        by_cases e2 : i = k + 1
        · rw [if_pos e2] at hl0
          rcases hl0 with h | h
          · exact G.cdl i l0 (.inl h)
          · refine G.cdl (k + 1) l0 (.inr ?_)
            rw [hL]
            exact List.mem_cons_of_mem _ h
        · rw [if_neg e2] at hl0
          exact G.cdl i l0 hl0
    · rcases hc with h | h | h
      · cases h
        exact G.cdh (k + 1) (by omega) c (.inr (.inr ha))
      · cases h
      · cases h
    · have e0 : chW (s.hd (k + 1)) (s.R (k + 1)) (s.L (k + 1)) = 5 + mineN r := by
        rw [hL, hR]
        exact chW_back hs rfl
      have e1 : chW (s'.hd (k + 1)) (s'.R (k + 1)) (s'.L (k + 1)) = 3 + mineN r := by
        rw [ehd, eR, eL, if_pos rfl, if_neg (by omega), if_pos rfl]
        exact chW_free rfl _ _
      have hpe : pend (s.L k ++ [.back d]) = some d := by
        rw [pend_app, hpk] <;> rfl
      have h := chSum_two (s := s) (s' := s') (m := k) (k := s.n) (by omega) fun i hi e1 e2 => by
        rw [ehd, eR, eL, if_neg e2, if_neg e1, if_neg e2]
      have e2 : chW (s'.hd k) (s'.R k) (s'.L k) = 5 + mineN (s.L k) := by
        rw [ehd, eR, eL, if_neg (by omega), if_pos rfl, hRk, chW_back hsk hpe, mineN_app]
        rfl
      have e3 : chW (s.hd k) (s.R k) (s.L k) = 1 + mineN (s.L k) := by
        rw [hRk]
        exact chW_aside hsk hpk
      have hi := inv_set nk nk1 (by omega)
      unfold phi
      rw [en, enow]
      omega
end K59

set_option Elab.async false
set_option linter.all false
set_option maxRecDepth 100000
set_option maxHeartbeats 4000000
/-! plain mathematics: any letter that lies can be stepped -/
namespace K59
theorem chan_right {a b : Hd} {R L : List Lt} (C : Ch a b R L) (h : R ≠ []) : ∃ x, R = [.over x] := by
  cases hs : a.sent with
  | none => exact absurd (C.idle hs).1 h
  | some x =>
    cases hp : pend L with
    | none =>
      rcases (C.wait x hs hp).2 with ⟨e, _⟩ | ⟨e, _⟩
      · exact ⟨x, e⟩
      · exact absurd e h
    | some d => exact absurd (C.back x d hs hp).1 h
theorem chan_left {a b : Hd} {R L : List Lt} {l : Lt} (C : Ch a b R (l :: L)) : (∃ c, l = .mine c) ∨ ∃ d, l = .back d := by
  cases l with
  | mine c => exact .inl ⟨c, rfl⟩
  | back d => exact .inr ⟨d, rfl⟩
  | over c =>
    obtain ⟨_, _, _, h⟩ := C.run
    cases h
theorem good_step {s : NS} (G : Good s) {i j : Nat} (h : laneOf s i j ≠ []) : ∃ s', stepS s i j = some s' ∧ Good s' ∧ phi s' < phi s := by
  rcases lane_cases s i j with ⟨m, rfl, rfl, hm, hl⟩ | ⟨m, rfl, rfl, hm, hl⟩ | ⟨hl, _⟩
  · obtain ⟨x, hx⟩ := chan_right (G.ch i hm) (hl ▸ h)
    cases hh : (s.hd (i + 1)).held with
    | none => exact good_over_aside G hm hx hh
    | some l =>
      obtain ⟨s', h1, h2, h3, _⟩ := good_over_held G hm hx hh
      exact ⟨s', h1, h2, h3⟩
  · cases hL : s.L j with
    | nil => exact absurd (hl.trans hL) h
    | cons l r =>
      have C := G.ch j hm
      rw [hL] at C
      rcases chan_left C with ⟨c, rfl⟩ | ⟨d, rfl⟩
      · obtain ⟨s', h1, h2, h3, _⟩ := good_mine G hm hL
        exact ⟨s', h1, h2, h3⟩
      · cases ha : (s.hd j).aside with
        | none =>
          obtain ⟨s', h1, h2, h3, _⟩ := good_back_plain G hm hL ha
          exact ⟨s', h1, h2, h3⟩
        | some c =>
          cases j with
          | zero =>
            rw [G.asd0] at ha
            cases ha
          | succ k => exact good_back_aside G hm hL ha
  · exact absurd hl h
/-- a net at rest: nothing lies, no hand may go -/
theorem good_quiet {s : NS} (G : Good s) (hl : ∀ j, s.R j = [] ∧ s.L j = []) {i : Nat} (hi : i < s.n) (hi2 : ∀ k, k < s.n → (s.hd k).held ≠ none) : ∃ c, (s.hd i).held = some c ∧ s.now[i]? = some c := by
  cases h : (s.hd i).held with
  | none => exact absurd h (hi2 i hi)
  | some c =>
    refine ⟨c, rfl, ?_⟩
    rw [G.now i hi]
    unfold cardAt
    rw [(hl i).2, core_held h]
    rfl
end K59

set_option Elab.async false
set_option linter.all false
set_option maxRecDepth 100000
set_option maxHeartbeats 4000000
/-! plain mathematics: a net at rest -/
namespace K59
theorem rest_held {s : NS} (G : Good s) (hl : ∀ j, s.R j = [] ∧ s.L j = []) : ∀ t i, i + t + 1 = s.n → ∃ c, (s.hd i).held = some c ∧ (s.hd i).sent = none ∧ (s.hd i).aside = none
  | 0, i, e => by
    rcases G.hd i (by omega) with h | ⟨_, x, _, h⟩
    · exact h
    · have z := G.last
      rw [show s.n - 1 = i by omega] at z
      exact absurd z h
  | t + 1, i, e => by
    rcases G.hd i (by omega) with h | ⟨_, x, hs, _⟩
    · exact h
    · obtain ⟨c, _, _, h3⟩ := rest_held G hl t (i + 1) (by omega)
      rcases ((G.ch i (by omega)).wait x hs (by rw [(hl i).2]; rfl)).2 with ⟨h, _⟩ | ⟨_, h⟩
      · rw [(hl i).1] at h
        cases h
      · rw [h3] at h
        cases h
theorem rest_le {s : NS} (G : Good s) (hl : ∀ j, s.R j = [] ∧ s.L j = []) (hg : ∀ i, i < s.n → mayGo (s.hd i) = false) {i : Nat} (hi : i + 1 < s.n) : ∃ c d, (s.hd i).held = some c ∧ (s.hd (i + 1)).held = some d ∧ s.now[i]? = some c ∧ s.now[i + 1]? = some d ∧ c ≤ d := by
  have hh : ∀ k, k < s.n → (s.hd k).held ≠ none := fun k hk z => by
    obtain ⟨c, h, _⟩ := rest_held G hl (s.n - k - 1) k (by omega)
    rw [z] at h
    cases h
  obtain ⟨c, h1, h2⟩ := good_quiet G hl (i := i) (by omega) hh
  obtain ⟨d, h3, h4⟩ := good_quiet G hl (i := i + 1) hi hh
  refine ⟨c, d, h1, h3, h2, h4, ?_⟩
  obtain ⟨cb, sa, e1, e2⟩ := (G.ch i hi).run
  rw [core_held h3] at e1
  cases e1
  rw [(hl i).2] at e2
  have e3 : some ((s.hd i).heard, (s.hd i).sent) = some (some d, sa) := e2
  have e4 : (s.hd i).heard = some d := by
    cases hq : (s.hd i).heard with
    | none =>
      rw [hq] at e3
      cases e3
    | some y =>
      rw [hq] at e3
      cases e3
      rfl
  have g := hg i (by omega)
  unfold mayGo at g
  rw [h1, e4] at g
  have g : decide (d < c) = false := g
  have := of_decide_eq_false g
  omega
/-- at rest the hands hold what `now` says -/
theorem rest_now {s : NS} (G : Good s) (hl : ∀ j, s.R j = [] ∧ s.L j = []) {i : Nat} (hi : i < s.n) : ∃ c, (s.hd i).held = some c ∧ (s.hd i).sent = none ∧ (s.hd i).aside = none ∧ s.now[i]? = some c := by
  obtain ⟨c, h1, h2, h3⟩ := rest_held G hl (s.n - i - 1) i (by omega)
  refine ⟨c, h1, h2, h3, ?_⟩
  rw [G.now i hi]
  unfold cardAt
  rw [(hl i).2, core_held h1]
  rfl
/-- at rest the cards lie in order -/
theorem rest_sorted {s : NS} (G : Good s) (hl : ∀ j, s.R j = [] ∧ s.L j = []) (hg : ∀ i, i < s.n → mayGo (s.hd i) = false) : ∀ t i c d, i + t < s.n → s.now[i]? = some c → s.now[i + t]? = some d → c ≤ d
  | 0, i, c, d, h, e1, e2 => by
    rw [Nat.add_zero, e1] at e2
    cases e2
    exact Int.le_refl _
  | t + 1, i, c, d, h, e1, e2 => by
    obtain ⟨a, b, _, _, h3, h4, h5⟩ := rest_le G hl hg (i := i + t) (by omega)
    rw [show i + (t + 1) = i + t + 1 by omega, h4] at e2
    cases e2
    have := rest_sorted G hl hg t i c a (by omega) e1 h3
    omega
end K59

set_option Elab.async false
set_option linter.all false
set_option maxRecDepth 100000
set_option maxHeartbeats 4000000
/-! plain mathematics: what a list of swaps keeps -/
namespace K59
theorem swap_sub {x y a b : Int} {B : List Int} : ∀ {A : List Int}, [y, x].Sublist (A ++ b :: a :: B) → (y = b ∧ x = a) ∨ [y, x].Sublist (A ++ a :: b :: B)
  | [], h => by
    have h : [y, x].Sublist (b :: a :: B) := h
    show _ ∨ [y, x].Sublist (a :: b :: B)
    cases h with
    | cons _ h =>
      cases h with
      | cons _ h => exact .inr ((h.cons b).cons a)
      | cons_cons _ h => exact .inr (List.Sublist.cons_cons _ (h.cons b))
    | cons_cons _ h =>
      cases h with
      | cons _ h => exact .inr ((List.Sublist.cons_cons _ h).cons a)
      | cons_cons _ h => exact .inl ⟨rfl, rfl⟩
  | c :: A, h => by
    have h : [y, x].Sublist (c :: (A ++ b :: a :: B)) := h
    show _ ∨ [y, x].Sublist (c :: (A ++ a :: b :: B))
    cases h with
    | cons _ h =>
      rcases swap_sub h with e | e
      · exact .inl e
      · exact .inr (e.cons c)
    | cons_cons _ h => exact .inr (List.Sublist.cons_cons _ (List.singleton_sublist.mpr ((swap_perm A B b a).subset (List.singleton_sublist.mp h))))
/-- a wrong pair is told, or it still stands wrong -/
theorem led_told {ns out : List Int} {ps : List (Int × Int)} (h : Led ns ps out) : ∀ {x y : Int}, [y, x].Sublist ns → (x, y) ∈ ps ∨ [y, x].Sublist out := by
  induction h with
  | nil => exact fun s => .inr s
  | cons _ _ ih =>
    intro x y s
    rcases swap_sub s with ⟨rfl, rfl⟩ | e
    · exact .inl List.mem_cons_self
    · rcases ih e with e | e
      · exact .inl (List.mem_cons_of_mem _ e)
      · exact .inr e
/-- a card more at the right end -/
theorem led_more {ns out : List Int} {ps : List (Int × Int)} (h : Led ns ps out) (c : Int) : Led (ns ++ [c]) ps (out ++ [c]) := by
  induction h with
  | nil => exact .nil
  | @cons A B x y ps out h t ih =>
    have t2 : Led (A ++ x :: y :: (B ++ [c])) ps (out ++ [c]) := by
      have e : A ++ x :: y :: B ++ [c] = A ++ x :: y :: (B ++ [c]) := by simp
      rw [← e]
      exact ih
    have := Led.cons h t2
    have e : A ++ y :: x :: B ++ [c] = A ++ y :: x :: (B ++ [c]) := by simp
    rw [e]
    exact this
theorem led_len {ns out : List Int} {ps : List (Int × Int)} (h : Led ns ps out) : out.length = ns.length := h.perm.length_eq
/-- a row in order holds no wrong pair -/
theorem sorted_sub {xs : List Int} (h : ∀ i t c d, i + t < xs.length → xs[i]? = some c → xs[i + t]? = some d → c ≤ d) {x y : Int} (hs : [y, x].Sublist xs) : y ≤ x := by
  induction xs with
  | nil => cases hs
  | cons a xs ih =>
    cases hs with
    | cons _ hs => exact ih (fun i t c d h1 h2 h3 => h (i + 1) t c d (by simp only [List.length_cons]; omega) (by simpa using h2) (by rw [show i + 1 + t = (i + t) + 1 by omega]; simpa using h3)) hs
    | cons_cons _ hs =>
      obtain ⟨t, ht, e⟩ := List.mem_iff_getElem.mp (List.singleton_sublist.mp hs)
      exact h 0 (t + 1) y x (by simp only [List.length_cons]; omega) rfl (by rw [Nat.zero_add, List.getElem?_cons_succ, List.getElem?_eq_getElem ht, e])
/-- at rest every wrong pair is told -/
theorem rest_told {s : NS} (G : Good s) (hl : ∀ j, s.R j = [] ∧ s.L j = []) (hg : ∀ i, i < s.n → mayGo (s.hd i) = false) {x y : Int} (hs : [y, x].Sublist s.first) (h : x < y) : (x, y) ∈ s.done := by
  rcases led_told G.led hs with e | e
  · exact e
  · have := sorted_sub (fun i t c d h1 => rest_sorted G hl hg t i c d (by rw [← G.nl]; exact h1)) e
    omega
end K59

set_option Elab.async false
set_option linter.all false
set_option maxRecDepth 100000
set_option maxHeartbeats 4000000
/-! plain mathematics: no open threes at rest -/
namespace K59
theorem later_sub {ns : List Int} {i : Nat} {g m : Int} (h : ns[i]? = some g) (hm : m ∈ laterOf ns i g) : [g, m].Sublist ns ∧ m < g := by
  unfold laterOf at hm
  rw [List.mem_filter] at hm
  refine ⟨?_, of_decide_eq_true hm.2⟩
  obtain ⟨hi, e⟩ := List.getElem?_eq_some_iff.mp h
  have e2 : ns.drop i = g :: ns.drop (i + 1) := by
    rw [List.drop_eq_getElem_cons hi, e]
  exact ((List.singleton_sublist.mpr hm.1).cons_cons g).trans (e2 ▸ List.drop_sublist i ns)
theorem threeIn_last {ls : List Int} {g : Int} {t : Int × Int × Int} : ∀ {j : Nat}, t ∈ threeIn ls g j → t.2.2 = g ∧ t.2.1 ∈ ls
  | 0, h => by cases h
  | j + 1, h => by
    rw [threeIn, List.mem_append] at h
    rcases h with h | h
    · exact threeIn_last h
    · cases e : ls[j]? with
      | none =>
        rw [e] at h
        cases h
      | some m =>
        rw [e] at h
        have h : t ∈ threeAt ls g j m := h
        unfold threeAt at h
        obtain ⟨x, _, rfl⟩ := List.mem_map.mp h
        exact ⟨rfl, List.mem_of_getElem? e⟩
theorem threesTo_last {ns : List Int} {t : Int × Int × Int} : ∀ {i : Nat}, t ∈ threesTo ns i → [t.2.2, t.2.1].Sublist ns ∧ t.2.1 < t.2.2
  | 0, h => by cases h
  | i + 1, h => by
    rw [threesTo, List.mem_append] at h
    rcases h with h | h
    · exact threesTo_last h
    · cases e : ns[i]? with
      | none =>
        rw [e] at h
        cases h
      | some g =>
        rw [e] at h
        obtain ⟨h1, h2⟩ := threeIn_last (show t ∈ threeIn (laterOf ns i g) g (laterOf ns i g).length from h)
        rw [h1]
        exact later_sub e h2
theorem threesS_last {ns : List Int} {t : Int × Int × Int} (h : t ∈ threesS ns) : [t.2.2, t.2.1].Sublist ns ∧ t.2.1 < t.2.2 :=
  threesTo_last ((sortE_perm ThD _).subset h)
/-- at rest no three is open -/
theorem rest_open {s : NS} (G : Good s) (hl : ∀ j, s.R j = [] ∧ s.L j = []) (hg : ∀ i, i < s.n → mayGo (s.hd i) = false) : openT s.first s.done = [] := by
  unfold openT
  rw [List.filter_eq_nil_iff]
  intro t ht z
  obtain ⟨h1, h2⟩ := threesS_last ht
  have h3 := rest_told G hl hg h1 h2
  unfold openB at z
  rw [Bool.and_eq_true] at z
  have z2 := z.2
  rw [decide_eq_true h3] at z2
  cases z2
end K59

set_option Elab.async false
set_option linter.all false
set_option maxRecDepth 100000
set_option maxHeartbeats 4000000
/-! plain mathematics: a card more -/
namespace K59
theorem ch_new {a : Hd} {c x : Int} (h1 : a.held = some x) (h2 : a.sent = none) (h3 : a.heard = none) : Ch a ⟨some c, none, none, none⟩ [] [.mine c] := by
  refine ⟨⟨c, none, rfl, ?_⟩, fun _ => ⟨rfl, rfl⟩, fun y hy => ?_, fun y d hy => ?_⟩
  · rw [h3, h2]
    exact if_pos (.inl rfl)
  · rw [h2] at hy
    cases hy
  · rw [h2] at hy
    cases hy
theorem add_facts {s : NS} {c : Int} (h : 1 ≤ s.n) : (addS s c).n = s.n + 1 ∧ (addS s c).hd = (moreS s c).hd ∧ (addS s c).first = s.first ++ [c] ∧ (addS s c).now = s.now ++ [c] ∧ (addS s c).done = s.done ∧ (addS s c).R = (moreS s c).R ∧ (∀ m, (addS s c).L m = if m + 1 = s.n then [.mine c] else s.L m) := by
  obtain ⟨e1, e2, e3, e4, e5⟩ := note_facts (moreS s c) s.n [.mine c]
  refine ⟨e1, e2, e3, e4, e5, ?_, fun m => ?_⟩
  · show (putL s.n _ (.mine c)).R = _
    unfold putL
    rw [if_neg (show ¬ s.n = 0 by omega)]
    try rfl
  · show (putL s.n _ (.mine c)).L m = _
    unfold putL
    rw [if_neg (show ¬ s.n = 0 by omega)]
    show (if m = s.n - 1 then _ else _) = _
    by_cases e : m + 1 = s.n
    · rw [if_pos (by omega), if_pos e]
      show (if s.n - 1 + 1 = s.n then [] else s.L (s.n - 1)) ++ [Lt.mine c] = _
      rw [if_pos (by omega)]
      rfl
    · rw [if_neg (by omega), if_neg e]
      show (if m + 1 = s.n then [] else s.L m) = _
      rw [if_neg e]
theorem good_add {s : NS} (G : Good s) {c : Int} (hn : s.n < 24) (hc : cardB c = true) (hf : c ∉ s.first) : Good (addS s c) := by
  obtain ⟨e1, e2, e3, e4, e5, e6, e7⟩ := add_facts (c := c) G.n1
  have eh : ∀ m, (addS s c).hd m = if m = s.n then ⟨some c, none, none, none⟩ else s.hd m := fun m => by rw [e2] <;> rfl
  have eR : ∀ m, (addS s c).R m = if m + 1 = s.n then [] else s.R m := fun m => by rw [e6] <;> rfl
  have n1 := G.n1
  refine ⟨by rw [e1]; omega, fun i hi => ?_, ?_, ?_, fun i hi => ?_, fun j hj => ?_, fun i hi => ?_, ?_, ?_, ?_, ?_, fun i l hl => ?_, fun i hi c' hc' => ?_⟩
  · rw [eh]
    by_cases e : i = s.n
    · rw [if_pos e]
      exact .inl ⟨c, rfl, rfl, rfl⟩
    · rw [if_neg e]
      exact G.hd i (by omega)
  · rw [eh, if_pos (by omega)]
  · rw [eh, if_neg (by omega)]
    exact G.asd0
  · by_cases e : i + 1 = s.n
    · rw [eh, eh, if_neg (by omega), if_pos e, eR, if_pos e, e7, if_pos e]
      have hl := G.last
      rw [show s.n - 1 = i by omega] at hl
      rcases G.hd i (by omega) with ⟨x, h1, h2, _⟩ | ⟨_, x, _, h⟩
      · exact ch_new h1 h2 hl
      · exact absurd hl h
    · rw [eh, eh, if_neg (by omega), if_neg e, eR, if_neg e, e7, if_neg e]
      exact G.ch i (by omega)
  · rw [e7, eR, if_neg (by omega), if_neg (by omega)]
    exact G.out j (by omega)
  · unfold cardAt
    rw [e4, e7, eh]
    by_cases e : i = s.n
    · rw [if_pos e, if_neg (by omega), (G.out i (by omega)).1, List.getElem?_append_right (by rw [G.nl]; omega), G.nl, e, Nat.sub_self]
      rfl
    · rw [if_neg e, List.getElem?_append_left (by rw [G.nl]; omega), G.now i (by omega)]
      unfold cardAt
      by_cases e8 : i + 1 = s.n
      · rw [if_pos e8, (G.out i (by omega)).1]
        rfl
      · rw [if_neg e8]
  · rw [e4, e1, List.length_append, G.nl]
    rfl
  · rw [e3, e1, List.length_append, G.fl]
    rfl
  · rw [e3]
    refine ⟨by rw [List.length_append]; have := G.row.lo; omega, by rw [List.length_append, G.fl]; exact hn, fun m hm => ?_, ?_⟩
    · rcases List.mem_append.mp hm with h | h
      · exact G.row.cd m h
      · rw [List.mem_singleton.mp h]
        exact hc
    · rw [List.nodup_append]
      refine ⟨G.row.nd, List.nodup_cons.mpr ⟨List.not_mem_nil, List.nodup_nil⟩, fun a ha b hb z => ?_⟩
      rw [List.mem_singleton.mp hb] at z
      exact hf (z ▸ ha)
  · rw [e3, e5, e4]
    exact led_more G.led c
  · rw [e3]
    rw [eR, e7] at hl
    by_cases e : i + 1 = s.n
    · rw [if_pos e, if_pos e] at hl
      rcases hl with h | h
      · cases h
      · rw [List.mem_singleton.mp h]
        exact List.mem_append_right _ List.mem_cons_self
    · rw [if_neg e, if_neg e] at hl
      exact List.mem_append_left _ (G.cdl i l hl)
  · rw [e3]
    rw [eh] at hc'
    by_cases e : i = s.n
    · rw [if_pos e] at hc'
      rcases hc' with h | h | h
      · cases h
        exact List.mem_append_right _ List.mem_cons_self
      · cases h
      · cases h
    · rw [if_neg e] at hc'
      exact List.mem_append_left _ (G.cdh i (by omega) c' hc')
end K59

set_option Elab.async false
set_option linter.all false
set_option maxRecDepth 100000
set_option maxHeartbeats 4000000
/-! plain mathematics: a net newly laid -/
namespace K59
theorem good_one {c : Int} (hc : cardB c = true) : Good (addS zeroS c) := by
  obtain ⟨e1, e2, e3, e4, e5⟩ := note_facts (moreS zeroS c) 0 [.mine c]
  have eh : ∀ m, (addS zeroS c).hd m = if m = 0 then ⟨some c, none, none, none⟩ else zeroS.hd m := fun m => by
    show (noteS (moreS zeroS c) 0 [.mine c]).hd m = _
    rw [e2] <;> rfl
  have e1 : (addS zeroS c).n = 1 := e1
  have e3 : (addS zeroS c).first = [c] := e3
  have e4 : (addS zeroS c).now = [c] := e4
  have e5 : (addS zeroS c).done = [] := e5
  have eR : ∀ m, (addS zeroS c).R m = [] := fun m => by
    show (if m + 1 = 0 then [] else zeroS.R m) = _
    split <;> rfl
  have eL : ∀ m, (addS zeroS c).L m = [] := fun m => by
    show (if m + 1 = 0 then [] else zeroS.L m) = _
    split <;> rfl
  refine ⟨by rw [e1]; exact Nat.le_refl _, fun i hi => ?_, ?_, ?_, fun i hi => ?_, fun j _ => ⟨eL j, eR j⟩, fun i hi => ?_, ?_, ?_, ?_, ?_, fun i l hl => ?_, fun i hi c' hc' => ?_⟩
  · rw [eh, if_pos (by omega)]
    exact .inl ⟨c, rfl, rfl, rfl⟩
  · rw [eh, if_pos (by omega)]
  · rw [eh, if_pos rfl]
  · omega
  · have : i = 0 := by omega
    unfold cardAt
    rw [this, e4, eL, eh, if_pos rfl]
    rfl
  · rw [e4, e1]; rfl
  · rw [e3, e1]; rfl
  · rw [e3]
    exact ⟨Nat.le_refl _, Nat.le_of_ble_eq_true rfl, fun m hm => by rw [List.mem_singleton.mp hm]; exact hc, List.nodup_cons.mpr ⟨List.not_mem_nil, List.nodup_nil⟩⟩
  · rw [e3, e5, e4]
    exact .nil
  · rw [eL, eR] at hl
    rcases hl with h | h <;> cases h
  · rw [eh, if_pos (by omega)] at hc'
    rw [e3]
    rcases hc' with h | h | h
    · cases h
      exact List.mem_cons_self
    · cases h
    · cases h
theorem good_fold : ∀ (ns : List Int) (s : NS), Good s → RowOk (s.first ++ ns) → Good (ns.foldl addS s)
  | [], s, G, _ => G
  | c :: ns, s, G, R => by
    have hl := R.hi
    rw [List.length_append, List.length_cons, G.fl] at hl
    have hf : c ∉ s.first := fun z => by
      have h := R.nd
      rw [List.nodup_append] at h
      exact h.2.2 c z c List.mem_cons_self rfl
    have G2 := good_add G (c := c) (by omega) (R.cd c (List.mem_append_right _ List.mem_cons_self)) hf
    refine good_fold ns (addS s c) G2 ?_
    rw [(add_facts (c := c) G.n1).2.2.1, List.append_assoc]
    exact R
theorem good_init {ns : List Int} (R : RowOk ns) : Good (initS ns) := by
  cases ns with
  | nil =>
    have h : 1 ≤ 0 := R.lo
    omega
  | cons c ns => exact good_fold ns (addS zeroS c) (good_one (R.cd c List.mem_cons_self)) R
end K59

set_option Elab.async false
set_option linter.all false
set_option maxRecDepth 100000
set_option maxHeartbeats 4000000
/-! plain mathematics: the end of a run is a net at rest -/
namespace K59
theorem sum_zero : ∀ {xs : List ((Int × Int) × List Lt)}, (xs.map fun e => (e.2.length : Int)).sum = 0 → ∀ e ∈ xs, e.2 = []
  | [], _, e, h => by cases h
  | x :: xs, hs, e, h => by
    have nn : ∀ ys : List ((Int × Int) × List Lt), 0 ≤ (ys.map fun e => (e.2.length : Int)).sum := by
      intro ys
      induction ys with
      | nil => exact Int.le_refl _
      | cons y ys ih =>
        rw [List.map_cons, List.sum_cons]
        omega
    rw [List.map_cons, List.sum_cons] at hs
    have := nn xs
    rcases List.mem_cons.mp h with rfl | h
    · exact List.length_eq_zero_iff.mp (by omega)
    · exact sum_zero (by omega) e h
theorem lanes_mem (s : NS) : ∀ {n m : Nat}, m + 1 < n → (((m : Int), (m : Int) + 1), s.R m) ∈ lanesOf s n ∧ (((m : Int) + 1, (m : Int)), s.L m) ∈ lanesOf s n
  | 0, m, h => by omega
  | 1, m, h => by omega
  | n + 2, m, h => by
    rw [lanesOf]
    by_cases e : m = n
    · rw [e]
      exact ⟨List.mem_append_right _ List.mem_cons_self, List.mem_append_right _ (List.mem_cons_of_mem _ List.mem_cons_self)⟩
    · obtain ⟨h1, h2⟩ := lanes_mem s (n := n + 1) (m := m) (by omega)
      exact ⟨List.mem_append_left _ h1, List.mem_append_left _ h2⟩
theorem quiet_lanes {s : NS} (G : Good s) (h : lyingN s = 0) : ∀ j, s.R j = [] ∧ s.L j = [] := fun j => by
  by_cases e : j + 1 < s.n
  · obtain ⟨h1, h2⟩ := lanes_mem s e
    exact ⟨sum_zero h _ h1, sum_zero h _ h2⟩
  · exact (G.out j (by omega)).symm
theorem quiet_free {s : NS} (h : freeL s = []) : ∀ i, i < s.n → mayGo (s.hd i) = false := fun i hi => by
  unfold freeL at h
  rw [List.filter_eq_nil_iff] at h
  have := h i (List.mem_range.mpr hi)
  cases e : mayGo (s.hd i) with
  | false => rfl
  | true => exact absurd e this
theorem run_good {b m : Nat} {s s2 : NS} (R : RestN b s m s2) : Good s → Good s2 ∧ lyingN s2 = 0 ∧ freeL s2 = [] := by
  induction R with
  | done o h1 h2 => exact fun G => ⟨G, h1, h2⟩
  | @step s s1 s2 b m i j p ps o h1 h2 h3 h4 r ih =>
    intro G
    refine ih ?_
    have hl : laneOf s i j ≠ [] := fun z => by
      unfold stepS at h4
      rw [z] at h4
      cases h4
    obtain ⟨s', e, G', _⟩ := good_step G hl
    rw [h4] at e
    cases e
    exact G'
  | @go s s2 b m i c r o h1 h2 h3 h4 t ih =>
    intro G
    refine ih ?_
    have hm : i ∈ freeL s := by
      rw [h2]
      exact List.mem_cons_self
    unfold freeL at hm
    rw [List.mem_filter] at hm
    exact good_go G (List.mem_range.mp hm.1) hm.2 h4
/-- what a run leaves: no three open -/
theorem run_open {b m : Nat} {s s2 : NS} (R : RestN b s m s2) (G : Good s) : openT s2.first s2.done = [] := by
  obtain ⟨G2, h1, h2⟩ := run_good R G
  exact rest_open G2 (quiet_lanes G2 h1) (quiet_free h2)
end K59

set_option Elab.async false
set_option linter.all false
set_option maxRecDepth 100000
set_option maxHeartbeats 4000000
/-! plain mathematics: what the walks ask of a net -/
namespace K59
theorem good_lo {s : NS} (G : Good s) : LOk s := fun i l h => G.row.cd _ (G.cdl i l h)
theorem good_now {s : NS} (G : Good s) : ∀ x ∈ s.now, cardB x = true := fun x h => G.row.cd x (G.led.perm.subset h)
theorem good_deed {s : NS} (G : Good s) (sh : Short s 50000) (t : s.t < 50000) (dn : s.done.length < 50000) (n : s.n ≤ 23) : DeedOk s :=
  ⟨sh, t, good_lo G, dn, n, by rw [G.fl]; omega, by rw [G.nl]; omega, fun i hi g => go_last G hi g, fun i j h => by
    obtain ⟨s', e, _⟩ := good_step G h
    exact ⟨s', e⟩⟩
theorem good_ok {s : NS} (G : Good s) (sh : Short s 50000) (t : s.t < 50000) (dn : s.done.length < 50000) : OkS s :=
  ⟨sh, t, good_lo G, dn, by rw [← G.fl]; exact G.row.hi⟩
end K59

set_option Elab.async false
set_option linter.all false
set_option maxRecDepth 100000
set_option maxHeartbeats 4000000
/-! plain mathematics: what the answers ask of a net -/
namespace K59
theorem led_ok {ns out : List Int} {ps : List (Int × Int)} (h : Led ns ps out) : (∀ n ∈ ns, cardB n = true) → PsOk ps := by
  induction h with
  | nil => exact fun _ p hp => by cases hp
  | @cons A B x y ps out hlt t ih =>
    intro hc p hp
    rcases List.mem_cons.mp hp with rfl | hp
    · exact ⟨hc _ (List.mem_append_right _ (List.mem_cons_of_mem _ List.mem_cons_self)), hc _ (List.mem_append_right _ List.mem_cons_self), hlt⟩
    · exact ih (fun n hn => hc n ((swap_perm A B x y).subset hn)) p hp
theorem good_r {s : NS} (G : Good s) (n9 : s.n ≤ 9) (pl : s.done.length ≤ 1000) (sh : Short s 1000) (ly : lyingN s ≤ 999999999) : GoodR s :=
  { row := G.row
    n9 := n9
    fl := G.fl
    nowc := good_now G
    nowl := by rw [G.nl]; omega
    ps := led_ok G.led G.row.cd
    pl := pl
    hc := fun i hi c h => G.row.cd c (G.cdh i hi c (.inl h))
    lo := good_lo G
    ll := fun i j => by
      rcases lane_cases s i j with ⟨m, _, _, _, hl⟩ | ⟨m, _, _, _, hl⟩ | ⟨hl, _⟩
      · rw [hl]
        exact (sh m).1
      · rw [hl]
        exact (sh m).2
      · rw [hl]
        exact Nat.zero_le _
    ly := ly
    led := ⟨_, G.led⟩ }
end K59

set_option Elab.async false
set_option linter.all false
set_option maxRecDepth 100000
set_option maxHeartbeats 4000000
/-! plain mathematics: how fast a net grows -/
namespace K59
theorem note_grow {s : NS} {i b : Nat} {ls : List Lt} (h : ls.length ≤ 1) (sh : Short s b) : Short (noteS s i ls) (b + 1) ∧ (noteS s i ls).t = s.t + 1 := by
  match ls, h with
  | [], _ => exact ⟨fun j => ⟨Nat.le_succ_of_le (sh j).1, Nat.le_succ_of_le (sh j).2⟩, rfl⟩
  | [l], _ =>
    exact ⟨putL_short (i := i) (l := l) sh, rfl⟩
  | _ :: _ :: _, h => simp at h
theorem go_grow {s : NS} {i b : Nat} {c : Int} (sh : Short s b) : Short (goS s i c) (b + 1) ∧ (goS s i c).t = s.t + 1 ∧ (goS s i c).done = s.done :=
  have h := note_grow (s := hearS s i (goF (s.hd i))) (i := i) (ls := [.over c]) (Nat.le_refl _) sh
  ⟨h.1, h.2, (note_facts (hearS s i (goF (s.hd i))) i [.over c]).2.2.2.2⟩
end K59

set_option Elab.async false
set_option linter.all false
set_option maxRecDepth 100000
set_option maxHeartbeats 4000000
/-! plain mathematics: how fast a step grows a net -/
namespace K59
theorem step_grow {s s1 : NS} {i j b : Nat} (h : stepS s i j = some s1) (sh : Short s b) : Short s1 (b + 1) ∧ s1.t = s.t + 1 ∧ s1.done.length ≤ s.done.length + 1 ∧ s1.n = s.n ∧ s1.first = s.first := by
  have hn := stepS_n h
  obtain ⟨pn, phd, pt, pf, pnow, pdone⟩ := pop_same (s := s) (i := i) (j := j)
  have ps := short_pop (i := i) (j := j) sh
  unfold stepS at h
  cases hl : laneOf s i j with
  | nil => rw [hl] at h; cases h
  | cons l r =>
    rw [hl] at h
    simp only at h
    cases hh : hearF (s.hd j) l with
    | none => rw [hh] at h; cases h
    | some hp =>
      obtain ⟨h', ls⟩ := hp
      rw [hh] at h
      simp only at h
      have hs := (hear_small hh).1
      split at h
      · split at h
        · cases h
        · rename_i c _
          split at h
          · cases h
            obtain ⟨n1, n2⟩ := note_grow (s := exS (hearS (popS s i j) j h') j c) (i := j) (b := b) hs ps
            obtain ⟨_, _, f3, _, f5⟩ := note_facts (exS (hearS (popS s i j) j h') j c) j ls
            refine ⟨n1, n2.trans ?_, ?_, hn, f3.trans pf⟩
            · exact congrArg (· + 1) pt
            · rw [f5]
              show ((popS s i j).done ++ [_]).length ≤ _
              rw [pdone, List.length_append]
              exact Nat.le_refl _
          · cases h
      · cases h
        obtain ⟨n1, n2⟩ := note_grow (s := hearS (popS s i j) j h') (i := j) (b := b) hs ps
        obtain ⟨_, _, f3, _, f5⟩ := note_facts (hearS (popS s i j) j h') j ls
        refine ⟨n1, n2.trans ?_, ?_, hn, f3.trans pf⟩
        · exact congrArg (· + 1) pt
        · rw [f5]
          show (popS s i j).done.length ≤ _
          rw [pdone]
          exact Nat.le_succ _
end K59

set_option Elab.async false
set_option linter.all false
set_option maxRecDepth 100000
set_option maxHeartbeats 4000000
/-! plain mathematics: how many crossings there can be -/
namespace K59
theorem led_inv {ns out : List Int} {ps : List (Int × Int)} (h : Led ns ps out) : invN ns = invN out + ps.length := by
  induction h with
  | nil => rfl
  | @cons A B x y ps out hlt t ih =>
    rw [inv_swap hlt B A, ih, List.length_cons]
    omega
theorem inv_le : ∀ xs : List Int, invN xs ≤ xs.length * xs.length
  | [] => Nat.le_refl _
  | c :: cs => by
    have h1 := below_len c cs
    have h2 := inv_le cs
    show below c cs + invN cs ≤ (cs.length + 1) * (cs.length + 1)
    rw [Nat.add_mul, Nat.mul_add]
    omega
theorem good_done {s : NS} (G : Good s) : s.done.length ≤ 576 := by
  have h1 := led_inv G.led
  have h2 := inv_le s.first
  have h3 := Nat.mul_le_mul G.row.hi G.row.hi
  omega
end K59

set_option Elab.async false
set_option linter.all false
set_option maxRecDepth 100000
set_option maxHeartbeats 4000000
/-! plain mathematics: the measure falls under go -/
namespace K59
theorem phi_go {s : NS} (G : Good s) {i : Nat} {c : Int} (hi : i < s.n) (g : mayGo (s.hd i) = true) (hc : (s.hd i).held = some c) : phi (goS s i c) < phi s := by
  have hlt := go_last G hi g
  have hs : (s.hd i).sent = none := by
    rcases G.hd i hi with ⟨_, _, h, _⟩ | ⟨h, _⟩
    · exact h
    · rw [h] at hc
      cases hc
  have hp : pend (s.L i) = none := by
    obtain ⟨_, _, _, h2⟩ := (G.ch i hlt).run
    rcases runB_inv h2 with ⟨p, _⟩ | ⟨d, s', _, p, _⟩
    · exact p
    · rw [hs] at p
      cases p
  have h := chSum_one (s := s) (s' := goS s i c) (m := i) (k := s.n) hi fun k hk e => by
    show chW (if k = i then _ else s.hd k) (if k = i then _ else s.R k) (s.L k) = _
    rw [if_neg e, if_neg e]
  have h1 : chW (s.hd i) (s.R i) (s.L i) = 3 + mineN (s.L i) := by
    unfold chW
    rw [if_pos hs]
  have h2 : chW ((goS s i c).hd i) ((goS s i c).R i) ((goS s i c).L i) = 2 + mineN (s.L i) := by
    show chW (if i = i then goF (s.hd i) else s.hd i) (if i = i then s.R i ++ [.over c] else s.R i) (s.L i) = _
    rw [if_pos rfl, if_pos rfl]
    unfold chW
    rw [if_neg (fun z => by
      have z : (s.hd i).held = none := z
      rw [hc] at z
      cases z), if_pos (by simp)]
  rw [h1, h2] at h
  show 5 * invN s.now + chSum (goS s i c) s.n < 5 * invN s.now + chSum s s.n
  omega
end K59

set_option Elab.async false
set_option linter.all false
set_option maxRecDepth 100000
set_option maxHeartbeats 4000000
/-! plain mathematics: a run to the rest exists -/
namespace K59
theorem minP_in : ∀ (ps : List (Int × Int)) (p : Int × Int), minP p ps ∈ p :: ps
  | [], p => List.mem_cons_self
  | q :: ps, p => by
    show minP (if PySem.W.dataLt (PrD q) (PrD p) = true then q else p) ps ∈ _
    have h := minP_in ps (if PySem.W.dataLt (PrD q) (PrD p) = true then q else p)
    rcases List.mem_cons.mp h with h | h
    · rw [h]
      split
      · exact List.mem_cons_of_mem _ List.mem_cons_self
      · exact List.mem_cons_self
    · exact List.mem_cons_of_mem _ (List.mem_cons_of_mem _ h)
theorem lanes_of (s : NS) : ∀ {n : Nat} {e : (Int × Int) × List Lt}, e ∈ lanesOf s n → ∃ m : Nat, m + 1 < n ∧ (e = (((m : Int), (m : Int) + 1), s.R m) ∨ e = (((m : Int) + 1, (m : Int)), s.L m))
  | 0, e, h => by cases h
  | 1, e, h => by cases h
  | n + 2, e, h => by
    rw [lanesOf] at h
    rcases List.mem_append.mp h with h | h
    · obtain ⟨m, h1, h2⟩ := lanes_of s (n := n + 1) h
      exact ⟨m, by omega, h2⟩
    · rcases List.mem_cons.mp h with h | h
      · exact ⟨n, by omega, .inl h⟩
      · rcases List.mem_cons.mp h with h | h
        · exact ⟨n, by omega, .inr h⟩
        · cases h
theorem opens_lane {s : NS} {p : Int × Int} (h : p ∈ opens s) : ∃ i j : Nat, p = ((i : Int), (j : Int)) ∧ laneOf s i j ≠ [] := by
  obtain ⟨e, h1, rfl⟩ := List.mem_map.mp h
  obtain ⟨h2, h3⟩ := List.mem_filter.mp h1
  obtain ⟨m, hm, h4 | h4⟩ := lanes_of s h2
  · refine ⟨m, m + 1, by rw [h4] <;> rfl, ?_⟩
    unfold laneOf
    rw [if_pos ⟨rfl, hm⟩]
    rw [h4] at h3
    simpa using h3
  · refine ⟨m + 1, m, by rw [h4] <;> rfl, ?_⟩
    rw [lane_l hm]
    rw [h4] at h3
    simpa using h3
theorem lying_opens {s : NS} (h : lyingN s ≠ 0) : ∃ p ps, opens s = p :: ps := by
  cases ho : opens s with
  | cons p ps => exact ⟨p, ps, rfl⟩
  | nil =>
    refine absurd ?_ h
    unfold opens at ho
    have ho := List.filter_eq_nil_iff.mp (List.map_eq_nil_iff.mp ho)
    unfold lyingN
    have g : ∀ xs : List ((Int × Int) × List Lt), (∀ e ∈ xs, e.2 = []) → (xs.map fun e => (e.2.length : Int)).sum = 0 := by
      intro xs
      induction xs with
      | nil => exact fun _ => rfl
      | cons x xs ih =>
        intro h
        rw [List.map_cons, List.sum_cons, ih fun e he => h e (List.mem_cons_of_mem _ he), h x List.mem_cons_self]
        rfl
    exact g _ fun e he => by simpa using ho e he
theorem free_head {s : NS} {i : Nat} {r : List Nat} (h : freeL s = i :: r) : i < s.n ∧ mayGo (s.hd i) = true ∧ ∃ c, (s.hd i).held = some c := by
  have hm : i ∈ freeL s := by
    rw [h]
    exact List.mem_cons_self
  unfold freeL at hm
  rw [List.mem_filter] at hm
  refine ⟨List.mem_range.mp hm.1, hm.2, ?_⟩
  cases e : (s.hd i).held with
  | some c => exact ⟨c, rfl⟩
  | none =>
    have z := hm.2
    unfold mayGo at z
    rw [e] at z
    cases z
/-- the books of a run: what is there, and how much is to come -/
structure Fit (c : Nat) (s : NS) : Prop where
  g : Good s
  sh : Short s s.t
  ph : s.t + phi s ≤ c
theorem fit_step {c : Nat} {s s1 : NS} (F : Fit c s) {i j : Nat} (h : stepS s i j = some s1) : Fit c s1 := by
  have hl : laneOf s i j ≠ [] := fun z => by
    unfold stepS at h
    rw [z] at h
    cases h
  obtain ⟨s', e, G', hp⟩ := good_step F.g hl
  rw [h] at e
  cases e
  obtain ⟨h1, h2, _⟩ := step_grow h F.sh
  have := F.ph
  exact ⟨G', by rw [h2]; exact h1, by omega⟩
theorem fit_go {b : Nat} {s : NS} (F : Fit b s) {i : Nat} {c : Int} (hi : i < s.n) (g : mayGo (s.hd i) = true) (hc : (s.hd i).held = some c) : Fit b (goS s i c) := by
  obtain ⟨h1, h2, _⟩ := go_grow (i := i) (c := c) F.sh
  have := F.ph
  have := phi_go F.g hi g hc
  exact ⟨good_go F.g hi g hc, by rw [h2]; exact h1, by omega⟩
theorem Short.mono {s : NS} {a b : Nat} (h : Short s a) (hab : a ≤ b) : Short s b := fun i => ⟨Nat.le_trans (h i).1 hab, Nat.le_trans (h i).2 hab⟩
theorem fit_ok {c : Nat} {s : NS} (F : Fit c s) (hc : c ≤ 40000) : OkS s := by
  have := F.ph
  have := good_done F.g
  exact good_ok F.g (F.sh.mono (by omega)) (by omega) (by omega)
theorem rest_ex {c : Nat} (hc : c ≤ 40000) : ∀ (k : Nat) {s : NS}, Fit c s → phi s ≤ k → ∃ b m s2, RestN b s m s2 ∧ m ≤ k ∧ Fit c s2
  | 0, s, F, hk => by
    by_cases hl : lyingN s = 0
    · cases hf : freeL s with
      | nil => exact ⟨0, 0, s, .done (fit_ok F hc) hl hf, Nat.le_refl _, F⟩
      | cons i r =>
        obtain ⟨h1, h2, x, h3⟩ := free_head hf
        have := phi_go F.g h1 h2 h3
        omega
    · obtain ⟨p, ps, ho⟩ := lying_opens hl
      obtain ⟨i, j, _, hij⟩ := opens_lane (s := s) (p := p) (by rw [ho]; exact List.mem_cons_self)
      obtain ⟨s', _, _, hp⟩ := good_step F.g hij
      omega
  | k + 1, s, F, hk => by
    by_cases hl : lyingN s = 0
    · cases hf : freeL s with
      | nil => exact ⟨0, 0, s, .done (fit_ok F hc) hl hf, Nat.zero_le _, F⟩
      | cons i r =>
        obtain ⟨h1, h2, x, h3⟩ := free_head hf
        have := phi_go F.g h1 h2 h3
        obtain ⟨b, m, s2, R, hm, F2⟩ := rest_ex hc k (fit_go F h1 h2 h3) (by omega)
        exact ⟨b + 1, m, s2, .go (fit_ok F hc) hl hf (go_last F.g h1 h2) h3 R, by omega, F2⟩
    · obtain ⟨p, ps, ho⟩ := lying_opens hl
      obtain ⟨i, j, e, hij⟩ := opens_lane (s := s) (p := minP p ps) (by rw [ho]; exact minP_in ps p)
      obtain ⟨s', h1, _, hp⟩ := good_step F.g hij
      obtain ⟨b, m, s2, R, hm, F2⟩ := rest_ex hc k (fit_step F h1) (by omega)
      exact ⟨b + 1, m + 1, s2, .step (fit_ok F hc) hl ho e h1 R, by omega, F2⟩
end K59

set_option Elab.async false
set_option linter.all false
set_option maxRecDepth 100000
set_option maxHeartbeats 4000000
/-! plain mathematics: a hand more, and the books -/
namespace K59
theorem inv_snoc (c : Int) : ∀ xs : List Int, invN (xs ++ [c]) ≤ invN xs + xs.length
  | [] => Nat.le_refl _
  | x :: xs => by
    show below x (xs ++ [c]) + invN (xs ++ [c]) ≤ below x xs + invN xs + (xs.length + 1)
    have h1 := inv_snoc c xs
    have h2 : below x (xs ++ [c]) ≤ below x xs + 1 := by
      unfold below
      rw [List.filter_append, List.length_append]
      have := List.length_filter_le (fun y => decide (y < x)) [c]
      exact Nat.add_le_add_left this _
    omega
theorem last_free {s : NS} (G : Good s) : (s.hd (s.n - 1)).sent = none := by
  rcases G.hd (s.n - 1) (by have := G.n1; omega) with ⟨_, _, h, _⟩ | ⟨_, _, _, h⟩
  · exact h
  · exact absurd G.last h
theorem phi_add {s : NS} (G : Good s) (c : Int) : phi (addS s c) ≤ phi s + 5 * s.n + 4 := by
  obtain ⟨e1, e2, e3, e4, e5, e6, e7⟩ := add_facts (c := c) G.n1
  have n1 := G.n1
  have hh : ∀ m, m < s.n → (addS s c).hd m = s.hd m := fun m hm => by
    rw [e2]
    show (if m = s.n then _ else s.hd m) = _
    rw [if_neg (by omega)]
  have hR : ∀ m, (addS s c).R m = if m + 1 = s.n then [] else s.R m := fun m => by rw [e6] <;> rfl
  obtain ⟨o1, o2⟩ := G.out (s.n - 1) (by omega)
  have h := chSum_one (s := s) (s' := addS s c) (m := s.n - 1) (k := s.n) (by omega) fun i hi e => by
    rw [hh i hi, hR, e7, if_neg (by omega), if_neg (by omega)]
  rw [hh (s.n - 1) (by omega), hR, e7, if_pos (by omega), if_pos (by omega), o1, o2, chW_free (last_free G), chW_free (last_free G)] at h
  have hn : chW ((addS s c).hd s.n) ((addS s c).R s.n) ((addS s c).L s.n) = 3 := by
    have h1 : (addS s c).hd s.n = ⟨some c, none, none, none⟩ := by
      rw [e2]
      exact if_pos rfl
    rw [h1, e7, if_neg (by omega), (G.out s.n (by omega)).1]
    exact chW_free rfl _ _
  have hm0 : mineN [] = 0 := rfl
  have hm1 : mineN [.mine c] = 1 := rfl
  have hi := inv_snoc c s.now
  rw [G.nl] at hi
  unfold phi
  rw [e1, e4]
  show 5 * invN (s.now ++ [c]) + (chSum (addS s c) s.n + chW ((addS s c).hd s.n) ((addS s c).R s.n) ((addS s c).L s.n)) ≤ _
  omega
theorem fit_add {s : NS} (F : Fit (60 * s.n) s) {c : Int} (hn : s.n ≤ 11) (hc : cardB c = true) (hf : c ∉ s.first) : Fit (60 * (addS s c).n) (addS s c) := by
  have h1 := phi_add F.g c
  have h2 := F.ph
  obtain ⟨a1, a2⟩ := addS_facts s c
  exact ⟨good_add F.g (by omega) hc hf, by rw [a2]; exact addS_short F.sh, by rw [a1, a2]; omega⟩
theorem fit_one {c : Int} (hc : cardB c = true) : Fit (60 * (addS zeroS c).n) (addS zeroS c) := by
  refine ⟨good_one hc, addS_short fun i => ⟨Nat.le_refl _, Nat.le_refl _⟩, ?_⟩
  obtain ⟨a1, a2⟩ := addS_facts zeroS c
  have e1 : chSum (addS zeroS c) 1 = 0 + chW ((addS zeroS c).hd 0) ((addS zeroS c).R 0) ((addS zeroS c).L 0) := rfl
  have eh : (addS zeroS c).hd 0 = ⟨some c, none, none, none⟩ := rfl
  have eL : (addS zeroS c).L 0 = [] := rfl
  rw [eh, eL, chW_free rfl] at e1
  have e2 : invN (addS zeroS c).now = 0 := rfl
  have e3 : mineN [] = 0 := rfl
  unfold phi
  rw [e2, a1, a2]
  show 0 + 1 + (5 * 0 + chSum (addS zeroS c) 1) ≤ 60 * (0 + 1)
  omega
theorem fit_fold : ∀ (ns : List Int) (s : NS), Fit (60 * s.n) s → RowOk (s.first ++ ns) → s.n + ns.length ≤ 12 → Fit (60 * (ns.foldl addS s).n) (ns.foldl addS s)
  | [], s, F, _, _ => F
  | c :: ns, s, F, R, hl => by
    have hf : c ∉ s.first := fun z => by
      have h := R.nd
      rw [List.nodup_append] at h
      exact h.2.2 c z c List.mem_cons_self rfl
    rw [List.length_cons] at hl
    have F2 := fit_add F (c := c) (by omega) (R.cd c (List.mem_append_right _ List.mem_cons_self)) hf
    refine fit_fold ns (addS s c) F2 ?_ (by rw [(addS_facts s c).1]; omega)
    rw [(addS_first s c).1, List.append_assoc]
    exact R
theorem fit_init {ns : List Int} (R : RowOk ns) (h : ns.length ≤ 12) : Fit (60 * (initS ns).n) (initS ns) := by
  cases ns with
  | nil => exact absurd R.lo (by simp)
  | cons c cs =>
    show Fit (60 * (cs.foldl addS (addS zeroS c)).n) (cs.foldl addS (addS zeroS c))
    rw [List.length_cons] at h
    refine fit_fold cs (addS zeroS c) (fit_one (R.cd c List.mem_cons_self)) ?_ ?_
    · rw [(addS_first zeroS c).1]
      exact R
    · rw [(addS_facts zeroS c).1]
      show 0 + 1 + _ ≤ _
      omega
/-- how many letters lie, at most -/
theorem lanes_sum {s : NS} {b : Nat} (sh : Short s b) : ∀ n, ((lanesOf s n).map fun e => (e.2.length : Int)).sum ≤ 2 * (n : Int) * (b : Int)
  | 0 => by
    show (0 : Int) ≤ 2 * ((0 : Nat) : Int) * (b : Int)
    simp
  | 1 => by
    show (0 : Int) ≤ 2 * ((1 : Nat) : Int) * (b : Int)
    omega
  | n + 2 => by
    have ih := lanes_sum sh (n + 1)
    obtain ⟨h1, h2⟩ := sh n
    rw [lanesOf, List.map_append, List.sum_append]
    have e : ((List.map (fun e : (Int × Int) × List Lt => (e.2.length : Int)) [(((n : Int), (n : Int) + 1), s.R n), (((n : Int) + 1, (n : Int)), s.L n)]).sum) = ((s.R n).length : Int) + (((s.L n).length : Int) + 0) := rfl
    rw [e]
    have e2 : 2 * ((n + 2 : Nat) : Int) * (b : Int) = 2 * ((n + 1 : Nat) : Int) * (b : Int) + 2 * (b : Int) := by
      rw [show ((n + 2 : Nat) : Int) = ((n + 1 : Nat) : Int) + 1 by omega, Int.mul_add, Int.add_mul]
      omega
    rw [e2]
    omega
theorem fit_r {c : Nat} {s : NS} (F : Fit c s) (hc : c ≤ 1000) (n9 : s.n ≤ 9) : GoodR s := by
  have h1 := F.ph
  have h2 := lanes_sum F.sh s.n
  refine good_r F.g n9 (Nat.le_trans (good_done F.g) (by omega)) (F.sh.mono (by omega)) (Int.le_trans h2 ?_)
  have h3 : 2 * (s.n : Int) * (s.t : Int) ≤ 18 * 1000 := Int.mul_le_mul (by omega) (by omega) (by omega) (by omega)
  omega
theorem fit_deed {c : Nat} {s : NS} (F : Fit c s) (hc : c ≤ 1000) (n9 : s.n ≤ 9) : DeedOk s := by
  have h1 := F.ph
  have h2 := good_done F.g
  exact good_deed F.g (F.sh.mono (by omega)) (by omega) (by omega) (by omega)
end K59

set_option Elab.async false
set_option linter.all false
set_option maxRecDepth 100000
set_option maxHeartbeats 4000000
/-! plain mathematics: a net led by a history -/
namespace K59
theorem mid_unique {α : Type} {y : α} : ∀ {A A' B B' : List α}, y ∉ A → y ∉ A' → A ++ y :: B = A' ++ y :: B' → A = A' ∧ B = B'
  | [], [], B, B', _, _, h => ⟨rfl, (List.cons.inj h).2⟩
  | [], a :: A', B, B', _, h2, h => absurd (List.cons.inj h).1 (fun z => h2 (z ▸ List.mem_cons_self))
  | a :: A, [], B, B', h1, _, h => absurd (List.cons.inj h).1 (fun z => h1 (z ▸ List.mem_cons_self))
  | a :: A, a' :: A', B, B', h1, h2, h => by
    obtain ⟨e1, e2⟩ := List.cons.inj h
    obtain ⟨e3, e4⟩ := mid_unique (fun z => h1 (List.mem_cons_of_mem _ z)) (fun z => h2 (List.mem_cons_of_mem _ z)) e2
    exact ⟨by rw [e1, e3], e4⟩
theorem Led.fn {ns o1 : List Int} {ps : List (Int × Int)} (h : Led ns ps o1) : ns.Nodup → ∀ {o2 : List Int}, Led ns ps o2 → o1 = o2 := by
  induction h with
  | nil =>
    intro _ o2 h2
    cases h2
    rfl
  | @cons A B x y ps out hlt t ih =>
    intro nd o2 h2
    generalize hM : A ++ y :: x :: B = M at h2
    generalize hP : (x, y) :: ps = P at h2
    cases h2 with
    | nil => cases hP
    | @cons A' B' x' y' ps' _ hlt' t' =>
      cases hP
      have nd' := nd
      rw [hM] at nd'
      obtain ⟨e1, e2⟩ := mid_unique (nodup_notin nd) (nodup_notin nd') hM
      have e3 := (List.cons.inj e2).2
      rw [← e1, ← e3] at t'
      exact ih ((swap_perm A B x y).nodup_iff.mpr nd) t'
theorem Led.split {out : List Int} {x y : Int} {qs : List (Int × Int)} : ∀ {ps : List (Int × Int)} {ns : List Int}, Led ns (ps ++ (x, y) :: qs) out → ∃ A B, Led ns ps (A ++ y :: x :: B) ∧ x < y
  | [], ns, h => by
    cases h with
    | @cons A B _ _ _ _ hlt t => exact ⟨A, B, .nil, hlt⟩
  | p :: ps, ns, h => by
    have h : Led ns (p :: (ps ++ (x, y) :: qs)) out := h
    cases h with
    | @cons A B _ _ _ _ hlt t =>
      obtain ⟨A', B', h1, h2⟩ := Led.split t
      exact ⟨A', B', .cons hlt h1, h2⟩
/-- all hands hold -/
def Calm (s : NS) : Prop := ∀ i, i < s.n → ∃ c, (s.hd i).held = some c
theorem calm_sent {s : NS} (G : Good s) {i : Nat} (hi : i < s.n) {c : Int} (h : (s.hd i).held = some c) : (s.hd i).sent = none ∧ (s.hd i).aside = none := by
  rcases G.hd i hi with ⟨_, _, h2, h3⟩ | ⟨h2, _⟩
  · exact ⟨h2, h3⟩
  · rw [h] at h2
    cases h2
theorem calm_pend {s : NS} (G : Good s) {i : Nat} (hi : i < s.n) {c : Int} (h : (s.hd i).held = some c) : pend (s.L i) = none := by
  by_cases e : i + 1 < s.n
  · obtain ⟨_, _, _, h2⟩ := (G.ch i e).run
    rcases runB_inv h2 with ⟨p, _⟩ | ⟨d, s', _, p, _⟩
    · exact p
    · rw [(calm_sent G hi h).1] at p
      cases p
  · rw [(G.out i (by omega)).1]
    rfl
theorem calm_now {s : NS} (G : Good s) {i : Nat} (hi : i < s.n) {c : Int} (h : (s.hd i).held = some c) : s.now[i]? = some c := by
  rw [G.now i hi, card_core (calm_pend G hi h), core_held h]
theorem now_calm {s : NS} (G : Good s) (C : Calm s) {i : Nat} (hi : i < s.n) {c : Int} (h : s.now[i]? = some c) : (s.hd i).held = some c := by
  obtain ⟨d, hd⟩ := C i hi
  rw [calm_now G hi hd] at h
  rw [hd, h]
/-- one letter heard of those that lie leftward -/
theorem calm_hear {c : Nat} {s : NS} (F : Fit c s) (C : Calm s) {m : Nat} (hm : m + 1 < s.n) (hL : s.L m ≠ []) : ∃ s', stepS s (m + 1) m = some s' ∧ Fit c s' ∧ Calm s' ∧ (s'.L m).length < (s.L m).length ∧ s'.done = s.done ∧ s'.n = s.n ∧ s'.first = s.first := by
  obtain ⟨x, hx⟩ := C m (by omega)
  cases hl : s.L m with
  | nil => exact absurd hl hL
  | cons l r =>
    have hch := F.g.ch m hm
    rw [hl] at hch
    have hp := calm_pend F.g (by omega) hx
    rcases chan_left hch with ⟨y, rfl⟩ | ⟨d, rfl⟩
    · obtain ⟨s', h1, h2, h3, h4, h5, h6, h7⟩ := good_mine F.g hm hl
      obtain ⟨_, _, _, g4, g5⟩ := step_grow h1 F.sh
      refine ⟨s', h1, fit_step F h1, fun i hi => ?_, ?_, h7, g4, g5⟩
      · rw [g4] at hi
        rw [h4]
        by_cases e : i = m
        · rw [if_pos e]
          exact ⟨x, hx⟩
        · rw [if_neg e]
          exact C i hi
      · rw [h6, if_pos rfl]
        exact Nat.lt_succ_self _
    · rw [hl] at hp
      cases hp
/-- a crossing, once all that lay leftward is heard -/
theorem calm_cross {c : Nat} {s : NS} (F : Fit c s) (C : Calm s) {m : Nat} {x l : Int} (hm : m + 1 < s.n) (hL : s.L m = []) (hx : s.now[m]? = some x) (hl : s.now[m + 1]? = some l) (hlt : l < x) : mayGo (s.hd m) = true ∧ (s.hd m).held = some x ∧ ∃ s2 s3, stepS (goS s m x) m (m + 1) = some s2 ∧ stepS s2 (m + 1) m = some s3 ∧ Fit c (goS s m x) ∧ Fit c s2 ∧ Fit c s3 ∧ Calm s3 ∧ s3.done = s.done ++ [(l, x)] ∧ s3.n = s.n ∧ s2.n = s.n ∧ s3.first = s.first := by
  have G := F.g
  have hx1 := now_calm G C (by omega) hx
  have hl1 := now_calm G C hm hl
  obtain ⟨hs, ha⟩ := calm_sent G (by omega) hx1
  have hheard : (s.hd m).heard = some l := by
    obtain ⟨c0, sa, h1, h2⟩ := (G.ch m hm).run
    rw [hL] at h2
    rw [core_held hl1] at h1
    cases h1
    have h2 : some ((s.hd m).heard, (s.hd m).sent) = some (some l, sa) := h2
    exact (Prod.mk.inj (Option.some.inj h2)).1
  have hg : mayGo (s.hd m) = true := by
    unfold mayGo
    rw [hx1, hheard]
    exact decide_eq_true hlt
  refine ⟨hg, hx1, ?_⟩
  have F1 := fit_go F (by omega) hg hx1
  have hR0 := ((G.ch m hm).idle hs).1
  have ehd : ∀ k, (goS s m x).hd k = if k = m then goF (s.hd m) else s.hd k := fun k => rfl
  have hR1 : (goS s m x).R m = [.over x] := by
    show (if m = m then s.R m ++ [.over x] else s.R m) = _
    rw [if_pos rfl, hR0]
    rfl
  have hL1 : ∀ k, (goS s m x).L k = s.L k := fun k => rfl
  have hh1 : ((goS s m x).hd (m + 1)).held = some l := by
    rw [ehd, if_neg (by omega)]
    exact hl1
  have e1 : (goS s m x).done = s.done := rfl
  have e2 : (goS s m x).n = s.n := rfl
  have e3 : (goS s m x).first = s.first := rfl
  obtain ⟨s2, a1, a2, a3, a4, a5, a6, a7⟩ := good_over_held (s := goS s m x) F1.g hm hR1 hh1
  have F2 := fit_step F1 a1
  obtain ⟨_, _, _, b4, b5⟩ := step_grow a1 F1.sh
  have hm2 : s2.hd m = goF (s.hd m) := by
    rw [a4, if_neg (by omega), ehd, if_pos rfl]
  have hL2 : s2.L m = [.back l] := by
    rw [a6, if_pos rfl, hL1, hL]
    rfl
  have has : (s2.hd m).aside = none := by
    rw [hm2]
    exact ha
  obtain ⟨s3, d1, d2, d3, d4, d5⟩ := good_back_plain (s := s2) a2 (by rw [b4]; exact hm) hL2 has
  have F3 := fit_step F2 d1
  obtain ⟨_, _, _, g4, g5⟩ := step_grow d1 F2.sh
  refine ⟨s2, s3, a1, d1, F1, F2, F3, fun i hi => ?_, by rw [d5, a7, e1], by rw [g4, b4, e2], by rw [b4, e2], by rw [g5, b5, e3]⟩
  rw [d4]
  by_cases q : i = m
  · rw [if_pos q]
    exact ⟨l, rfl⟩
  · rw [if_neg q, a4]
    by_cases q2 : i = m + 1
    · rw [if_pos q2]
      exact ⟨x, rfl⟩
    · rw [if_neg q2, ehd, if_neg q]
      exact C i (by rw [g4, b4, e2] at hi; exact hi)
theorem fold_hd : ∀ (ns : List Int) (s : NS), Calm s → Calm (ns.foldl addS s)
  | [], s, C => C
  | c :: ns, s, C => by
    refine fold_hd ns (addS s c) fun i hi => ?_
    obtain ⟨e1, e2, _⟩ := note_facts (moreS s c) s.n [.mine c]
    have e : (addS s c).hd i = if i = s.n then ⟨some c, none, none, none⟩ else s.hd i := by
      show (noteS (moreS s c) s.n [.mine c]).hd i = _
      rw [e2] <;> rfl
    rw [e]
    by_cases q : i = s.n
    · rw [if_pos q]
      exact ⟨c, rfl⟩
    · rw [if_neg q]
      rw [(addS_facts s c).1] at hi
      exact C i (by omega)
theorem init_calm (ns : List Int) : Calm (initS ns) := fold_hd ns zeroS fun i hi => absurd hi (Nat.not_lt_zero i)
/-- two nets with the same first row and history -/
theorem same_now {s s' : NS} (G : Good s) (G' : Good s') (h1 : s'.first = s.first) (h2 : s'.done = s.done) : s'.now = s.now := by
  have h := G'.led
  rw [h1, h2] at h
  exact Led.fn h G.row.nd G.led
/-- what a net at rest tells -/
theorem rest_all {s : NS} (G : Good s) (h1 : lyingN s = 0) (h2 : freeL s = []) : Calm s ∧ s.now.Pairwise (· ≤ ·) := by
  have hl := quiet_lanes G h1
  have hg := quiet_free h2
  refine ⟨fun i hi => ?_, ?_⟩
  · obtain ⟨c, h, _⟩ := rest_now G hl hi
    exact ⟨c, h⟩
  · rw [List.pairwise_iff_getElem]
    intro i j hi hj hij
    have hn := G.nl
    have h := rest_sorted G hl hg (j - i) i s.now[i] s.now[j] (by omega) (List.getElem?_eq_getElem hi)
    exact h (by rw [show i + (j - i) = j by omega]; exact List.getElem?_eq_getElem hj)
theorem rest_same {s s' : NS} (G : Good s) (G' : Good s') (h1 : lyingN s = 0) (h2 : freeL s = []) (h1' : lyingN s' = 0) (h2' : freeL s' = []) (hf : s'.first = s.first) : s'.now = s.now := by
  have p1 := G.led.perm
  have p2 := G'.led.perm
  rw [hf] at p2
  exact (p2.trans p1.symm).eq_of_pairwise (fun x y _ _ a b => by omega) (rest_all G' h1' h2').2 (rest_all G h1 h2).2
theorem run_facts {b m : Nat} {s s2 : NS} (R : RestN b s m s2) : s2.n = s.n ∧ s2.first = s.first := by
  induction R with
  | done o h1 h2 => exact ⟨rfl, rfl⟩
  | step o h1 h2 h3 h4 r ih =>
    obtain ⟨_, _, _, g4, g5⟩ := step_grow h4 o.sh
    exact ⟨ih.1.trans g4, ih.2.trans g5⟩
  | go o h1 h2 h3 h4 t ih => exact ih
theorem run_zero {b m : Nat} {s s2 : NS} (R : RestN b s m s2) (h1 : lyingN s = 0) (h2 : freeL s = []) : m = 0 ∧ s2 = s := by
  cases R with
  | done _ _ _ => exact ⟨rfl, rfl⟩
  | step o a1 _ _ _ _ => exact absurd h1 a1
  | go o _ a2 _ _ _ =>
    rw [h2] at a2
    cases a2
end K59

set_option Elab.async false
set_option linter.all false
set_option maxRecDepth 100000
set_option maxHeartbeats 4000000
/-! walks over a zip of lists while an exception is handled -/
namespace K59
open PySem PySem.Spec PyProof.Rows L2 HotX L2H
theorem hot_but {A : Around} {x : Addr} {h h' : Heap} (q : HotAt A x h) (k : ∀ o, h.get? x = some o → h'.get? x = some o) : HotAt A x h' :=
  let ⟨q1, o, ws, q2, q3, q4⟩ := q
  ⟨q1, o, ws, k o q2, q3, q4⟩
section
variable {prog : Program} {w : World} {A : Around} {E : Value → Shared → Prop} {s : Shared}
/-- a list's iterator that has come to its end -/
theorem nx_endH {it l x1 : Addr} {i : Nat} {ys : Array Value} {Q : Value → Shared → Prop} (hot : HotAt A x1 s.heap) (ne : x1 ≠ it) (gi : s.heap.IsListIter it l i) (gl : s.heap.IsList l ys) (gx : ys[i]? = none)
    (k : ∀ h2 e, Heap.ExtBut it s.heap h2 → (∃ o, h2.get? e = some o ∧ o.cls = .type "StopIteration") → E (.ref e) { s with heap := h2 }) : wpAny (model prog w) A (Builtin.SmallTypes.nextOf (.ref it)) Q E s := by
  obtain ⟨oi, hoi, hci, hdi⟩ := id gi
  obtain ⟨ov, hov, _, nv, hdv⟩ := gl
  unfold Builtin.SmallTypes.nextOf
  refine wpAny_bind (wpAny_callSpecial?_slot (name := Str.ofString "__next__") gi.typeIs slot_listiter_next (wpAny_call_entry slot_listiter_next gi.typeIs entry_listiter_next ?_ (args_listiter_next _)))
  show wpAny _ _ (field (.ref it) 0 >>= _) _ _ _
  refine wpAny_bind (wpAny_field hoi hdi (x := .ref l) rfl ?_)
  show wpAny _ _ (ite ((Value.ref l == Value.none) = true) _ _) _ _ _
  rw [if_neg (show ¬ ((Value.ref l == Value.none) = true) by exact Bool.false_ne_true)]
  show wpAny _ _ (field (.ref it) 1 >>= _) _ _ _
  refine wpAny_bind (wpAny_field hoi hdi (x := .int i 0) rfl ?_)
  show wpAny _ _ (seqItems? (.ref l) >>= _) _ _ _
  refine wpAny_bind (wpAny_seqItems hov hdv ?_)
  simp only [gx, Int.toNat_natCast]
  refine wpAny_bind (wpAny_rule (wpAny_bind (wpAny_setField hoi hdi (by simp) ?_)))
  show wpAny _ _ (newExc (.type "StopIteration") [] >>= _) _ _ _
  refine wpAny_bind ?_
  simp only [newTuple, newExc]
  refine wpAny_bind (wpAny_newObj_type ?_ (by size_fits))
  refine wpAny_bind (m := firstArgMember _ _) (wpAny_of_eq (a := Value.none) (by first | rfl | (rw [firstArgMember] <;> rfl) | (simp only [firstArgMember] <;> rfl)) ?_)
  refine wpAny_newObj_type ?_ (by size_fits)
  have up : ∀ (f : Obj → Obj) (u v : Obj) b o, b ≠ it → s.heap.get? b = some o → (((s.heap.update it f).push u).push v).get? b = some o := fun f u v b o hb e => Heap.get?_push_of_some _ (Heap.get?_push_of_some _ ((Heap.get?_update_other _ _ (Ne.symm hb)).trans e))
  refine raiseNew_hot (hot_but (A := A.in1) (h := s.heap) hot fun o e => up _ _ _ _ _ ne e) ?_ (Heap.get?_push_size _ rfl) rfl (by first | (simp; done) | (simp; omega)) ?_
  · obtain ⟨_, o, _, e, _⟩ := hot
    have h1 := Heap.lt_size ((Heap.get?_update_other s.heap (Obj.mapFields (·.setIfInBounds 0 Value.none)) (Ne.symm ne)).trans e)
    exact Nat.ne_of_lt (by
      show x1 < (Heap.push _ _).objs.size
      rw [Heap.size_push]
      exact Nat.lt_succ_of_lt h1)
  · refine k _ _ (fun b o hb e => ?_) ⟨_, Heap.get?_update_self _ (Heap.get?_push_size _ rfl) rfl, rfl⟩
    have h1 := Heap.lt_size ((Heap.get?_update_other s.heap (Obj.mapFields (·.setIfInBounds 0 Value.none)) (Ne.symm hb)).trans e)
    refine (Heap.get?_update_other _ _ (Nat.ne_of_gt ?_)).trans (up _ _ _ b o hb e)
    show b < (Heap.push _ _).objs.size
    rw [Heap.size_push]
    exact Nat.lt_succ_of_lt h1
theorem zip_endH {z TI TO i1 i2 l1 l2 x1 : Addr} {k1 k2 : Nat} {xs ys : Array Value} {a b : Value} {Q : Fin → Shared → Prop} (hot : HotAt A x1 s.heap) (n1 : x1 ≠ z) (n2 : x1 ≠ TO) (n3 : x1 ≠ i1) (n4 : x1 ≠ i2) (D : ZipApart z TI TO i1 i2 l1 l2)
    (gz : IsZip s.heap z TI TO .none) (gI : IsPair s.heap TI (.ref i1) (.ref i2)) (gO : IsPair s.heap TO a b) (g1 : s.heap.IsListIter i1 l1 k1) (g2 : s.heap.IsListIter i2 l2 k2) (m1 : s.heap.IsList l1 xs) (m2 : s.heap.IsList l2 ys) (hend : xs[k1]? = none ∨ ys[k2]? = none)
    (k : ∀ h2 e, (∀ c o, c ≠ z → c ≠ TO → c ≠ i1 → c ≠ i2 → s.heap.get? c = some o → h2.get? c = some o) → (∃ o, h2.get? e = some o ∧ o.cls = .type "StopIteration") → E (.ref e) { s with heap := h2 }) : wpAny (model prog w) A (Builtin.«zip.__next__» ⟨[.ref z], []⟩) Q E s := by
  show wpAny _ A (field (.ref z) 2 >>= _) _ _ _
  refine wpAny_bind (wpAny_field gz rfl (x := .bool false) rfl ?_)
  show wpAny _ A (field (.ref z) 3 >>= _) _ _ _
  refine wpAny_bind (wpAny_field gz rfl (x := .ref TI) rfl ?_)
  refine wpAny_bind (wpAny_seqItems gI rfl ?_)
  show wpAny _ A (Builtin.SmallTypes.ownedTupleIsFree (.ref z) >>= _) _ _ _
  refine wpAny_bind ?_
  unfold Builtin.SmallTypes.ownedTupleIsFree
  refine wpAny_bind (wpAny_field gz rfl (x := .none) rfl (wpAny_pure ?_))
  simp only [if_true]
  refine wpAny_bind (wpAny_rule ?_)
  refine wpAny_bind (wpAny_field gz rfl (x := .ref TO) rfl ?_)
  refine wpAny_bind (wpAny_setField_rec gz (by simp) fun ha gza sa => ?_)
  replace gza : IsZip ha z TI TO .ellipsis := gza
  refine wpAny_bind ?_
  simp only [List.forIn_cons, List.forIn_nil, List.zipIdx_cons, List.zipIdx_nil]
  refine wpAny_bind (wpAny_bind (wpAny_onRaise ?_))
  show wpAny _ A (Builtin.SmallTypes.nextOf (.ref i1) >>= _) _ _ _
  cases hx : xs[k1]? with
  | none =>
    refine wpAny_bind (nx_endH (hot_but hot fun o e => sa.extBut _ _ n1 e) n3 (g1.extBut sa.extBut D.i1z) (m1.extBut sa.extBut D.l1z) hx fun hb e sb he => ?_)
    obtain ⟨oe, hoe, hce⟩ := he
    have gzb : IsZip hb z TI TO .ellipsis := sb _ _ D.i1z.symm gza
    have ez : e ≠ z := fun q => by subst q; rw [gzb] at hoe; cases hoe; simp at hce
    refine wpAny_setField_rec gzb (by simp) fun hc _ sc => k hc e (fun c o c1 _ c3 _ q => sc.extBut _ _ c1 (sb _ _ c3 (sa.extBut _ _ c1 q))) ⟨oe, sc.extBut _ _ ez hoe, hce⟩
  | some x =>
    have hy : ys[k2]? = none := by
      rcases hend with h | h
      · rw [hx] at h
        cases h
      · exact h
    refine wpAny_bind (wpAny_nextOf_list_item (g1.extBut sa.extBut D.i1z) (m1.extBut sa.extBut D.l1z) hx fun hb g1b sb => wpAny_pure ?_)
    have gOb : IsPair hb TO a b := sb.extBut _ _ D.TOi1 (sa.extBut _ _ D.TOz gO)
    refine wpAny_bind (wpAny_seqItems gOb rfl ?_)
    refine wpAny_bind (wpAny_updateSeq_pair gOb fun hc gOc sc => ?_)
    refine wpAny_bind (wpAny_letGo (wpAny_pure ?_))
    refine wpAny_bind (wpAny_bind (wpAny_onRaise ?_))
    show wpAny _ A (Builtin.SmallTypes.nextOf (.ref i2) >>= _) _ _ _
    refine wpAny_bind (nx_endH (hot_but hot fun o e => sc.extBut _ _ n2 (sb.extBut _ _ n3 (sa.extBut _ _ n1 e))) n4 (((g2.extBut sa.extBut D.i2z).extBut sb.extBut D.i12.symm).extBut sc.extBut D.TOi2.symm)
      (((m2.extBut sa.extBut D.l2z).extBut sb.extBut D.l2i1).extBut sc.extBut D.l2TO) hy fun hd e sd he => ?_)
    obtain ⟨oe, hoe, hce⟩ := he
    have gzd : IsZip hd z TI TO .ellipsis := sd _ _ D.i2z.symm (sc.extBut _ _ D.TOz.symm (sb.extBut _ _ D.i1z.symm gza))
    have ez : e ≠ z := fun q => by subst q; rw [gzd] at hoe; cases hoe; simp at hce
    refine wpAny_setField_rec gzd (by simp) fun hf _ sf => k hf e (fun c o c1 c2 c3 c4 q => sf.extBut _ _ c1 (sd _ _ c4 (sc.extBut _ _ c2 (sb.extBut _ _ c3 (sa.extBut _ _ c1 q))))) ⟨oe, sf.extBut _ _ ez hoe, hce⟩
theorem next_zip_endH {z TI TO i1 i2 l1 l2 x1 : Addr} {k1 k2 : Nat} {xs ys : Array Value} {a b : Value} {Q : Option Value → Shared → Prop} (hot : HotAt A x1 s.heap) (n1 : x1 ≠ z) (n2 : x1 ≠ TO) (n3 : x1 ≠ i1) (n4 : x1 ≠ i2) (D : ZipApart z TI TO i1 i2 l1 l2)
    (gz : IsZip s.heap z TI TO .none) (gI : IsPair s.heap TI (.ref i1) (.ref i2)) (gO : IsPair s.heap TO a b) (g1 : s.heap.IsListIter i1 l1 k1) (g2 : s.heap.IsListIter i2 l2 k2) (m1 : s.heap.IsList l1 xs) (m2 : s.heap.IsList l2 ys) (hend : xs[k1]? = none ∨ ys[k2]? = none)
    (k : ∀ h2, (∀ c o, c ≠ z → c ≠ TO → c ≠ i1 → c ≠ i2 → s.heap.get? c = some o → h2.get? c = some o) → Q none { s with heap := h2 }) : wpAny (model prog w) A (pyNext (.ref z)) Q E s := by
  have ty : s.TypeIs (.ref z) "zip" := ⟨_, gz, rfl⟩
  unfold pyNext
  refine wpAny_bind (wpAny_attempt (wpAny_callSpecial?_slot (name := Str.ofString "__next__") ty F.slot_zip_next (wpAny_call_entry F.slot_zip_next ty F.entry_zip_next (zip_endH (A := A.in1) (hot_but (A := A.in1) (h := s.heap) hot fun o e => e) n1 n2 n3 n4 D gz gI gO g1 g2 m1 m2 hend fun h2 e hk he => ?_) (F.args_zip_next_1 _))))
  obtain ⟨o, ho, hc⟩ := he
  exact wpAny_bind (wpAny_isInstance (T := "StopIteration") (b := true) ⟨o, ho, hc⟩ isSubtype_stop (wpAny_pure (k _ hk)))
end
theorem turn_zipH {P : Program} {w : World} {K : PySem.W.Frag} {elts : List Expr} {kk : Nat} {tpos : Pos} {a b z TI TO i1 i2 : Addr} (D : ZipApart z TI TO i1 i2 a b) :
    TurnH P w K (.Tuple elts kk tpos) (Itz K a b) [z, TI, TO, i1, i2] z (fun i h => IsZip h z TI TO .none ∧ IsPair h TI (.ref i1) (.ref i2) ∧ (∃ x y, IsPair h TO x y) ∧ h.IsListIter i1 a i ∧ h.IsListIter i2 b i) where
  mem := (turn_zip (P := P) (w := w) (K := K) (elts := elts) (kk := kk) (tpos := tpos) D).mem
  obj := (turn_zip (P := P) (w := w) (K := K) (elts := elts) (kk := kk) (tpos := tpos) D).obj
  keep := (turn_zip (P := P) (w := w) (K := K) (elts := elts) (kk := kk) (tpos := tpos) D).keep
  self := (turn_zip (P := P) (w := w) (K := K) (elts := elts) (kk := kk) (tpos := tpos) D).self
  item := by
    intro X eP eW eK _ i pins s σ H E I hfp st hg
    subst eP eW eK
    obtain ⟨gz, gI, ⟨u0, v0, gO⟩, g1, g2⟩ := st
    obtain ⟨xs, ys, x, y, qx, qy, hx, hy⟩ := hg
    obtain ⟨us, ru, p, _⟩ := I.list qx
    obtain ⟨vs, rv, p2, _⟩ := I.list qy
    obtain ⟨u, hu, r1⟩ := ru.get hx
    obtain ⟨v, hv, r2⟩ := rv.get hy
    have lz : z < s.heap.objs.size := Heap.lt_size gz
    refine wpAny_pyNext_zip_item D gz gI gO g1 g2 p.isList p2.isList (x := u) (y := v) (by simpa using hu) (by simpa using hv) fun ha za Oa g1a g2a Ta _ ka => ?_
    refine ⟨_, rfl, wpAny_letOwnedTupleGo_zip (s := { s with heap := ha }) za fun hb zb sb => ?_⟩
    have Tb : hb.get? s.heap.objs.size = some { cls := .type "tuple", data := .seq #[u, v] } := (sb.2 _ (Nat.ne_of_gt lz)).trans Ta
    have nw : ObjOk X.prog X.w (upd H s.heap.objs.size (.tup [x, y])) hb s.heap.objs.size (.tup [x, y]) := ⟨by show 2 ≤ sizeLine; decide, [u, v], .cons r1 (.cons r2 .nil), ⟨_, Tb, rfl, _, rfl⟩⟩
    have J : Inv X pins σ (upd H s.heap.objs.size (.tup [x, y])) { s with heap := hb } :=
      I.turnedNew (t' := s.toks) (ch := [z, TI, TO, i1, i2]) (fun c o nb q => (sb.2 c (fun q' => nb (by simp [q']))).trans (ka c o (fun q' => nb (by simp [q'])) (fun q' => nb (by simp [q'])) (fun q' => nb (by simp [q'])) (fun q' => nb (by simp [q'])) q)) hfp (Nat.le_refl _) nw
    refine ⟨.ref s.heap.objs.size, _, J, rfl, ⟨_, x, y, rfl, I.hok.fresh (Nat.le_refl _), rfl, fun l hl => by rw [I.list_inj hl qx]; exact hx, fun l hl => by rw [I.list_inj hl qy]; exact hy⟩, ⟨zb, (sb.2 _ D.TIz).trans (ka _ _ D.TIz D.TITO D.TIi1 D.TIi2 gI), ⟨u, v, (sb.2 _ D.TOz).trans Oa⟩, g1a.at fun o q => (sb.2 _ D.i1z).trans q, g2a.at fun o q => (sb.2 _ D.i2z).trans q⟩, fun c hcm => ?_⟩
    have hlt : c < s.heap.objs.size := by
      obtain ⟨o, e, _⟩ := (turn_zip (P := X.prog) (w := X.w) (K := X.K) (elts := elts) (kk := kk) (tpos := tpos) D).obj i s.heap ⟨gz, gI, ⟨u0, v0, gO⟩, g1, g2⟩ c hcm
      exact Heap.lt_size e
    rw [upd_ne (Nat.ne_of_lt hlt)]
    exact (hfp c hcm).1
  done := by
    intro X eP eW eK hc i pins s σ H E I hfp st hg
    subst eP eW eK
    obtain ⟨gz, gI, ⟨u0, v0, gO⟩, g1, g2⟩ := st
    obtain ⟨xs, ys, qx, qy, hend⟩ := hg
    obtain ⟨us, ru, p, _⟩ := I.list qx
    obtain ⟨vs, rv, p2, _⟩ := I.list qy
    have l1 := ru.length
    have l2 := rv.length
    have he : us.toArray[i]? = none ∨ vs.toArray[i]? = none := by
      rcases hend with q | q
      · exact .inl (by simp; omega)
      · exact .inr (by simp; omega)
    obtain ⟨pp, ⟨hh, ws, c1, c2⟩, hpm⟩ := hc
    have hot : HotAt X.A pp.1 s.heap := ⟨hh, pp.2, ws, (I.pin pp (List.mem_append_left _ hpm)).1, c1, c2⟩
    have ne : ∀ c ∈ [z, TI, TO, i1, i2], pp.1 ≠ c := fun c hcm => (hfp c hcm).2.2.2.2.2 pp (List.mem_append_left _ hpm)
    exact next_zip_endH hot (ne z (by simp)) (ne TO (by simp)) (ne i1 (by simp)) (ne i2 (by simp)) D gz gI gO g1 g2 p.isList p2.isList he fun h2 hk => ⟨rfl, I.turnedL (t' := s.toks) (ch := [z, TI, TO, i1, i2]) (fun c o nb q => hk c o (fun q' => nb (by simp [q'])) (fun q' => nb (by simp [q'])) (fun q' => nb (by simp [q'])) (fun q' => nb (by simp [q'])) q) hfp⟩
theorem pi_zipH {X : Cx} {e e2 : Expr} {ta : TA} {p pos tpos : Pos} {elts : List Expr} {kk : Nat} (hg : Gl X "zip") (hm : X.mg "zip" = none) (ha : PA X [e, e2] ta)
    (hst : starEach [e, e2] X.env = (false, eval e X.env) :: starEach [e2] X.env := by rfl) (hpl : (backTo pos (starEach [e2] X.env)).any (·.1) = false := by rfl) : PIH X (.Tuple elts kk tpos) (.Call (.Name "zip" p) [e, e2] [] pos) (iZip X.K ta) := by
  refine ⟨fun pins s σ H R I h => ?_⟩
  refine Call_ (ld_blt I hg hm PyProof.Rows.boot_zip (PyProof.Rows.callWith_type1 (thn (ha.run pos pins s σ H _ I h) fun us sa ⟨vs, Ha, Ia, ra, qa⟩ => ?_) hst hpl))
  obtain ⟨a, b, xs, ys, ex, qx, qy, q⟩ := qa
  subst ex
  cases ra with
  | cons r rr =>
    cases rr with
    | cons r' rr =>
      cases rr
      cases r
      cases r'
      obtain ⟨_, _, p1, _⟩ := Ia.list qx
      obtain ⟨_, _, p2, _⟩ := Ia.list qy
      refine call_zip_2 p1.isList p2.isList fun hb gz gI gO g1 g2 _ hk => wpAny_pyIter_zip gz ?_
      have Ib : Inv X pins σ Ha { sa with heap := hb } := Ia.kept (t' := sa.toks) hk
      refine ⟨sa.heap.objs.size + 4, [sa.heap.objs.size + 4, sa.heap.objs.size + 2, sa.heap.objs.size + 3, sa.heap.objs.size, sa.heap.objs.size + 1], _, _, Ha, rfl, Ib, turn_zipH (PySem.W.ktu_apart sa.heap.objs.size a b p1.lt p2.lt), ⟨gz, gI, ⟨_, _, gO⟩, g1, g2⟩, fun c hcm => ?_, q⟩
      have hle : sa.heap.objs.size ≤ c := by
        have q : c = sa.heap.objs.size + 4 ∨ c = sa.heap.objs.size + 2 ∨ c = sa.heap.objs.size + 3 ∨ c = sa.heap.objs.size ∨ c = sa.heap.objs.size + 1 := by simpa using hcm
        rcases q with q | q | q | q | q <;> rw [q] <;> first | exact Nat.le_add_right _ _ | exact Nat.le_refl _
      exact Ia.fpOk hle (Ia.hok.fresh hle)
end K59

set_option Elab.async false
set_option linter.all false
set_option maxRecDepth 100000
set_option maxHeartbeats 4000000
/-! tuples taken apart, list comprehensions, while an exception is handled -/
namespace K59
open PySem PySem.Spec PyProof.Rows L2 HotX L2H
section
variable {prog : Program} {w : World} {A : Around} {E : Value → Shared → Prop} {s : Shared}
theorem tup_endH {it t x1 : Addr} {i : Nat} {ys : Array Value} {Q : Option Value → Shared → Prop} (hot : HotAt A x1 s.heap) (ne : x1 ≠ it) (gi : IsTupIter s.heap it t i) (gl : IsTup s.heap t ys) (gx : ys[i]? = none)
    (k : ∀ h2, Heap.ExtBut it s.heap h2 → Q none { s with heap := h2 }) : wpAny (model prog w) A (pyNext (.ref it)) Q E s := by
  obtain ⟨oi, hoi, hci, hdi⟩ := id gi
  obtain ⟨ov, hov, _, nv, hdv⟩ := gl
  unfold pyNext
  refine wpAny_bind (wpAny_attempt (wpAny_callSpecial?_slot (name := Str.ofString "__next__") gi.typeIs slot_tupleiter_next (wpAny_call_entry slot_tupleiter_next gi.typeIs entry_tupleiter_next ?_ (args_tupleiter_next _))))
  show wpAny _ _ (field (.ref it) 0 >>= _) _ _ _
  refine wpAny_bind (wpAny_field hoi hdi (x := .ref t) rfl ?_)
  show wpAny _ _ (ite ((Value.ref t == Value.none) = true) _ _) _ _ _
  rw [if_neg (show ¬ ((Value.ref t == Value.none) = true) by exact Bool.false_ne_true)]
  show wpAny _ _ (field (.ref it) 1 >>= _) _ _ _
  refine wpAny_bind (wpAny_field hoi hdi (x := .int i 0) rfl ?_)
  show wpAny _ _ (seqItems? (.ref t) >>= _) _ _ _
  refine wpAny_bind (wpAny_seqItems hov hdv ?_)
  simp only [gx, Int.toNat_natCast]
  refine wpAny_bind (wpAny_rule (wpAny_bind (wpAny_setField hoi hdi (by simp) ?_)))
  show wpAny _ _ (newExc (.type "StopIteration") [] >>= _) _ _ _
  refine wpAny_bind ?_
  simp only [newTuple, newExc]
  refine wpAny_bind (wpAny_newObj_type ?_ (by size_fits))
  refine wpAny_bind (m := firstArgMember _ _) (wpAny_of_eq (a := Value.none) (by first | rfl | (rw [firstArgMember] <;> rfl) | (simp only [firstArgMember] <;> rfl)) ?_)
  refine wpAny_newObj_type ?_ (by size_fits)
  have up : ∀ (f : Obj → Obj) (u v : Obj) b o, b ≠ it → s.heap.get? b = some o → (((s.heap.update it f).push u).push v).get? b = some o := fun f u v b o hb e => Heap.get?_push_of_some _ (Heap.get?_push_of_some _ ((Heap.get?_update_other _ _ (Ne.symm hb)).trans e))
  have lt : ∀ b o, b ≠ it → s.heap.get? b = some o → ∀ (f : Obj → Obj) (u : Obj), b < ((s.heap.update it f).push u).objs.size := fun b o hb e f u => by
    have h1 := Heap.lt_size ((Heap.get?_update_other s.heap f (Ne.symm hb)).trans e)
    rw [Heap.size_push]
    exact Nat.lt_succ_of_lt h1
  refine raiseNew_hot (hot_but (A := A.in1) (h := s.heap) hot fun o e => up _ _ _ _ _ ne e) ?_ (Heap.get?_push_size _ rfl) rfl (by first | (simp; done) | (simp; omega)) ?_
  · obtain ⟨_, o, _, e, _⟩ := hot
    exact Nat.ne_of_lt (lt _ _ ne e _ _)
  · refine wpAny_bind (wpAny_isInstance (T := "StopIteration") (b := true) ⟨_, Heap.get?_update_self _ (Heap.get?_push_size _ rfl) rfl, rfl⟩ isSubtype_stop ?_)
    refine wpAny_pure (k _ fun b o hb e => ?_)
    exact (Heap.get?_update_other _ _ (Nat.ne_of_gt (lt b o hb e _ _))).trans (up _ _ _ b o hb e)
theorem unpackH {t x1 : Addr} {ys : Array Value} {Q : List Value → Shared → Prop} (hot : HotAt A x1 s.heap) (gt : IsTup s.heap t ys)
    (k : ∀ h2, Heap.ExtBut s.heap.objs.size s.heap h2 → Q ys.toList { s with heap := h2 }) : wpAny (model prog w) A (unpackItems (.ref t) ys.size none) Q E s := by
  have lt : t ≠ s.heap.objs.size := by
    obtain ⟨o, ho, _⟩ := gt
    exact Nat.ne_of_lt (Heap.lt_size ho)
  have lx : x1 ≠ s.heap.objs.size := by
    obtain ⟨_, o, _, ho, _⟩ := hot
    exact Nat.ne_of_lt (Heap.lt_size ho)
  unfold unpackItems
  refine wpAny_bind ?_
  unfold notIterableAtAll
  refine wpAny_bind (wpAny_specialOf gt.typeIs slot_tuple_iter.lookup ?_)
  refine wpAny_pure ?_
  simp only [Bool.false_eq_true, if_false]
  refine wpAny_bind (wpAny_holding (iter_tuple gt ?_))
  refine wpAny_bind (wpAny_holding (draw_tuple lt ys.size 0 _ _ ⟨_, Heap.get?_push_size _ rfl, rfl, rfl⟩ (gt.push _) (by omega) fun ha gia sa => ?_))
  have all : List.take ys.size (List.drop 0 ys.toList) = ys.toList := by
    rw [List.drop_zero]
    exact List.take_of_length_le (by simp)
  rw [all, if_neg (by simp)]
  have gta : IsTup ha t ys := (gt.push _).extBut sa.extBut lt
  refine wpAny_bind (wpAny_holding (tup_endH (hot_but hot fun o e => sa.extBut _ _ lx (Heap.get?_push_of_some _ e)) lx gia gta (by simp) fun hb sb => ?_))
  simp only [Option.isSome_none, Bool.false_eq_true, if_false]
  exact wpAny_pure (k hb fun b o nb e => sb b o nb (sa.extBut b o nb (Heap.get?_push_of_some _ e)))
end
theorem pg_tupH {X : Cx} {es : List Expr} {k : Nat} {t : TGs} {n : Nat} {pos : Pos} (hc : HotC X) (h : PGs X es t) (hn : (assignEach es X.env).length = n := by rfl) (hst : (assignEach es X.env).findIdx? (·.1) = none := by rfl) : PG X (.Tuple es k pos) (gTup X.K n t) := by
  refine ⟨fun pins s σ H v u Q I r hw => ?_⟩
  obtain ⟨a, xs, rfl, hq, hl, hw⟩ := hw
  cases r
  obtain ⟨us, rv, gt, _⟩ := I.tuple hq
  obtain ⟨x1, hot⟩ := hc.at I
  rw [assign_Tuple]
  refine wpAny_bind (wpAny_standAt ?_)
  unfold unpack
  rw [hst, show (assignEach es X.env).length = us.toArray.size by rw [hn, ← hl, rv.length] <;> simp]
  refine wpAny_bind (wpAny_holding (unpackH hot gt fun h2 hx => ?_))
  have J : Inv X pins σ H { s with heap := h2 } := I.kept (t' := s.toks) fun b o e => hx b o (Nat.ne_of_lt (Heap.lt_size e)) e
  exact h.run pins _ σ H xs _ Q J (by simpa using rv) hw
/-- a block's context that keeps the pins -/
abbrev blkH (X : Cx) (s : Shared) (H : Hp) (scope : Scope) (cenv : Env) (fp : List Addr) : Cx := { X.blk s H scope cenv fp with pn := X.pn }
theorem blkH_hot {X : Cx} {s : Shared} {H : Hp} {scope : Scope} {cenv : Env} {fp : List Addr} (h : HotC X) : HotC (blkH X s H scope cenv fp) := h
theorem inv_pn {X : Cx} {σ : L2.St} {H : Hp} {s : Shared} {ps : List (Addr × Obj)} (I : Inv X [] σ H s) (h : ∀ p ∈ ps, s.heap.get? p.1 = some p.2 ∧ H p.1 = none ∧ p.1 ≠ X.env.locals ∧ p.1 ∉ X.fs ∧ ∀ v, p.2.data ≠ .cell v) : Inv { X with pn := ps } [] σ H s := by
  obtain ⟨ok, a2, a3, a4, a5, a6, a7, a8, _, b1, b2⟩ := I
  obtain ⟨c1, c2, c3, c4, c5, c6, c7, c8, c9, d1, d2, d3, d4, d5, d6, d7, d8, d9⟩ := ok
  exact ⟨⟨c1, c2, c3, c4, c5, c6, c7, c8, c9, d1, d2, d3, d4, d5, d6, d7, d8, d9⟩, a2, a3, a4, a5, a6, a7, a8, fun p hp => h p (by simpa using hp), b1, b2⟩
theorem block_startH {X : Cx} {pins : List (Addr × Obj)} {σ : L2.St} {H : Hp} {s : Shared} {scope : Scope} {own : List (Str × Nat)} {fp : List Addr} (I : Inv X pins σ H s) (ok : BlkOk X.N X.env.scope scope own) (hN : X.N.Nodup) (hfp : ∀ b ∈ fp, FpOk X pins H b ∧ b < s.heap.objs.size) :
    Inv (blkH X s H scope (compEnvC scope (cellsFrom (s.heap.objs.size + 1) scope.names (cloFrom X.env.cells scope.names [])) s.heap.objs.size X.env) fp) [] (wipe σ (own.map (·.2))) H { s with heap := pushCells (s.heap.push { cls := .type "dict", data := .dict #[] }) scope.names } := by
  refine inv_pn (block_start I ok hN hfp) fun p hp => ?_
  obtain ⟨h1, h2, h3, h4, h5⟩ := I.pin p (List.mem_append_left _ hp)
  refine ⟨pushCells_keeps _ _ _ _ (Heap.get?_push_of_some _ h1), h2, Nat.ne_of_lt (Heap.lt_size h1), fun z => ?_, h5⟩
  rcases List.mem_cons.mp (I.stkSub p.1 z) with z | z
  · exact h3 z
  · exact h4 z
end K59

set_option Elab.async false
set_option linter.all false
set_option maxRecDepth 100000
set_option maxHeartbeats 4000000
/-! a list comprehension while an exception is handled -/
namespace K59
open PySem PySem.Spec PyProof.Rows L2 HotX L2H
theorem lc_coreH {X : Cx} {pins : List (Addr × Obj)} {s : Shared} {σ : L2.St} {H : Hp} {Q : VK} {elt tg iter : Expr} {ifs : List Expr} {scope : Scope} {own : List (Str × Nat)} {pos pos' : Pos} {wi : TI} {g : TG} {tt : TT} {te : TE} {use : Option (Value → Sem Unit)} {Qf : Value → Shared → Prop}
    (hot : HotC X) (hN : X.N.Nodup) (I : Inv X pins σ H s) (hi : PIH X tg iter wi) (okb : BlkOk X.N X.env.scope scope own)
    (pg : ∀ (s : Shared) (H : Hp) (C : Addr) (cl : List (Str × Addr)) (fp : List Addr), PG (blkH X s H scope (compEnvC scope cl C X.env) fp) tg g) (pt : ∀ (s : Shared) (H : Hp) (C : Addr) (cl : List (Str × Addr)) (fp : List Addr), PTs (blkH X s H scope (compEnvC scope cl C X.env) fp) ifs tt)
    (px : ∀ (s : Shared) (H : Hp) (C : Addr) (cl : List (Str × Addr)) (fp : List Addr), PE (blkH X s H scope (compEnvC scope cl C X.env) fp) elt te)
    (hst : ∀ x, foldedSetIterable iter X.env x = pure x) (h : tLc wi g tt te (own.map (·.2)) σ H Q)
    (last : ∀ D C s' m H', Inv X pins σ H' s' → Q (.ref D) H' → s'.heap.Ns C m → FpOk X pins H' C → compPost (model X.prog X.w) X.A X.xe use Qf (.ref D) C (.ok .next) s') :
    wpAny (model X.prog X.w) X.A (comprehension (.ListComp elt [⟨tg, iter, ifs, 0⟩] scope pos) scope X.env pos' (newList []) false (eval iter X.env) use) Qf X.xe s := by
  have free : ∀ y ∈ scope.names, y.2 = .free → ∃ c, X.env.cells.lookup y.1 = some c := fun y hy e => (okb.free y hy e).elim (fun z => I.ok.has _ (.inl z)) (fun z => I.ok.has _ (.inr z))
  refine wpAny_comprehension_free (use := use) rfl hst (closure_ok free) okb.kind (fun y hy e => by rw [okb.uniq y hy, e]) (thn (hi.run pins s σ H _ I h) fun xv sx hx => thn hx fun itv s1 hy => ?_)
  obtain ⟨it, fp, tn, J, M, exv, I2, T, st, fps, q⟩ := hy
  subst exv
  refine wpAny_newObj_type (newEnv_comp ?_) (by show 0 ≤ sizeLine; decide)
  -- the new list's place
  obtain ⟨d, hd⟩ : ∃ d, s1.heap.objs.size = d := ⟨_, rfl⟩
  have fresh : M d = none := I2.hok.fresh (Nat.le_of_eq hd)
  obtain ⟨W, ⟨m0, w0⟩, turn⟩ := q d fresh
  obtain ⟨s2, e2⟩ : ∃ s2 : Shared, ({ s1 with heap := s1.heap.push { cls := .type "list", data := .seq ([] : List Value).toArray } } : Shared) = s2 := ⟨_, rfl⟩
  have I3 : Inv X pins σ (upd M d (.lst [])) s2 := by
    rw [← e2]
    refine I2.laid (t' := s1.toks) (fun b o e => Heap.get?_push_of_some _ e) (Nat.le_of_eq hd) ⟨Nat.zero_le _, [], 0, .nil, ?_⟩
    rw [← hd]
    exact Heap.get?_push_size _ rfl
  have h2 : s2.heap = s1.heap.push { cls := .type "list", data := .seq ([] : List Value).toArray } := by rw [← e2]
  have inn : ∀ b ∈ fp, b < s1.heap.objs.size := fun b hb => by
    obtain ⟨o, e, _⟩ := T.obj _ _ st b hb
    exact Heap.lt_size e
  have fq : ∀ b ∈ fp, FpOk X pins (upd M d (.lst [])) b ∧ b < s2.heap.objs.size := fun b hb => by
    refine ⟨⟨?_, (fps b hb).2⟩, by rw [h2, Heap.size_push]; exact Nat.lt_succ_of_lt (inn b hb)⟩
    rw [upd_ne (by rw [← hd]; exact Nat.ne_of_lt (inn b hb))]
    exact (fps b hb).1
  have st2 : tn 0 s2.heap := T.keep _ _ _ st fun b _ o e => by rw [h2]; exact Heap.get?_push_of_some _ e
  have I4 := block_startH I3 okb hN fq
  have g2 := pg s2 (upd M d (.lst [])) s2.heap.objs.size (cellsFrom (s2.heap.objs.size + 1) scope.names (cloFrom X.env.cells scope.names [])) fp
  have t2 := pt s2 (upd M d (.lst [])) s2.heap.objs.size (cellsFrom (s2.heap.objs.size + 1) scope.names (cloFrom X.env.cells scope.names [])) fp
  have x2 := px s2 (upd M d (.lst [])) s2.heap.objs.size (cellsFrom (s2.heap.objs.size + 1) scope.names (cloFrom X.env.cells scope.names [])) fp
  show codeAny _ _ (.compStart (.ListComp elt [⟨tg, iter, ifs, 0⟩] scope pos) 0 (.ref it) (.ref s1.heap.objs.size) _) _ _
  rw [hd]
  have e2' : ({ s1 with heap := (s1.heap.push { cls := .type "list", data := .seq ([] : List Value).toArray }) } : Shared) = s2 := e2
  show codeAny (model X.prog X.w) X.A (.compStart (.ListComp elt [⟨tg, iter, ifs, 0⟩] scope pos) 0 (.ref it) (.ref d) (compEnvC scope (cellsFrom (({ s1 with heap := s1.heap.push { cls := .type "list", data := .seq ([] : List Value).toArray } } : Shared).heap.objs.size + 1) scope.names (cloFrom X.env.cells scope.names [])) ({ s1 with heap := s1.heap.push { cls := .type "list", data := .seq ([] : List Value).toArray } } : Shared).heap.objs.size X.env)) (compPost (model X.prog X.w) X.A X.xe use Qf (.ref d) ({ s1 with heap := s1.heap.push { cls := .type "list", data := .seq ([] : List Value).toArray } } : Shared).heap.objs.size) { ({ s1 with heap := s1.heap.push { cls := .type "list", data := .seq ([] : List Value).toArray } } : Shared) with heap := pushCells (({ s1 with heap := s1.heap.push { cls := .type "list", data := .seq ([] : List Value).toArray } } : Shared).heap.push { cls := .type "dict", data := .dict #[] }) scope.names }
  rw [e2']
  have nil : ∀ b ∈ fp, (upd M d (.lst [])) b = none := fun b hb => (fq b hb).1.1
  generalize hce : compEnvC scope (cellsFrom (s2.heap.objs.size + 1) scope.names (cloFrom X.env.cells scope.names [])) s2.heap.objs.size X.env = ce at I4 g2 t2 x2 ⊢
  have cL : ce.locals = s2.heap.objs.size := by subst hce; rfl
  generalize hM : upd M d (.lst []) = M2 at I3 I4 g2 t2 x2 w0 nil fq
  generalize e3 : ({ s2 with heap := pushCells (s2.heap.push { cls := .type "dict", data := .dict #[] }) scope.names } : Shared) = s3 at I4 ⊢
  have st3 : tn 0 s3.heap := T.keep _ _ _ st2 fun b _ o e => by rw [← e3]; exact pushCells_keeps _ _ _ _ (Heap.get?_push_of_some _ e)
  have stay : ∀ {ρ : L2.St} {M' : Hp} {s' : Shared}, Inv (blkH X s2 M2 scope ce fp) [] ρ M' s' → (∀ b ∈ fp, M' b = none) → ∀ b ∈ fp, FpOk (blkH X s2 M2 scope ce fp) [] M' b := fun {ρ M' s'} I' hn b hb =>
    ⟨hn b hb, (I'.ok.exf b hb).1, I'.ok.exfs b hb, .inl hb, fun x c e => (I'.ok.exf b hb).2 x c e, fun p hp => (fq b hb).1.2.2.2.2.2 p (by
      rcases List.mem_append.mp hp with z | z
      · exact List.mem_append_left _ z
      · cases z)⟩
  have loop : codeAny (model X.prog X.w) X.A (.compLoop (.ListComp elt [⟨tg, iter, ifs, 0⟩] scope pos) 0 (.ref it) (.ref d) ce) (compPost (model X.prog X.w) X.A X.xe use Qf (.ref d) s2.heap.objs.size) s3 := by
    refine compLoop_any (fun n s' => ∃ i M', Inv (blkH X s2 M2 scope ce fp) [] (wipe σ (own.map (·.2))) M' s' ∧ tn i s'.heap ∧ (∀ b ∈ fp, M' b = none) ∧ W i n M') ?_ m0 ⟨0, M2, I4, st3, nil, w0⟩
    rintro n s5 ⟨i, M5, I5, st5, n5, w5⟩
    rcases turn i n M5 w5 with ⟨stop, qq⟩ | ⟨go, Nx, hNx, step⟩
    · refine thnF (T.done (blkH X s2 M2 scope ce fp) rfl rfl rfl (blkH_hot hot) i [] s5 _ M5 (fun _ _ => False) I5 (stay I5 n5) st5 stop) fun r s6 ⟨hr, I6⟩ => ?_
      subst hr
      have I7 : Inv X pins σ M5 s6 := I3.call' (ch := fp) I6.os I6.base I6.hok I6.bare fun b hb => ⟨(fq b hb).1.2.2.2.1, (fq b hb).1.2.1, (fq b hb).1.2.2.2.2.1, (fq b hb).1.2.2.2.2.2⟩
      have nC : M5 s2.heap.objs.size = none := by
        have z : M5 ce.locals = none := I6.free
        rw [cL] at z
        exact z
      obtain ⟨m, hn, _⟩ := I6.loc
      have hn : s6.heap.Ns ce.locals m := hn
      rw [cL] at hn
      exact last d s2.heap.objs.size s6 m M5 I7 qq hn (I3.fpOk (Nat.le_refl _) nC)
    · refine thnF (T.item (blkH X s2 M2 scope ce fp) rfl rfl rfl (blkH_hot hot) i [] s5 _ M5 (fun _ _ => False) I5 (stay I5 n5) st5 go) fun r s6 ⟨u, hr, h6⟩ => ?_
      subst hr
      refine thnF h6 fun _ s7 ⟨x, M7, I7, r7, y7, st7, n7⟩ => ?_
      have I7' := I7.pinned (stay I7 n7) (T.obj _ _ st7)
      refine thnF (g2.run _ s7 _ M7 x u _ I7' r7 (step x M7 y7)) fun _ s8 ⟨ρ, M8, I8, hw8, q8⟩ => ?_
      refine thnF (t2.run _ s8 ρ M8 _ I8 q8) fun b s9 ⟨M9, I9, q9⟩ => ?_
      -- behind a turn
      have fin : ∀ {s' : Shared} {M' : Hp}, Inv (blkH X s2 M2 scope ce fp) ([] ++ pinsAt fp s7.heap) ρ M' s' → Nx M' → ∃ m, m < n ∧ ∃ i M', Inv (blkH X s2 M2 scope ce fp) [] (wipe σ (own.map (·.2))) M' s' ∧ tn i s'.heap ∧ (∀ b ∈ fp, M' b = none) ∧ W i m M' := fun {s' M'} I' nx => by
        obtain ⟨m', hm, w'⟩ := hNx M' nx
        have pin' : ∀ b ∈ fp, ∀ o, s7.heap.get? b = some o → s'.heap.get? b = some o ∧ M' b = none := fun b hb o e =>
          let z := I'.pin (b, o) (List.mem_append_right _ (List.mem_append_right _ (mem_pinsAt hb e)))
          ⟨z.1, z.2.1⟩
        have hl : (wipe σ (own.map (·.2))).length = ρ.length := by rw [← hw8, wipe_length]
        refine ⟨m', hm, i + 1, M', (I'.unpinned (pins := [])).weak hl (fun j v e => ?_), T.keep _ _ _ st7 fun b hb o e => (pin' b hb o e).1, fun b hb => ?_, w'⟩
        · rw [← hw8] at e
          exact (wipe_some e).1
        · obtain ⟨o, e, _⟩ := T.obj _ _ st7 b hb
          exact (pin' b hb o e).2
      cases b with
      | false =>
        simp only [Bool.false_eq_true, if_false] at q9 ⊢
        exact fin I9 q9
      | true =>
        simp only [if_true] at q9 ⊢
        refine thnF (x2.run _ s9 ρ M9 _ I9 q9) fun z s10 ⟨yv, M10, I10, r10, acc, hD10, hz10, nx⟩ => ?_
        exact app_ok (X := blkH X s2 M2 scope ce fp) I10 hD10 hz10 r10 fun s11 I11 => fin I11 nx
  exact codeAny_compStart_list loop (T.self X.A 0 _ _ _ st3 loop)
theorem pe_lcH {X : Cx} {elt tg iter : Expr} {ifs : List Expr} {scope : Scope} {own : List (Str × Nat)} {pos : Pos} {wi : TI} {g : TG} {tt : TT} {te : TE} (hot : HotC X) (hN : X.N.Nodup) (hi : PIH X tg iter wi) (okb : BlkOk X.N X.env.scope scope own)
    (pg : ∀ (s : Shared) (H : Hp) (C : Addr) (cl : List (Str × Addr)) (fp : List Addr), PG (blkH X s H scope (compEnvC scope cl C X.env) fp) tg g) (pt : ∀ (s : Shared) (H : Hp) (C : Addr) (cl : List (Str × Addr)) (fp : List Addr), PTs (blkH X s H scope (compEnvC scope cl C X.env) fp) ifs tt)
    (px : ∀ (s : Shared) (H : Hp) (C : Addr) (cl : List (Str × Addr)) (fp : List Addr), PE (blkH X s H scope (compEnvC scope cl C X.env) fp) elt te)
    (hst : ∀ x, foldedSetIterable iter X.env x = pure x := by intro _; rfl) : PE X (.ListComp elt [⟨tg, iter, ifs, 0⟩] scope pos) (tLc wi g tt te (own.map (·.2))) := by
  refine ⟨fun pins s σ H Q I h => ?_⟩
  rw [eval_ListComp]
  refine lc_coreH hot hN I hi okb pg pt px hst h fun D C s' m H' I' q hn f => ⟨m, hn, fun h'' sb => ?_⟩
  obtain ⟨f0, f1, f2, f3, f4, f5⟩ := f
  exact ⟨.ref D, H', I'.turned (t' := s'.toks) (fun b o hb e => (sb.2 b hb).trans e) f0 f1 f3 f4 f5, rfl, q⟩
theorem ps_setLcH {X : Cx} {i : Nat} {y : Str} {py : Pos} {elt tg iter : Expr} {ifs : List Expr} {scope : Scope} {own : List (Str × Nat)} {pos spos : Pos} {wi : TI} {g : TG} {tt : TT} {te : TE} (hot : HotC X) (hN : X.N.Nodup) (hy : X.N[i]? = some y) (hyl : X.env.scope.names.lookup y = some .local)
    (hsw : swapsWith (.ListComp elt [⟨tg, iter, ifs, 0⟩] scope pos) (some (.Name y py)) spos.line X.env = pure true) (hi : PIH X tg iter wi) (okb : BlkOk X.N X.env.scope scope own)
    (pg : ∀ (s : Shared) (H : Hp) (C : Addr) (cl : List (Str × Addr)) (fp : List Addr), PG (blkH X s H scope (compEnvC scope cl C X.env) fp) tg g) (pt : ∀ (s : Shared) (H : Hp) (C : Addr) (cl : List (Str × Addr)) (fp : List Addr), PTs (blkH X s H scope (compEnvC scope cl C X.env) fp) ifs tt)
    (px : ∀ (s : Shared) (H : Hp) (C : Addr) (cl : List (Str × Addr)) (fp : List Addr), PE (blkH X s H scope (compEnvC scope cl C X.env) fp) elt te)
    (hst : ∀ x, foldedSetIterable iter X.env x = pure x := by intro _; rfl) : PS X (.Assign [.Name y py] (.ListComp elt [⟨tg, iter, ifs, 0⟩] scope pos) spos) (tAsg (tLc wi g tt te (own.map (·.2))) (gName i)) := by
  refine ⟨fun pins s σ H D I h => ?_⟩
  rw [exec_Assign_Name_used _ _ _ _ hsw]
  refine wpAny_bind (wpAny_standAt (wpAny_bind ?_))
  show wpAny _ X.A (do let _ ← comprehension (.ListComp elt [⟨tg, iter, ifs, 0⟩] scope pos) scope X.env (firstIterPos [⟨tg, iter, ifs, 0⟩] pos) (newList []) false (eval iter X.env) (some (assign (.Name y py) X.env))) _ _ _
  have h : tLc wi g tt te (own.map (·.2)) σ H (fun x Ha => gName i x σ Ha D.nx) := h
  refine wpAny_bind (thn (lc_coreH (Qf := fun _ s' => SP X pins D .next s') hot hN I hi okb pg pt px hst h fun L C s' m H' I' q hn f => ?_) fun _ s' hq => wpAny_pure (wpAny_pure hq))
  show wpAny _ X.A (assign (.Name y py) X.env (.ref L)) _ _ _
  refine wpAny_assign_Name (store_ok2 (v := V.ref L) I' hN hy (.inl hyl) rfl (fun sa Ia ⟨a, sb, ha⟩ => ?_) (.inr hyl))
  obtain ⟨f0, f1, f2, f3, f4, f5⟩ := f
  have ne : C ≠ a := by
    rcases ha with z | z
    · rw [z]
      exact f1
    · exact fun e => f4 y a z e.symm
  exact ⟨m, hn.sameBut sb ne, fun hb sc => ⟨_, H', Ia.turned (t' := sa.toks) (fun b o nb e => (sc.2 b nb).trans e) f0 f1 f3 f4 f5, q⟩⟩
end K59

set_option Elab.async false
set_option linter.all false
set_option maxRecDepth 100000
set_option maxHeartbeats 4000000
/-! a def called while an exception is handled, the exception its argument -/
namespace K59
open PySem PySem.Spec PyProof.Rows L2 HotX L2H Evl
/-- isinstance(e, c), e a pinned exception of the class D -/
theorem call_isP {X : Cx} {a D : Addr} {oe : Obj} (C : ExcC X.K D) (hz : Zc (.ref D) none oe) (hf : ∃ vs, oe.data = .fields vs) (hm : (a, oe) ∈ X.pn) : CallR X (.builtin "isinstance") (rIsE X.K D a) := by
  intro pins s σ H xs us Q I r h
  obtain ⟨c, cv, b, rfl, hcv, e, q⟩ := h
  obtain ⟨vs, hv⟩ := hf
  have hat := (I.pin (a, oe) (List.mem_append_left _ hm)).1
  have J : PySem.W.InstAt s.heap a oe D none := by
    obtain ⟨oc, od, oda, osl⟩ := oe
    obtain ⟨z1, z2⟩ := hz
    dsimp only at z1 z2 hv
    subst z1 z2 hv
    exact ⟨hat, rfl, rfl, trivial⟩
  rcases r with _ | ⟨ra, _ | ⟨rb, _ | _⟩⟩
  cases ra
  cases hcv _ rb
  exact PySem.W.kia_one (PySem.W.handS_kitx_exc C.hg C.hk C.hs C.hd C.ha C.hn C.ht C.hm) I.kIn J e (fun z => nomatch z) fun tk => ⟨.bl b, H, I.kept (t' := tk) fun _ _ z => z, rfl, q⟩
/-- what such a def promises, the exception known -/
def FnP (P : Program) (w : World) (K : PySem.W.Frag) (mg : Str → Option Value) (base : Heap) (k : Nat) (f : Addr) (fd : FuncData) (ps : List Str) (sp : Sp) (p : Addr × Obj) : Prop :=
  ∀ (A : Around) (outer : List Env) (s : Shared) (H : Hp) (args : Args) (us : List Value) (vs : List V) (Q : VK) (E : XK), RoomH k A → Hot1 A p → PinOk outer H s p → Env0 P w K mg base A outer s H → BindsTo s fd args (ps.zip us) → Vals vs us → sp vs H Q E →
    codeAny (model P w) A (.call (.ref f) args) (CR CX0 outer P w H s Q E) s
theorem fn_ofP {P : Program} {w : World} {K : PySem.W.Frag} {mg : Str → Option Value} {base : Heap} {k : Nat} {f : Addr} {name qual : Str} {params : Arguments} {body : List Stmt} {scope : Scope} {dV kV doc pm cdv ct oc : Value} {an od : Option Addr}
    {osl : Array (Option Value)} {N ps : List Str} {sp : Sp} {p : Addr × Obj} (lk : K.lookup f = some ⟨oc, od, .func (PySem.W.fnOf name qual params body scope dV kV doc pm an cdv ct), osl⟩) (hcd : PySem.W.codeIn K cdv qual = true) (S : FnScope N ps scope)
    (len : ∀ vs H Q E, sp vs H Q E → vs.length = ps.length)
    (hbody : ∀ (A : Around) (outer : List Env) (s : Shared) (H : Hp) (vs : List V) (Q : VK) (E : XK), Hot1 A p → RoomH k (A.deeper (envOfC qual scope s.heap.objs.size f cdv)) → sp vs H Q E →
      ∃ t, PSs (cxH CX0 P w K mg base N qual scope f cdv A outer s H E p) body t ∧ t { nx := fun _ H' => Q .non H', rt := Q } (L2.start N vs) H) :
    FnP P w K mg base (k + 1) f (PySem.W.fnOf name qual params body scope dV kV doc pm an cdv ct) ps sp p := by
  intro A outer s H args us vs Q E hr hot hpin e0 hb r hsp
  have hl := len _ _ _ _ hsp
  have old : ∀ b o, base.get? b = some o → s.heap.get? b = some o := fun b o e => (e0.bs b o e).1
  have KX : K.In s.heap := e0.mod.kin.keeps old
  have kinds : ∀ y ∈ ps.zip us, scope.names.lookup y.1 = some .local ∨ (scope.names.lookup y.1 = some .cell ∧ ((cellsFrom (s.heap.objs.size + 1) scope.names []).lookup y.1).isSome = true) := fun ⟨n, v⟩ hy =>
    (S.par n (List.of_mem_zip hy).1).imp id fun q => ⟨q, PySem.W.cellsFrom_some _ _ _ (.inl q)⟩
  refine codeAny_call_function hr.depth (KX _ _ lk) rfl S.co S.gen rfl (PySem.W.codeRec_of KX hcd) (hb _ _ _ _ ?_)
  refine wpAny_newFunctionEnv_cells S.kind kinds fun env he sa x => ?_
  subst he
  refine ⟨(e0.mod.nolimit.keeps old).keeps x.toInCall.keep, codeAny_func ?_⟩
  obtain ⟨t, ht, hq⟩ := hbody A outer s H vs Q E hot (hr.deeper _) hsp
  have I : Inv (cxH CX0 P w K mg base N qual scope f cdv A outer s H E p) [] (L2.start N vs) H sa := inv_startH S hpin e0 hl r x
  refine wpAny_mono (ht.run [] sa (L2.start N vs) H _ I hq) (fun fl sb hs => ?_) fun e sb hs => hs
  have done : ∀ {ρ : L2.St} {M : Hp} {v : V} {u : Value}, Inv (cxH CX0 P w K mg base N qual scope f cdv A outer s H E p) [] ρ M sb → RelV v u → Q v M → CE outer P w H s Q u sb := fun {ρ M v u} J rv q => ⟨v, M, J.os, J.bare, J.base, J.hok, rv, q⟩
  cases fl with
  | ret u =>
    obtain ⟨v, ρ, M, J, rv, q⟩ := hs
    exact done J rv q
  | next =>
    obtain ⟨ρ, M, J, q⟩ := hs
    exact done (v := V.non) (u := Value.none) J rfl q
  | brk =>
    obtain ⟨_, _, _, q⟩ := hs
    exact q.elim
  | cont =>
    obtain ⟨_, _, _, q⟩ := hs
    exact q.elim
/-- the call f(e) within the suite -/
theorem pe_callP {X : Cx} {k : Nat} {f : Addr} {fd : FuncData} {ps : List Str} {sp : Sp} {E : XK} {x : Str} {q pos : Pos} {e : Expr} {es : List Expr} {t : TA} {p : Addr × Obj} (F : FnP X.prog X.w X.K X.mg X.base k f fd ps sp p) (hb : Bd ps fd) (hl : ∀ vs H Q E, sp vs H Q E → vs.length = ps.length) (hr : RoomH k X.A) (h1 : Hot1 X.A p) (h2 : p ∈ X.pn) (hm : X.mg x = some (.ref f) ∧ PySem.W.keepIn X.K (.ref f) = true)
    (ha : PA X (e :: es) t) (hg : Gl X x := by rfl) (hdb : (x == ("__debug__" : Str)) = false := by decide) (he : starEach (e :: es) X.env = (false, eval e X.env) :: starEach es X.env := by rfl) (hpl : (backTo pos (starEach es X.env)).any (·.1) = false := by rfl) :
    PE X (.Call (.Name x q) (e :: es) [] pos) (tCl sp E t) := by
  refine ⟨fun pins s σ H Q I h => ?_⟩
  refine wpAny_Call_Name_kw (ld_glob I hg hm.1 ?_ hdb)
  refine PySem.W.callWith_K (h₀ := X.base) I.ok.mod.kin hm.2 (thn (ha.run pos pins s σ H _ I h) fun us sa ⟨vs, Ha, Ia, r, qa⟩ => ⟨Ia.kIn, ?_⟩) he hpl
  have len : us.length = ps.length := by
    rw [← r.length]
    exact hl _ _ _ _ qa
  obtain ⟨c1, c2, c3, c4, c5⟩ := Ia.pin p (List.mem_append_left _ h2)
  have pin : PinOk X.stack Ha sa p := ⟨c1, c2, fun z => (List.mem_cons.mp (Ia.stkSub p.1 z)).elim c3 c4, c5⟩
  refine wpAny_call (codeAny_mono (F X.A X.stack sa Ha ⟨us, []⟩ us vs Q E hr h1 pin Ia.env0 (hb sa us len) r qa) fun z sb hq => ?_)
  cases z with
  | error e => exact hq.elim
  | ok fl =>
    cases fl with
    | ret u => exact Ia.after hq
    | next => exact hq.elim
    | brk => exact hq.elim
    | cont => exact hq.elim
/-- o.m(..) within a try, what it lets out told at the slots -/
def tMeS (C : Addr) (m : Str) (sp : Sp) (E : L2.St → XK) (ta : TE) (t : TA) : TE := fun σ H Q => ta σ H fun x H1 => ∃ a dx fs, x = .ref a ∧ H1 a = some (.ins C dx fs) ∧ fs.lookup m = none ∧ t σ H1 fun vs H2 => sp (x :: vs) H2 Q (E σ)
theorem meS {X : Cx} {k : Nat} {f C : Addr} {sp : Sp} {E : L2.St → XK} {m : Str} {pos apos : Pos} {e o : Expr} {es : List Expr} {ta : TE} {t : TA} {pl : Sem Bool} (he : PE X o ta) (c : Cls X.K C) (hm : Meth X.K C m f) (F : FR X.prog X.w X.K X.mg X.base k f sp) (hr : Room k X.A) (hx : ∀ σ, PassesAt (L2N.CX X.prog X.w) X σ (E σ)) (ha : PA X (e :: es) t)
    (hst : starEach (e :: es) X.env = (false, eval e X.env) :: starEach es X.env := by rfl) (hpl : (backTo pos (starEach es X.env)).any (·.1) = false := by rfl)
    (ht : eval (.Call (.Attribute o m apos) (e :: es) [] pos) X.env = (do
      let ov ← eval o X.env
      standAt apos.atName
      let (f, first) ← holding [ov] (getMethod ov m pl)
      callWith pos f first (backTo pos (starEach (e :: es) X.env)) (backToKw pos (keywordEach [] X.env))) := by rfl) : PE X (.Call (.Attribute o m apos) (e :: es) [] pos) (tMeS C m sp E ta t) := by
  refine ⟨fun pins s σ H Q I h => ?_⟩
  refine PySem.W.methodCall_KW (pl := pl) (thn (he.run pins s σ H _ I h) fun u sa ⟨x, Ha, Ia, rx, a, dx, fs, ex, ea, l, q⟩ => ?_) ht
  subst ex
  cases rx
  refine getmeth_ok Ia ea c hm l ?_
  refine PySem.W.callWith_K (first := [.ref a]) (h₀ := X.base) I.ok.mod.kin hm.kp (thn (ha.run pos pins sa σ Ha _ Ia q) fun us sb ⟨vs, Hb, Ib, r, qb⟩ => ⟨Ib.kIn, ?_⟩) hst hpl
  refine wpAny_call (codeAny_mono (F X.A X.stack sb Hb (.ref a :: us) (.ref a :: vs) Q (E σ) hr Ib.env0 (.cons rfl r) qb) fun z sc hq => ?_)
  cases z with
  | error e => exact hx σ pins Hb sb e sc Ib hq
  | ok fl =>
    cases fl with
    | ret u => exact Ib.after hq
    | next => exact hq.elim
    | brk => exact hq.elim
    | cont => exact hq.elim
theorem nmX {X : Cx} {x : Str} {C : Addr} (hm : X.mg x = some (.ref C)) (hg : Gl X x := by rfl) (hdb : (x == ("__debug__" : Str)) = false := by decide) : Names X x (.ref C) := ⟨hg, hdb, .inl hm⟩
end K59

set_option Elab.async false
set_option linter.all false
set_option maxRecDepth 100000
set_option maxHeartbeats 4000000
/-! of which classes a refusal is -/
namespace K59
open PySem PySem.Spec PyProof.Rows L2 HotX L2H Evl He
def Rf.D (K : PySem.W.Frag) : Rf → Addr
  | .noHand => ga K "NoHand"
  | .idle => ga K "Idle"
  | .empty => ga K "Empty"
  | .noCard => ga K "NoCard"
theorem Rf.cls_D (K : PySem.W.Frag) (k : Rf) : k.cls K = .ref (k.D K) := by cases k <;> rfl
def kNames : List Str := ["Barred", "Empty", "Full", "Idle", "NoBooks", "NoCard", "NoHand", "NoHistory", "NoLetter", "NoNet", "NoRow", "NoSaying", "NoTelling", "NoText", "NoThree", "NotSmall", "NotWhole", "TooMany", "Twice", "Unlike"]
def bD (K : PySem.W.Frag) (D : Addr) (c : Str) : Bool := (PySem.W.kitOne K (.ref D) (.ref (ga K c))).getD false
def kPairs (K : PySem.W.Frag) (D : Addr) : List (Str × Bool) := kNames.map fun c => (c, bD K D c)
def kindsL (K : PySem.W.Frag) (D : Addr) : List Str := ((kPairs K D).filter fun e => e.2).map fun e => e.1
theorem rf_ex {w : World} {K : PySem.W.Frag} {mg : Str → Option Value} (T : Txt w K mg) (k : Rf) : excB K (k.D K) = true ∧ kitB K (k.D K) = true := by
  have h := T.exq
  unfold ex at h
  simp only [Bool.and_eq_true] at h
  obtain ⟨_, ⟨⟨h1, h2⟩, h3⟩, h4⟩ := h
  unfold exE at h1 h2 h3 h4
  rw [Bool.and_eq_true] at h1 h2 h3 h4
  cases k with
  | noHand => exact h2
  | idle => exact h1
  | empty => exact h3
  | noCard => exact h4
theorem exc_C {K : PySem.W.Frag} {D : Addr} (h : excB K D = true) : ExcC K D := by
  unfold excB at h
  simp only [Bool.and_eq_true, decide_eq_true_eq] at h
  obtain ⟨a1, a2, a3, a4, a5, a6, a7, a8⟩ := h
  exact ⟨eqO_ok a1, eqO_ok a2, a3, a4, eqO_ok a5, eqO_ok a6, a7, a8⟩
theorem kit_at {K : PySem.W.Frag} {D : Addr} (h : kitB K D = true) {c : Str} (hc : c ∈ xcl) : PySem.W.kitOne K (.ref D) (.ref (ga K c)) = some (bD K D c) := by
  unfold kitB at h
  simp only [Bool.and_eq_true, List.all_eq_true] at h
  have h := h.2.2 c hc
  unfold bD
  cases e : PySem.W.kitOne K (.ref D) (.ref (ga K c)) with
  | none => rw [e] at h; cases h
  | some b => rfl
theorem kit_ve {K : PySem.W.Frag} {D : Addr} (h : kitB K D = true) : PySem.W.kitOne K (.ref D) (.type "ValueError") = some true ∧ PySem.W.kitOne K (.ref D) (.ref (ga K "CrossError")) = some true := by
  unfold kitB at h
  simp only [Bool.and_eq_true, decide_eq_true_eq] at h
  exact ⟨h.1, h.2.1⟩
theorem ed_isE {K : PySem.W.Frag} {σ : K59.St} {H : Hp} {D a C : Addr} {i : Nat} {b : Bool} (hv : σ[i]? = some (some (.ref a))) (hk : PySem.W.kitOne K (.ref D) (.ref C) = some b) : EvD K (tCB (rIsE K D a) (tCons (tVar i) (tCons (tC (.ref C)) tNil))) σ H (.bool b) := fun H1 e Q q =>
  ⟨_, hv, .ref C, .ref C, b, rfl, fun u r => r, hk, q _ H1 (Ex.refl H1) (.bl b)⟩
theorem ed_isV {K : PySem.W.Frag} {σ : K59.St} {H : Hp} {D a : Addr} {i : Nat} {b : Bool} {n : String} (hv : σ[i]? = some (some (.ref a))) (hk : PySem.W.kitOne K (.ref D) (.type n) = some b) : EvD K (tCB (rIsE K D a) (tCons (tVar i) (tCons (tC (.ty n)) tNil))) σ H (.bool b) := fun H1 e Q q =>
  ⟨_, hv, .ty n, .type n, b, rfl, fun u r => r, hk, q _ H1 (Ex.refl H1) (.bl b)⟩
section
variable {P : Program} {w : World} {K : PySem.W.Frag} {mg : Str → Option Value} {base : Heap}
def spKinds (K : PySem.W.Frag) (k : Rf) (a : Addr) : Sp := fun vs H Q _ => vs = [.ref a] ∧ ∀ (q : Addr) (us : List V) (H2 : Hp), H q = none → Ex H H2 → H2 q = some (.lst us) → DpAll K H2 us ((kindsL K (k.D K)).map PyData.str) → Q (.ref q) H2
theorem ii_zipL {σ : K59.St} {H : Hp} {ta tb : TE} {ds es : List PyData} (h : EvD K ta σ H (.list ds)) (h2 : EvD K tb σ H (.list es)) : IsIt K (iZip K (tCons ta (tCons tb tNil))) σ H (zipD ds es) := fun H1 e R r => h H1 e _ fun v H2 e2 hv => h2 H2 (e.trans e2) _ fun v2 H3 e3 hv2 => by
  obtain ⟨a, xs, rfl, hs, ha⟩ := dp_lst (dp_ex e3 _ hv)
  obtain ⟨b, ys, rfl, hs2, hb⟩ := dp_lst hv2
  refine ⟨a, b, xs, ys, rfl, hs, hs2, r _ H3 (fun H' => (∃ xs, SqL K H' a xs ∧ DpAll K H' xs ds) ∧ ∃ ys, SqL K H' b ys ∧ DpAll K H' ys es) (e2.trans e3) (fun H' e' => ⟨⟨xs, ex_l e' hs, da_ex e' _ ha⟩, ys, ex_l e' hs2, da_ex e' _ hb⟩) ?_⟩
  rintro i H' ⟨⟨xs, hs, ha⟩, ys, hs2, hb⟩
  refine ⟨fun d hd => ?_, fun hl => ⟨xs, ys, hs, hs2, by rw [da_len ha, da_len hb]; exact zip_end hl⟩⟩
  obtain ⟨d1, d2, e1, e2, rfl⟩ := zip_fit hd
  obtain ⟨v, h1, h2⟩ := da_at ha e1
  obtain ⟨w, h3, h4⟩ := da_at hb e2
  refine ⟨⟨xs, ys, v, w, hs, hs2, h1, h3⟩, fun x H'' y => ?_⟩
  obtain ⟨T, x, y, rfl, hT, rfl, hx, hy⟩ := y
  have q1 := hx xs hs
  have q2 := hy ys hs2
  rw [h1] at q1
  rw [h3] at q2
  cases q1; cases q2
  exact ⟨Ex.new hT, .tup (.inl (.inl upd_same)) (.cons (dp_ex (Ex.new hT) _ h2) (.cons (dp_ex (Ex.new hT) _ h4) .nil))⟩
theorem kindsL_D (K : PySem.W.Frag) (D : Addr) : (((kPairs K D).filter fun e => e.2).map fun e => PyData.str e.1) = (kindsL K D).map PyData.str := by
  unfold kindsL
  generalize (kPairs K D).filter (fun e => e.2) = xs
  rw [List.map_map]
  exact List.map_congr_left fun _ _ => rfl
theorem st_eq {tz : L2.TS} {D : Ends} {σ σ' : K59.St} {H : Hp} (h : σ' = σ) (k : tz D σ' H) : tz D σ H := h ▸ k
theorem zip_map2 {f g : Str → PyData} : ∀ xs : List Str, zipD (xs.map f) (xs.map g) = xs.map fun c => .tuple [f c, g c]
  | [] => rfl
  | x :: xs => congrArg (PyData.tuple [f x, g x] :: ·) (zip_map2 xs)
theorem q_catV {K : PySem.W.Frag} {σ : K59.St} {H : Hp} {tb : TE} {D : Ends} {tz : L2.TS} {i : Nat} {p : Addr} {us : List V} {ds es : List PyData} (hv : σ[i]? = some (some (.ref p))) (hp : H p = some (.lst us)) (hd : DpAll K H us ds) (hb : EvN K tb σ H es) (hz : ds.length + es.length ≤ 90000)
    (k : ∀ q ws H1, H q = none → Ex H H1 → H1 q = some (.lst ws) → DpAll K H1 ws (ds ++ es) → tz D (σ.set i (some (.ref q))) H1) : tSeq (tAsg (tOp rCat (tVar i) tb) (gName i)) tz D σ H :=
  ⟨_, hv, hb H (Ex.refl H) _ fun p2 ws H3 hp2 e3 h3 hw => ⟨p, p2, us, ws, rfl, rfl, e3 _ _ hp, h3, sz_of (by rw [da_len hd, da_len hw]; omega), fun p3 hp3 => k p3 _ _ (fresh_back e3 hp3) (e3.trans (Ex.new hp3)) upd_same (da_ex (Ex.new hp3) _ (da_app (da_ex e3 _ hd) hw))⟩⟩
theorem ok_law_kinds (T : Txt w K mg) {k : Rf} {a : Addr} {oe : Obj} (zn : L2N.Zn (k.cls K) none oe) (hf : ∃ vs, oe.data = .fields vs) : ∃ fd, Bd ["_law_caught"] fd ∧ FnP P w K mg base 1 (ga K "_law_kinds") fd ["_law_caught"] (spKinds K k a) (a, oe) := by
  obtain ⟨fd, F⟩ := T.f__law_kinds
  refine ⟨fd, fun s us hl => FunD.bindsA F (fun _ _ _ _ _ _ us hl => match us, hl with | [_], _ => rfl) s us hl, ?_⟩
  obtain ⟨oc, od, dV, kV, doc, pm, an, cdv, ct, osl, rfl, lk, hcd, _, _⟩ := F.ex
  refine fn_ofP lk hcd sc__law_kinds (fun vs H Q E h => by obtain ⟨rfl, _⟩ := h; rfl) fun A0 outer s0 H vs Q E h1 hr h => ?_
  obtain ⟨rfl, kk⟩ := h
  have hz : Zc (.ref (k.D K)) none oe := by
    rw [← Rf.cls_D]
    exact zn.zc
  obtain ⟨hx, hk⟩ := rf_ex T k
  have hC : ExcC K (k.D K) := exc_C hx
  have hm : (a, oe) ∈ [(a, oe)] := List.mem_singleton.mpr rfl
  have hot : HotC (cxH CX0 P w K mg base N__law_kinds "_law_kinds" (defScope s__law_kinds) (ga K "_law_kinds") cdv A0 outer s0 H E (a, oe)).nox := ⟨(a, oe), h1, hm⟩
  generalize hD : k.D K = D at hz hC hk kk
  have hb : ∀ c, c ∈ xcl → PySem.W.kitOne K (.ref D) (.ref (ga K c)) = some (bD K D c) := fun c hc => kit_at hk hc
  obtain ⟨hve, hce⟩ := kit_ve hk
  refine ⟨_, PSs.nox (pss_cons (ps_set (i := 1) sc__law_kinds.nd rfl (Or.inl rfl) (pe_lst (pa_cons (pe_callB (call_isP hC hz hf hm) (by rfl) T.b_isinstance bt_isinstance (pa_cons (pv 0) (pa_cons (pe_glob (v := .ref (ga K "Barred")) rfl T.c_Barred rfl) pa_nil))) (pa_cons (pe_callB (call_isP hC hz hf hm) (by rfl) T.b_isinstance bt_isinstance (pa_cons (pv 0) (pa_cons (pe_glob (v := .ref (ga K "Empty")) rfl T.c_Empty rfl) pa_nil))) (pa_cons (pe_callB (call_isP hC hz hf hm) (by rfl) T.b_isinstance bt_isinstance (pa_cons (pv 0) (pa_cons (pe_glob (v := .ref (ga K "Full")) rfl T.c_Full rfl) pa_nil))) pa_nil)))))
      (pss_cons (ps_set (i := 1) sc__law_kinds.nd rfl (Or.inl rfl) (pe_op op_cat (pv 1) (pe_lst (pa_cons (pe_callB (call_isP hC hz hf hm) (by rfl) T.b_isinstance bt_isinstance (pa_cons (pv 0) (pa_cons (pe_glob (v := .ref (ga K "Idle")) rfl T.c_Idle rfl) pa_nil))) (pa_cons (pe_callB (call_isP hC hz hf hm) (by rfl) T.b_isinstance bt_isinstance (pa_cons (pv 0) (pa_cons (pe_glob (v := .ref (ga K "NoBooks")) rfl T.c_NoBooks rfl) pa_nil))) (pa_cons (pe_callB (call_isP hC hz hf hm) (by rfl) T.b_isinstance bt_isinstance (pa_cons (pv 0) (pa_cons (pe_glob (v := .ref (ga K "NoCard")) rfl T.c_NoCard rfl) pa_nil))) pa_nil))))))
      (pss_cons (ps_set (i := 1) sc__law_kinds.nd rfl (Or.inl rfl) (pe_op op_cat (pv 1) (pe_lst (pa_cons (pe_callB (call_isP hC hz hf hm) (by rfl) T.b_isinstance bt_isinstance (pa_cons (pv 0) (pa_cons (pe_glob (v := .ref (ga K "NoHand")) rfl T.c_NoHand rfl) pa_nil))) (pa_cons (pe_callB (call_isP hC hz hf hm) (by rfl) T.b_isinstance bt_isinstance (pa_cons (pv 0) (pa_cons (pe_glob (v := .ref (ga K "NoHistory")) rfl T.c_NoHistory rfl) pa_nil))) (pa_cons (pe_callB (call_isP hC hz hf hm) (by rfl) T.b_isinstance bt_isinstance (pa_cons (pv 0) (pa_cons (pe_glob (v := .ref (ga K "NoLetter")) rfl T.c_NoLetter rfl) pa_nil))) pa_nil))))))
      (pss_cons (ps_set (i := 1) sc__law_kinds.nd rfl (Or.inl rfl) (pe_op op_cat (pv 1) (pe_lst (pa_cons (pe_callB (call_isP hC hz hf hm) (by rfl) T.b_isinstance bt_isinstance (pa_cons (pv 0) (pa_cons (pe_glob (v := .ref (ga K "NoNet")) rfl T.c_NoNet rfl) pa_nil))) (pa_cons (pe_callB (call_isP hC hz hf hm) (by rfl) T.b_isinstance bt_isinstance (pa_cons (pv 0) (pa_cons (pe_glob (v := .ref (ga K "NoRow")) rfl T.c_NoRow rfl) pa_nil))) (pa_cons (pe_callB (call_isP hC hz hf hm) (by rfl) T.b_isinstance bt_isinstance (pa_cons (pv 0) (pa_cons (pe_glob (v := .ref (ga K "NoSaying")) rfl T.c_NoSaying rfl) pa_nil))) pa_nil))))))
      (pss_cons (ps_set (i := 1) sc__law_kinds.nd rfl (Or.inl rfl) (pe_op op_cat (pv 1) (pe_lst (pa_cons (pe_callB (call_isP hC hz hf hm) (by rfl) T.b_isinstance bt_isinstance (pa_cons (pv 0) (pa_cons (pe_glob (v := .ref (ga K "NoTelling")) rfl T.c_NoTelling rfl) pa_nil))) (pa_cons (pe_callB (call_isP hC hz hf hm) (by rfl) T.b_isinstance bt_isinstance (pa_cons (pv 0) (pa_cons (pe_glob (v := .ref (ga K "NoText")) rfl T.c_NoText rfl) pa_nil))) (pa_cons (pe_callB (call_isP hC hz hf hm) (by rfl) T.b_isinstance bt_isinstance (pa_cons (pv 0) (pa_cons (pe_glob (v := .ref (ga K "NoThree")) rfl T.c_NoThree rfl) pa_nil))) pa_nil))))))
      (pss_cons (ps_set (i := 1) sc__law_kinds.nd rfl (Or.inl rfl) (pe_op op_cat (pv 1) (pe_lst (pa_cons (pe_callB (call_isP hC hz hf hm) (by rfl) T.b_isinstance bt_isinstance (pa_cons (pv 0) (pa_cons (pe_glob (v := .ref (ga K "NotSmall")) rfl T.c_NotSmall rfl) pa_nil))) (pa_cons (pe_callB (call_isP hC hz hf hm) (by rfl) T.b_isinstance bt_isinstance (pa_cons (pv 0) (pa_cons (pe_glob (v := .ref (ga K "NotWhole")) rfl T.c_NotWhole rfl) pa_nil))) (pa_cons (pe_callB (call_isP hC hz hf hm) (by rfl) T.b_isinstance bt_isinstance (pa_cons (pv 0) (pa_cons (pe_glob (v := .ref (ga K "TooMany")) rfl T.c_TooMany rfl) pa_nil))) pa_nil))))))
      (pss_cons (ps_set (i := 1) sc__law_kinds.nd rfl (Or.inl rfl) (pe_op op_cat (pv 1) (pe_lst (pa_cons (pe_callB (call_isP hC hz hf hm) (by rfl) T.b_isinstance bt_isinstance (pa_cons (pv 0) (pa_cons (pe_glob (v := .ref (ga K "Twice")) rfl T.c_Twice rfl) pa_nil))) (pa_cons (pe_callB (call_isP hC hz hf hm) (by rfl) T.b_isinstance bt_isinstance (pa_cons (pv 0) (pa_cons (pe_glob (v := .ref (ga K "Unlike")) rfl T.c_Unlike rfl) pa_nil))) pa_nil)))))
      (pss_cons (ps_set (i := 2) sc__law_kinds.nd rfl (Or.inl rfl) (pe_lst (pa_cons pe_str (pa_cons pe_str (pa_cons pe_str (pa_cons pe_str (pa_cons pe_str (pa_cons pe_str (pa_cons pe_str (pa_cons pe_str (pa_cons pe_str (pa_cons pe_str pa_nil))))))))))))
      (pss_cons (ps_set (i := 2) sc__law_kinds.nd rfl (Or.inl rfl) (pe_op op_cat (pv 2) (pe_lst (pa_cons pe_str (pa_cons pe_str (pa_cons pe_str (pa_cons pe_str (pa_cons pe_str (pa_cons pe_str (pa_cons pe_str (pa_cons pe_str pa_nil)))))))))))
      (pss_cons (ps_set (i := 2) sc__law_kinds.nd rfl (Or.inl rfl) (pe_op op_cat (pv 2) (pe_lst (pa_cons pe_str (pa_cons pe_str pa_nil)))))
      (pss_cons (ps_setLcH (i := 3) (own := [("_law_name", 4), ("_law_kind", 5)]) (g := (gTup K 2 (gCons (gName 4) (gCons (gName 5) gNil))))  hot sc__law_kinds.nd rfl rfl (sw_true rfl rfl rfl (by decide +kernel)) (pi_zipH (by rfl) T.b_zip (pa_cons (pv 2) (pa_cons (pv 1) pa_nil))) (blkOk_by (own := [("_law_name", 4), ("_law_kind", 5)]) (N := N__law_kinds) (sc := defScope s__law_kinds) (by decide +kernel)) (fun _ _ _ _ _ => (pg_tupH (blkH_hot hot) (pgs_cons (pg_name (i := 4) sc__law_kinds.nd rfl (Or.inl rfl)) (pgs_cons (pg_name (i := 5) sc__law_kinds.nd rfl (Or.inl rfl)) pgs_nil)))) (fun _ _ _ _ _ => (pts_one (pt_val (pv 5)))) (fun _ _ _ _ _ => (pv 4)))
      (pss_cons (ps_if (PW.pt (pw_or (pt_not (pt_val (pe_callB (call_isP hC hz hf hm) (by rfl) T.b_isinstance bt_isinstance (pa_cons (pv 0) (pa_cons (pe_glob (v := .ref (ga K "CrossError")) rfl T.c_CrossError rfl) pa_nil))))) (pw_or1 (pt_not (pt_val (pe_callB (call_isP hC hz hf hm) (by rfl) T.b_isinstance bt_isinstance (pa_cons (pv 0) (pa_cons (pe_bltn (v := .ty "ValueError") (by rfl) T.b_ValueError bt_ValueError rfl) pa_nil)))))))) (pss_one (ps_expr (pe_bm PySem.F.plainAttrs_list PySem.F.slot_list_append PySem.F.type_list_append mt_append (pv 3) (pa_cons pe_str pa_nil)))) pss_nil)
      (pss_one (ps_ret (pv 3))))))))))))))), ?_⟩
  have B : ∀ (σ : K59.St) (H1 : Hp) (c : Str), c ∈ xcl → σ[0]? = some (some (.ref a)) → EvD K (tCB (rIsE K D a) (tCons (tVar 0) (tCons (tC (.ref (ga K c))) tNil))) σ H1 (.bool (bD K D c)) := fun σ H1 c hc hσ => ed_isE hσ (hb c hc)
  refine q_asgN (K := K) (en_lst (es_cons (B _ _ "Barred" (by decide) rfl) (es_cons (B _ _ "Empty" (by decide) rfl) (es_cons (B _ _ "Full" (by decide) rfl) es_nil))) (Nat.le_of_ble_eq_true rfl)) fun p1 u1 H1 _ e1 h1 d1 => ?_
  refine q_catV (K := K) rfl h1 d1 (en_lst (es_cons (B _ _ "Idle" (by decide) rfl) (es_cons (B _ _ "NoBooks" (by decide) rfl) (es_cons (B _ _ "NoCard" (by decide) rfl) es_nil))) (Nat.le_of_ble_eq_true rfl)) (Nat.le_of_ble_eq_true rfl) fun p2 u2 H2 _ e2 h2 d2 => ?_
  refine st_eq (σ' := [some (.ref a), some (.ref p2), none, none, none, none]) rfl ?_
  refine q_catV (K := K) rfl h2 d2 (en_lst (es_cons (B _ _ "NoHand" (by decide) rfl) (es_cons (B _ _ "NoHistory" (by decide) rfl) (es_cons (B _ _ "NoLetter" (by decide) rfl) es_nil))) (Nat.le_of_ble_eq_true rfl)) (Nat.le_of_ble_eq_true rfl) fun p3 u3 H3 _ e3 h3 d3 => ?_
  refine st_eq (σ' := [some (.ref a), some (.ref p3), none, none, none, none]) rfl ?_
  refine q_catV (K := K) rfl h3 d3 (en_lst (es_cons (B _ _ "NoNet" (by decide) rfl) (es_cons (B _ _ "NoRow" (by decide) rfl) (es_cons (B _ _ "NoSaying" (by decide) rfl) es_nil))) (Nat.le_of_ble_eq_true rfl)) (Nat.le_of_ble_eq_true rfl) fun p4 u4 H4 _ e4 h4 d4 => ?_
  refine st_eq (σ' := [some (.ref a), some (.ref p4), none, none, none, none]) rfl ?_
  refine q_catV (K := K) rfl h4 d4 (en_lst (es_cons (B _ _ "NoTelling" (by decide) rfl) (es_cons (B _ _ "NoText" (by decide) rfl) (es_cons (B _ _ "NoThree" (by decide) rfl) es_nil))) (Nat.le_of_ble_eq_true rfl)) (Nat.le_of_ble_eq_true rfl) fun p5 u5 H5 _ e5 h5 d5 => ?_
  refine st_eq (σ' := [some (.ref a), some (.ref p5), none, none, none, none]) rfl ?_
  refine q_catV (K := K) rfl h5 d5 (en_lst (es_cons (B _ _ "NotSmall" (by decide) rfl) (es_cons (B _ _ "NotWhole" (by decide) rfl) (es_cons (B _ _ "TooMany" (by decide) rfl) es_nil))) (Nat.le_of_ble_eq_true rfl)) (Nat.le_of_ble_eq_true rfl) fun p6 u6 H6 _ e6 h6 d6 => ?_
  refine st_eq (σ' := [some (.ref a), some (.ref p6), none, none, none, none]) rfl ?_
  refine q_catV (K := K) rfl h6 d6 (en_lst (es_cons (B _ _ "Twice" (by decide) rfl) (es_cons (B _ _ "Unlike" (by decide) rfl) es_nil)) (Nat.le_of_ble_eq_true rfl)) (Nat.le_of_ble_eq_true rfl) fun p7 u7 H7 _ e7 h7 d7 => ?_
  refine st_eq (σ' := [some (.ref a), some (.ref p7), none, none, none, none]) rfl ?_
  refine q_asgN (K := K) (en_lst (es_cons ed_s (es_cons ed_s (es_cons ed_s (es_cons ed_s (es_cons ed_s (es_cons ed_s (es_cons ed_s (es_cons ed_s (es_cons ed_s (es_cons ed_s es_nil)))))))))) (Nat.le_of_ble_eq_true rfl)) fun r1 w1 H8 _ e8 g1 f1 => ?_
  refine st_eq (σ' := [some (.ref a), some (.ref p7), some (.ref r1), none, none, none]) rfl ?_
  refine q_catV (K := K) rfl g1 f1 (en_lst (es_cons ed_s (es_cons ed_s (es_cons ed_s (es_cons ed_s (es_cons ed_s (es_cons ed_s (es_cons ed_s (es_cons ed_s es_nil)))))))) (Nat.le_of_ble_eq_true rfl)) (Nat.le_of_ble_eq_true rfl) fun r2 w2 H9 _ e9 g2 f2 => ?_
  refine st_eq (σ' := [some (.ref a), some (.ref p7), some (.ref r2), none, none, none]) rfl ?_
  refine q_catV (K := K) rfl g2 f2 (en_lst (es_cons ed_s (es_cons ed_s es_nil)) (Nat.le_of_ble_eq_true rfl)) (Nat.le_of_ble_eq_true rfl) fun r3 w3 H10 _ e10 g3 f3 => ?_
  refine st_eq (σ' := [some (.ref a), some (.ref p7), some (.ref r3), none, none, none]) rfl ?_
  have e810 := (e8.trans e9).trans e10
  have hkd : Dp K H10 (.ref p7) (.list (kNames.map fun c => .bool (bD K D c))) := .lst (.inl (.inl (e810 _ _ h7))) (da_ex e810 _ d7)
  have hnd : Dp K H10 (.ref r3) (.list (kNames.map PyData.str)) := .lst (.inl (.inl g3)) f3
  have hii : ∀ σ : K59.St, σ[2]? = some (some (.ref r3)) → σ[1]? = some (some (.ref p7)) → IsIt K (iZip K (tCons (tVar 2) (tCons (tVar 1) tNil))) σ H10 ((kPairs K D).map fun e : Str × Bool => .tuple [.str e.1, .bool e.2]) := fun σ x1 x2 => by
    have h := ii_zipL (ds := kNames.map PyData.str) (es := kNames.map fun c => .bool (bD K D c)) (ed_var x1 hnd) (ed_var x2 hkd)
    rw [zip_map2] at h
    rw [kPairs, List.map_map]
    exact h
  have hle : (kPairs K D).length ≤ 90000 := by
    rw [kPairs, List.length_map]
    exact Nat.le_of_ble_eq_true rfl
  refine q_asgN (K := K) (ds := (kindsL K D).map PyData.str) (en_to (en_lcA (t := tTest (tVar 5)) (te := tVar 4) (vs := [4, 5]) (g := gTup K 2 (gCons (gName 4) (gCons (gName 5) gNil))) (wi := iZip K (tCons (tVar 2) (tCons (tVar 1) tNil))) (fun e : Str × Bool => .tuple [.str e.1, .bool e.2]) (xs := kPairs K D) (fun e => e.2) (fun e => .str e.1)
    (hii _ rfl rfl) hle (fun _ _ => rfl) fun e he => tn2 (fun _ _ => rfl) fun v1 v2 M eM hv1 hv2 => ⟨et_d (ed_var rfl hv2), fun _ => ed_var rfl hv1⟩) (kindsL_D K D)) fun q us M hq eM hM dM => ?_
  refine q_when (b := false) (et_to (et_or (et_not (et_d (ed_isE (K := K) (b := true) rfl hce))) fun _ => et_not (et_d (ed_isV (K := K) (b := true) rfl hve))) rfl) (fun z => by cases z) fun _ M2 eM2 => ?_
  have eA := ((((((e1.trans e2).trans e3).trans e4).trans e5).trans e6).trans e7)
  have eB := (eA.trans e810).trans eM
  exact ⟨_, rfl, kk q us M2 (fresh_back (eA.trans e810) hq) (eB.trans eM2) (eM2 _ _ hM) (da_ex eM2 _ dM)⟩
/-- the call within the suite, by the class that was caught -/
def tKd (K : PySem.W.Frag) (a : Addr) (cls : Value) (d : Option Addr) (ta : TA) : TE := fun σ H Q => ∃ k : Rf, cls = k.cls K ∧ d = none ∧ ta σ H fun vs H1 => spKinds K k a vs H1 Q E0
theorem pe_kinds {X : Cx} {a : Addr} {oe : Obj} {cls : Value} {d : Option Addr} {pn : List (Addr × Obj)} {j : Nat} {e : Expr} {es : List Expr} {ta : TA} {q pos : Pos} (T : Txt X.w X.K X.mg) (zn : L2N.Zn cls d oe) (hf : ∃ vs, oe.data = .fields vs) (hr : Room (j + 1) X.A)
    (hm : X.mg "_law_kinds" = some (.ref (ga X.K "_law_kinds")) ∧ PySem.W.keepIn X.K (.ref (ga X.K "_law_kinds")) = true) (ha : PA (X.suite a ((a, oe) :: pn)) (e :: es) ta) (hg : Gl (X.suite a ((a, oe) :: pn)) "_law_kinds" := by rfl)
    (he : starEach (e :: es) X.env = (false, eval e X.env) :: starEach es X.env := by rfl) (hpl : (backTo pos (starEach es X.env)).any (·.1) = false := by rfl) : PE (X.suite a ((a, oe) :: pn)) (.Call (.Name "_law_kinds" q) (e :: es) [] pos) (tKd X.K a cls d ta) := by
  refine ⟨fun pins s σ H Q I h => ?_⟩
  obtain ⟨k, rfl, rfl, h⟩ := h
  obtain ⟨fd, hb, F⟩ := ok_law_kinds (P := X.prog) (w := X.w) (K := X.K) (mg := X.mg) (base := X.base) T zn hf
  have hr1 : Room 1 X.A := hr.mono (by omega)
  have rr : RoomH 1 (X.suite a ((a, oe) :: pn)).A := ⟨(roomH_of hr1).dp, (roomH_of hr1).un⟩
  obtain ⟨vs, hv⟩ := hf
  exact (pe_callP (X := X.suite a ((a, oe) :: pn)) F hb (fun vs H Q E h => by obtain ⟨rfl, _⟩ := h; rfl) rr ⟨rfl, vs, hv, zn.2.2 vs hv⟩ List.mem_cons_self hm ha hg (by decide) he hpl).run pins s σ H Q I h
end
end K59

set_option Elab.async false
set_option linter.all false
set_option maxRecDepth 100000
set_option maxHeartbeats 4000000
/-! an answer, or the classes of a refusal: by a desk, and by a net beside it -/
namespace K59
open PySem PySem.Spec PyProof.Rows L2 HotX L2H Evl He
def refT (K : PySem.W.Frag) (k : Rf) : Str := "!" ++ Txt.join " " (kindsL K (k.D K))
def OutS (K : PySem.W.Frag) (A : Cl → Addr) (s : NS) (r : Rf ⊕ NS) (H : Hp) (Q : VK) : Prop := match r with
  | .inl k => ∀ H2, Ex H H2 → Q (.str (refT K k)) H2
  | .inr s' => ∀ (A' : Cl → Addr) H2, (∀ cl, Live s.n cl → A' cl = A cl) → (∀ cl, Live s'.n cl → ¬ Live s.n cl → H (A' cl) = none) → Kp (Foot A s.n) H H2 → NetAt K H2 A' s' → Q (.str "ok") H2
theorem kNames_len : ∀ c ∈ kNames, c.length ≤ 9 := by decide
theorem kinds_sum (K : PySem.W.Frag) (D : Addr) : ((kindsL K D).map (·.length)).sum + (kindsL K D).length * (" " : Str).length ≤ 16777216 := by
  have hm : ∀ c ∈ kindsL K D, c.length ≤ 9 := fun c hc => by
    obtain ⟨e, he, rfl⟩ := List.mem_map.mp hc
    obtain ⟨c, h, rfl⟩ := List.mem_map.mp (List.mem_filter.mp he).1
    exact kNames_len c h
  have hl : (kindsL K D).length ≤ 20 := by
    unfold kindsL
    rw [List.length_map]
    refine Nat.le_trans (List.length_filter_le _ _) ?_
    unfold kPairs
    rw [List.length_map]
    exact Nat.le_refl _
  have h1 : (" " : Str).length = 1 := rfl
  have g : ∀ xs : List Str, (∀ c ∈ xs, c.length ≤ 9) → (xs.map (·.length)).sum ≤ 9 * xs.length := by
    intro xs
    induction xs with
    | nil => exact fun _ => Nat.le_refl _
    | cons x xs ih =>
      intro h
      have h1 := ih fun c hc => h c (List.mem_cons_of_mem _ hc)
      have h2 := h x List.mem_cons_self
      rw [List.map_cons, List.sum_cons, List.length_cons]
      omega
  have h2 := g _ hm
  rw [h1]
  refine Nat.le_trans (Nat.add_le_add h2 (Nat.le_refl _)) ?_
  omega
theorem kinds_len (K : PySem.W.Frag) (D : Addr) : (Txt.join " " (kindsL K D)).length ≤ 1000 := by
  have hm : ∀ c ∈ kindsL K D, c.length ≤ 9 := fun c hc => by
    obtain ⟨e, he, rfl⟩ := List.mem_map.mp hc
    obtain ⟨c, h, rfl⟩ := List.mem_map.mp (List.mem_filter.mp he).1
    exact kNames_len c h
  have hl : (kindsL K D).length ≤ 20 := by
    unfold kindsL
    rw [List.length_map]
    refine Nat.le_trans (List.length_filter_le _ _) ?_
    unfold kPairs
    rw [List.length_map]
    exact Nat.le_refl _
  have h1 : (" " : Str).length = 1 := rfl
  have h := join_len (g := " ") hm
  rw [h1] at h
  omega
theorem exm_D {w : World} {K : PySem.W.Frag} {mg : Str → Option Value} (T : Txt w K mg) (k : Rf) : PySem.W.exmOne K (k.cls K) (.ref (ga K "CrossError")) = some true := by
  cases k with
  | noHand => exact T.e_NoHand
  | idle => exact T.e_Idle
  | empty => exact T.e_Empty
  | noCard => exact T.e_NoCard
/-- the suite's answer -/
theorem kd_ret {K : PySem.W.Frag} {σ : K59.St} {H : Hp} {a : Addr} {i : Nat} {k : Rf} {D : Ends} (hv : σ[i]? = some (some (.ref a))) (h : ∀ H2, Ex H H2 → D.rt (.str (refT K k)) H2) :
    tRet (tOp (fun x y H Q => ∃ i j, x = V.str i ∧ y = V.str j ∧ i.length + j.length ≤ sizeLine ∧ Q (V.str (i ++ j)) H) (tC (.str "!")) (tM1 (rJoin K) (tC (.str " ")) (tKd K a (k.cls K) none (tCons (tVar i) tNil)))) D σ H := by
  have hkd : EvD K (tKd K a (k.cls K) none (tCons (tVar i) tNil)) σ H (.list ((kindsL K (k.D K)).map PyData.str)) := fun H1 e Q q =>
    ⟨k, rfl, rfl, _, hv, rfl, fun p us H2 hp e2 h2 hd => q _ H2 e2 (.lst (.inl (.inl h2)) hd)⟩
  exact s_retD (K := K) (ed_op ed_s (ed_join (K := K) ed_s hkd (kinds_sum K _)) (rd_addS (by
    have h1 := kinds_len K (k.D K)
    have h2 : ("!" : Str).length = 1 := rfl
    omega))) fun v H2 e2 hv => by
    cases hv
    exact h H2 e2
section
variable {P : Program} {w : World} {K : PySem.W.Frag} {mg : Str → Option Value} {base : Heap}
theorem tk_none {X : Cx} : L2N.Takes X (fun _ _ _ _ => False) := fun u s' h => by
  obtain ⟨_, _, _, _, _, _, _, _, _, _, _, _, _, _, _, _, w⟩ := h
  exact w.elim
def spSaid (K : PySem.W.Frag) : Sp := fun vs H Q _ => ∃ (d dx : Addr) (A : Cl → Addr) (s : NS) (wd : Str) (ns : List Int), vs = [.ref d, .str (rowT wd ns)] ∧ WordOk wd ns ∧ (∀ n ∈ ns, cardB n = true) ∧ ns.length ≤ 24 ∧ H d = some (.ins (ga K "Desk") dx (deskF (.ref (A .net)))) ∧ NetAt K H A s ∧
  ((∃ g : Deed, wd = g.w ∧ ns = g.ns ∧ DeedOk s ∧ OutS K A s (g.R s) H Q) ∨ (wd = "rest" ∧ ∃ b m s2, RestN b s m s2 ∧ m ≤ 999999999 ∧ ∀ H2, Kp (Foot A s.n) H H2 → NetAt K H2 A s2 → Q (.str (numT (m : Int))) H2))
theorem ok_law_said (T : Txt w K mg) : FR P w K mg base 11 (ga K "_law_said") (spSaid K) := by
  have G_Desk_say : FR P w K mg base 9 (ma K (ga K "Desk") "say") (spSay K) := ok_say T
  refine okN T.f__law_said sc__law_said (fun _ _ _ _ _ _ us hl => match us, hl with | [_, _], _ => rfl) (fun vs H Q E h => by obtain ⟨_, _, _, _, _, _, rfl, _⟩ := h; rfl) fun cdv A0 outer s0 H vs Q E hr h => ?_
  obtain ⟨d, dx, A, s, wd, ns, rfl, hw, hc, hn, hd, N, h⟩ := h
  have tk : L2N.Takes (cxOf CX0 P w K mg base N__law_said "_law_said" (defScope s__law_said) (ga K "_law_said") cdv A0 outer s0 H E).nox (fun _ _ _ _ => False) := tk_none
  refine ⟨_, (pss_one (L2N.ps_try_as (i := 2) rfl rfl sc__law_said.nd rfl rfl (nmX T.c_CrossError) tk (fun W pn xe tkW hp => (pss_one (ps_ret (meS (pv 0) T.k_Desk T.m_Desk_say G_Desk_say (hr.mono (by decide)) (fun σ => L2N.passAt tkW σ) (pa_cons (pv 1) pa_nil))))) (fun a oe cls d pn hz hf => (pss_one (ps_ret (pe_op op_add_str pe_str (pe_joinK K rfl pe_str (pe_kinds T hz hf hr T.g__law_kinds (pa_cons (pv 2) pa_nil))))))))), ?_⟩
  refine ⟨_, rfl, d, dx, _, rfl, hd, rfl, ⟨_, rfl, d, dx, wd, ns, .ref (A .net), rfl, hw, hc, hn, hd, .inr ⟨A, s, rfl, N, ?_⟩⟩⟩
  rcases h with ⟨g, e1, e2, D, O⟩ | ⟨e1, b, m, s2, R, hm, k⟩
  · refine .inl ⟨g, e1, e2, D, ?_⟩
    unfold Outc
    unfold OutS at O
    cases hR : g.R s with
    | inl k =>
      rw [hR] at O
      intro H2 e
      exact ⟨true, exm_D T k, fun _ a ha => kd_ret rfl fun H3 e3 => O H3 (e.trans e3), fun z => by cases z⟩
    | inr s' =>
      rw [hR] at O
      exact fun A' H2 a1 a2 a3 a4 => O A' H2 a1 a2 a3 a4
  · exact .inr (.inl ⟨e1, b, m, s2, R, hm, k⟩)
end
end K59

set_option Elab.async false
set_option linter.all false
set_option maxRecDepth 100000
set_option maxHeartbeats 4000000
/-! a row of words done with a net -/
namespace K59
open PySem PySem.Spec PyProof.Rows L2 HotX L2H Evl He
theorem OutS.ex {K : PySem.W.Frag} {A : Cl → Addr} {s : NS} {r : Rf ⊕ NS} {H H' : Hp} {Q : VK} (e : Ex H H') (h : OutS K A s r H Q) : OutS K A s r H' Q := by
  cases r with
  | inl k => exact fun H2 e2 => h H2 (e.trans e2)
  | inr s' => exact fun A' H2 a1 a2 a3 a4 => h A' H2 a1 (fun cl a b => fresh_back e (a2 cl a b)) ((Kp.of e).trans a3) a4
theorem outS_c {K : PySem.W.Frag} {A : Cl → Addr} {s : NS} {r : Rf ⊕ NS} {H : Hp} {Q : VK} {Q1 : Hp → Prop} {E : XK} (h : OutS K A s r H Q) (h1 : ∀ H2, Q (.str "ok") H2 → Q1 H2) (h2 : ∀ k H2, (∀ H3, Ex H2 H3 → Q (.str (refT K k)) H3) → E (k.cls K) none H2) : Outc K A s r H Q1 E := by
  cases r with
  | inl k => exact fun H2 e2 => h2 k H2 fun H3 e3 => h H3 (e2.trans e3)
  | inr s' => exact fun A' H2 a1 a2 a3 a4 => h1 H2 (h A' H2 a1 a2 a3 a4)
theorem tMeS_of {σ : K59.St} {H : Hp} {ta : TE} {t : TA} {C dx a : Addr} {m : Str} {sp : Sp} {E : L2.St → XK} {fs : List (Str × V)} {Q : VK} (ha : Ev ta σ H (.ref a)) (hI : H a = some (.ins C dx fs)) (hm : fs.lookup m = none) (h : ∀ H1, Ex H H1 → t σ H1 fun vs H2 => sp (.ref a :: vs) H2 Q (E σ)) : tMeS C m sp E ta t σ H Q :=
  ha H (Ex.refl H) _ fun H1 e1 => ⟨a, dx, fs, rfl, e1 _ _ hI, hm, h H1 e1⟩
theorem seq_R {σ : K59.St} {H : Hp} {D : Ends} {t tz : L2.TS} (h : t { D with nx := tz D } σ H) : tSeq t tz D σ H := h
section
variable {P : Program} {w : World} {K : PySem.W.Frag} {mg : Str → Option Value} {base : Heap}
def spDone (K : PySem.W.Frag) : Sp := fun vs H Q _ => ∃ (q : Addr) (A : Cl → Addr) (s : NS), vs = [.ref (A .net), .ref q] ∧ NetAt K H A s ∧
  ((∃ g : Deed, H q = some (.lst ((g.w :: g.ns.map numT).map V.str)) ∧ (∀ n ∈ g.ns, cardB n = true) ∧ DeedOk s ∧ OutS K A s (g.R s) H Q) ∨ (H q = some (.lst [.str "rest"]) ∧ ∃ b m s2, RestN b s m s2 ∧ m ≤ 999999999 ∧ ∀ H2, Kp (Foot A s.n) H H2 → NetAt K H2 A s2 → Q (.str (numT (m : Int))) H2))
theorem ok_law_done (T : Txt w K mg) : FR P w K mg base 11 (ga K "_law_done") (spDone K) := by
  have G_Net_go : FR P w K mg base 3 (ma K (ga K "Net") "go") (spNetGo K) := ok_Net_go T
  have G_Net_step : FR P w K mg base 4 (ma K (ga K "Net") "step") (spStep K) := ok_step T
  have G_Net_come : FR P w K mg base 5 (ma K (ga K "Net") "come") (spCome K) := ok_come T
  have G_Net_rest : FR P w K mg base 5 (ma K (ga K "Net") "rest") (spRest K) := ok_rest T
  refine okN T.f__law_done sc__law_done (fun _ _ _ _ _ _ us hl => match us, hl with | [_, _], _ => rfl) (fun vs H Q E h => by obtain ⟨_, _, _, rfl, _⟩ := h; rfl) fun cdv A0 outer s0 H vs Q E hr h => ?_
  obtain ⟨q, A, s, rfl, N, h⟩ := h
  have tk : L2N.Takes (cxOf CX0 P w K mg base N__law_done "_law_done" (defScope s__law_done) (ga K "_law_done") cdv A0 outer s0 H E).nox (fun _ _ _ _ => False) := tk_none
  refine ⟨_, (pss_cons (ps_setLc (i := 2) (own := [("_law_word", 4)]) (g := (gName 4)) (tt := tYes) rfl sc__law_done.nd rfl rfl (sw_true rfl rfl rfl (by decide +kernel)) (pi_list (pe_slice sl_list (pv 1) (po_some pe_int) po_none)) (blkOk_by (own := [("_law_word", 4)]) (N := N__law_done) (sc := defScope s__law_done) (by decide +kernel)) (fun _ _ _ _ _ => (pg_name (i := 4) sc__law_done.nd rfl (Or.inl rfl))) (fun _ _ _ _ _ => pts_nil) (fun _ _ _ _ _ => (pe_callTy call_int_str (by rfl) T.b_int bt_int (pa_cons (pv 4) pa_nil))))
      (pss_cons (L2N.ps_try_as (i := 3) rfl rfl sc__law_done.nd rfl rfl (nmX T.c_CrossError) tk (fun W pn xe tkW hp => (pss_one (ps_if (pt_cmpR op_eq (pe_ix (ixK K rIxL ix_list rfl) (pv 1) pe_int (fun _ _ => rfl)) pe_str (nomark _)) (pss_one (ps_expr (meS (pv 0) T.k_Net T.m_Net_go G_Net_go (hr.mono (by decide)) (fun σ => L2N.passAt tkW σ) (pa_cons (pe_ix (ixK K rIxL ix_list rfl) (pv 2) pe_int (fun _ _ => rfl)) pa_nil)))) (pss_one (ps_if (pt_cmpR op_eq (pe_ix (ixK K rIxL ix_list rfl) (pv 1) pe_int (fun _ _ => rfl)) pe_str (nomark _)) (pss_one (ps_expr (meS (pv 0) T.k_Net T.m_Net_step G_Net_step (hr.mono (by decide)) (fun σ => L2N.passAt tkW σ) (pa_cons (pe_ix (ixK K rIxL ix_list rfl) (pv 2) pe_int (fun _ _ => rfl)) (pa_cons (pe_ix (ixK K rIxL ix_list rfl) (pv 2) pe_int (fun _ _ => rfl)) pa_nil))))) (pss_one (ps_if (pt_cmpR op_eq (pe_ix (ixK K rIxL ix_list rfl) (pv 1) pe_int (fun _ _ => rfl)) pe_str (nomark _)) (pss_one (ps_expr (meS (pv 0) T.k_Net T.m_Net_come G_Net_come (hr.mono (by decide)) (fun σ => L2N.passAt tkW σ) (pa_cons (pe_ix (ixK K rIxL ix_list rfl) (pv 2) pe_int (fun _ _ => rfl)) pa_nil)))) (pss_one (ps_ret (pe_callTy call_str_int (by rfl) T.b_str bt_str (pa_cons (me0 (pv 0) T.k_Net T.m_Net_rest G_Net_rest (hr.mono (by decide)) psN) pa_nil))))))))))) (fun a oe cls d pn hz hf => (pss_one (ps_ret (pe_op op_add_str pe_str (pe_joinK K rfl pe_str (pe_kinds T hz hf hr T.g__law_kinds (pa_cons (pv 3) pa_nil))))))))
      (pss_one (ps_ret pe_str)))), ?_⟩
  rcases h with ⟨g, hq, hc, D, O⟩ | ⟨hq, b, m, s2, R, hm, k⟩
  · have hqd : Dp K H (.ref q) (.list ((g.w :: g.ns.map numT).map PyData.str)) := .lst (.inl (.inl hq)) (strs_da _)
    have hit : IsIt K (iList K (tSl (rSlL K) (tVar 1) (tPart (tC (.int 1))) tNoPart)) (L2.start N__law_done [.ref (A .net), .ref q]) H (g.ns.map fun n => PyData.str (numT n)) := ii_list (en_to (en_sl (K := K) (ed_var rfl hqd) (eo_d (K := K) ed_i) eo_none) ((cutD_from PyData.str (g.w :: g.ns.map numT) 1 rfl).trans (by
      show (g.ns.map numT).map PyData.str = _
      rw [List.map_map] <;> rfl))).toD
    refine q_asgN (K := K) (ds := DI g.ns) (en_mapA (fun n : Int => PyData.str (numT n)) (xs := g.ns) PyData.int hit (by cases g <;> exact Nat.le_of_ble_eq_true rfl) (fun _ _ => rfl)
      fun n hn => tn1 (fun _ => rfl) fun v H1 e1 hv => ⟨et_yes, fun _ => ed_intS (ed_var rfl hv) (hc n hn)⟩) fun p us H1 hp e1 h1 hu => ?_
    have hpd : Dp K H1 (.ref p) (.list (DI g.ns)) := .lst (.inl (.inl h1)) hu
    have hqd1 := dp_ex e1 _ hqd
    have N1 := N.ex e1
    have O1 := OutS.ex e1 O
    have w0 : ∀ (σ : K59.St) H2, Ex H1 H2 → σ[1]? = some (some (.ref q)) → EvD K (tOp (rIxL K) (tVar 1) (tC (.int 0))) σ H2 (.str g.w) := fun σ H2 e2 hσ => ed_op (ed_var hσ (dp_ex e2 _ hqd1)) ed_i (rd_ixL (j := 0) rfl rfl)
    have nx : ∀ (σ : K59.St) (i : Nat) (x : Int) H2, Ex H1 H2 → σ[2]? = some (some (.ref p)) → g.ns[i]? = some x → EvD K (tOp (rIxL K) (tVar 2) (tC (.int (i : Int)))) σ H2 (.int x) := fun σ i x H2 e2 hσ hi => ed_op (ed_var hσ (dp_ex e2 _ hpd)) ed_i (rd_ixL (j := i) rfl (by rw [DI, List.getElem?_map, hi] <;> rfl))
    have sui : ∀ (k : Rf) (H2 : Hp) (D' : Ends), D'.rt = Q → (∀ H3, Ex H2 H3 → Q (.str (refT K k)) H3) → ∀ (σ : K59.St) (a : Addr), σ.length = 5 → H2 a = none → tRet (tOp (fun x y H Q => ∃ i j, x = V.str i ∧ y = V.str j ∧ i.length + j.length ≤ sizeLine ∧ Q (V.str (i ++ j)) H) (tC (.str "!")) (tM1 (rJoin K) (tC (.str " ")) (tKd K a (k.cls K) none (tCons (tVar 3) tNil)))) D' (σ.set 3 (some (.ref a))) H2 := fun k H2 D' e h σ a hl _ => kd_ret (List.getElem?_set_self (by omega)) fun H3 e3 => by rw [e]; exact h H3 e3
    refine seq_R ?_
    cases g with
    | go i =>
      refine s_if (b := true) (et_to (et_db (K := K) (ed_op (w0 _ H1 (Ex.refl H1) rfl) ed_s rd_eqS)) rfl) (fun _ H2 e2 => ?_) (fun z => by cases z)
      obtain ⟨dx, hnet⟩ := (N1.ex e2).net
      refine s_dropR (tMeS_of (ev_var rfl) hnet rfl fun H3 e3 => nx _ 0 i H3 (e2.trans e3) rfl rfl H3 (Ex.refl H3) _ fun v H4 e4 hv => ?_)
      cases hv
      have e14 := (e2.trans e3).trans e4
      unfold tNil
      dsimp only
      refine go_sp (N1.ex e14) D ?_
      exact outS_c (OutS.ex e14 O1) (fun H5 h5 => h5) fun k H5 h5 => ⟨true, exm_D T k, fun _ a ha => sui k H5 _ rfl h5 _ a rfl ha, fun z => by cases z⟩
    | step i j =>
      refine s_if (b := false) (et_to (et_db (K := K) (ed_op (w0 _ H1 (Ex.refl H1) rfl) ed_s rd_eqS)) rfl) (fun z => by cases z) (fun _ H2 e2 => ?_)
      refine s_if (b := true) (et_to (et_db (K := K) (ed_op (w0 _ H2 e2 rfl) ed_s rd_eqS)) rfl) (fun _ H3 e3 => ?_) (fun z => by cases z)
      have e13 := e2.trans e3
      obtain ⟨dx, hnet⟩ := (N1.ex e13).net
      refine s_dropR (tMeS_of (ev_var rfl) hnet rfl fun H4 e4 => nx _ 0 i H4 (e13.trans e4) rfl rfl H4 (Ex.refl H4) _ fun v H5 e5 hv => nx _ 1 j H5 ((e13.trans e4).trans e5) rfl rfl H5 (Ex.refl H5) _ fun v2 H6 e6 hv2 => ?_)
      cases hv
      cases hv2
      have e16 := ((e13.trans e4).trans e5).trans e6
      unfold tNil
      dsimp only
      refine step_sp (N1.ex e16) D ?_
      exact outS_c (OutS.ex e16 O1) (fun H5 h5 => h5) fun k H5 h5 => ⟨true, exm_D T k, fun _ a ha => sui k H5 _ rfl h5 _ a rfl ha, fun z => by cases z⟩
    | come c =>
      refine s_if (b := false) (et_to (et_db (K := K) (ed_op (w0 _ H1 (Ex.refl H1) rfl) ed_s rd_eqS)) rfl) (fun z => by cases z) (fun _ H2 e2 => ?_)
      refine s_if (b := false) (et_to (et_db (K := K) (ed_op (w0 _ H2 e2 rfl) ed_s rd_eqS)) rfl) (fun z => by cases z) (fun _ H3 e3 => ?_)
      have e13 := e2.trans e3
      refine s_if (b := true) (et_to (et_db (K := K) (ed_op (w0 _ H3 e13 rfl) ed_s rd_eqS)) rfl) (fun _ H4 e4 => ?_) (fun z => by cases z)
      have e14 := e13.trans e4
      obtain ⟨dx, hnet⟩ := (N1.ex e14).net
      refine s_dropR (tMeS_of (ev_var rfl) hnet rfl fun H5 e5 => nx _ 0 c H5 (e14.trans e5) rfl rfl H5 (Ex.refl H5) _ fun v H6 e6 hv => ?_)
      cases hv
      have e16 := (e14.trans e5).trans e6
      unfold tNil
      dsimp only
      refine come_sp (N1.ex e16) D ?_
      exact outS_c (OutS.ex e16 O1) (fun H5 h5 => h5) fun k H5 h5 => ⟨true, exm_D T k, fun _ a ha => sui k H5 _ rfl h5 _ a rfl ha, fun z => by cases z⟩
  · have hqd : Dp K H (.ref q) (.list ((["rest"] : List Str).map PyData.str)) := .lst (.inl (.inl hq)) (strs_da ["rest"])
    have hit : IsIt K (iList K (tSl (rSlL K) (tVar 1) (tPart (tC (.int 1))) tNoPart)) (L2.start N__law_done [.ref (A .net), .ref q]) H (([] : List Int).map fun n => PyData.str (numT n)) := ii_list (en_to (en_sl (K := K) (ed_var rfl hqd) (eo_d (K := K) ed_i) eo_none) (cutD_from PyData.str (["rest"] : List Str) 1 rfl)).toD
    refine q_asgN (K := K) (ds := DI []) (en_mapA (fun n : Int => PyData.str (numT n)) (xs := []) PyData.int hit (Nat.le_of_ble_eq_true rfl) (fun _ _ => rfl) fun n hn => by cases hn) fun p us H1 hp e1 h1 hu => ?_
    have hqd1 := dp_ex e1 _ hqd
    have w0 : ∀ (σ : K59.St) H2, Ex H1 H2 → σ[1]? = some (some (.ref q)) → EvD K (tOp (rIxL K) (tVar 1) (tC (.int 0))) σ H2 (.str "rest") := fun σ H2 e2 hσ => ed_op (ed_var hσ (dp_ex e2 _ hqd1)) ed_i (rd_ixL (j := 0) rfl rfl)
    refine seq_R ?_
    refine s_if (b := false) (et_to (et_db (K := K) (ed_op (w0 _ H1 (Ex.refl H1) rfl) ed_s rd_eqS)) rfl) (fun z => by cases z) (fun _ H2 e2 => ?_)
    refine s_if (b := false) (et_to (et_db (K := K) (ed_op (w0 _ H2 e2 rfl) ed_s rd_eqS)) rfl) (fun z => by cases z) (fun _ H3 e3 => ?_)
    have e13 := e2.trans e3
    refine s_if (b := false) (et_to (et_db (K := K) (ed_op (w0 _ H3 e13 rfl) ed_s rd_eqS)) rfl) (fun z => by cases z) (fun _ H4 e4 => ?_)
    have e04 := e1.trans (e13.trans e4)
    have N4 := N.ex e04
    obtain ⟨dx, hnet⟩ := N4.net
    refine ⟨_, rfl, A .net, dx, netF A, rfl, hnet, rfl, A, s, s2, b, m, rfl, N4, R, fun H5 k5 n5 => ?_⟩
    exact ⟨(m : Int), rfl, log_card (numT_lenI hm), k H5 ((Kp.of e04).trans k5) n5⟩
end
end K59

set_option Elab.async false
set_option linter.all false
set_option maxRecDepth 100000
set_option maxHeartbeats 4000000
/-! asking desks; at rest -/
namespace K59
open PySem PySem.Spec PyProof.Rows L2 HotX L2H Evl He
/-- a desk with its net -/
def DeskAt (K : PySem.W.Frag) (H : Hp) (d : Addr) (A : Cl → Addr) (s : NS) : Prop := ∃ dx, H d = some (.ins (ga K "Desk") dx (deskF (.ref (A .net)))) ∧ NetAt K H A s
theorem DeskAt.ex {K : PySem.W.Frag} {H H' : Hp} {d : Addr} {A : Cl → Addr} {s : NS} (h : DeskAt K H d A s) (e : Ex H H') : DeskAt K H' d A s := by
  obtain ⟨dx, h1, h2⟩ := h
  exact ⟨dx, e _ _ h1, h2.ex e⟩
theorem ans_ok {s : NS} {wd : Str} {ns : List Int} {t : Str} (G : GoodR s) (h : Ans s wd ns t) : WordOk wd ns ∧ (∀ n ∈ ns, cardB n = true) ∧ ns.length ≤ 24 := by
  have n9 := G.n9
  cases h with
  | row => exact ⟨.inr ⟨by decide, by simp [numV, numV0, numV1]⟩, by simp, by simp⟩
  | first => exact ⟨.inr ⟨by decide, by simp [numV, numV0, numV1]⟩, by simp, by simp⟩
  | cards => exact ⟨.inr ⟨by decide, by simp [numV, numV0, numV1]⟩, by simp, by simp⟩
  | history => exact ⟨.inr ⟨by decide, by simp [numV, numV0, numV1]⟩, by simp, by simp⟩
  | lie => exact ⟨.inr ⟨by decide, by simp [numV, numV0, numV1]⟩, by simp, by simp⟩
  | lane i j hi hj =>
    refine ⟨.inr ⟨by decide, by simp [numV, numV0, numV1]⟩, fun n hn => ?_, by simp⟩
    have hn : n = (i : Int) ∨ n = (j : Int) := by simpa using hn
    rcases hn with rfl | rfl
    · exact numT_lenI (by omega)
    · exact numT_lenI (by omega)
  | free => exact ⟨.inr ⟨by decide, by simp [numV, numV0, numV1]⟩, by simp, by simp⟩
  | way a b c h1 h2 ha hb hc =>
    refine ⟨.inr ⟨by decide, by simp [numV, numV0, numV1]⟩, fun n hn => ?_, by simp⟩
    have hn : n = a ∨ n = b ∨ n = c := by simpa using hn
    rcases hn with rfl | rfl | rfl
    · exact G.row.cd _ ha
    · exact G.row.cd _ hb
    · exact G.row.cd _ hc
  | opens => exact ⟨.inr ⟨by decide, by simp [numV, numV0, numV1]⟩, by simp, by simp⟩
section
variable {K : PySem.W.Frag} {σ : K59.St} {H : Hp} {te : TE} {d : Addr} {A : Cl → Addr} {s : NS} {i : Nat} {Q : VK}
theorem ed_say {wd : Str} {ns : List Int} {t : Str} (hσ : σ[i]? = some (some (.ref d))) (hd : DeskAt K H d A s) (G : GoodR s) (an : Ans s wd ns t) (hte : EvD K te σ H (.str (rowT wd ns))) : EvD K (tMe (ga K "Desk") "say" (spSay K) E0 (tVar i) (tCons te tNil)) σ H (.str t) := fun H1 e1 Q q => by
  obtain ⟨dx, h1, N⟩ := hd
  obtain ⟨w1, w2, w3⟩ := ans_ok G an
  refine ⟨_, hσ, d, dx, _, rfl, e1 _ _ h1, rfl, hte H1 e1 _ fun v H2 e2 hv => ?_⟩
  cases hv
  exact ⟨d, dx, wd, ns, .ref (A .net), rfl, w1, w2, w3, (e1.trans e2) _ _ h1, .inr ⟨A, s, rfl, N.ex (e1.trans e2), .inr (.inr ⟨t, G, an, fun H3 e3 => q _ H3 (e2.trans e3) (.str t)⟩)⟩⟩
theorem rest_word : WordOk "rest" [] := .inr ⟨by decide, by simp [numV, numV0, numV1]⟩
/-- rest -/
theorem say_rest {b m : Nat} {s2 : NS} (hσ : σ[i]? = some (some (.ref d))) (hd : DeskAt K H d A s) (R : RestN b s m s2) (hm : m ≤ 999999999) (hte : EvD K te σ H (.str (rowT "rest" []))) (k : ∀ H2, Kp (Foot A s.n) H H2 → NetAt K H2 A s2 → Q (.str (numT (m : Int))) H2) : tMe (ga K "Desk") "say" (spSay K) E0 (tVar i) (tCons te tNil) σ H Q := by
  obtain ⟨dx, h1, N⟩ := hd
  refine ⟨_, hσ, d, dx, _, rfl, h1, rfl, hte H (Ex.refl H) _ fun v H2 e2 hv => ?_⟩
  cases hv
  exact ⟨d, dx, "rest", [], .ref (A .net), rfl, rest_word, (fun _ z => by cases z), Nat.zero_le _, e2 _ _ h1, .inr ⟨A, s, rfl, N.ex e2, .inr (.inl ⟨rfl, b, m, s2, R, hm, fun H3 k3 n3 => k H3 ((Kp.of e2).trans k3) n3⟩)⟩⟩
/-- a deed that is done -/
theorem say_deed {g : Deed} {s' : NS} (hσ : σ[i]? = some (some (.ref d))) (hd : DeskAt K H d A s) (D : DeedOk s) (hR : g.R s = .inr s') (hc : ∀ n ∈ g.ns, cardB n = true) (hte : EvD K te σ H (.str (rowT g.w g.ns))) (k : ∀ (A' : Cl → Addr) H2, (∀ cl, Live s.n cl → A' cl = A cl) → Kp (Foot A s.n) H H2 → NetAt K H2 A' s' → Q (.str "ok") H2) : tMe (ga K "Desk") "say" (spSay K) E0 (tVar i) (tCons te tNil) σ H Q := by
  obtain ⟨dx, h1, N⟩ := hd
  refine ⟨_, hσ, d, dx, _, rfl, h1, rfl, hte H (Ex.refl H) _ fun v H2 e2 hv => ?_⟩
  cases hv
  have hw : WordOk g.w g.ns := .inr ⟨(deed_words g).2, by cases g <;> simp [numV, numV0, numV1, Deed.w, Deed.ns]⟩
  refine ⟨d, dx, g.w, g.ns, .ref (A .net), rfl, hw, hc, by cases g <;> exact Nat.le_of_ble_eq_true rfl, e2 _ _ h1, .inr ⟨A, s, rfl, N.ex e2, .inl ⟨g, rfl, rfl, D, ?_⟩⟩⟩
  rw [hR]
  intro A' H3 a1 a2 k3 n3
  exact k A' H3 a1 ((Kp.of e2).trans k3) n3
theorem joinI_split {ns : List Int} (h0 : ns ≠ []) (hc : ∀ n ∈ ns, cardB n = true) : Txt.split (joinI " " ns) " " = ns.map numT :=
  TL.split_join (y := " ") (s := 32) (S := []) rfl (by rw [← Array.all_toList]; decide) (by simpa using h0) fun p hp => by
    obtain ⟨i, hi, rfl⟩ := List.mem_map.mp hp
    exact numT_free (hc i hi) (.inl (by decide))
end
section
variable {P : Program} {w : World} {K : PySem.W.Frag} {mg : Str → Option Value} {base : Heap}
/-- what a net at rest tells -/
theorem rest_texts {s : NS} (G : Good s) (h1 : lyingN s = 0) (h2 : freeL s = []) : numT (lyingN s) = "0" ∧ freeT s = "none" ∧ openX s = "none" ∧ cardsT s = joinI " " s.now := by
  have ho := rest_open G (quiet_lanes G h1) (quiet_free h2)
  refine ⟨by rw [h1] <;> rfl, by unfold freeT; rw [h2] <;> rfl, by unfold openX; rw [ho] <;> rfl, ?_⟩
  unfold cardsT joinI
  congr 1
  refine List.ext_getElem? fun i => ?_
  rw [List.getElem?_map, List.getElem?_map]
  by_cases hi : i < s.n
  · rw [List.getElem?_range hi]
    obtain ⟨c, hc⟩ := (rest_all G h1 h2).1 i hi
    rw [calm_now G hi hc]
    show some (heldT (s.hd i).held) = some (numT c)
    rw [hc]
    rfl
  · rw [List.getElem?_eq_none (by rw [List.length_range]; omega), List.getElem?_eq_none (by rw [G.nl]; omega)]
    rfl
end
end K59

set_option Elab.async false
set_option linter.all false
set_option maxRecDepth 100000
set_option maxHeartbeats 4000000
/-! the law at rest -/
namespace K59
open PySem PySem.Spec PyProof.Rows L2 HotX L2H Evl He
section
variable {K : PySem.W.Frag} {σ : K59.St} {H : Hp} {te : TE} {d : Addr} {A : Cl → Addr} {s : NS} {i : Nat} {Q : VK} {D : Ends} {tz tu : L2.TS} {c t u : TT} {QB : Bool → Hp → Prop}
theorem ite_f {p q : Prop} (h : q) : if false = true then p else q := by rw [if_neg Bool.false_ne_true]; exact h
theorem ifC_R (h : c σ H fun b H1 => if b = true then tu { D with nx := tz D } σ H1 else tz D σ H1) : tSeq (tIfS c tu tNext) tz D σ H := h
theorem orF_R (h : EvT t σ H false) (k : ∀ H1, Ex H H1 → u σ H1 QB) : tOr t u σ H QB := h H (Ex.refl H) _ fun H1 e1 => k H1 e1
theorem say_ints {ns : List Int} (h : EvD K te σ H (.str (joinI " " ns))) (h0 : ns ≠ []) (hl : ns.length ≤ 24) (hc : ∀ n ∈ ns, cardB n = true) : EvN K (tM1 (fun x xs H Q => ∃ a b, x = .str a ∧ xs = [.str b] ∧ (b.length == 0) = false ∧ a.length + 2 ≤ sizeLine ∧ rNewStrs (Txt.split a b) H Q) te (tC (.str " "))) σ H (ns.map fun n => PyData.str (numT n)) := by
  have hlen : (joinI " " ns).length ≤ 100000 := by
    have h1 := joinI_len (g := " ") hc
    have h2 : ns.length * (9 + (" " : Str).length) ≤ 24 * 10 := Nat.mul_le_mul hl (by decide)
    omega
  refine en_to (en_split h ed_s rfl hlen) ?_
  rw [joinI_split h0 hc, List.map_map]
  rfl
end
section
variable {P : Program} {w : World} {K : PySem.W.Frag} {mg : Str → Option Value} {base : Heap}
def spRestR (K : PySem.W.Frag) : Sp := fun vs H Q _ => ∃ (d : Addr) (A : Cl → Addr) (s : NS), vs = [.ref d] ∧ DeskAt K H d A s ∧ ¬ Foot A s.n d ∧ Fit 1000 s ∧ s.n ≤ 9 ∧
  ∀ (s2 : NS) H2, Kp (Foot A s.n) H H2 → DeskAt K H2 d A s2 → Good s2 → lyingN s2 = 0 → freeL s2 = [] → s2.first = s.first → s2.n = s.n → Fit 1000 s2 → Q (.bl true) H2
theorem ok_law_rest_right (T : Txt w K mg) : FR P w K mg base 10 (ga K "_law_rest_right") (spRestR K) := by
  have G_Desk_say : FR P w K mg base 9 (ma K (ga K "Desk") "say") (spSay K) := ok_say T
  refine okN T.f__law_rest_right sc__law_rest_right (fun _ _ _ _ _ _ us hl => match us, hl with | [_], _ => rfl) (fun vs H Q E h => by obtain ⟨_, _, _, rfl, _⟩ := h; rfl) fun cdv A0 outer s0 H vs Q E hr h => ?_
  obtain ⟨d, A, s, rfl, hd, hf, F, n9, k⟩ := h
  obtain ⟨b, m, s2, R, hm, F2⟩ := rest_ex (c := 1000) (by omega) (phi s) F (Nat.le_refl _)
  have hph := F.ph
  have hm9 : m ≤ 999999999 := by omega
  obtain ⟨G2, l2, f2⟩ := run_good R F.g
  obtain ⟨rn, rf⟩ := run_facts R
  have GR : GoodR s2 := fit_r F2 (Nat.le_refl _) (by omega)
  have hn0 : s2.now ≠ [] := fun z => by
    have h1 := G2.nl
    have h2 := G2.n1
    rw [z] at h1
    have : (0 : Nat) = s2.n := h1
    omega
  have hl24 := GR.nowl
  have srt := (rest_all G2 l2 f2).2
  obtain ⟨x1, x2, x3, x4⟩ := rest_texts G2 l2 f2
  refine ⟨_, (pss_cons (ps_set (i := 1) sc__law_rest_right.nd rfl (Or.inl rfl) (pe_callTy call_int_str (by rfl) T.b_int bt_int (pa_cons (me (pv 0) T.k_Desk T.m_Desk_say G_Desk_say (hr.mono (by decide)) psN (pa_cons pe_str pa_nil)) pa_nil)))
      (pss_cons (ps_setLc (i := 2) (own := [("_law_word", 3)]) (g := (gName 3)) (tt := tYes) rfl sc__law_rest_right.nd rfl rfl (sw_true rfl rfl rfl (by decide +kernel)) (pi_list (pe_split (me (pv 0) T.k_Desk T.m_Desk_say G_Desk_say (hr.mono (by decide)) psN (pa_cons pe_str pa_nil)) pe_str)) (blkOk_by (own := [("_law_word", 3)]) (N := N__law_rest_right) (sc := defScope s__law_rest_right) (by decide +kernel)) (fun _ _ _ _ _ => (pg_name (i := 3) sc__law_rest_right.nd rfl (Or.inl rfl))) (fun _ _ _ _ _ => pts_nil) (fun _ _ _ _ _ => (pe_callTy call_int_str (by rfl) T.b_int bt_int (pa_cons (pv 3) pa_nil))))
      (pss_cons (ps_if (PW.pt (pw_or (pt_cmpR op_lt (pv 1) pe_int (nomark _)) (pw_or (pt_cmpR (op_neD hr.units) (pv 2) (pe_callB (cr_sortedD (hu65 hr)) (by rfl) T.b_sorted bt_sorted (pa_cons (pv 2) pa_nil)) (nomark _)) (pw_or (pt_cmpR op_ne (me (pv 0) T.k_Desk T.m_Desk_say G_Desk_say (hr.mono (by decide)) psN (pa_cons pe_str pa_nil)) pe_str (nomark _)) (pw_or1 (pt_cmpR op_ne (me (pv 0) T.k_Desk T.m_Desk_say G_Desk_say (hr.mono (by decide)) psN (pa_cons pe_str pa_nil)) (me (pv 0) T.k_Desk T.m_Desk_say G_Desk_say (hr.mono (by decide)) psN (pa_cons pe_str pa_nil)) (nomark _))))))) (pss_one (ps_ret pe_bl)) pss_nil)
      (pss_one (ps_ret (pe_cmpR (op_eqD hr.units) (pe_lc (own := [("_law_word", 3)]) (g := (gName 3)) (tt := tYes) rfl sc__law_rest_right.nd (pi_list (pe_lst (pa_cons pe_str (pa_cons pe_str (pa_cons pe_str pa_nil))))) (blkOk_by (own := [("_law_word", 3)]) (N := N__law_rest_right) (sc := defScope s__law_rest_right) (by decide +kernel)) (fun _ _ _ _ _ => (pg_name (i := 3) sc__law_rest_right.nd rfl (Or.inl rfl))) (fun _ _ _ _ _ => pts_nil) (fun _ _ _ _ _ => (me (pv 0) T.k_Desk T.m_Desk_say G_Desk_say (hr.mono (by decide)) psN (pa_cons (pv 3) pa_nil)))) (pe_lst (pa_cons pe_str (pa_cons pe_str (pa_cons pe_str pa_nil)))) (nomark _))))))), ?_⟩
  refine q_asgR (cb_R (cons_R (say_rest rfl hd R hm9 (ed_to ed_s rfl) fun H1 k1 n1 => nil_R ⟨_, (m : Int), rfl, numT_int (numT_lenI hm9), ?_, ?_⟩)))
  · have := numT_len (numT_lenI hm9)
    omega
  obtain ⟨dx, hdx, _⟩ := hd
  have hd1 : DeskAt K H1 d A s2 := ⟨dx, k1.st _ _ hdx hf, n1⟩
  refine q_asgN (K := K) (ds := DI s2.now) (en_mapA (fun n : Int => PyData.str (numT n)) (xs := s2.now) PyData.int (ii_list (say_ints (ed_say rfl hd1 GR .row (ed_to ed_s rfl)) hn0 hl24 GR.nowc).toD) (by omega) (fun _ _ => rfl)
    fun n hn => tn1 (fun _ => rfl) fun v H2 e2 hv => ⟨et_yes, fun _ => ed_intS (ed_var rfl hv) (GR.nowc n hn)⟩) fun p us H2 hp e2 h2 hu => ?_
  have hpd : Dp K H2 (.ref p) (.list (DI s2.now)) := .lst (.inl (.inl h2)) hu
  refine ifC_R ?_
  refine orF_R (et_to (et_db (K := K) (ed_op (ed_var rfl (.int _)) ed_i rd_B0)) (decide_eq_false (by omega))) fun H3 e3 => ?_
  refine orF_R (et_to (et_db (K := K) (ed_op (ed_var rfl (dp_ex e3 _ hpd)) (en_sortedI (ed_var rfl (dp_ex e3 _ hpd))).toD (rd_neD (sh_DI _) (sh_DI _)))) (by rw [eqv_DI, sortI_self srt, decide_eq_true rfl] <;> rfl)) fun H4 e4 => ?_
  have e14 := (e2.trans e3).trans e4
  refine say_rest rfl (hd1.ex e14) (.done (fit_ok F2 (by omega)) l2 f2) (Nat.zero_le _) (ed_to ed_s rfl) fun H5 k5 n5 => ?_
  have kk : Kp (Foot A s.n) H H5 := by
    have k14 := k1.trans (Kp.of e14)
    rw [rn] at k5
    exact k14.trans k5
  have hd5 : DeskAt K H5 d A s2 := ⟨dx, kk.st _ _ hdx hf, n5⟩
  refine c_R (rd_neS (K := K) H5 (Ex.refl H5) _ _ (.str _) (.str _) _ fun v H6 e6 hv => ?_)
  cases hv
  refine ⟨_, rfl, ?_⟩
  rw [show (!decide (numT ((0 : Nat) : Int) = ("0" : Str))) = false by decide]
  refine ite_f ?_
  refine et_db (K := K) (ed_op (ed_say rfl (hd5.ex e6) GR .cards (ed_to ed_s rfl)) (ed_say rfl (hd5.ex e6) GR .row (ed_to ed_s rfl)) rd_neS) H6 (Ex.refl H6) _ fun H7 e7 => ?_
  rw [x4, decide_eq_true rfl]
  refine ite_f ?_
  have hd7 := hd5.ex (e6.trans e7)
  have hans : ∀ e ∈ ([("lie", "0"), ("free", "none"), ("open", "none")] : List (Str × Str)), Ans s2 e.1 [] e.2 ∧ rowT e.1 [] = e.1 := fun e he => by
    have he : e = (("lie" : Str), ("0" : Str)) ∨ e = (("free" : Str), ("none" : Str)) ∨ e = (("open" : Str), ("none" : Str)) := by simpa using he
    rcases he with rfl | rfl | rfl
    · exact ⟨by rw [← x1]; exact .lie, rfl⟩
    · exact ⟨by rw [← x2]; exact .free, rfl⟩
    · exact ⟨by rw [← x3]; exact .opens, rfl⟩
  have sh : SeqAt.shaped (.list ((["0", "none", "none"] : List Str).map PyData.str)) = true := sh_strs fun w hw => by
    have hw : w = "0" ∨ w = "none" := by simpa using hw
    rcases hw with rfl | rfl <;> exact sm_of (by decide)
  refine s_retD (K := K) (d := .bool true) (ed_to (ed_op (en_mapA (fun e : Str × Str => PyData.str e.1) (xs := [("lie", "0"), ("free", "none"), ("open", "none")]) (fun e => PyData.str e.2) (ii_list (en_lst (es_cons ed_s (es_cons ed_s (es_cons ed_s es_nil))) (Nat.le_of_ble_eq_true rfl)).toD) (Nat.le_of_ble_eq_true rfl) (fun _ _ => rfl)
    fun e he => tn1 (fun _ => rfl) fun v H8 e8 hv => ⟨et_yes, fun _ => ed_say rfl (hd7.ex e8) GR (hans e he).1 (by rw [(hans e he).2]; exact ed_var rfl hv)⟩).toD (en_lst (es_cons ed_s (es_cons ed_s (es_cons ed_s es_nil))) (Nat.le_of_ble_eq_true rfl)).toD (rd_eqD sh sh)) (by rfl)) fun v H8 e8 hv => ?_
  cases hv
  exact k s2 H8 (kk.trans (Kp.of ((e6.trans e7).trans e8))) (hd7.ex e8) G2 l2 f2 rf rn F2
end
end K59

set_option Elab.async false
set_option linter.all false
set_option maxRecDepth 100000
set_option maxHeartbeats 4000000
/-! what both desks tell -/
namespace K59
open PySem PySem.Spec PyProof.Rows L2 HotX L2H Evl He
theorem row_head (w : Str) {n : Int} {ns : List Int} : rowT w (n :: ns) = w ++ " " ++ joinI " " (n :: ns) := by
  unfold rowT joinI
  rw [TL.join_eq, TL.join_eq]
  rfl
/-- the scope within the comprehension that the third statement adds -/
def cScope : Expr → Scope
  | .ListComp _ _ sc _ => sc
  | .BinOp _ _ b _ => cScope b
  | _ => defScope s__law_alike
def aScope : Stmt → Scope
  | .Assign _ e _ => cScope e
  | _ => defScope s__law_alike
def cElt : Expr → Expr
  | .ListComp e _ _ _ => e
  | .BinOp _ _ b _ => cElt b
  | e => e
def cArg : Expr → Expr
  | .Call _ (a :: _) _ _ => a
  | .BinOp _ _ b _ => cArg b
  | e => e
def aElt : Stmt → Expr
  | .Assign _ e _ => cElt e
  | _ => .Constant .none 0 ⟨0, 0, 0, 0⟩
def inE__law_alike : Expr := cArg (aElt ((defBody s__law_alike).getD 2 (.Pass ⟨0, 0, 0, 0⟩)))
def sc1__law_alike : Scope := aScope ((defBody s__law_alike).getD 2 (.Pass ⟨0, 0, 0, 0⟩))
def sci__law_alike : Scope := relS (aScope ((defBody s__law_alike).getD 2 (.Pass ⟨0, 0, 0, 0⟩))) (defScope s__law_alike)
section
variable {K : PySem.W.Frag} {σ : K59.St} {H : Hp} {te : TE} {Q : VK} {D : Ends} {tz tu : L2.TS}
theorem lcL_R {g : TG} {t : TT} {e : TE} {vs : List Nat} (h : te σ H fun x H1 => tLc (iList K (tC x)) g t e vs σ H1 Q) : tLc (iList K te) g t e vs σ H Q := h
theorem asg_R {i : Nat} (h : te σ H fun v H1 => D.nx (σ.set i (some v)) H1) : tAsg te (gName i) D σ H := h
end
section
variable {P : Program} {w : World} {K : PySem.W.Frag} {mg : Str → Option Value} {base : Heap}
def rowsX (s : NS) (ts : List (Int × Int × Int)) : List (Str × List Int × Str) := ([((("row" : Str)), ([] : List Int), joinI " " s.now), (("history" : Str), ([] : List Int), histT s.done), (("open" : Str), ([] : List Int), openX s), (("first" : Str), ([] : List Int), joinI " " s.first)] : List (Str × List Int × Str)) ++ ts.map fun t => (("way" : Str), [t.1, t.2.1, t.2.2], wayOf s.first s.done t.1 t.2.1 t.2.2)
def spAlike (K : PySem.W.Frag) : Sp := fun vs H Q _ => ∃ (d d2 : Addr) (A A2 : Cl → Addr) (s s2 : NS), vs = [.ref d, .ref d2] ∧ DeskAt K H d A s ∧ DeskAt K H d2 A2 s2 ∧ GoodR s ∧ GoodR s2 ∧ s2.first = s.first ∧ s2.now = s.now ∧ s2.done = s.done ∧ s.first.length ≤ 9 ∧ ∀ H2, Ex H H2 → Q (.bl true) H2
theorem ok_law_alike (T : Txt w K mg) : FR P w K mg base 10 (ga K "_law_alike") (spAlike K) := by
  have G_Desk_say : FR P w K mg base 9 (ma K (ga K "Desk") "say") (spSay K) := ok_say T
  have G__law_threes : FR P w K mg base 1 (ga K "_law_threes") (spThrees K) := ok_law_threes T
  refine okN T.f__law_alike sc__law_alike (fun _ _ _ _ _ _ us hl => match us, hl with | [_, _], _ => rfl) (fun vs H Q E h => by obtain ⟨_, _, _, _, _, _, rfl, _⟩ := h; rfl) fun cdv A0 outer s0 H vs Q E hr h => ?_
  obtain ⟨d, d2, A, A2, s, s2, rfl, hd, hd2, GR, GR2, q1, q2, q3, n9, k⟩ := h
  have hin : ∀ (s' : Shared) (H' : Hp) (C : Addr) (cl : List (Str × Addr)) (fp : List Addr), PE ((cxOf CX0 P w K mg base N__law_alike "_law_alike" (defScope s__law_alike) (ga K "_law_alike") cdv A0 outer s0 H E).nox.blk s' H' sc1__law_alike (compEnvC sc1__law_alike cl C (cxOf CX0 P w K mg base N__law_alike "_law_alike" (defScope s__law_alike) (ga K "_law_alike") cdv A0 outer s0 H E).nox.env) fp) inE__law_alike
      (tLc (iTup K (tVar 5)) (gName 7) tYes (tCB (fun xs H Q => ∃ i, xs = [.int i] ∧ i.natAbs.log2 < 1920 ∧ Q (.str (toString i)) H) (tCons (tVar 7) tNil)) [7]) := fun s' H' C cl fp =>
    (pe_lc (own := [("_law_card", 7)]) (g := (gName 7)) (tt := tYes) rfl sc__law_alike.nd (pi_tup (pv 5)) (blkOk_by (own := [("_law_card", 7)]) (N := N__law_alike) (sc := sci__law_alike) (by decide +kernel)) (fun _ _ _ _ _ => (pg_name (i := 7) sc__law_alike.nd rfl (Or.inl rfl))) (fun _ _ _ _ _ => pts_nil) (fun _ _ _ _ _ => (pe_callTy call_str_int (by rfl) T.b_str bt_str (pa_cons (pv 7) pa_nil))))
  refine ⟨_, (pss_cons (ps_set (i := 2) sc__law_alike.nd rfl (Or.inl rfl) (pe_lst (pa_cons pe_str (pa_cons pe_str (pa_cons pe_str (pa_cons pe_str pa_nil))))))
      (pss_cons (ps_setLc (i := 3) (own := [("_law_word", 4)]) (g := (gName 4)) (tt := tYes) rfl sc__law_alike.nd rfl rfl (sw_true rfl rfl rfl (by decide +kernel)) (pi_list (pe_split (me (pv 0) T.k_Desk T.m_Desk_say G_Desk_say (hr.mono (by decide)) psN (pa_cons pe_str pa_nil)) pe_str)) (blkOk_by (own := [("_law_word", 4)]) (N := N__law_alike) (sc := defScope s__law_alike) (by decide +kernel)) (fun _ _ _ _ _ => (pg_name (i := 4) sc__law_alike.nd rfl (Or.inl rfl))) (fun _ _ _ _ _ => pts_nil) (fun _ _ _ _ _ => (pe_callTy call_int_str (by rfl) T.b_int bt_int (pa_cons (pv 4) pa_nil))))
      (pss_cons (ps_set (i := 2) sc__law_alike.nd rfl (Or.inl rfl) (pe_op op_cat (pv 2) (pe_lc (own := [("_law_three", 5)]) (g := (gName 5)) (tt := tYes) rfl sc__law_alike.nd (pi_list (cl G__law_threes (hr.mono (by decide)) T.g__law_threes psN (pa_cons (pv 3) pa_nil))) (blkOk_by (own := [("_law_three", 5)]) (N := N__law_alike) (sc := defScope s__law_alike) (by decide +kernel)) (fun _ _ _ _ _ => (pg_name (i := 5) sc__law_alike.nd rfl (Or.inl rfl))) (fun _ _ _ _ _ => pts_nil) (fun _ _ _ _ _ => (pe_op op_add_str pe_str (pe_joinK K rfl pe_str (hin _ _ _ _ _)))))))
      (pss_one (ps_ret (pe_cmpR (op_eqD hr.units) (pe_lc (own := [("_law_row_here", 6)]) (g := (gName 6))  rfl sc__law_alike.nd (pi_list (pv 2)) (blkOk_by (own := [("_law_row_here", 6)]) (N := N__law_alike) (sc := defScope s__law_alike) (by decide +kernel)) (fun _ _ _ _ _ => (pg_name (i := 6) sc__law_alike.nd rfl (Or.inl rfl))) (fun _ _ _ _ _ => (pts_one (pt_cmpR op_ne (me (pv 0) T.k_Desk T.m_Desk_say G_Desk_say (hr.mono (by decide)) psN (pa_cons (pv 6) pa_nil)) (me (pv 1) T.k_Desk T.m_Desk_say G_Desk_say (hr.mono (by decide)) psN (pa_cons (pv 6) pa_nil)) (nomark _)))) (fun _ _ _ _ _ => (pv 6))) (pe_lst pa_nil) (nomark _))))))), ?_⟩
  have hn0 : s.first ≠ [] := fun z => by
    have h1 := GR.row.lo
    rw [z] at h1
    exact absurd h1 (by decide)
  refine q_asgN (K := K) (ds := (["row", "history", "open", "first"] : List Str).map PyData.str) (en_lst (es_cons ed_s (es_cons ed_s (es_cons ed_s (es_cons ed_s es_nil)))) (Nat.le_of_ble_eq_true rfl)) fun p1 u1 H1 hp1 e1 h1 f1 => ?_
  refine q_asgN (K := K) (ds := DI s.first) (en_mapA (fun n : Int => PyData.str (numT n)) (xs := s.first) PyData.int (ii_list (say_ints (ed_say rfl (hd.ex e1) GR .first (ed_to ed_s rfl)) hn0 (by omega) GR.row.cd).toD) (by omega) (fun _ _ => rfl)
    fun n hn => tn1 (fun _ => rfl) fun v H2 e2 hv => ⟨et_yes, fun _ => ed_intS (ed_var rfl hv) (GR.row.cd n hn)⟩) fun p2 u2 H2 hp2 e2 h2 f2 => ?_
  have hcd : Dp K H2 (.ref p2) (.list (DI s.first)) := .lst (.inl (.inl h2)) f2
  refine q_asgR (op_R (var_R rfl (lcL_R (cl_R (cons_R (var_R rfl (nil_R ⟨_, s.first, rfl, hcd, n9, GR.row.nd, fun q us ts H3 hq e3 h3 f3 ok hts => ?_⟩)))))))
  have hq3 : Dp K H3 (.ref q) (.list (ts.map ThD)) := .lst (.inl (.inl h3)) f3
  have e13 := e2.trans e3
  have hcard : ∀ t ∈ ts, ∀ n ∈ ([t.1, t.2.1, t.2.2] : List Int), cardB n = true := fun t ht n hn => by
    obtain ⟨_, _, a1, a2, a3⟩ := ok t ht
    have hn : n = t.1 ∨ n = t.2.1 ∨ n = t.2.2 := by simpa using hn
    rcases hn with rfl | rfl | rfl
    · exact GR.row.cd _ a1
    · exact GR.row.cd _ a2
    · exact GR.row.cd _ a3
  have hway : EvN K (tLc (iList K (tC (.ref q))) (gName 5) tYes (tOp (fun x y H Q => ∃ i j, x = V.str i ∧ y = V.str j ∧ i.length + j.length ≤ sizeLine ∧ Q (V.str (i ++ j)) H) (tC (.str "way ")) (tM1 (rJoin K) (tC (.str " ")) (tLc (iTup K (tVar 5)) (gName 7) tYes (tCB (fun xs H Q => ∃ i, xs = [.int i] ∧ i.natAbs.log2 < 1920 ∧ Q (.str (toString i)) H) (tCons (tVar 7) tNil)) [7]))) [5])
      (((L2.start N__law_alike [.ref d, .ref d2]).set 2 (some (.ref p1))).set 3 (some (.ref p2))) H3 (ts.map fun t => PyData.str (rowT "way" [t.1, t.2.1, t.2.2])) :=
    en_mapA ThD (xs := ts) (fun t => PyData.str (rowT "way" [t.1, t.2.1, t.2.2])) (ii_list (ed_of ev_c hq3)) (by omega) (fun _ _ => rfl) fun t ht => tn1 (fun _ => rfl) fun v H4 e4 hv => ⟨et_yes, fun _ => by
      have hcs := hcard t ht
      have hl := joinI_len (g := " ") hcs
      have hl9 : ("way " : Str).length = 4 := rfl
      have hl1 : (" " : Str).length = 1 := rfl
      rw [hl1] at hl
      have hl : (joinI " " [t.1, t.2.1, t.2.2]).length ≤ 30 := hl
      rw [row_head]
      refine ed_op (d1 := .str "way ") (d2 := .str (joinI " " [t.1, t.2.1, t.2.2])) ed_s (ed_join ed_s (en_to (en_mapA PyData.int (xs := [t.1, t.2.1, t.2.2]) (fun n => PyData.str (numT n)) (ii_tup (ed_var rfl hv)) (Nat.le_of_ble_eq_true rfl) (fun _ _ => rfl)
        fun n hn => tn1 (fun _ => rfl) fun v2 H5 e5 hv2 => ⟨et_yes, fun _ => ed_strI (ed_var rfl hv2) (hcs n hn)⟩) (by rw [List.map_map] <;> rfl)).toD ?_) (rd_addS (by omega))
      have := sum_le (fun w : Str => w.length) 9 ([t.1, t.2.1, t.2.2].map numT) fun w hw => by
        obtain ⟨n, hn, rfl⟩ := List.mem_map.mp hw
        exact numT_len (hcs n hn)
      rw [List.length_map] at this ⊢
      rw [hl1]
      have h3 : ([t.1, t.2.1, t.2.2] : List Int).length = 3 := rfl
      omega⟩
  refine hway H3 (Ex.refl H3) _ fun p3 u3 H4 hp3 e4 h4 f4 => ?_
  refine ⟨p1, p3, u1, u3, rfl, rfl, (e13.trans e4) _ _ h1, h4, sz_of (by rw [da_len f1, da_len f4, List.length_map, List.length_map]; show 4 + ts.length ≤ 100000; omega), fun p4 hp4 => ?_⟩
  have e5 : Ex H4 (upd H4 p4 (.lst (u1 ++ u3))) := Ex.new hp4
  generalize hH5 : upd H4 p4 (.lst (u1 ++ u3)) = H5 at e5
  have h5 : H5 p4 = some (.lst (u1 ++ u3)) := by
    rw [← hH5]
    exact upd_same
  have e15 := (e13.trans e4).trans e5
  obtain ⟨xs, hxs⟩ : ∃ xs, xs = rowsX s ts := ⟨_, rfl⟩
  have hrows : Dp K H5 (.ref p4) (.list (xs.map fun e => PyData.str (rowT e.1 e.2.1))) := by
    refine .lst (.inl (.inl h5)) ?_
    rw [hxs, rowsX]
    rw [List.map_append, List.map_map]
    exact da_app (da_ex e15 _ f1) (da_ex e5 _ f4)
  have hans : ∀ e ∈ xs, Ans s e.1 e.2.1 e.2.2 := fun e he => by
    rw [hxs] at he
    rcases List.mem_append.mp he with he | he
    · have he : e = (("row" : Str), ([] : List Int), joinI " " s.now) ∨ e = (("history" : Str), ([] : List Int), histT s.done) ∨ e = (("open" : Str), ([] : List Int), openX s) ∨ e = (("first" : Str), ([] : List Int), joinI " " s.first) := by simpa using he
      rcases he with rfl | rfl | rfl | rfl
      · exact .row
      · exact .history
      · exact .opens
      · exact .first
    · obtain ⟨t, ht, rfl⟩ := List.mem_map.mp he
      obtain ⟨a0, a1, a2, a3, a4⟩ := ok t ht
      exact .way _ _ _ a0 a1 a2 a3 a4
  have hans2 : ∀ e ∈ xs, Ans s2 e.1 e.2.1 e.2.2 := fun e he => by
    rw [hxs] at he
    rcases List.mem_append.mp he with he | he
    · have he : e = (("row" : Str), ([] : List Int), joinI " " s.now) ∨ e = (("history" : Str), ([] : List Int), histT s.done) ∨ e = (("open" : Str), ([] : List Int), openX s) ∨ e = (("first" : Str), ([] : List Int), joinI " " s.first) := by simpa using he
      rcases he with rfl | rfl | rfl | rfl
      · rw [← q2]
        exact .row
      · rw [← q3]
        exact .history
      · have : openX s = openX s2 := by
          unfold openX
          rw [q1, q3]
        show Ans s2 "open" [] (openX s)
        rw [this]
        exact .opens
      · rw [← q1]
        exact .first
    · obtain ⟨t, ht, rfl⟩ := List.mem_map.mp he
      obtain ⟨a0, a1, a2, a3, a4⟩ := ok t ht
      rw [← q1] at a2 a3 a4 ⊢
      rw [← q3]
      exact .way _ _ _ a0 a1 a2 a3 a4
  have hxl : xs.length ≤ 90000 := by
    rw [hxs, rowsX, List.length_append, List.length_map]
    show 4 + ts.length ≤ 90000
    omega
  have hd5 := hd.ex (e1.trans e15)
  have hd25 := hd2.ex (e1.trans e15)
  refine s_retD (K := K) (d := .bool true) (ed_to (ed_op (en_lcA (fun e : Str × List Int × Str => PyData.str (rowT e.1 e.2.1)) (xs := xs) (fun _ => false) (fun e => PyData.str (rowT e.1 e.2.1)) (ii_list (ed_var rfl hrows)) hxl (fun _ _ => rfl)
    fun e he => tn1 (fun _ => rfl) fun v H6 e6 hv => ⟨et_to (et_db (K := K) (ed_op (ed_say rfl (hd5.ex e6) GR (hans e he) (ed_var rfl hv)) (ed_say rfl (hd25.ex e6) GR2 (hans2 e he) (ed_var rfl hv)) rd_neS)) (by rw [decide_eq_true rfl] <;> rfl), fun z => by cases z⟩).toD (en_lst es_nil (Nat.zero_le _)).toD (rd_eqD (d1 := .list _) ?_ sh_nil)) ?_) fun v H6 e6 hv => ?_
  · rw [List.filter_eq_nil_iff.mpr fun _ _ z => by cases z]
    exact sh_nil
  · rw [List.filter_eq_nil_iff.mpr fun _ _ z => by cases z]
    rfl
  · cases hv
    exact k H6 ((e1.trans e15).trans e6)
end
end K59

set_option Elab.async false
set_option linter.all false
set_option maxRecDepth 100000
set_option maxHeartbeats 4000000
/-! tools for the mate: texts, deeds -/
namespace K59
open PySem PySem.Spec PyProof.Rows L2 HotX L2H Evl He
theorem str_assoc (a b c : Str) : a ++ b ++ c = a ++ (b ++ c) := by
  rw [← SX.S_tl a, ← SX.S_tl b, ← SX.S_tl c, SX.S_cat, SX.S_cat, SX.S_cat, SX.S_cat, List.append_assoc]
theorem row_one (w : Str) (a : Int) : rowT w [a] = w ++ " " ++ numT a := by
  rw [row_head]
  unfold joinI
  rw [TL.join_eq]
  rfl
theorem row_two (w : Str) (a b : Int) : rowT w [a, b] = w ++ " " ++ numT a ++ " " ++ numT b := by
  rw [row_head]
  have h : joinI " " [a, b] = numT a ++ " " ++ numT b := by
    unfold joinI
    rw [TL.join_eq]
    rfl
  rw [h, str_assoc (w ++ " "), str_assoc (w ++ " "), str_assoc]
theorem pair_split {p : Int × Int} (h1 : cardB p.1 = true) (h2 : cardB p.2 = true) : Txt.split (joinI "-" [p.1, p.2]) "-" = [numT p.1, numT p.2] :=
  TL.split_join (y := "-") (s := 45) (S := []) rfl (by rw [← Array.all_toList]; decide) (by simp) fun q hq => by
    obtain ⟨i, hi, rfl⟩ := List.mem_map.mp hq
    have hi : i = p.1 ∨ i = p.2 := by simpa using hi
    rcases hi with rfl | rfl
    · exact numT_free h1 (.inl (by decide))
    · exact numT_free h2 (.inl (by decide))
theorem pair_free {p : Int × Int} (h1 : cardB p.1 = true) (h2 : cardB p.2 = true) : 32 ∉ (joinI "-" [p.1, p.2]).cps.toList := by
  have e : joinI "-" [p.1, p.2] = numT p.1 ++ "-" ++ numT p.2 := by
    unfold joinI
    rw [TL.join_eq]
    rfl
  rw [e]
  have t : ∀ a b : Str, (a ++ b).cps.toList = a.cps.toList ++ b.cps.toList := fun a b => TL.tl_append a b
  rw [t, t]
  intro h
  rcases List.mem_append.mp h with h | h
  · rcases List.mem_append.mp h with h | h
    · exact numT_free h1 (.inl (by decide)) h
    · exact absurd h (by decide)
  · exact numT_free h2 (.inl (by decide)) h
theorem hist_split {ps : List (Int × Int)} (h0 : ps ≠ []) (h : PsOk ps) : Txt.split (histT ps) " " = ps.map fun p => joinI "-" [p.1, p.2] := by
  unfold histT textOf
  rw [if_neg (by simpa using h0)]
  exact TL.split_join (y := " ") (s := 32) (S := []) rfl (by rw [← Array.all_toList]; decide) (by simpa using h0) fun q hq => by
    obtain ⟨p, hp, rfl⟩ := List.mem_map.mp hq
    obtain ⟨a, b, _⟩ := h p hp
    exact pair_free a b
theorem hist_len {ps : List (Int × Int)} (h : PsOk ps) (hl : ps.length ≤ 1000) : (histT ps).length ≤ 50000 := by
  unfold histT textOf
  split
  · exact Nat.le_of_ble_eq_true rfl
  · have h1 := join_len (g := " ") (b := 20) (ws := ps.map fun p => joinI "-" [p.1, p.2]) fun w hw => by
      obtain ⟨p, hp, rfl⟩ := List.mem_map.mp hw
      obtain ⟨a, b, _⟩ := h p hp
      exact joinI_len (g := "-") (ns := [p.1, p.2]) fun n hn => by
        have hn : n = p.1 ∨ n = p.2 := by simpa using hn
        rcases hn with rfl | rfl
        · exact a
        · exact b
    rw [List.length_map] at h1
    have h2 : (" " : Str).length = 1 := rfl
    rw [h2] at h1
    omega
/-- "-" is told of no history -/
theorem hist_dash {ps : List (Int × Int)} (h : PsOk ps) : histT ps = "-" ↔ ps = [] := by
  refine ⟨fun e => ?_, fun e => by rw [e] <;> rfl⟩
  cases ps with
  | nil => rfl
  | cons p ps =>
    obtain ⟨a, b, _⟩ := h p List.mem_cons_self
    have e3 : joinI "-" [p.1, p.2] = numT p.1 ++ "-" ++ numT p.2 := by
      unfold joinI
      rw [TL.join_eq]
      rfl
    have l3 : 3 ≤ (joinI "-" [p.1, p.2]).length := by
      have h1 := numT_pos a
      have h2 := numT_pos b
      have h3 : ("-" : Str).length = 1 := rfl
      rw [e3, append_len, append_len]
      omega
    have l4 : ∀ (w : Str) (ws : List Str), w.length ≤ (Txt.join " " (w :: ws)).length := fun w ws => by
      rw [TL.join_eq]
      cases ws with
      | nil => exact Nat.le_refl _
      | cons x xs =>
        show w.length ≤ (w ++ " " ++ Str.join " " (x :: xs)).length
        rw [append_len, append_len]
        omega
    have l5 := l4 (joinI "-" [p.1, p.2]) (ps.map fun p => joinI "-" [p.1, p.2])
    unfold histT textOf at e
    rw [if_neg (by simp), List.map_cons] at e
    rw [e] at l5
    have : ("-" : Str).length = 1 := rfl
    omega
theorem colon_in {l : Lt} : 58 ∈ (ltT l).cps.toList := by
  have t : ∀ a b : Str, (a ++ b).cps.toList = a.cps.toList ++ b.cps.toList := fun a b => TL.tl_append a b
  unfold ltT
  rw [t, t]
  exact List.mem_append_left _ (List.mem_append_right _ (by decide))
theorem laneT_none {s : NS} {i j : Nat} : laneT s i j = "none" ↔ laneOf s i j = [] := by
  refine ⟨fun e => ?_, fun e => by unfold laneT; rw [e] <;> rfl⟩
  cases hl : laneOf s i j with
  | nil => rfl
  | cons l r =>
    unfold laneT textOf at e
    rw [hl, if_neg (by simp), List.map_cons] at e
    have hin : 58 ∈ (Txt.join " " (ltT l :: r.map ltT)).cps.toList := by
      rw [TL.join_eq]
      have t : ∀ a b : Str, (a ++ b).cps.toList = a.cps.toList ++ b.cps.toList := fun a b => TL.tl_append a b
      cases r with
      | nil => exact colon_in
      | cons l2 r =>
        show 58 ∈ (ltT l ++ " " ++ Str.join " " (ltT l2 :: r.map ltT)).cps.toList
        rw [t, t]
        exact List.mem_append_left _ (List.mem_append_left _ colon_in)
    rw [e] at hin
    exact absurd hin (by decide)
theorem free_split {s : NS} (h0 : freeL s ≠ []) (hn : s.n ≤ 24) : Txt.split (freeT s) " " = (freeL s).map fun i : Nat => numT (i : Int) := by
  unfold freeT textOf
  rw [if_neg (by simpa using h0)]
  exact TL.split_join (y := " ") (s := 32) (S := []) rfl (by rw [← Array.all_toList]; decide) (by simpa using h0) fun q hq => by
    obtain ⟨i, hi, rfl⟩ := List.mem_map.mp hq
    have := List.mem_range.mp (List.mem_filter.mp hi).1
    exact numT_free (numT_lenI (by omega)) (.inl (by decide))
theorem free_len {s : NS} (hn : s.n ≤ 24) : (freeT s).length ≤ 1000 := by
  unfold freeT textOf
  split
  · exact Nat.le_of_ble_eq_true rfl
  · have h1 := join_len (g := " ") (b := 9) (ws := (freeL s).map fun i : Nat => numT (i : Int)) fun w hw => by
      obtain ⟨i, hi, rfl⟩ := List.mem_map.mp hw
      have := List.mem_range.mp (List.mem_filter.mp hi).1
      exact numT_len (numT_lenI (by omega))
    have h2 : (freeL s).length ≤ 24 := by
      have := List.length_filter_le (fun i => mayGo (s.hd i)) (List.range s.n)
      rw [List.length_range] at this
      exact Nat.le_trans this hn
    rw [List.length_map] at h1
    have h3 : (freeL s).length * (9 + (" " : Str).length) ≤ 24 * 10 := Nat.mul_le_mul h2 (by decide)
    omega
/-- the mate with its net -/
def Mate (K : PySem.W.Frag) (A : Cl → Addr) (n : Nat) (d : Addr) (H : Hp) (s : NS) : Prop := ∃ A', (∀ cl, Live n cl → A' cl = A cl) ∧ s.n = n ∧ DeskAt K H d A' s
theorem foot_eq {A A' : Cl → Addr} {n : Nat} (h : ∀ cl, Live n cl → A' cl = A cl) {a : Addr} : Foot A' n a ↔ Foot A n a :=
  ⟨fun ⟨c, h1, h2⟩ => ⟨c, h1, by rw [← h c h1]; exact h2⟩, fun ⟨c, h1, h2⟩ => ⟨c, h1, by rw [h c h1]; exact h2⟩⟩
theorem Mate.ex {K : PySem.W.Frag} {A : Cl → Addr} {n : Nat} {d : Addr} {H H' : Hp} {s : NS} (h : Mate K A n d H s) (e : Ex H H') : Mate K A n d H' s := by
  obtain ⟨A', h1, h2, h3⟩ := h
  exact ⟨A', h1, h2, h3.ex e⟩
section
variable {K : PySem.W.Frag} {σ : K59.St} {H : Hp} {te : TE} {d : Addr} {A : Cl → Addr} {s : NS} {i n : Nat} {Q : VK}
theorem mate_say {wd : Str} {ns : List Int} {t : Str} (hσ : σ[i]? = some (some (.ref d))) (hd : Mate K A n d H s) (G : GoodR s) (an : Ans s wd ns t) (hte : EvD K te σ H (.str (rowT wd ns))) : EvD K (tMe (ga K "Desk") "say" (spSay K) E0 (tVar i) (tCons te tNil)) σ H (.str t) := by
  obtain ⟨A', _, _, h⟩ := hd
  exact ed_say hσ h G an hte
theorem mate_deed {g : Deed} {s' : NS} (hσ : σ[i]? = some (some (.ref d))) (hd : Mate K A n d H s) (D : DeedOk s) (hR : g.R s = .inr s') (hn : s'.n = n) (hf : ¬ Foot A n d) (hc : ∀ n ∈ g.ns, cardB n = true) (hte : EvD K te σ H (.str (rowT g.w g.ns)))
    (k : ∀ H2, Kp (Foot A n) H H2 → Mate K A n d H2 s' → TSt H H2 → Q (.str "ok") H2) : tMe (ga K "Desk") "say" (spSay K) E0 (tVar i) (tCons te tNil) σ H Q := by
  obtain ⟨A', h1, h2, hA⟩ := hd
  refine say_deed hσ hA D hR hc hte fun A2 H2 a1 k2 n2 => ?_
  obtain ⟨dx, hdx, hN⟩ := hA
  have ts := hN.tst k2
  rw [h2] at k2 a1
  have k3 : Kp (Foot A n) H H2 := k2.mono fun a f => (foot_eq h1).mp f
  refine k H2 k3 ⟨A2, fun cl hl => by rw [a1 cl hl, h1 cl hl], hn, dx, ?_, n2⟩ ts
  rw [a1 .net trivial]
  exact k3.st _ _ hdx hf
end
end K59

set_option Elab.async false
set_option linter.all false
set_option maxRecDepth 100000
set_option maxHeartbeats 4000000
/-! a mate led by a history -/
namespace K59
open PySem PySem.Spec PyProof.Rows L2 HotX L2H Evl He
section
variable {K : PySem.W.Frag} {σ : K59.St} {H : Hp} {te ta tb : TE} {Q : VK} {D : Ends} {tz tu : L2.TS} {ds : List PyData}
theorem en_rep01 {b : Bool} (ha : EvN K ta σ H ds) (hb : EvD K tb σ H (.int (if b = true then 1 else 0))) (hz : ds.length ≤ 90000) : EvN K (tOp rRep ta tb) σ H (if b = true then ds else []) := fun H1 e Q q =>
  ha H1 e _ fun p us H2 hp e2 h2 hu => hb H2 (e.trans e2) _ fun y H3 e3 hy => by
    cases hy
    refine ⟨p, _, us, rfl, rfl, e3 _ _ h2, by cases b <;> decide, by cases b <;> decide, ?_, fun p3 hp3 => q p3 _ _ (fresh_back (e2.trans e3) hp3) ((e2.trans e3).trans (Ex.new hp3)) upd_same ?_⟩
    · cases b
      · show us.length * 0 ≤ _
        rw [Nat.mul_zero]
        exact Nat.zero_le _
      · show us.length * 1 ≤ _
        rw [Nat.mul_one, da_len hu]
        exact sz_of (by omega)
    · cases b
      · exact .nil
      · show DpAll K _ (List.flatten [us]) ds
        rw [show List.flatten [us] = us by simp]
        exact da_ex (e3.trans (Ex.new hp3)) _ hu
theorem ite_ff {p q : Prop} {b : Bool} (hb : b = false) (h : q) : if b = true then p else q := by
  rw [hb, if_neg Bool.false_ne_true]
  exact h
end
theorem strs_noL (xs : List Str) : noL.noLs (xs.map PyData.str) = true := noLs_all fun z hz => by
  obtain ⟨x, _, rfl⟩ := List.mem_map.mp hz
  rfl
section
variable {P : Program} {w : World} {K : PySem.W.Frag} {mg : Str → Option Value} {base : Heap}
def spCarried (K : PySem.W.Frag) : Sp := fun vs H Q _ => ∃ (d d2 dx2 : Addr) (A : Cl → Addr) (s : NS), vs = [.ref d, .ref d2] ∧ DeskAt K H d A s ∧ H d2 = some (.ins (ga K "Desk") dx2 (deskF .non)) ∧ d ≠ d2 ∧ Fit 1000 s ∧ s.n ≤ 9 ∧
  ∀ (A2 : Cl → Addr) (s2 : NS) (H2 : Hp), (∀ cl, Live s.n cl → H (A2 cl) = none) → Kp (fun a => a = d2) H H2 → Mate K A2 s.n d2 H2 s2 → Fit 1000 s2 → s2.done = s.done → s2.first = s.first → Q (.bl true) H2
/-- the three deeds of a crossing, and what they leave -/
theorem cross_deeds {s : NS} (F : Fit 1000 s) (C : Calm s) {m : Nat} {x l : Int} (hm : m + 1 < s.n) (hL : s.L m = []) (hx : s.now[m]? = some x) (hl : s.now[m + 1]? = some l) (hlt : l < x) : m ∈ freeL s ∧ ∃ s1 s2 s3, (Deed.go (m : Int)).R s = .inr s1 ∧ (Deed.step (m : Int) ((m : Int) + 1)).R s1 = .inr s2 ∧ (Deed.step ((m : Int) + 1) (m : Int)).R s2 = .inr s3 ∧ Fit 1000 s1 ∧ Fit 1000 s2 ∧ Fit 1000 s3 ∧ s1.n = s.n ∧ s2.n = s.n ∧ s3.n = s.n ∧ Calm s3 ∧ s3.done = s.done ++ [(l, x)] ∧ s3.first = s.first := by
  obtain ⟨g, hh, s2, s3, a1, a2, F1, F2, F3, C3, d3, n3, n2, f3⟩ := calm_cross F C hm hL hx hl hlt
  have im : inR s.n (m : Int) = true := nat_inR (by omega)
  have im1 : inR s.n ((m : Int) + 1) = true := nat_inR (n := s.n) (i := m + 1) hm
  have t1 : ((m : Int)).toNat = m := rfl
  have t2 : ((m : Int) + 1).toNat = m + 1 := rfl
  have n1 : (goS s m x).n = s.n := noteS_n _ _ _
  refine ⟨?_, goS s m x, s2, s3, ?_, ?_, ?_, F1, F2, F3, n1, n2, n3, C3, d3, f3⟩
  · unfold freeL
    exact List.mem_filter.mpr ⟨List.mem_range.mpr (by omega), g⟩
  · show goR s (m : Int) = _
    unfold goR
    rw [im, if_neg (by decide), t1, g, hh]
  · show stepR (goS s m x) (m : Int) ((m : Int) + 1) = _
    unfold stepR
    rw [n1, im, im1, if_neg (by decide), t1, t2, a1]
  · show stepR s2 ((m : Int) + 1) (m : Int) = _
    unfold stepR
    rw [n2, im, im1, if_neg (by decide), t1, t2, a2]
theorem hear_deed {s s' : NS} {m : Nat} (hm : m + 1 < s.n) (h : stepS s (m + 1) m = some s') : (Deed.step ((m : Int) + 1) (m : Int)).R s = .inr s' := by
  have im : inR s.n (m : Int) = true := nat_inR (by omega)
  have im1 : inR s.n ((m : Int) + 1) = true := nat_inR (n := s.n) (i := m + 1) hm
  show stepR s ((m : Int) + 1) (m : Int) = _
  unfold stepR
  rw [im, im1, if_neg (by decide)]
  show (match stepS s (m + 1) m with
    | some s' => Sum.inr s'
    | none => Sum.inl Rf.empty) = _
  rw [h]
end
end K59

set_option Elab.async false
set_option linter.all false
set_option maxRecDepth 100000
set_option maxHeartbeats 4000000
/-! tools for the walks of the law's end -/
namespace K59
open PySem PySem.Spec PyProof.Rows L2 HotX L2H Evl He
theorem Fit.mono {a b : Nat} {s : NS} (F : Fit a s) (h : a ≤ b) : Fit b s := ⟨F.g, F.sh, Nat.le_trans F.ph h⟩
section
variable {K : PySem.W.Frag} {σ : K59.St} {H H' : Hp} {ta tb : TE} {d : Addr} {A : Cl → Addr} {s : NS} {S : Addr → Prop}
theorem foot_no {C dx : Addr} {f : Str} {v : V} (N : NetAt K H A s) (h : H d = some (.ins C dx [(f, v)])) : ¬ Foot A s.n d := fun ⟨c, hc, e⟩ => by
  obtain ⟨o, ho, hi⟩ := N.at_ c hc
  rw [e, h] at ho
  cases ho
  cases c with
  | net =>
    obtain ⟨_, q⟩ := hi
    have : (1 : Nat) = 6 := congrArg (fun o : HO => match o with | .ins _ _ fs => fs.length | _ => 0) q
    omega
  | folk => cases hi
  | lanes => cases hi
  | logs => cases hi
  | first => cases hi
  | now => cases hi
  | done =>
    obtain ⟨_, q, _⟩ := hi
    cases q
  | hand i =>
    obtain ⟨_, q⟩ := hi
    have : (1 : Nat) = 5 := congrArg (fun o : HO => match o with | .ins _ _ fs => fs.length | _ => 0) q
    omega
  | right i =>
    obtain ⟨_, q, _⟩ := hi
    cases q
  | left i =>
    obtain ⟨_, q, _⟩ := hi
    cases q
  | log i =>
    obtain ⟨_, q, _⟩ := hi
    cases q
theorem desk_kp (hd : DeskAt K H d A s) (k : Kp S H H') (hs : ¬ S d) (hS : ∀ a, S a → ¬ Foot A s.n a) (ht : TSt H H') : DeskAt K H' d A s := by
  obtain ⟨dx, h1, h2⟩ := hd
  exact ⟨dx, k.st _ _ h1 hs, h2.kp k hS ht⟩
theorem desk_foot (hd : DeskAt K H d A s) : ¬ Foot A s.n d := by
  obtain ⟨dx, h1, h2⟩ := hd
  exact foot_no h2 h1
theorem ts_ins {d2 C dx : Addr} {fs : List (Str × V)} (h : H d2 = some (.ins C dx fs)) (k : Kp (fun a => a = d2) H H') : TSt H H' := k.ts fun a e xs r => by
  rw [e] at r
  rcases r with r | ⟨_, r⟩ <;> rw [h] at r <;> cases r
/-- a cell of a net is there -/
theorem foot_in (N : NetAt K H A s) {a : Addr} (h : Foot A s.n a) : ∃ o, H a = some o := by
  obtain ⟨c, hc, rfl⟩ := h
  obtain ⟨o, ho, _⟩ := N.at_ c hc
  exact ⟨o, ho⟩
theorem mate_in {n : Nat} {d2 : Addr} (M : Mate K A n d2 H s) {a : Addr} (h : Foot A n a) : ∃ o, H a = some o := by
  obtain ⟨A', h1, h2, dx, _, N⟩ := M
  exact foot_in N (by rw [h2]; exact (foot_eq h1).mpr h)
theorem mate_foot {n : Nat} {d2 : Addr} (M : Mate K A n d2 H s) : ¬ Foot A n d2 := fun f => by
  obtain ⟨A', h1, h2, hD⟩ := M
  exact desk_foot hD (by rw [h2]; exact (foot_eq h1).mpr f)
abbrev rAd : R2 := fun x y H Q => ∃ i j, x = V.str i ∧ y = V.str j ∧ i.length + j.length ≤ sizeLine ∧ Q (V.str (i ++ j)) H
abbrev rStI : List V → Hp → VK → Prop := fun xs H Q => ∃ i, xs = [V.int i] ∧ i.natAbs.log2 < 1920 ∧ Q (.str (toString i)) H
theorem ed_one {w w' : Str} {a : Int} (hw : w' = w ++ " ") (hl : w.length ≤ 10) (ha : EvD K ta σ H (.int a)) (ca : cardB a = true) : EvD K (tOp rAd (tC (.str w')) (tCB rStI (tCons ta tNil))) σ H (.str (rowT w [a])) := by
  have l1 : (" " : Str).length = 1 := rfl
  have l2 := numT_len ca
  have l3 : w'.length = w.length + 1 := by rw [hw, append_len, l1]
  rw [row_one, ← hw]
  exact ed_op ed_s (ed_strI ha ca) (rd_addS (by omega))
theorem ed_two {w w' : Str} {a b : Int} (hw : w' = w ++ " ") (hl : w.length ≤ 10) (ha : EvD K ta σ H (.int a)) (hb : EvD K tb σ H (.int b)) (ca : cardB a = true) (cb : cardB b = true) :
    EvD K (tOp rAd (tOp rAd (tOp rAd (tC (.str w')) (tCB rStI (tCons ta tNil))) (tC (.str " "))) (tCB rStI (tCons tb tNil))) σ H (.str (rowT w [a, b])) := by
  have l1 : (" " : Str).length = 1 := rfl
  have l2 := numT_len ca
  have l4 := numT_len cb
  have l3 : w'.length = w.length + 1 := by rw [hw, append_len, l1]
  rw [row_two, ← hw]
  refine ed_op (ed_op (ed_op ed_s (ed_strI ha ca) (rd_addS (by omega))) ed_s (rd_addS ?_)) (ed_strI hb cb) (rd_addS ?_)
  · rw [append_len]
    omega
  · rw [append_len, append_len]
    omega
end
end K59

set_option Elab.async false
set_option linter.all false
set_option maxRecDepth 100000
set_option maxHeartbeats 4000000
/-! the walk of _law_carried -/
namespace K59
open PySem PySem.Spec PyProof.Rows L2 HotX L2H Evl He
theorem okS_R {σ : K59.St} {H : Hp} {tu : L2.TS} {D : Ends} (h : ∀ H2, Ex H H2 → D.nx σ H2) : tC (.str "ok") σ H (fun y H2 => rNe (.str "ok") y H2 fun z H3 => ∃ k, z = .bl k ∧ (if k = true then tu D σ H3 else tNext D σ H3)) := by
  refine c_R (rd_neS (K := []) H (Ex.refl H) _ _ (.str _) (.str _) _ fun v H12 e12 hv => ?_)
  cases hv
  refine ⟨_, rfl, ?_⟩
  rw [show (!decide (("ok" : Str) = ("ok" : Str))) = false by decide]
  exact ite_f (h H12 e12)
section
variable {P : Program} {w : World} {K : PySem.W.Frag} {mg : Str → Option Value} {base : Heap}
/-- the loop over the history: what holds ahead of turn i -/
def Led1 (K : PySem.W.Frag) (A2 : Cl → Addr) (d d2 : Addr) (s : NS) (H3 : Hp) (p : Addr) (vs : List V) (Hs : Hp) (i : Nat) (σ : K59.St) (H' : Hp) : Prop :=
  ∃ (u2 u3 u4 u5 : Option V) (t : NS), σ = [some (.ref d), some (.ref d2), u2, u3, u4, u5] ∧ H' p = some (.lst vs) ∧ TSt Hs H' ∧ ¬ Foot A2 s.n p ∧ Kp (Foot A2 s.n) Hs H' ∧ Ex H3 Hs ∧ Mate K A2 s.n d2 H' t ∧ Fit 1000 t ∧ Calm t ∧ t.done = s.done.take i ∧ t.first = s.first
theorem ok_law_carried (T : Txt w K mg) : FR P w K mg base 10 (ga K "_law_carried") (spCarried K) := by
  have G_Desk_say : FR P w K mg base 9 (ma K (ga K "Desk") "say") (spSay K) := ok_say T
  refine okN T.f__law_carried sc__law_carried (fun _ _ _ _ _ _ us hl => match us, hl with | [_, _], _ => rfl) (fun vs H Q E h => by obtain ⟨_, _, _, _, _, rfl, _⟩ := h; rfl) fun cdv A0 outer s0 H vs Q E hr h => ?_
  obtain ⟨d, d2, dx2, A, s, rfl, hd, hd2, hne, F, n9, k⟩ := h
  have G := F.g
  have GR : GoodR s := fit_r F (Nat.le_refl _) n9
  obtain ⟨f0, fr, hfr⟩ : ∃ f0 fr, s.first = f0 :: fr := by
    cases h : s.first with
    | nil =>
      have h1 := GR.row.lo
      rw [h] at h1
      exact absurd h1 (by decide)
    | cons a b => exact ⟨a, b, rfl⟩
  have hf9 : s.first.length ≤ 9 := by rw [G.fl]; exact n9
  refine ⟨_, (pss_cons (ps_expr (me (pv 1) T.k_Desk T.m_Desk_say G_Desk_say (hr.mono (by decide)) psN (pa_cons (pe_op op_add_str pe_str (me (pv 0) T.k_Desk T.m_Desk_say G_Desk_say (hr.mono (by decide)) psN (pa_cons pe_str pa_nil))) pa_nil)))
      (pss_cons (ps_for PassesOwn.never rfl (pi_list (pe_op op_rep (pe_split (me (pv 0) T.k_Desk T.m_Desk_say G_Desk_say (hr.mono (by decide)) psN (pa_cons pe_str pa_nil)) pe_str) (pe_callTy call_int1 (by rfl) T.b_int bt_int (pa_cons (pe_cmpR op_ne (me (pv 0) T.k_Desk T.m_Desk_say G_Desk_say (hr.mono (by decide)) psN (pa_cons pe_str pa_nil)) pe_str (nomark _)) pa_nil)))) (pg_name (i := 2) sc__law_carried.nd rfl (Or.inl rfl)) (pss_cons (ps_set (i := 3) sc__law_carried.nd rfl (Or.inl rfl) (pe_bm PySem.F.plainAttrs_list PySem.F.slot_list_index PySem.F.type_list_index mt_index (pe_split (me (pv 1) T.k_Desk T.m_Desk_say G_Desk_say (hr.mono (by decide)) psN (pa_cons pe_str pa_nil)) pe_str) (pa_cons (pe_ix ix_list (pe_split (pv 2) pe_str) pe_int (fun _ _ => rfl)) pa_nil)))
      (pss_cons (ps_set (i := 4) sc__law_carried.nd rfl (Or.inl rfl) (pe_op op_add_str (pe_op op_add_str (pe_op op_add_str pe_str (pe_callTy call_str_int (by rfl) T.b_str bt_str (pa_cons (pe_op op_add (pv 3) pe_int) pa_nil))) pe_str) (pe_callTy call_str_int (by rfl) T.b_str bt_str (pa_cons (pv 3) pa_nil))))
      (pss_cons (ps_while PassesOwn.never (pt_cmpR op_ne (me (pv 1) T.k_Desk T.m_Desk_say G_Desk_say (hr.mono (by decide)) psN (pa_cons (pe_op op_add_str (pe_op op_add_str (pe_op op_add_str pe_str (pe_callTy call_str_int (by rfl) T.b_str bt_str (pa_cons (pe_op op_add (pv 3) pe_int) pa_nil))) pe_str) (pe_callTy call_str_int (by rfl) T.b_str bt_str (pa_cons (pv 3) pa_nil))) pa_nil)) pe_str (nomark _)) (pss_one (ps_expr (me (pv 1) T.k_Desk T.m_Desk_say G_Desk_say (hr.mono (by decide)) psN (pa_cons (pv 4) pa_nil)))))
      (pss_cons (ps_if (pt_cmpR op_notIn_seq (pe_callTy call_str_int (by rfl) T.b_str bt_str (pa_cons (pv 3) pa_nil)) (pe_split (me (pv 1) T.k_Desk T.m_Desk_say G_Desk_say (hr.mono (by decide)) psN (pa_cons pe_str pa_nil)) pe_str) (by rfl)) (pss_one (ps_ret pe_bl)) pss_nil)
      (pss_one (ps_for PassesOwn.never rfl (pi_list (pe_lst (pa_cons (pe_op op_add_str pe_str (pe_callTy call_str_int (by rfl) T.b_str bt_str (pa_cons (pv 3) pa_nil))) (pa_cons (pe_op op_add_str (pe_op op_add_str (pe_op op_add_str pe_str (pe_callTy call_str_int (by rfl) T.b_str bt_str (pa_cons (pv 3) pa_nil))) pe_str) (pe_callTy call_str_int (by rfl) T.b_str bt_str (pa_cons (pe_op op_add (pv 3) pe_int) pa_nil))) (pa_cons (pv 4) pa_nil))))) (pg_name (i := 5) sc__law_carried.nd rfl (Or.inl rfl)) (pss_one (ps_if (pt_cmpR op_ne (me (pv 1) T.k_Desk T.m_Desk_say G_Desk_say (hr.mono (by decide)) psN (pa_cons (pv 5) pa_nil)) pe_str (nomark _)) (pss_one (ps_ret pe_bl)) pss_nil)))))))))
      (pss_one (ps_ret pe_bl)))), ?_⟩
  have hnet : EvD K (tOp rAd (tC (.str "net ")) (tMe (ga K "Desk") "say" (spSay K) E0 (tVar 0) (tCons (tC (.str "first")) tNil))) (L2.start N__law_carried [.ref d, .ref d2]) H (.str (rowT "net" s.first)) := by
    have e : rowT "net" s.first = "net " ++ joinI " " s.first := by
      rw [hfr, row_head]
      rfl
    have hl := joinI_len (g := " ") GR.row.cd
    have h1 : (" " : Str).length = 1 := rfl
    have h4 : ("net " : Str).length = 4 := rfl
    rw [h1] at hl
    have hl2 : s.first.length * (9 + 1) ≤ 9 * 10 := Nat.mul_le_mul hf9 (by omega)
    rw [e]
    exact ed_op ed_s (ed_say rfl hd GR .first (ed_to ed_s rfl)) (rd_addS (by omega))
  refine q_dropR ⟨_, rfl, d2, _, _, rfl, hd2, rfl, hnet H (Ex.refl H) _ fun v H2 e2 hv => ?_⟩
  cases hv
  refine ⟨d2, dx2, "net", s.first, .non, rfl, .inl ⟨rfl, by rw [hfr]; simp⟩, GR.row.cd, by omega, e2 _ _ hd2, .inl ⟨rfl, GR.row, fun A2 H3 hfre k3 hd3 n3 => ?_⟩⟩
  rw [G.fl] at hfre
  have k03 : Kp (fun a => a = d2) H H3 := (Kp.of e2).trans k3
  have hfre0 : ∀ cl, Live s.n cl → H (A2 cl) = none := fun cl hl => fresh_back e2 (hfre cl hl)
  obtain ⟨i1, i2, i3, i4, i5, i6⟩ := initS_facts s.first
  have M3 : Mate K A2 s.n d2 H3 (initS s.first) := ⟨A2, fun _ _ => rfl, by rw [i1, G.fl], dx2, hd3, n3⟩
  have F3 : Fit 1000 (initS s.first) := (fit_init GR.row (by omega)).mono (by rw [i1]; omega)
  have hd03 : DeskAt K H3 d A s := desk_kp hd k03 (fun z => hne z) (fun a e f => by
    rw [e] at f
    obtain ⟨_, _, hN⟩ := hd
    exact foot_no hN hd2 f) (ts_ins hd2 k03)
  have hps := GR.ps
  have hpl := GR.pl
  have hlist : EvN K (tOp rRep (tM1 (fun x xs H Q => ∃ a b, x = V.str a ∧ xs = [V.str b] ∧ (b.length == 0) = false ∧ a.length + 2 ≤ sizeLine ∧ rNewStrs (Txt.split a b) H Q) (tMe (ga K "Desk") "say" (spSay K) E0 (tVar 0) (tCons (tC (.str "history")) tNil)) (tC (.str " "))) (tCB (fun xs H Q => (∃ i, xs = [V.int i] ∧ Q (.int i) H) ∨ ∃ k, xs = [V.bl k] ∧ Q (.int (if k then 1 else 0)) H) (tCons (tOp rNe (tMe (ga K "Desk") "say" (spSay K) E0 (tVar 0) (tCons (tC (.str "history")) tNil)) (tC (.str "-"))) tNil))) (L2.start N__law_carried [.ref d, .ref d2]) H3 ((s.done.map fun p => joinI "-" [p.1, p.2]).map PyData.str) := by
    have hlen := hist_len hps hpl
    have hsp : (Txt.split (histT s.done) " ").length ≤ 90000 := by
      by_cases h : s.done = []
      · rw [h]
        show (Txt.split ("-" : Str) " ").length ≤ 90000
        have h2 : Txt.split (Txt.join " " ["-"]) " " = (["-"] : List Str) := TL.split_join (y := " ") (s := 32) (S := []) rfl (by rw [← Array.all_toList]; decide) (by simp) fun q hq => by
          rw [List.mem_singleton.mp hq]
          decide
        have h3 : Txt.join " " ["-"] = ("-" : Str) := by
          rw [TL.join_eq]
          rfl
        rw [h3] at h2
        rw [h2]
        exact Nat.le_of_ble_eq_true rfl
      · rw [hist_split h hps, List.length_map]
        omega
    refine en_to (en_rep01 (b := !decide (histT s.done = "-")) (en_split (ed_say rfl hd03 GR .history (ed_to ed_s rfl)) ed_s rfl (by omega)) (bool_int (ed_op (ed_say rfl hd03 GR .history (ed_to ed_s rfl)) ed_s rd_neS)) (by rw [List.length_map]; exact hsp)) ?_
    by_cases h : s.done = []
    · rw [decide_eq_true ((hist_dash hps).mpr h), h]
      rfl
    · rw [decide_eq_false fun z => h ((hist_dash hps).mp z), if_pos (by decide), hist_split h hps]
  refine q_forN (K := K) hlist (strs_noL _) (Led1 K A2 d d2 s H3) (fun p vs H4 hp e4 h4 hu => ⟨none, none, none, none, initS s.first, rfl, h4, TSt.refl, fun f => ?_, Kp.refl, e4, M3.ex e4, F3, init_calm _, by rw [i5] <;> rfl, i3⟩) (fun p vs H4 i σ' H' hi ⟨_, _, _, _, _, _, q1, q2, _⟩ => ⟨q1, q2⟩) ?_ ?_
  · obtain ⟨o, ho⟩ := mate_in M3 f
    rw [ho] at hp
    cases hp
  · rintro p vs Hs i dd σ' H' x H4 hp eHs hi ⟨u2, u3, u4, u5, t, rfl, m1, m2, m3, m4, m5, m6, m7, m8, m9, m10⟩ e4 hx
    obtain ⟨pr, hpr, rfl⟩ : ∃ pr, s.done[i]? = some pr ∧ dd = .str (joinI "-" [pr.1, pr.2]) := by
      rw [List.getElem?_map, List.getElem?_map] at hi
      cases h : s.done[i]? with
      | none => rw [h] at hi; cases hi
      | some pr =>
        rw [h] at hi
        exact ⟨pr, rfl, (Option.some.inj hi).symm⟩
    cases hx
    obtain ⟨c1, c2, c3⟩ := hps pr (List.mem_of_getElem? hpr)
    obtain ⟨il, hpi⟩ := List.getElem?_eq_some_iff.mp hpr
    have hsp : s.done = s.done.take i ++ (pr.1, pr.2) :: s.done.drop (i + 1) := by
      conv => lhs; rw [← List.take_append_drop i s.done, List.drop_eq_getElem_cons il, hpi]
    have hled : Led s.first (s.done.take i ++ (pr.1, pr.2) :: s.done.drop (i + 1)) s.now := by
      rw [← hsp]
      exact G.led
    obtain ⟨A', B', hl1, _⟩ := Led.split hled
    have hnow : t.now = A' ++ pr.2 :: pr.1 :: B' := by
      have h2 := m7.g.led
      rw [m9, m10] at h2
      exact Led.fn h2 G.row.nd hl1
    have tn : t.n = s.n := by
      obtain ⟨_, _, h, _⟩ := m6
      exact h
    have hx1 : t.now[A'.length]? = some pr.2 := by
      rw [hnow]
      exact at_mid _ _ _
    have hl2 : t.now[A'.length + 1]? = some pr.1 := by
      rw [hnow, List.getElem?_append_right (by omega), Nat.add_sub_cancel_left]
      rfl
    have hm : A'.length + 1 < t.n := by
      rw [← m7.g.nl, hnow, List.length_append, List.length_cons, List.length_cons]
      omega
    have hnd : t.now.Nodup := m7.g.led.perm.nodup_iff.mpr m7.g.row.nd
    have hno : ∀ j, j < A'.length → t.now[j]? ≠ some pr.2 := fun j hj => by
      rw [hnow] at hnd ⊢
      exact first_mid (nodup_notin hnd) j hj
    generalize A'.length = m at hx1 hl2 hm hno
    have GRt : GoodR t := fit_r m7 (Nat.le_refl _) (by omega)
    have hn0 : t.now ≠ [] := fun z => by
      rw [z] at hx1
      cases hx1
    have M4 := m6.ex e4
    have cm : cardB (m : Int) = true := numT_lenI (by omega)
    have cm1 : cardB ((m : Int) + 1) = true := numT_lenI (i := m + 1) (by omega)
    have hfd := mate_foot M4
    refine q_asgD (K := K) (ed_ixS (ns := t.now.map numT) (y := numT pr.2) (j := m) (ed_to (say_ints (mate_say rfl M4 GRt .row (ed_to ed_s rfl)) hn0 GRt.nowl GRt.nowc).toD (by rw [List.map_map] <;> rfl)) (ed_op (ed_to (en_split (ed_var rfl (.str _)) ed_s rfl ?_).toD (by rw [pair_split c1 c2])) ed_i (rd_ixL (ds := [numT pr.1, numT pr.2].map PyData.str) (j := 1) rfl rfl)) (by rw [List.getElem?_map, hx1] <;> rfl) fun j hj z => ?_) fun v H5 e5 hv => ?_
    · have h1 := joinI_len (g := "-") (ns := [pr.1, pr.2]) fun n hn => by
        have hn : n = pr.1 ∨ n = pr.2 := by simpa using hn
        rcases hn with rfl | rfl
        · exact c1
        · exact c2
      exact Nat.le_trans h1 (Nat.le_of_ble_eq_true rfl)
    · rw [List.getElem?_map] at z
      cases hj2 : t.now[j]? with
      | none => rw [hj2] at z; cases z
      | some y =>
        rw [hj2] at z
        have := numT_inj (GRt.nowc _ (List.mem_of_getElem? hj2)) c2 (Option.some.inj z)
        exact hno j hj (by rw [hj2, this])
    cases hv
    refine st_eq (σ' := [some (.ref d), some (.ref d2), some (.str (joinI "-" [pr.1, pr.2])), some (.int (m : Int)), u4, u5]) rfl ?_
    refine q_asgD (K := K) (ed_two (w := "step") rfl (by decide) (ed_op (ed_var rfl (.int _)) ed_i rd_I0) (ed_var rfl (.int _)) cm1 cm) fun v H6 e6 hv => ?_
    cases hv
    refine st_eq (σ' := [some (.ref d), some (.ref d2), some (.str (joinI "-" [pr.1, pr.2])), some (.int (m : Int)), some (.str (rowT "step" [(m : Int) + 1, (m : Int)])), u5]) rfl ?_
    have e46 := e5.trans e6
    refine q_while (fun kk σ' H' => ∃ t1 : NS, σ' = [some (.ref d), some (.ref d2), some (.str (joinI "-" [pr.1, pr.2])), some (.int (m : Int)), some (.str (rowT "step" [(m : Int) + 1, (m : Int)])), u5] ∧ Kp (Foot A2 s.n) H6 H' ∧ TSt H6 H' ∧ Mate K A2 s.n d2 H' t1 ∧ Fit 1000 t1 ∧ Calm t1 ∧ t1.done = t.done ∧ t1.first = t.first ∧ (t1.L m).length = kk) (t.L m).length ⟨t, rfl, Kp.refl, TSt.refl, M4.ex e46, m7, m8, rfl, rfl, rfl⟩ ?_
    rintro kk σ' H' ⟨t1, rfl, w1, w2, w3, w4, w5, w6, w7, w8⟩
    have t1n : t1.n = s.n := by
      obtain ⟨_, _, h, _⟩ := w3
      exact h
    have GR1 : GoodR t1 := fit_r w4 (Nat.le_refl _) (by omega)
    have hm1 : m + 1 < t1.n := by omega
    refine ⟨!decide (laneT t1 (m + 1) m = "none"), et_db (K := K) (ed_op (mate_say rfl w3 GR1 (.lane (m + 1) m hm1 (by omega)) (ed_two (w := "lane") rfl (by decide) (ed_op (ed_var rfl (.int _)) ed_i rd_I0) (ed_var rfl (.int _)) cm1 cm)) ed_s rd_neS), fun hb H7 e7 => ?_, fun hb H7 e7 => ?_⟩
    · have hL : t1.L m ≠ [] := fun z => by
        rw [decide_eq_true (laneT_none.mpr ((lane_l hm1).trans z))] at hb
        cases hb
      obtain ⟨t2, hs, F2, C2, hlen, hdn, hn2, hf2⟩ := calm_hear w4 w5 hm1 hL
      refine ⟨fun σ2 H2 => ∃ t2 : NS, σ2 = [some (.ref d), some (.ref d2), some (.str (joinI "-" [pr.1, pr.2])), some (.int (m : Int)), some (.str (rowT "step" [(m : Int) + 1, (m : Int)])), u5] ∧ Kp (Foot A2 s.n) H6 H2 ∧ TSt H6 H2 ∧ Mate K A2 s.n d2 H2 t2 ∧ Fit 1000 t2 ∧ Calm t2 ∧ t2.done = t.done ∧ t2.first = t.first ∧ (t2.L m).length < kk, fun σ2 H2 ⟨t2, q1, q2, q3, q4, q5, q6, q7, q8, q9⟩ => ⟨_, q9, t2, q1, q2, q3, q4, q5, q6, q7, q8, rfl⟩, ?_⟩
      refine s_dropR (mate_deed (g := .step ((m : Int) + 1) (m : Int)) rfl (w3.ex e7) (fit_deed w4 (Nat.le_refl _) (by omega)) (hear_deed hm1 hs) (by omega) hfd (fun n hn => ?_) (ed_var rfl (.str _)) fun H8 k8 M8 ts8 => ?_)
      · have hn : n = (m : Int) + 1 ∨ n = (m : Int) := by simpa [Deed.ns] using hn
        rcases hn with rfl | rfl
        · exact cm1
        · exact cm
      · exact ⟨t2, rfl, (w1.trans (Kp.of e7)).trans k8, (w2.trans fun a o h _ => e7 a o h).trans ts8, M8, F2, C2, hdn.trans w6, hf2.trans w7, by omega⟩
    · have hL : t1.L m = [] := by
        have hb : decide (laneT t1 (m + 1) m = "none") = true := by simpa using hb
        exact (lane_l hm1).symm.trans (laneT_none.mp (of_decide_eq_true hb))
      have hnw : t1.now = t.now := same_now m7.g w4.g w7 w6
      obtain ⟨hfree, s1, s2, s3, d1, d2', d3, F1, F2, F3', n1, n2, n3', C3, dn3, f3⟩ := cross_deeds w4 w5 hm1 hL (by rw [hnw]; exact hx1) (by rw [hnw]; exact hl2) c3
      have M7 := w3.ex e7
      refine q_when (b := false) (et_to (et_db (K := K) (ed_op (ed_strI (ed_var rfl (.int _)) cm) (ed_to (en_split (mate_say rfl M7 GR1 .free (ed_to ed_s rfl)) ed_s rfl ?_).toD (by rw [free_split (fun z => by rw [z] at hfree; cases hfree) (by omega)])) rd_ninS)) ?_) (fun z => by cases z) fun _ H8 e8 => ?_
      · have := free_len (s := t1) (by omega)
        omega
      · rw [decide_eq_true (List.mem_map.mpr ⟨m, hfree, rfl⟩)]
        rfl
      have M8 := M7.ex e8
      have k48 : Kp (Foot A2 s.n) H4 H8 := ((Kp.of e46).trans w1).trans (Kp.of (e7.trans e8))
      have ts48 : TSt H4 H8 := (TSt.trans (fun a o h _ => e46 a o h) w2).trans fun a o h _ => (e7.trans e8) a o h
      refine s_forN (K := K) (ds := ([rowT "go" [(m : Int)], rowT "step" [(m : Int), (m : Int) + 1], rowT "step" [(m : Int) + 1, (m : Int)]] : List Str).map PyData.str) (en_lst (es_cons (ed_one (w := "go") rfl (by decide) (ed_var rfl (.int _)) cm) (es_cons (ed_two (w := "step") rfl (by decide) (ed_var rfl (.int _)) (ed_op (ed_var rfl (.int _)) ed_i rd_I0) cm cm1) (es_cons (ed_var rfl (.str _)) es_nil))) (Nat.le_of_ble_eq_true rfl)) (strs_noL _)
        (fun p2 vs2 Hs2 j σ2 H2 => ∃ (v5 : Option V) (t3 : NS), σ2 = [some (.ref d), some (.ref d2), some (.str (joinI "-" [pr.1, pr.2])), some (.int (m : Int)), some (.str (rowT "step" [(m : Int) + 1, (m : Int)])), v5] ∧ H2 p2 = some (.lst vs2) ∧ TSt Hs2 H2 ∧ ¬ Foot A2 s.n p2 ∧ Kp (Foot A2 s.n) Hs2 H2 ∧ Ex H8 Hs2 ∧ Mate K A2 s.n d2 H2 t3 ∧ (j = 0 → t3 = t1) ∧ (j = 1 → t3 = s1) ∧ (j = 2 → t3 = s2) ∧ (j = 3 → t3 = s3))
        (fun p2 vs2 H9 hp2 e9 h9 hu2 => ⟨u5, t1, rfl, h9, TSt.refl, fun f => ?_, Kp.refl, e9, M8.ex e9, fun _ => rfl, fun z => by omega, fun z => by omega, fun z => by omega⟩) (fun p2 vs2 H9 j σ2 H2 hj ⟨_, _, _, q1, q2, _⟩ => ⟨q1, q2⟩) ?_ ?_
      · obtain ⟨o, ho⟩ := mate_in M8 f
        rw [ho] at hp2
        cases hp2
      · rintro p2 vs2 Hs2 j dj σ2 H2 x2 H10 hp2 eHs2 hj ⟨v5, t3, rfl, q1, q2, q3, q4, q5, q6, q7, q8, q9, q10⟩ e10 hx2
        have M10 := q6.ex e10
        have hgo : ∀ n ∈ (Deed.go (m : Int)).ns, cardB n = true := fun n hn => by
          rw [List.mem_singleton.mp hn]
          exact cm
        have hst : ∀ n ∈ (Deed.step (m : Int) ((m : Int) + 1)).ns, cardB n = true := fun n hn => by
          have hn : n = (m : Int) ∨ n = (m : Int) + 1 := by simpa [Deed.ns] using hn
          rcases hn with rfl | rfl
          · exact cm
          · exact cm1
        have hst2 : ∀ n ∈ (Deed.step ((m : Int) + 1) (m : Int)).ns, cardB n = true := fun n hn => by
          have hn : n = (m : Int) + 1 ∨ n = (m : Int) := by simpa [Deed.ns] using hn
          rcases hn with rfl | rfl
          · exact cm1
          · exact cm
        have kq := q4.trans (Kp.of e10)
        have tq := q2.trans fun a o h _ => e10 a o h
        have pq := e10 _ _ q1
        rcases j with _ | _ | _ | j
        · cases hj
          cases hx2
          obtain rfl : t3 = t1 := q7 rfl
          refine mate_deed (g := .go (m : Int)) rfl M10 (fit_deed w4 (Nat.le_refl _) (by omega)) d1 (by omega) hfd hgo (ed_var rfl (.str _)) fun H11 k11 M11 ts11 => okS_R fun H12 e12 => ?_
          exact ⟨_, s1, rfl, e12 _ _ (k11.st _ _ pq q3), (tq.trans ts11).trans fun a o h _ => e12 a o h, q3, (kq.trans k11).trans (Kp.of e12), q5, M11.ex e12, fun z => (by omega), fun _ => rfl, fun z => (by omega), fun z => (by omega)⟩
        · cases hj
          cases hx2
          obtain rfl : t3 = s1 := q8 rfl
          refine mate_deed (g := .step (m : Int) ((m : Int) + 1)) rfl M10 (fit_deed F1 (Nat.le_refl _) (by omega)) d2' (by omega) hfd hst (ed_var rfl (.str _)) fun H11 k11 M11 ts11 => okS_R fun H12 e12 => ?_
          exact ⟨_, s2, rfl, e12 _ _ (k11.st _ _ pq q3), (tq.trans ts11).trans fun a o h _ => e12 a o h, q3, (kq.trans k11).trans (Kp.of e12), q5, M11.ex e12, fun z => (by omega), fun z => (by omega), fun _ => rfl, fun z => (by omega)⟩
        · cases hj
          cases hx2
          obtain rfl : t3 = s2 := q9 rfl
          refine mate_deed (g := .step ((m : Int) + 1) (m : Int)) rfl M10 (fit_deed F2 (Nat.le_refl _) (by omega)) d3 (by omega) hfd hst2 (ed_var rfl (.str _)) fun H11 k11 M11 ts11 => okS_R fun H12 e12 => ?_
          exact ⟨_, s3, rfl, e12 _ _ (k11.st _ _ pq q3), (tq.trans ts11).trans fun a o h _ => e12 a o h, q3, (kq.trans k11).trans (Kp.of e12), q5, M11.ex e12, fun z => (by omega), fun z => (by omega), fun z => (by omega), fun _ => rfl⟩
        · cases hj
      · rintro p2 vs2 Hs2 σ2 H2 hp2 ⟨v5, t3, rfl, q1, q2, q3, q4, q5, q6, q7, q8, q9, q10⟩
        obtain rfl : t3 = s3 := q10 rfl
        have k4e : Kp (Foot A2 s.n) H4 H2 := (k48.trans (Kp.of q5)).trans q4
        have ts4e : TSt H4 H2 := (ts48.trans fun a o h _ => q5 a o h).trans q2
        refine ⟨_, _, _, _, t3, rfl, k4e.st _ _ (e4 _ _ m1) m3, (m2.trans fun a o h _ => e4 a o h).trans ts4e, m3, (m4.trans (Kp.of e4)).trans k4e, m5, q6, F3', C3, ?_, f3.trans (w7.trans m10)⟩
        rw [dn3, w6, m9, List.take_succ, hpr]
        rfl
  · rintro p vs Hs σ' H' hp ⟨u2, u3, u4, u5, t, rfl, m1, m2, m3, m4, m5, m6, m7, m8, m9, m10⟩
    rw [List.length_map, List.length_map, List.take_length] at m9
    refine k A2 t H' hfre0 ⟨fun a o ha hn => ?_, fun a ha => ?_⟩ m6 m7 m9 m10
    · refine m4.st a o (m5 a o (k03.st a o ha hn)) fun ⟨c, hc, e⟩ => ?_
      rw [← e, hfre0 c hc] at ha
      cases ha
    · exact k03.fr a (fresh_back m5 (m4.fr a ha))
end
end K59

set_option Elab.async false
set_option linter.all false
set_option maxRecDepth 100000
set_option maxHeartbeats 4000000
/-! a desk and a net beside it, deed by deed -/
namespace K59
open PySem PySem.Spec PyProof.Rows L2 HotX L2H Evl He
section
variable {K : PySem.W.Frag} {σ : K59.St} {H : Hp} {Q : VK}
theorem mkDesk (h : ∀ x dx H2, H x = none → Ex H H2 → H2 x = some (.ins (ga K "Desk") dx (deskF .non)) → Q (.ref x) H2) : tMk (ga K "Desk") (spDeskInit K) E0 tNil σ H Q := fun x dx hx hdx hne =>
  ⟨x, dx, rfl, upd_same, fun H2 k2 h2 => ⟨rfl, h x dx H2 hx (fun a o ha => k2.st a o (by
    rw [upd_ne (fun z => by rw [z, hx] at ha; cases ha), upd_ne (fun z => by rw [z, hdx] at ha; cases ha)]
    exact ha) fun z => by rw [z, hx] at ha; cases ha) h2⟩⟩
theorem mkNet {i : Nat} {v : V} {ns : List Int} (hσ : σ[i]? = some (some v)) (hv : Dp K H v (.list (DI ns))) (R : RowOk ns) (h : ∀ A H2, (∀ cl, Live ns.length cl → H (A cl) = none) → Ex H H2 → NetAt K H2 A (initS ns) → Q (.ref (A .net)) H2) : tMk (ga K "Net") (spNetInit K) E0 (tCons (tVar i) tNil) σ H Q :=
  ⟨v, hσ, fun x dx hx hdx hne => by
    have eX : Ex H (upd (upd H dx (.own x)) x (.ins (ga K "Net") dx [])) := fun a o ha => by
      rw [upd_ne (fun z => by rw [z, hx] at ha; cases ha), upd_ne (fun z => by rw [z, hdx] at ha; cases ha)]
      exact ha
    refine ⟨x, dx, v, ns, rfl, upd_same, dp_ex eX _ hv, R, fun A H2 hA hf k2 n2 => ⟨rfl, ?_⟩⟩
    rw [← hA]
    refine h A H2 (fun cl hl => ?_) (fun a o ha => k2.st a o (eX a o ha) fun z => by rw [z, hx] at ha; cases ha) n2
    by_cases q : cl = .net
    · rw [q, hA]
      exact hx
    · exact fresh_back eX (hf cl hl q)⟩
end
/-- a desk d and a net beside it in one state, a mate d2 without a net, a pot p; H4 the heap at first -/
structure Two (K : PySem.W.Frag) (H4 H : Hp) (p d d2 dx2 : Addr) (A A1 : Cl → Addr) (s : NS) (m : Nat) : Prop where
  net : NetAt K H A s
  desk : DeskAt K H d A1 s
  pot : PotAt H p m
  fit : Fit (60 * s.n) s
  n9 : s.n ≤ 9
  mate : H d2 = some (.ins (ga K "Desk") dx2 (deskF .non))
  ex : Ex H4 H
  fr : ∀ cl, Live s.n cl → H4 (A cl) = none
  fr1 : ∀ cl, Live s.n cl → H4 (A1 cl) = none
  frp : H4 p = none
  dis : ∀ a, Foot A s.n a → ¬ Foot A1 s.n a
  np : ¬ Foot A s.n p
  np1 : ¬ Foot A1 s.n p
  ne : d ≠ d2
section
variable {K : PySem.W.Frag} {H4 H H' : Hp} {p d d2 dx2 : Addr} {A A1 : Cl → Addr} {s s' : NS} {m : Nat}
theorem Two.ex' (W : Two K H4 H p d d2 dx2 A A1 s m) (e : Ex H H') : Two K H4 H' p d d2 dx2 A A1 s m :=
  ⟨W.net.ex e, W.desk.ex e, W.pot.ex e, W.fit, W.n9, e _ _ W.mate, W.ex.trans e, W.fr, W.fr1, W.frp, W.dis, W.np, W.np1, W.ne⟩
theorem pot_no {p a C dx : Addr} {m : Nat} {fs : List (Str × V)} (h : PotAt H p m) (h2 : H a = some (.ins C dx fs)) : a ≠ p := fun z => by
  obtain ⟨_, _, _, q, _⟩ := h
  rw [z, q] at h2
  cases h2
theorem pot_ts {p : Addr} {m : Nat} (h : PotAt H p m) (k : Kp (fun a => a = p) H H') : TSt H H' := k.ts fun a e xs r => by
  obtain ⟨_, _, _, q, _⟩ := h
  rw [e] at r
  rcases r with r | ⟨_, r⟩ <;> rw [q] at r <;> cases r
/-- the pot alone changes -/
theorem Two.dip (W : Two K H4 H p d d2 dx2 A A1 s m) {m2 : Nat} (k : Kp (fun a => a = p) H H') (hp : PotAt H' p m2) : Two K H4 H' p d d2 dx2 A A1 s m2 := by
  have ts := pot_ts W.pot k
  obtain ⟨dx, hd, hN⟩ := W.desk
  exact ⟨W.net.kp k (fun a e f => W.np (e ▸ f)) ts, ⟨dx, k.st _ _ hd (pot_no W.pot hd), hN.kp k (fun a e f => W.np1 (e ▸ f)) ts⟩, hp, W.fit, W.n9, k.st _ _ W.mate (pot_no W.pot W.mate), fun a o ha => k.st a o (W.ex a o ha) fun z => (by rw [z, W.frp] at ha; cases ha), W.fr, W.fr1, W.frp, W.dis, W.np, W.np1, W.ne⟩
theorem Live.mono {n n' : Nat} (h : n ≤ n') : ∀ {cl : Cl}, Live n cl → Live n' cl
  | .hand _, q => Nat.lt_of_lt_of_le q h
  | .log _, q => Nat.lt_of_lt_of_le q h
  | .right _, q => Nat.lt_of_lt_of_le q h
  | .left _, q => Nat.lt_of_lt_of_le q h
  | .net, _ => trivial
  | .folk, _ => trivial
  | .lanes, _ => trivial
  | .logs, _ => trivial
  | .first, _ => trivial
  | .now, _ => trivial
  | .done, _ => trivial
/-- the desk's net, then the net beside it, go to one state -/
theorem Two.both (W : Two K H4 H p d d2 dx2 A A1 s m) {A' A1' : Cl → Addr} {H1 H2 : Hp} (F' : Fit (60 * s'.n) s') (n9' : s'.n ≤ 9) (hn : s.n ≤ s'.n)
    (a1 : ∀ cl, Live s.n cl → A1' cl = A1 cl) (a2 : ∀ cl, Live s'.n cl → ¬ Live s.n cl → H (A1' cl) = none) (k1 : Kp (Foot A1 s.n) H H1) (N1 : NetAt K H1 A1' s')
    (b1 : ∀ cl, Live s.n cl → A' cl = A cl) (b2 : ∀ cl, Live s'.n cl → ¬ Live s.n cl → H1 (A' cl) = none) (k2 : Kp (Foot A s.n) H1 H2) (N2 : NetAt K H2 A' s') : Two K H4 H2 p d d2 dx2 A' A1' s' m := by
  obtain ⟨dx, hd, hN⟩ := W.desk
  have d1 : ¬ Foot A1 s.n d := foot_no hN hd
  have d0 : ¬ Foot A s.n d := foot_no W.net hd
  have e1 : ¬ Foot A1 s.n d2 := foot_no hN W.mate
  have e0 : ¬ Foot A s.n d2 := foot_no W.net W.mate
  have ts1 := hN.tst k1
  have NA : NetAt K H1 A s := W.net.kp k1 (fun a f1 f => W.dis a f f1) ts1
  have ts2 := NA.tst k2
  -- cells of the desk's net, told by the cells at first
  have f1 : ∀ a, Foot A1' s'.n a → Foot A1 s.n a ∨ H a = none := fun a ⟨cl, hl, e⟩ => by
    by_cases q : Live s.n cl
    · exact .inl ⟨cl, q, by rw [← a1 cl q]; exact e⟩
    · exact .inr (by rw [← e]; exact a2 cl hl q)
  have f0 : ∀ a, Foot A' s'.n a → Foot A s.n a ∨ H1 a = none := fun a ⟨cl, hl, e⟩ => by
    by_cases q : Live s.n cl
    · exact .inl ⟨cl, q, by rw [← b1 cl q]; exact e⟩
    · exact .inr (by rw [← e]; exact b2 cl hl q)
  have sep : ∀ a, Foot A s.n a → ¬ Foot A1' s'.n a := fun a fa fb => by
    rcases f1 a fb with h | h
    · exact W.dis a fa h
    · obtain ⟨o, ho⟩ := foot_in W.net fa
      rw [ho] at h
      cases h
  obtain ⟨x, y, z, hp, hp2⟩ := W.pot
  have p1 := k1.st _ _ hp W.np1
  have p2 := k2.st _ _ p1 W.np
  refine ⟨N2, ⟨dx, ?_, N1.kp k2 sep ts2⟩, ⟨x, y, z, p2, hp2⟩, F', n9', k2.st _ _ (k1.st _ _ W.mate e1) e0, fun a o ha => ?_, fun cl hl => ?_, fun cl hl => ?_, W.frp, fun a fa fb => ?_, fun f => ?_, fun f => ?_, W.ne⟩
  · rw [a1 .net trivial]
    exact k2.st _ _ (k1.st _ _ hd d1) d0
  · refine k2.st a o (k1.st a o (W.ex a o ha) fun ⟨cl, hl, e⟩ => ?_) fun ⟨cl, hl, e⟩ => ?_
    · rw [← e, W.fr1 cl hl] at ha
      cases ha
    · rw [← e, W.fr cl hl] at ha
      cases ha
  · by_cases q : Live s.n cl
    · rw [b1 cl q]
      exact W.fr cl q
    · exact fresh_back W.ex (k1.fr _ (b2 cl hl q))
  · by_cases q : Live s.n cl
    · rw [a1 cl q]
      exact W.fr1 cl q
    · exact fresh_back W.ex (a2 cl hl q)
  · rcases f0 a fa with h | h
    · exact sep a h fb
    · obtain ⟨o, ho⟩ := foot_in N1 fb
      rw [ho] at h
      cases h
  · rcases f0 p f with h | h
    · exact W.np h
    · rw [p1] at h
      cases h
  · rcases f1 p f with h | h
    · exact W.np1 h
    · rw [hp] at h
      cases h
end
/-- what a deed leaves -/
theorem deed_fit {s s' : NS} {g : Deed} (F : Fit (60 * s.n) s) (n9 : s.n ≤ 9) (hc : ∀ c, g = .come c → s.n < 9) (h : g.R s = .inr s') : Fit (60 * s'.n) s' ∧ s'.n ≤ 9 ∧ s.n ≤ s'.n := by
  cases g with
  | go i =>
    have h : goR s i = .inr s' := h
    unfold goR at h
    split at h
    · cases h
    · rename_i hi
      have hi : inR s.n i = true := by simpa using hi
      obtain ⟨j, rfl, hj⟩ := inR_nat hi
      split at h
      · rename_i c g1 g2
        cases h
        have hn : (goS s ((j : Int)).toNat c).n = s.n := noteS_n _ _ _
        have F2 := fit_go F (i := j) hj g1 g2
        rw [hn]
        exact ⟨F2, n9, Nat.le_refl _⟩
      · cases h
  | step i j =>
    have h : stepR s i j = .inr s' := h
    unfold stepR at h
    split at h
    · cases h
    · split at h
      · rename_i s1 h1
        cases h
        have F2 := fit_step F h1
        rw [stepS_n h1]
        exact ⟨F2, n9, Nat.le_refl _⟩
      · cases h
  | come c =>
    have h : comeR s c = .inr s' := h
    unfold comeR at h
    split at h
    · rename_i hb
      cases h
      unfold comeB at hb
      rw [Bool.and_eq_true] at hb
      have hlt := hc c rfl
      have hn := (addS_facts s c).1
      exact ⟨fit_add F (by omega) hb.1 (by simpa using hb.2), by omega, by omega⟩
    · cases h
end K59

set_option Elab.async false
set_option linter.all false
set_option maxRecDepth 100000
set_option maxHeartbeats 4000000
/-! one drawn row of words -/
namespace K59
open PySem PySem.Spec PyProof.Rows L2 HotX L2H Evl He
theorem deed_ok (g : Deed) : WordOk g.w g.ns := .inr ⟨(deed_words g).2, by cases g <;> simp [numV, numV0, numV1, Deed.w, Deed.ns]⟩
theorem deed_len (g : Deed) : g.ns.length ≤ 2 ∧ g.w.length ≤ 4 := by
  cases g <;> exact ⟨Nat.le_of_ble_eq_true rfl, Nat.le_of_ble_eq_true rfl⟩
theorem eqS_R {σ : K59.St} {H : Hp} {x : Str} {tu : L2.TS} {D : Ends} (h : ∀ H2, Ex H H2 → D.nx σ H2) : rNe (.str x) (.str x) H fun z H3 => ∃ k, z = .bl k ∧ (if k = true then tu D σ H3 else tNext D σ H3) := by
  refine rd_neS (K := []) H (Ex.refl H) _ _ (.str _) (.str _) _ fun v H12 e12 hv => ?_
  cases hv
  refine ⟨_, rfl, ?_⟩
  rw [decide_eq_true rfl]
  exact ite_f (h H12 e12)
theorem rest_row : rowT "rest" [] = "rest" := rfl
section
variable {K : PySem.W.Frag} {H4 H : Hp} {p d d2 dx2 : Addr} {A A1 : Cl → Addr} {s : NS} {m : Nat}
theorem turn_body {σ : K59.St} {D : Ends} (h2 : σ[2]? = some (some (.ref p))) (h3 : σ[3]? = some (some (.ref d))) (h6 : σ[6]? = some (some (.ref (A .net)))) (hl : σ.length = 10) (W : Two K H4 H p d d2 dx2 A A1 s m) (hm : m ≤ 800000)
    (k : ∀ q A' A1' s' H', A' .net = A .net → Two K H4 H' p d d2 dx2 A' A1' s' (m + 30) → D.nx (σ.set 8 (some (.ref q))) H') :
    tSeq (tAsg (tCl (spWords K) E0 (tCons (tVar 2) (tCons (tVar 6) (tCons (tC (.int 9)) tNil)))) (gName 8)) (tIfS (tTest (tOp rNe (tCl (spSaid K) E0 (tCons (tVar 3) (tCons (tM1 (rJoin K) (tC (.str " ")) (tVar 8)) tNil))) (tCl (spDone K) E0 (tCons (tVar 6) (tCons (tVar 8) tNil))))) (tRet (tC (.bl false))) tNext) D σ H := by
  have G := W.fit.g
  have n9 := W.n9
  have F := W.fit.mono (show 60 * s.n ≤ 1000 by omega)
  have GW : GoodW s := ⟨G.n1, n9, G.fl, G.row.cd⟩
  have h8 : ∀ q, (σ.set 8 (some (.ref q)))[8]? = some (some (V.ref q)) := fun q => List.getElem?_set_self (by omega)
  have h3' : ∀ q, (σ.set 8 (some (V.ref q)))[3]? = some (some (V.ref d)) := fun q => by rw [List.getElem?_set_ne (by decide), h3]
  have h6' : ∀ q, (σ.set 8 (some (V.ref q)))[6]? = some (some (V.ref (A .net))) := fun q => by rw [List.getElem?_set_ne (by decide), h6]
  have join : ∀ (q : Addr) (ws : List Str) (H' : Hp), H' q = some (.lst (ws.map V.str)) → (∀ w ∈ ws, w.length ≤ 9) → ws.length ≤ 10 → EvD K (tM1 (rJoin K) (tC (.str " ")) (tVar 8)) (σ.set 8 (some (.ref q))) H' (.str (Txt.join " " ws)) := fun q ws H' hq hw hwl => by
    refine ed_join ed_s (ed_var (h8 q) (.lst (.inl (.inl hq)) (strs_da ws))) ?_
    have h1 := sum_le (fun w : Str => w.length) 9 ws hw
    have h2 : (" " : Str).length = 1 := rfl
    rw [h2]
    have : (ws.map fun w => w.length).sum ≤ 90 := by omega
    show (ws.map fun w : Str => w.length).sum + ws.length * 1 ≤ 16777216
    omega
  refine q_asgR (cl_R (cons_R (var_R h2 (cons_R (var_R h6 (cons_R (c_R (nil_R ⟨p, A, s, m, rfl, W.pot, hm, W.net, W.np, GW, fun q g H2 hq k2 p2 hq2 hc hcm => ?_, fun q H2 hq k2 p2 hq2 => ?_⟩))))))))
  · have W2 := W.dip k2 p2
    have hq1 : ¬ Foot A1 s.n q := fun f => by
      obtain ⟨_, _, hN⟩ := W.desk
      obtain ⟨o, ho⟩ := foot_in hN f
      rw [ho] at hq
      cases hq
    have hj := join q (g.w :: g.ns.map numT) H2 hq2 (fun w hw => by
      rcases List.mem_cons.mp hw with rfl | hw
      · have := (deed_len g).2
        omega
      · obtain ⟨n, hn, rfl⟩ := List.mem_map.mp hw
        exact numT_len (hc n hn)) (by
      have := (deed_len g).1
      rw [List.length_cons, List.length_map]
      omega)
    refine op_R (cl_R (cons_R (var_R (h3' q) (cons_R (hj H2 (Ex.refl H2) _ fun v H3 e3 hv => ?_)))))
    cases hv
    have W3 := W2.ex' e3
    have hq3 := e3 _ _ hq2
    obtain ⟨dx, hd, hN⟩ := W3.desk
    have DK := fit_deed F (Nat.le_refl _) n9
    refine nil_R ⟨d, dx, A1, s, g.w, g.ns, rfl, deed_ok g, hc, by have := (deed_len g).1; omega, hd, hN, .inl ⟨g, rfl, rfl, DK, ?_⟩⟩
    cases hR : g.R s with
    | inl kk =>
      intro H5 e5
      refine cl_R (cons_R (var_R (h6' q) (cons_R (var_R (h8 q) (nil_R ⟨q, A, s, rfl, W3.net.ex e5, .inl ⟨g, e5 _ _ hq3, hc, DK, ?_⟩⟩)))))
      rw [hR]
      intro H6 e6
      exact eqS_R fun H7 e7 => k q A A1 s H7 rfl (W3.ex' ((e5.trans e6).trans e7))
    | inr s' =>
      intro A1' H5 a1 a2 k5 N5
      obtain ⟨F', n9', hn⟩ := deed_fit W.fit n9 hcm hR
      have NA : NetAt K H5 A s := W3.net.kp k5 (fun a f1 f => W3.dis a f f1) (hN.tst k5)
      refine cl_R (cons_R (var_R (h6' q) (cons_R (var_R (h8 q) (nil_R ⟨q, A, s, rfl, NA, .inl ⟨g, k5.st _ _ hq3 hq1, hc, DK, ?_⟩⟩)))))
      rw [hR]
      intro A' H6 b1 b2 k6 N6
      exact eqS_R fun H7 e7 => k q A' A1' s' H7 (b1 .net trivial) ((W3.both F' n9' hn a1 a2 k5 N5 b1 b2 k6 N6).ex' e7)
  · have W2 := W.dip k2 p2
    obtain ⟨b, mm, s2, R, hmm, F2⟩ := rest_ex (c := 60 * s.n) (by omega) (phi s) W.fit (Nat.le_refl _)
    obtain ⟨rn, rf⟩ := run_facts R
    have hph := F.ph
    have hm9 : mm ≤ 999999999 := by omega
    have hq1 : ¬ Foot A1 s.n q := fun f => by
      obtain ⟨_, _, hN⟩ := W.desk
      obtain ⟨o, ho⟩ := foot_in hN f
      rw [ho] at hq
      cases hq
    have hj := join q ["rest"] H2 hq2 (fun w hw => by
      rw [List.mem_singleton.mp hw]
      decide) (by decide)
    refine op_R (cl_R (cons_R (var_R (h3' q) (cons_R (hj H2 (Ex.refl H2) _ fun v H3 e3 hv => ?_)))))
    cases hv
    have W3 := W2.ex' e3
    have hq3 := e3 _ _ hq2
    obtain ⟨dx, hd, hN⟩ := W3.desk
    refine nil_R ⟨d, dx, A1, s, "rest", [], rfl, rest_word, (fun _ z => by cases z), Nat.zero_le _, hd, hN, .inr ⟨rfl, b, mm, s2, R, hm9, fun H5 k5 N5 => ?_⟩⟩
    have NA : NetAt K H5 A s := W3.net.kp k5 (fun a f1 f => W3.dis a f f1) (hN.tst k5)
    refine cl_R (cons_R (var_R (h6' q) (cons_R (var_R (h8 q) (nil_R ⟨q, A, s, rfl, NA, .inr ⟨k5.st _ _ hq3 hq1, b, mm, s2, R, hm9, fun H6 k6 N6 => ?_⟩⟩)))))
    refine eqS_R fun H7 e7 => k q A A1 s2 H7 rfl ((W3.both (by rw [rn]; exact F2) (by omega) (by omega) (fun _ _ => rfl) (fun cl x y => absurd (by rw [rn] at x; exact x) y) k5 N5 (fun _ _ => rfl) (fun cl x y => absurd (by rw [rn] at x; exact x) y) k6 N6).ex' e7)
end
end K59

set_option Elab.async false
set_option linter.all false
set_option maxRecDepth 100000
set_option maxHeartbeats 4000000
/-! the law -/
namespace K59
open PySem PySem.Spec PyProof.Rows L2 HotX L2H Evl He
section
variable {P : Program} {w : World} {K : PySem.W.Frag} {mg : Str → Option Value} {base : Heap}
theorem ev_min2' {σ : K59.St} {H : Hp} {ta tb : TE} {i j : Int} (ha : Ev ta σ H (.int i)) (hb : Ev tb σ H (.int j)) : Ev (tCB (fun xs H Q => ∃ i j, xs = [V.int i, V.int j] ∧ Q (V.int (if j < i then j else i)) H) (tCons ta (tCons tb tNil))) σ H (.int (if j < i then j else i)) := fun H1 e Q q =>
  ha H1 e _ fun H2 e2 => hb H2 (e.trans e2) _ fun H3 e3 => ⟨i, j, rfl, q H3 (e2.trans e3)⟩
theorem ifL_R {σ : K59.St} {H : Hp} {D : Ends} {c : TT} {tu : L2.TS} (h : c σ H fun b H1 => if b = true then tu D σ H1 else D.nx σ H1) : tIfS c tu tNext D σ H := h
def spLaw (K : PySem.W.Frag) : Sp := fun vs H Q _ => ∃ (a : Addr) (ns : List Int), vs = [.ref a] ∧ SqL K H a (ns.map V.int) ∧ ns.length ≤ 63 ∧ ∀ H2, Q (.bl true) H2
theorem law_fn (T : Txt w K mg) {fd : FuncData} (F : FunD K "law" "law" (defArgs s_law) (defBody s_law) (defScope s_law) [] [] (ga K "law") fd) : FnOk P w K mg base CX0 12 (ga K "law") fd ["_law_script"] (spLaw K) := by
  have G__law_pot : FR P w K mg base 1 (ga K "_law_pot") (spPot K) := ok_pot T
  have G__law_dip : FR P w K mg base 1 (ga K "_law_dip") (spDip K) := ok_dip T
  have G__law_row : FR P w K mg base 3 (ga K "_law_row") (spRow K) := ok_law_row T
  have G__law_words : FR P w K mg base 3 (ga K "_law_words") (spWords K) := ok_law_words T
  have G_Desk_init : FR P w K mg base 1 (ma K (ga K "Desk") "__init__") (spDeskInit K) := ok_Desk_init T
  have G_Net_init : FR P w K mg base 5 (ma K (ga K "Net") "__init__") (spNetInit K) := ok_Net_init T
  have G_Desk_say : FR P w K mg base 9 (ma K (ga K "Desk") "say") (spSay K) := ok_say T
  have G__law_said : FR P w K mg base 11 (ga K "_law_said") (spSaid K) := ok_law_said T
  have G__law_done : FR P w K mg base 11 (ga K "_law_done") (spDone K) := ok_law_done T
  have G__law_carried : FR P w K mg base 10 (ga K "_law_carried") (spCarried K) := ok_law_carried T
  have G__law_alike : FR P w K mg base 10 (ga K "_law_alike") (spAlike K) := ok_law_alike T
  have G__law_rest_right : FR P w K mg base 10 (ga K "_law_rest_right") (spRestR K) := ok_law_rest_right T
  refine F.ok sc_law (fun vs H Q E h => by obtain ⟨_, _, rfl, _⟩ := h; rfl) fun cdv A0 outer s0 H vs Q E hr h => ?_
  suffices hh : ∃ t, PSs (cxOf CX0 P w K mg base N_law "law" (defScope s_law) (ga K "law") cdv A0 outer s0 H E).nox (defBody s_law) t ∧ t { nx := fun _ H' => Q .non H', rt := Q } (L2.start N_law vs) H by
    obtain ⟨t, h1, h2⟩ := hh
    exact ⟨t, h1.nox, h2⟩
  obtain ⟨a, ns, rfl, hsq, hn, k⟩ := h
  refine ⟨_, (pss_cons (ps_for PassesOwn.never rfl (pi_range1 (by rfl) T.b_range (pa_cons (pe_callB (call_max2 rfl) (by rfl) T.b_max bt_max (pa_cons pe_int (pa_cons (pe_callB (call_min2 rfl) (by rfl) T.b_min bt_min (pa_cons pe_int (pa_cons (pe_op op_add (pe_callB call_len_seq (by rfl) T.b_len bt_len (pa_cons (pv 0) pa_nil)) pe_int) pa_nil))) pa_nil))) pa_nil)) (pg_name (i := 1) sc_law.nd rfl (Or.inl rfl)) (pss_cons (ps_set (i := 2) sc_law.nd rfl (Or.inl rfl) (cl G__law_pot (hr.mono (by decide)) T.g__law_pot psN (pa_cons (pv 0) (pa_cons (pv 1) pa_nil))))
      (pss_cons (ps_par (i := 3) (j := 4) (by rfl) sc_law.nd rfl rfl (by decide) rfl rfl (pa_cons (mk0 T.mk_Desk G_Desk_init (hr.mono (by decide)) T.c_Desk psN) (pa_cons (mk0 T.mk_Desk G_Desk_init (hr.mono (by decide)) T.c_Desk psN) pa_nil)) (by rfl))
      (pss_cons (ps_set (i := 5) sc_law.nd rfl (Or.inl rfl) (cl G__law_row (hr.mono (by decide)) T.g__law_row psN (pa_cons (pv 2) (pa_cons pe_int pa_nil))))
      (pss_cons (ps_set (i := 6) sc_law.nd rfl (Or.inl rfl) (mk T.mk_Net G_Net_init (hr.mono (by decide)) T.c_Net psN (pa_cons (pv 5) pa_nil)))
      (pss_cons (ps_expr (me (pv 3) T.k_Desk T.m_Desk_say G_Desk_say (hr.mono (by decide)) psN (pa_cons (pe_op op_add_str pe_str (pe_joinK K rfl pe_str (pe_lc (own := [("_law_card", 9)]) (g := (gName 9)) (tt := tYes) rfl sc_law.nd (pi_list (pv 5)) (blkOk_by (own := [("_law_card", 9)]) (N := N_law) (sc := defScope s_law) (by decide +kernel)) (fun _ _ _ _ _ => (pg_name (i := 9) sc_law.nd rfl (Or.inl rfl))) (fun _ _ _ _ _ => pts_nil) (fun _ _ _ _ _ => (pe_callTy call_str_int (by rfl) T.b_str bt_str (pa_cons (pv 9) pa_nil)))))) pa_nil)))
      (pss_cons (ps_for PassesOwn.never rfl (pi_range1 (by rfl) T.b_range (pa_cons (cl G__law_dip (hr.mono (by decide)) T.g__law_dip psN (pa_cons (pv 2) (pa_cons pe_int pa_nil))) pa_nil)) (pg_name (i := 7) sc_law.nd rfl (Or.inl rfl)) (pss_cons (ps_set (i := 8) sc_law.nd rfl (Or.inl rfl) (cl G__law_words (hr.mono (by decide)) T.g__law_words psN (pa_cons (pv 2) (pa_cons (pv 6) (pa_cons pe_int pa_nil)))))
      (pss_one (ps_if (pt_cmpR op_ne (cl G__law_said (hr.mono (by decide)) T.g__law_said psN (pa_cons (pv 3) (pa_cons (pe_joinK K rfl pe_str (pv 8)) pa_nil))) (cl G__law_done (hr.mono (by decide)) T.g__law_done psN (pa_cons (pv 6) (pa_cons (pv 8) pa_nil))) (nomark _)) (pss_one (ps_ret pe_bl)) pss_nil))))
      (pss_cons (ps_if (PW.pt (pw_or (pt_not (pt_val (cl G__law_carried (hr.mono (by decide)) T.g__law_carried psN (pa_cons (pv 3) (pa_cons (pv 4) pa_nil))))) (pw_or1 (pt_not (pt_val (cl G__law_alike (hr.mono (by decide)) T.g__law_alike psN (pa_cons (pv 3) (pa_cons (pv 4) pa_nil)))))))) (pss_one (ps_ret pe_bl)) pss_nil)
      (pss_one (ps_if (PW.pt (pw_or (pt_not (pt_val (cl G__law_rest_right (hr.mono (by decide)) T.g__law_rest_right psN (pa_cons (pv 3) pa_nil)))) (pw_or (pt_not (pt_val (cl G__law_rest_right (hr.mono (by decide)) T.g__law_rest_right psN (pa_cons (pv 4) pa_nil)))) (pw_or1 (pt_cmpR op_ne (me (pv 3) T.k_Desk T.m_Desk_say G_Desk_say (hr.mono (by decide)) psN (pa_cons pe_str pa_nil)) (me (pv 4) T.k_Desk T.m_Desk_say G_Desk_say (hr.mono (by decide)) psN (pa_cons pe_str pa_nil)) (nomark _)))))) (pss_one (ps_ret pe_bl)) pss_nil))))))))))
      (pss_one (ps_ret pe_bl))), ?_⟩
  have hrng : Ev (tCB (fun xs H Q => ∃ i j, xs = [V.int i, V.int j] ∧ Q (V.int (if j > i then j else i)) H) (tCons (tC (.int 1)) (tCons (tCB (fun xs H Q => ∃ i j, xs = [V.int i, V.int j] ∧ Q (V.int (if j < i then j else i)) H) (tCons (tC (.int 6)) (tCons (tOp (rI0 fun i j => V.int (i + j)) (tCB (rLenS K) (tCons (tVar 0) tNil)) (tC (.int 1))) tNil))) tNil))) (L2.start N_law [V.ref a]) H _ := ev_max2 ev_c (ev_min2' ev_c (ed_op (d_i (ev_len (K := K) (ev_var rfl) hsq)) ed_i (rd_I0 (K := K) (g := fun i j => i + j))).i)
  refine q_forV (H0 := H) (iv_rng1 (K := K) hrng ?_ ?_) (Ex.refl H) (fun i σ' H' => ∃ u1 u2 u3 u4 u5 u6 u7 u8 u9 : Option V, σ' = [some (.ref a), u1, u2, u3, u4, u5, u6, u7, u8, u9] ∧ Ex H H') (fun H1 e1 => ⟨_, _, _, _, _, _, _, _, _, rfl, e1⟩) (fun i σ' H' hi ⟨_, _, _, _, _, _, _, _, _, _, e⟩ => e) ?_ ?_
  · split <;> split <;> omega
  · split <;> split <;> omega
  · rintro i dd σ' H' x H4 hi ⟨u1, u2, u3, u4, u5, u6, u7, u8, u9, rfl, e0⟩ e4 hx
    rw [List.getElem?_map] at hi
    have hlt : i < 6 := by
      cases h : (List.range (if (if ((ns.map V.int).length : Int) + 1 < 6 then ((ns.map V.int).length : Int) + 1 else 6) > 1 then (if ((ns.map V.int).length : Int) + 1 < 6 then ((ns.map V.int).length : Int) + 1 else 6) else 1 : Int).toNat)[i]? with
      | none => rw [h] at hi; cases hi
      | some j =>
        have h1 := (List.getElem?_eq_some_iff.mp h).1
        rw [List.length_range] at h1
        have h2 : (if (if ((ns.map V.int).length : Int) + 1 < 6 then ((ns.map V.int).length : Int) + 1 else 6) > 1 then (if ((ns.map V.int).length : Int) + 1 < 6 then ((ns.map V.int).length : Int) + 1 else 6) else 1 : Int) ≤ 6 := by
          split <;> split <;> omega
        omega
    obtain rfl : dd = .int (i : Int) := by
      cases h : (List.range (if (if ((ns.map V.int).length : Int) + 1 < 6 then ((ns.map V.int).length : Int) + 1 else 6) > 1 then (if ((ns.map V.int).length : Int) + 1 < 6 then ((ns.map V.int).length : Int) + 1 else 6) else 1 : Int).toNat)[i]? with
      | none => rw [h] at hi; cases hi
      | some j =>
        rw [h] at hi
        have h1 : j = i := by
          obtain ⟨q1, q2⟩ := List.getElem?_eq_some_iff.mp h
          rw [List.getElem_range] at q2
          exact q2.symm
        rw [h1] at hi
        exact (Option.some.inj hi).symm
    cases hx
    have hsq4 := ex_l (e0.trans e4) hsq
    refine q_asgR (cl_R (cons_R (var_R rfl (cons_R (var_R rfl (nil_R ⟨a, ns, i, rfl, hsq4, by omega, fun p H5 hp e5 pot5 => ?_⟩))))))
    refine par_R (cons_R (mkDesk fun d dx H6 hd e6 hd6 => cons_R (mkDesk fun d2 dx2 H7 hd2 e7 hd27 => nil_R ⟨_, _, rfl, ?_⟩)))
    refine st_eq (σ' := [some (.ref a), some (.int (i : Int)), some (.ref p), some (.ref d), some (.ref d2), u5, u6, u7, u8, u9]) rfl ?_
    have pot7 := (pot5.ex e6).ex e7
    refine q_asgR (cl_R (cons_R (var_R rfl (cons_R (c_R (nil_R ⟨p, 0, rfl, pot7, by omega, fun q rs H8 hq k8 pot8 hq8 RO hl7 => ?_⟩))))))
    have hdp : d ≠ p := pot_no pot7 (e7 _ _ hd6)
    have hd2p : d2 ≠ p := pot_no pot7 hd27
    have hdd : d ≠ d2 := fun z => by
      rw [← z, hd6] at hd2
      cases hd2
    have hd8 : H8 d = some (.ins (ga K "Desk") dx (deskF .non)) := k8.st _ _ (e7 _ _ hd6) hdp
    have hd28 : H8 d2 = some (.ins (ga K "Desk") dx2 (deskF .non)) := k8.st _ _ hd27 hd2p
    have fp4 : H4 p = none := hp
    have fd4 : H4 d = none := fresh_back e5 hd
    have fd24 : H4 d2 = none := fresh_back (e5.trans e6) hd2
    have e48 : Ex H4 H8 := fun b o hb => k8.st b o (((e5.trans e6).trans e7) b o hb) fun z => by
      rw [z, fp4] at hb
      cases hb
    dsimp only
    refine st_eq (σ' := [some (.ref a), some (.int (i : Int)), some (.ref p), some (.ref d), some (.ref d2), some (.ref q), u6, u7, u8, u9]) rfl ?_
    have hqd : Dp K H8 (.ref q) (.list (DI rs)) := .lst (.inl (.inl hq8)) (ints_da rs)
    refine q_asgR (mkNet rfl hqd RO fun A H9 hA e9 N9 => ?_)
    generalize hx0 : A .net = x0
    refine st_eq (σ' := [some (.ref a), some (.int (i : Int)), some (.ref p), some (.ref d), some (.ref d2), some (.ref q), some (.ref x0), u7, u8, u9]) rfl ?_
    have rsc := RO.cd
    obtain ⟨r0, rr, hrr⟩ : ∃ r0 rr, rs = r0 :: rr := by
      cases h : rs with
      | nil =>
        have h1 := RO.lo
        rw [h] at h1
        exact absurd h1 (by decide)
      | cons b c => exact ⟨b, c, rfl⟩
    have hnet : EvD K (tOp rAd (tC (.str "net ")) (tM1 (rJoin K) (tC (.str " ")) (tLc (iList K (tVar 5)) (gName 9) tYes (tCB rStI (tCons (tVar 9) tNil)) [9]))) [some (.ref a), some (.int (i : Int)), some (.ref p), some (.ref d), some (.ref d2), some (.ref q), some (.ref x0), u7, u8, u9] H9 (.str (rowT "net" rs)) := by
      have e : rowT "net" rs = "net " ++ joinI " " rs := by
        rw [hrr, row_head]
        rfl
      have hl := joinI_len (g := " ") rsc
      have h1 : (" " : Str).length = 1 := rfl
      have h4 : ("net " : Str).length = 4 := rfl
      rw [h1] at hl
      rw [e]
      refine ed_op ed_s (ed_join (ys := rs.map numT) ed_s (en_to (en_mapA PyData.int (xs := rs) (fun n => PyData.str (numT n)) (ii_list (ed_var rfl (dp_ex e9 _ hqd))) (by omega) (fun _ _ => rfl)
        fun n hn => tn1 (fun _ => rfl) fun v H5 e5 hv => ⟨et_yes, fun _ => ed_strI (ed_var rfl hv) (rsc n hn)⟩) (by rw [List.map_map] <;> rfl)).toD ?_) (rd_addS (by
          have : (joinI " " rs).length ≤ 70 := by omega
          show 4 + (joinI " " rs).length ≤ 100000
          omega))
      have := sum_le (fun w : Str => w.length) 9 (rs.map numT) fun w hw => by
        obtain ⟨n, hn, rfl⟩ := List.mem_map.mp hw
        exact numT_len (rsc n hn)
      rw [List.length_map] at this ⊢
      rw [h1]
      omega
    have hd9 := e9 _ _ hd8
    refine q_dropR ⟨_, rfl, d, dx, _, rfl, hd9, rfl, hnet H9 (Ex.refl H9) _ fun v H10 e10 hv => ?_⟩
    cases hv
    refine ⟨d, dx, "net", rs, .non, rfl, .inl ⟨rfl, by rw [hrr]; simp⟩, rsc, by omega, e10 _ _ hd9, .inl ⟨rfl, RO, fun A1 H11 hA1 k11 hd11 N11 => ?_⟩⟩
    obtain ⟨i1, i2, i3, i4, i5, i6⟩ := initS_facts rs
    have N10 := N9.ex e10
    have hdN : ¬ Foot A (initS rs).n d := foot_no N10 (e10 _ _ hd9)
    have W0 : Two K H4 H11 p d d2 dx2 A A1 (initS rs) 100 := by
      have fA : ∀ cl, Live (initS rs).n cl → H8 (A cl) = none := fun cl hl => hA cl (by rw [i1] at hl; exact hl)
      have fA1 : ∀ cl, Live (initS rs).n cl → H10 (A1 cl) = none := fun cl hl => hA1 cl (by rw [i1] at hl; exact hl)
      have sep : ∀ b, b = d → ¬ Foot A (initS rs).n b := fun b e f => hdN (e ▸ f)
      have e4_10 : Ex H4 H10 := (e48.trans e9).trans e10
      obtain ⟨x1, y1, z1, hp8, _⟩ := id pot8
      refine ⟨N10.kp k11 sep (ts_ins (e10 _ _ hd9) k11), ⟨dx, hd11, N11⟩, ((pot8.ex e9).ex e10).kp k11 (fun z => hdp z.symm), fit_init RO (by omega), by rw [i1]; omega, k11.st _ _ ((e9.trans e10) _ _ hd28) (fun z => hdd z.symm), fun b o hb => k11.st b o (e4_10 b o hb) fun z => (by rw [z, fd4] at hb; cases hb), fun cl hl => fresh_back e48 (fA cl hl), fun cl hl => fresh_back e4_10 (fA1 cl hl), fp4, fun b fa fb => ?_, fun f => ?_, fun f => ?_, hdd⟩
      · obtain ⟨o, ho⟩ := foot_in N10 fa
        obtain ⟨cl, hl, e⟩ := fb
        rw [← e, fA1 cl hl] at ho
        cases ho
      · obtain ⟨cl, hl, e⟩ := f
        have := fA cl hl
        rw [e, hp8] at this
        cases this
      · obtain ⟨cl, hl, e⟩ := f
        have := fA1 cl hl
        rw [e, (e9.trans e10) _ _ hp8] at this
        cases this
    refine seq_R ?_
    unfold tFor iRng1
    refine cons_R (cl_R (cons_R (var_R rfl (cons_R (c_R (nil_R ⟨p, 61, 100, rfl, by omega, by omega, W0.pot, by omega, fun r H12 r0' r1 k12 pot12 => nil_R ⟨r, rfl, by omega, by omega, ?_⟩⟩))))))
    have W1 := W0.dip k12 pot12
    refine s_forG (K := K) (wi := iRng1 tNil) (R := fun _ _ => True) gv_rng (fun j σ' H' => ∃ (v7 v8 v9 : Option V) (B B1 : Cl → Addr) (s : NS), σ' = [some (.ref a), some (.int (i : Int)), some (.ref p), some (.ref d), some (.ref d2), some (.ref q), some (.ref x0), v7, v8, v9] ∧ B .net = x0 ∧ Two K H4 H' p d d2 dx2 B B1 s (101 + 30 * j)) ⟨_, _, _, A, A1, _, rfl, hx0, W1⟩ (fun _ _ _ _ _ => trivial) ?_ ?_
    · rintro j d' σ' H' x H13 hj ⟨v7, v8, v9, B, B1, s, rfl, hB, W⟩ e13 hx
      have hjl := (List.getElem?_eq_some_iff.mp hj).1
      rw [List.length_map, List.length_range] at hjl
      subst hB
      refine turn_body rfl rfl rfl rfl (W.ex' e13) (by omega) fun q' A' A1' s' H14 eA W' => ⟨_, _, _, A', A1', s', rfl, eA, ?_⟩
      rw [show 101 + 30 * (j + 1) = 101 + 30 * j + 30 by omega]
      exact W'
    · rintro σ' H' ⟨v7, v8, v9, B, B1, s, rfl, hB, W⟩
      clear W0 W1
      have n9 := W.n9
      have F := W.fit.mono (show 60 * s.n ≤ 1000 by omega)
      have GR : GoodR s := fit_r F (Nat.le_refl _) n9
      dsimp only
      refine ifC_R ?_
      refine cl_R (cons_R (var_R rfl (cons_R (var_R rfl (nil_R ⟨d, d2, dx2, B1, s, rfl, W.desk, W.mate, W.ne, F, n9, fun A2 s2 H15 f2 k15 M2 F2 dn ff => ⟨true, rfl, ?_⟩⟩)))))
      refine ite_f ?_
      obtain ⟨dxa, hda, hNa⟩ := id W.desk
      have d2no : ¬ Foot B1 s.n d2 := foot_no hNa W.mate
      have W15 : DeskAt K H15 d B1 s := desk_kp W.desk k15 W.ne (fun b e f => d2no (e ▸ f)) (ts_ins W.mate k15)
      obtain ⟨A2', g1, g2, D2⟩ := id M2
      have GR2 : GoodR s2 := fit_r F2 (Nat.le_refl _) (by omega)
      refine cl_R (cons_R (var_R rfl (cons_R (var_R rfl (nil_R ⟨d, d2, B1, A2', s, s2, rfl, W15, D2, GR, GR2, ff, same_now F.g F2.g ff dn, dn, by rw [F.g.fl]; exact n9, fun H16 e16 => ⟨true, rfl, ?_⟩⟩)))))
      refine ite_f ?_
      refine ifL_R ?_
      have dno : ¬ Foot B1 s.n d := foot_no hNa hda
      refine cl_R (cons_R (var_R rfl (nil_R ⟨d, B1, s, rfl, W15.ex e16, dno, F, n9, fun s3 H17 k17 D17 G3 l3 f3 ff3 n3 F3 => ⟨true, rfl, ?_⟩⟩)))
      refine ite_f ?_
      have D2_16 := D2.ex e16
      have fA2 : ∀ b, Foot A2' s2.n b → H' b = none := fun b ⟨cl, hl, e⟩ => by
        rw [g2] at hl
        rw [← e, g1 cl hl]
        exact f2 cl hl
      have sep : ∀ b, Foot B1 s.n b → ¬ Foot A2' s2.n b := fun b fa fb => by
        obtain ⟨o, ho⟩ := foot_in hNa fa
        rw [fA2 b fb] at ho
        cases ho
      obtain ⟨dxb, hdb, hNb⟩ := id D2_16
      obtain ⟨dxc, hdc, hNc⟩ := id (W15.ex e16)
      have D2_17 : DeskAt K H17 d2 A2' s2 := desk_kp D2_16 k17 d2no sep (hNc.tst k17)
      have d2no2 : ¬ Foot A2' s2.n d2 := foot_no hNb hdb
      refine cl_R (cons_R (var_R rfl (nil_R ⟨d2, A2', s2, rfl, D2_17, d2no2, F2, by omega, fun s4 H18 k18 D18 G4 l4 f4 ff4 n4 F4 => ⟨true, rfl, ?_⟩⟩)))
      refine ite_f ?_
      have dno2 : ¬ Foot A2' s2.n d := fun f => by
        have := fA2 d f
        rw [hda] at this
        cases this
      obtain ⟨dxd, hdd', hNd⟩ := id D2_17
      have D18' : DeskAt K H18 d B1 s3 := desk_kp D17 k18 dno2 (fun b fa fb => sep b (by rw [n3] at fb; exact fb) fa) (hNd.tst k18)
      have e34 : s4.now = s3.now := rest_same G3 G4 l3 f3 l4 f4 (ff4.trans (ff.trans ff3.symm))
      have GR3 : GoodR s3 := fit_r F3 (Nat.le_refl _) (by omega)
      have GR4 : GoodR s4 := fit_r F4 (Nat.le_refl _) (by omega)
      refine et_db (K := K) (ed_op (ed_say rfl D18' GR3 .row (ed_to ed_s rfl)) (ed_say rfl D18 GR4 .row (ed_to ed_s rfl)) rd_neS) H18 (Ex.refl H18) _ fun H19 e19 => ?_
      rw [e34, decide_eq_true rfl]
      refine ite_f ?_
      refine ⟨_, _, _, _, _, _, _, _, _, rfl, fun b o hb => ?_⟩
      have hb4 := e4 _ _ (e0 _ _ hb)
      have hb1 := W.ex _ _ hb4
      have hb15 := k15.st _ _ hb1 fun z => by
        rw [z, fd24] at hb4
        cases hb4
      have hb17 := k17.st _ _ (e16 _ _ hb15) fun ⟨cl, hl, e⟩ => by
        rw [← e, W.fr1 cl hl] at hb4
        cases hb4
      exact e19 _ _ (k18.st _ _ hb17 fun f => by
        rw [fA2 b f] at hb1
        cases hb1)
  · rintro σ' H' _
    exact k H'
end
end K59

set_option Elab.async false
set_option linter.all false
set_option maxRecDepth 100000
set_option maxHeartbeats 0
/-! the end -/
namespace K59
open PySem PySem.Spec PyProof.Rows L2 He
theorem facts {P : Program} {w : World} {K : PySem.W.Frag} {h : Heap} {mg : Str → Option Value} {f : Addr} (X : K.In h) (G : h.Ns mainGlobals mg) (hfa : mg ("law" : Str) = some (.ref f)) (c : SaysX fa fn ts [] ex w h K) :
    ∃ fd : FuncData, (∀ (s : Shared) (v : Value), BindsTo s fd ⟨[v], []⟩ [("_law_script", v)]) ∧ ∀ base : Heap, K.In base → base.Ns mainGlobals mg → FnOk P w K mg base CX0 12 f fd ["_law_script"] (spLaw K) := by
  have T : Txt w K mg := ⟨h, X, G, c⟩
  obtain ⟨fd, F⟩ := T.f_law
  have e := hfa.symm.trans T.g_law.1
  cases e
  have b := FunD.bindsA (ps := ["_law_script"]) F fun _ _ _ _ _ _ us hl => match us, hl with | [_], _ => rfl
  exact ⟨fd, fun s v => b s [v] rfl, fun base _ _ => law_fn T F⟩
end K59
open PySem PySem.W PySem.Calls PyProof.Rows
theorem PySem.Challenge.cw_threecrossings_k59_whole_desks_carried_holds : PySem.Challenge.rw_threecrossings_k59_whole_desks_carried.Holds := by
  w_on; o_law
  refine HandSHeadRun.head_any (r := OpenLaw.row PySem.Challenge.rw_threecrossings_k59_whole_desks_carried) (q := view (OpenLaw.row PySem.Challenge.rw_threecrossings_k59_whole_desks_carried).prog [81]) (H := K59.hk) (ob := K59.ob) (M := 20000) (loose := K59.names) (d := HandSHeadRun.topDef (OpenLaw.row PySem.Challenge.rw_threecrossings_k59_whole_desks_carried).prog 81) (kwd := []) K59.ob_eq
    (by kernel_rfl) (fun s => by kernel_rfl) K59.run (by kernel_rfl) (by kernel_rfl) (by kernel_rfl) (by rfl) (by first | assumption | decide +kernel) (by decide +kernel) ⟨rfl, rfl, rfl, rfl, rfl, by decide +kernel⟩ ?hw ?hc
  case hw => w_witness2
  case hc =>
    refine L2.walk_ofE (l := PySem.Challenge.rw_threecrossings_k59_whole_desks_carried) (n := 63) (k := 12) (x := "_law_script") (CX := L2.CX0) rfl (by decide) (by kernel_rfl) ⟨rfl, by decide, by decide⟩ ?F (fun _ _ _ _ z => z)
    intro w mg fa h Y G hmg0
    obtain ⟨K, KX, c⟩ := Y
    have hmg : mg ("law" : PySem.Str) = some (.ref fa) := by
      have e : (HandSHeadRun.topDef (OpenLaw.row PySem.Challenge.rw_threecrossings_k59_whole_desks_carried).prog 81).name = ("law" : PySem.Str) := by kernel_rfl
      rw [← e]
      exact hmg0
    obtain ⟨fd, hb, hF⟩ := K59.facts (P := (PySem.Challenge.rw_threecrossings_k59_whole_desks_carried).prog) (w := w) KX G hmg c
    exact ⟨K, fd, K59.spLaw K, KX, hb, fun H a ns hl _ hS => ⟨a, ns, rfl, hS, hl, fun _ => rfl⟩, hF⟩

