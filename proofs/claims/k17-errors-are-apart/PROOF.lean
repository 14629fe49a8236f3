import PyProof.Rows.All
import Wide.All
import OpenK.AllK
import Wide.FinOn
import HandS.ForMost
import HandS.ForExc
import HandS.Codes
import HandS.IsInst
import HandS.DictComp
import HandS.ExcCtx
import HandS.ExcField
import HandS.ExcInit
import HandS.HotCalls
import HandS.NoneIn
import HandS.TupAny
import HandS.Walk
import KE.GoesEnum
import HandS.TryMany
import HandS.HeadHook4
import HandS.Small
import HandS.More
import HandS.RaiseMore
import HandS.HeadWalk
import HandS.HeadEnd
import HandS.Head0
import HandS.Head1
import HandS.Head2
import HandS.Head3
import HandS.ExcIs
import PySem.Challenge.RW_gridlooks_k17_errors_are_apart
set_option Elab.async false
set_option linter.all false
set_option maxRecDepth 100000
set_option maxHeartbeats 4000000
set_option autoImplicit false
section
set_option autoImplicit true
namespace Z
open PySem PySem.Spec PyProof.Rows L2
/-! ### readings over the text itself: what must hold so that this piece of the text runs to Q -/
structure WE (X : Cx) (e : Expr) (σ : L2.St) (H : Hp) (Q : VK) : Prop where
  run : ∀ (pins : List (Addr × Obj)) (s : Shared), Inv X pins σ H s → wpAny (model X.prog X.w) X.A (eval e X.env) (EP X pins σ Q) X.xe s
structure WT (X : Cx) (e : Expr) (σ : L2.St) (H : Hp) (Q : Bool → Hp → Prop) : Prop where
  run : ∀ (pins : List (Addr × Obj)) (s : Shared), Inv X pins σ H s → wpAny (model X.prog X.w) X.A (isTrue e X.env (eval e X.env)) (TP X pins σ Q) X.xe s
structure WW (X : Cx) (e : Expr) (σ : L2.St) (H : Hp) (Q : Bool → Hp → Prop) : Prop where
  run : ∀ (whole : Sem Value) (pins : List (Addr × Obj)) (s : Shared), Inv X pins σ H s → wpAny (model X.prog X.w) X.A (isTrue e X.env whole) (TP X pins σ Q) X.xe s
structure WA (X : Cx) (es : List Expr) (σ : L2.St) (H : Hp) (Q : List V → Hp → Prop) : Prop where
  run : ∀ (pos : Pos) (pins : List (Addr × Obj)) (s : Shared), Inv X pins σ H s → wpAny (model X.prog X.w) X.A (spliced (backTo pos (starEach es X.env))) (AP X pins σ Q) X.xe s
structure WS (X : Cx) (st : Stmt) (n : L2.St → Hp → Prop) (r : VK) (b c : L2.St → Hp → Prop) (σ : L2.St) (H : Hp) : Prop where
  run : ∀ (pins : List (Addr × Obj)) (s : Shared), Inv X pins σ H s → wpAny (model X.prog X.w) X.A (exec st X.env) (SP X pins ⟨n, r, b, c⟩) X.xe s
structure WB (X : Cx) (sts : List Stmt) (n : L2.St → Hp → Prop) (r : VK) (b c : L2.St → Hp → Prop) (σ : L2.St) (H : Hp) : Prop where
  run : ∀ (pins : List (Addr × Obj)) (s : Shared), Inv X pins σ H s → wpAny (model X.prog X.w) X.A (execs sts X.env) (SP X pins ⟨n, r, b, c⟩) X.xe s
structure WG (X : Cx) (tg : Expr) (v : V) (σ : L2.St) (H : Hp) (Q : L2.St → Hp → Prop) : Prop where
  run : ∀ (pins : List (Addr × Obj)) (s : Shared) (u : Value), Inv X pins σ H s → RelV v u → wpAny (model X.prog X.w) X.A (assign tg X.env u) (fun _ s' => ∃ σ' H', Inv X pins σ' H' s' ∧ Q σ' H') X.xe s
structure WGs (X : Cx) (ts : List Expr) (vs : List V) (σ : L2.St) (H : Hp) (Q : L2.St → Hp → Prop) : Prop where
  run : ∀ (pins : List (Addr × Obj)) (s : Shared) (us : List Value), Inv X pins σ H s → Vals vs us → wpAny (model X.prog X.w) X.A (assignInOrder ((assignEach ts X.env).map (·.2)) us) (fun _ s' => ∃ σ' H', Inv X pins σ' H' s' ∧ Q σ' H') X.xe s
section
variable {X : Cx} {e : Expr} {es : List Expr} {st : Stmt} {sts rest : List Stmt} {σ : L2.St} {H : Hp} {n b c : L2.St → Hp → Prop} {r : VK} {Q : VK} {QB : Bool → Hp → Prop} {QA : List V → Hp → Prop} {QG : L2.St → Hp → Prop} {pos : Pos}
theorem pe_w (e : Expr) : PE X e (WE X e) := ⟨fun pins s _ _ _ I h => h.run pins s I⟩
theorem pt_w (e : Expr) : PT X e (WT X e) := ⟨fun pins s _ _ _ I h => h.run pins s I⟩
theorem pw_w (e : Expr) : PW X e (WW X e) := ⟨fun wh pins s _ _ _ I h => h.run wh pins s I⟩
theorem pa_w (es : List Expr) : PA X es (WA X es) := ⟨fun pos pins s _ _ _ I h => h.run pos pins s I⟩
theorem ps_w (st : Stmt) : PS X st (fun D => WS X st D.nx D.rt D.bk D.ct) := ⟨fun pins s _ _ _ I h => h.run pins s I⟩
theorem pss_w (sts : List Stmt) : PSs X sts (fun D => WB X sts D.nx D.rt D.bk D.ct) := ⟨fun pins s _ _ _ I h => h.run pins s I⟩
theorem pg_w (tg : Expr) : PG X tg (WG X tg) := ⟨fun pins s _ _ _ u _ I r h => h.run pins s u I r⟩
theorem pgs_w (ts : List Expr) : PGs X ts (WGs X ts) := ⟨fun pins s _ _ _ us _ I r h => h.run pins s us I r⟩
theorem we_of {t : TE} (h : PE X e t) (q : t σ H Q) : WE X e σ H Q := ⟨fun pins s I => h.run pins s σ H Q I q⟩
theorem wt_of {t : TT} (h : PT X e t) (q : t σ H QB) : WT X e σ H QB := ⟨fun pins s I => h.run pins s σ H QB I q⟩
theorem ww_of {t : TT} (h : PW X e t) (q : t σ H QB) : WW X e σ H QB := ⟨fun wh pins s I => h.run wh pins s σ H QB I q⟩
theorem wa_of {t : TA} (h : PA X es t) (q : t σ H QA) : WA X es σ H QA := ⟨fun pos pins s I => h.run pos pins s σ H QA I q⟩
theorem ws_of {t : TS} (h : PS X st t) (q : t ⟨n, r, b, c⟩ σ H) : WS X st n r b c σ H := ⟨fun pins s I => h.run pins s σ H _ I q⟩
theorem wb_of {t : TS} (h : PSs X sts t) (q : t ⟨n, r, b, c⟩ σ H) : WB X sts n r b c σ H := ⟨fun pins s I => h.run pins s σ H _ I q⟩
theorem wg_of {v : V} {tg : Expr} {t : TG} (h : PG X tg t) (q : t v σ H QG) : WG X tg v σ H QG := ⟨fun pins s u I r => h.run pins s σ H v u QG I r q⟩
theorem wgs_of {vs : List V} {ts : List Expr} {t : TGs} (h : PGs X ts t) (q : t vs σ H QG) : WGs X ts vs σ H QG := ⟨fun pins s us I r => h.run pins s σ H vs us QG I r q⟩
end
section
variable {X : Cx} {e : Expr} {es : List Expr} {σ : L2.St} {H : Hp} {Q Q' : VK} {QB QB' : Bool → Hp → Prop} {QA QA' : List V → Hp → Prop} {QG QG' : L2.St → Hp → Prop} {tg : Expr} {v : V}
theorem WE.mono (h : WE X e σ H Q) (f : ∀ v H, Q v H → Q' v H) : WE X e σ H Q' := ⟨fun pins s I => wpAny_mono (h.run pins s I) (fun u s1 ⟨y, H1, I1, r1, q⟩ => ⟨y, H1, I1, r1, f _ _ q⟩) fun _ _ z => z⟩
theorem WT.mono (h : WT X e σ H QB) (f : ∀ v H, QB v H → QB' v H) : WT X e σ H QB' := ⟨fun pins s I => wpAny_mono (h.run pins s I) (fun u s1 ⟨H1, I1, q⟩ => ⟨H1, I1, f _ _ q⟩) fun _ _ z => z⟩
theorem WA.mono (h : WA X es σ H QA) (f : ∀ v H, QA v H → QA' v H) : WA X es σ H QA' := ⟨fun pos pins s I => wpAny_mono (h.run pos pins s I) (fun u s1 ⟨y, H1, I1, r1, q⟩ => ⟨y, H1, I1, r1, f _ _ q⟩) fun _ _ z => z⟩
theorem WG.mono (h : WG X tg v σ H QG) (f : ∀ v H, QG v H → QG' v H) : WG X tg v σ H QG' := ⟨fun pins s u I r => wpAny_mono (h.run pins s u I r) (fun u s1 ⟨y, H1, I1, q⟩ => ⟨y, H1, I1, f _ _ q⟩) fun _ _ z => z⟩
end
/-! ### what a body knows of where it stands -/
/-- the name x stands in the i-th slot -/
structure Nm (X : Cx) (x : Str) (i : Nat) : Prop where
  at_ : X.N[i]? = some x
  vis : Vis X.env.scope x
  dbg : (x == ("__debug__" : Str)) = false
  cdi : (x == ("__classdict__" : Str)) = false
/-- .. and may be stored -/
structure Lc (X : Cx) (x : Str) (i : Nat) : Prop extends Nm X x i where
  nd : X.N.Nodup
  loc : Loc X.env.scope x
  fn : X.fn x = true ∨ X.env.scope.names.lookup x = some .local
/-- the name of a module's thing -/
structure Gn (X : Cx) (x : Str) : Prop where
  gl : Gl X x
  dbg : (x == ("__debug__" : Str)) = false
/-- a built-in's name -/
structure Bn (X : Cx) (x : Str) : Prop extends Gn X x where
  mg : X.mg x = none
  nn : x ≠ "__name__"
section
variable {X : Cx} {e a b c : Expr} {es : List Expr} {st : Stmt} {sts rest : List Stmt} {σ : L2.St} {H : Hp} {Q : VK} {QB : Bool → Hp → Prop} {QA : List V → Hp → Prop} {QG : L2.St → Hp → Prop} {pos p : Pos} {x : Str} {i : Nat} {v : V}
/-! ### expressions -/
theorem w_name (n : Nm X x i) (h : σ[i]? = some (some v)) (q : Q v H) : WE X (.Name x p) σ H Q := we_of (pe_var n.at_ n.vis n.dbg n.cdi) ⟨v, h, q⟩
theorem w_glob {u : Value} (n : Gn X x) (hm : X.mg x = some u) (r : RelV v u) (q : Q v H) : WE X (.Name x p) σ H Q := we_of (pe_glob n.gl hm r n.dbg) q
theorem w_bltn {u : Value} (n : Bn X x) (hv : bootBuiltins x = some u) (r : RelV v u) (q : Q v H) : WE X (.Name x p) σ H Q := we_of (pe_bltn n.gl n.mg hv r n.nn n.dbg) q
theorem w_int {z : Int} {j} (q : Q (.int z) H) : WE X (.Constant (.int z) j p) σ H Q := we_of pe_int q
theorem w_bl {z : Bool} {j} (q : Q (.bl z) H) : WE X (.Constant (.bool z) j p) σ H Q := we_of pe_bl q
theorem w_str {z : Str} {j} (q : Q (.str z) H) : WE X (.Constant (.str z) j p) σ H Q := we_of pe_str q
theorem w_non {j} (q : Q .non H) : WE X (.Constant .none j p) σ H Q := we_of pe_non q
theorem w_op {op : Operator} {r : R2} (ho : OpR X (binaryOp op) r) (h : WE X a σ H fun x H1 => WE X b σ H1 fun y H2 => r x y H2 Q) : WE X (.BinOp a op b p) σ H Q := we_of (pe_op ho (pe_w a) (pe_w b)) h
theorem w_un {op : UnaryOp} {r : V → Hp → VK → Prop} (ho : UnR X (unaryOp op) r) (h : WE X a σ H fun x H1 => r x H1 Q) : WE X (.UnaryOp op a p) σ H Q := we_of (pe_un ho (pe_w a)) h
theorem w_cmp {op : CmpOp} {r : R2} (ho : OpR X (compareOp op) r) (hm : behindInMarks op b = false) (h : WE X a σ H fun x H1 => WE X b σ H1 fun y H2 => r x y H2 Q) : WE X (.Compare a [op] [b] p) σ H Q := we_of (pe_cmpR ho (pe_w a) (pe_w b) hm) h
theorem t_cmp {op : CmpOp} {r : R2} (ho : OpR X (compareOp op) r) (hm : behindInMarks op b = false) (h : WE X a σ H fun x H1 => WE X b σ H1 fun y H2 => r x y H2 fun z H3 => ∃ k, z = .bl k ∧ QB k H3) : WT X (.Compare a [op] [b] p) σ H QB := wt_of (pt_cmpR ho (pe_w a) (pe_w b) hm) h
theorem w_chain {op op' : CmpOp} {r r' : R2} (ho : OpR X (compareOp op) r) (ho' : OpR X (compareOp op') r') (hm : lastMarks [op, op'] [b, c] = false) (h : WE X a σ H fun x H1 => WE X b σ H1 fun y H2 => r x y H2 fun z H3 => ∃ k, z = .bl k ∧ (if k = true then WE X c σ H3 fun w' H4 => r' y w' H4 Q else Q (.bl false) H3)) :
    WE X (.Compare a [op, op'] [b, c] p) σ H Q := we_of (pe_chain ho ho' (pe_w a) (pe_w b) (pe_w c) (hm := hm)) h
theorem t_chain {op op' : CmpOp} {r r' : R2} (ho : OpR X (compareOp op) r) (ho' : OpR X (compareOp op') r') (hm : lastMarks [op, op'] [b, c] = false) (h : WE X a σ H fun x H1 => WE X b σ H1 fun y H2 => r x y H2 fun z H3 => ∃ k, z = .bl k ∧ (if k = true then WE X c σ H3 fun w' H4 => r' y w' H4 fun z H5 => ∃ k, z = .bl k ∧ QB k H5 else ∃ k, V.bl false = .bl k ∧ QB k H3)) :
    WT X (.Compare a [op, op'] [b, c] p) σ H QB := wt_of (pt_chain ho ho' (pe_w a) (pe_w b) (pe_w c) (hm := hm)) h
theorem w_if (h : WT X c σ H fun k H1 => if k = true then WE X a σ H1 Q else WE X b σ H1 Q) : WE X (.IfExp c a b p) σ H Q := we_of (pe_ifExp (pt_w c) (pe_w a) (pe_w b)) h
theorem w_and (h : WE X a σ H fun x H1 => ∃ k, x = .bl k ∧ if k = true then WE X (.BoolOp .And (b :: es) p) σ H1 Q else Q (.bl false) H1) : WE X (.BoolOp .And (a :: b :: es) p) σ H Q := we_of (pe_and (pe_w a) (pe_w _)) h
theorem w_or (h : WE X a σ H fun x H1 => ∃ k, x = .bl k ∧ if k = true then Q (.bl true) H1 else WE X (.BoolOp .Or (b :: es) p) σ H1 Q) : WE X (.BoolOp .Or (a :: b :: es) p) σ H Q := we_of (pe_or (pe_w a) (pe_w _)) h
theorem w_bop1 {op} (h : WE X a σ H Q) : WE X (.BoolOp op [a] p) σ H Q := we_of (pe_one (pe_w a)) h
theorem w_not (h : WE X a σ H fun x H1 => ∃ k, x = .bl k ∧ Q (.bl (!k)) H1) : WE X (.UnaryOp .Not a p) σ H Q := we_of (pe_not (pe_w a)) h
theorem t_ww (h : WW X e σ H QB) : WT X e σ H QB := wt_of (PW.pt (pw_w e)) h
theorem t_and (h : WT X a σ H fun k H1 => if k = true then WW X (.BoolOp .And (b :: es) p) σ H1 QB else QB false H1) : WW X (.BoolOp .And (a :: b :: es) p) σ H QB := ww_of (pw_and (pt_w a) (pw_w _)) h
theorem t_or (h : WT X a σ H fun k H1 => if k = true then QB true H1 else WW X (.BoolOp .Or (b :: es) p) σ H1 QB) : WW X (.BoolOp .Or (a :: b :: es) p) σ H QB := ww_of (pw_or (pt_w a) (pw_w _)) h
theorem t_and1 (h : WT X a σ H QB) : WW X (.BoolOp .And [a] p) σ H QB := ww_of (pw_and1 (pt_w a)) h
theorem t_or1 (h : WT X a σ H QB) : WW X (.BoolOp .Or [a] p) σ H QB := ww_of (pw_or1 (pt_w a)) h
theorem t_not (h : WT X a σ H fun k H1 => QB (!k) H1) : WT X (.UnaryOp .Not a p) σ H QB := wt_of (pt_not (pt_w a)) h
/-- a test by a value's truth -/
theorem t_tru (he : ∀ whole, isTrue a X.env whole = (do let v ← whole; standAt a.pos; holding [v] (truthy v))) (h : WE X a σ H fun x H' => ∃ k, TruV X.K x H' k ∧ QB k H') : WT X a σ H QB := wt_of (pt_truth (pe_w a) he) h
theorem w_fld {f : Str} (hb : attributeBase e f X.env (eval e X.env) = eval e X.env) (h : WE X e σ H fun x H1 => ∃ a C dx fs v, x = .ref a ∧ H1 a = some (.ins C dx fs) ∧ Cls X.K C ∧ NoAttr X.K C f ∧ fs.lookup f = some v ∧ Q v H1) : WE X (.Attribute e f p) σ H Q := we_of (pe_fld (pe_w e) hb) h
theorem w_tup {j : Nat} (h : WA X es σ H fun xs H1 => xs.length ≤ sizeLine ∧ ∀ p, H1 p = none → Q (.ref p) (upd H1 p (.tup xs))) : WE X (.Tuple es j p) σ H Q := we_of (pe_tup (pa_w es)) h
theorem w_lst (h : WA X es σ H fun xs H1 => xs.length ≤ sizeLine ∧ ∀ p, H1 p = none → Q (.ref p) (upd H1 p (.lst xs))) : WE X (.List es p) σ H Q := we_of (pe_lst (pa_w es)) h
theorem a_nil (q : QA [] H) : WA X [] σ H QA := wa_of pa_nil q
theorem a_cons (hs : starEach (e :: es) X.env = (false, eval e X.env) :: starEach es X.env) (h : WE X e σ H fun x H1 => WA X es σ H1 fun xs H2 => QA (x :: xs) H2) : WA X (e :: es) σ H QA := wa_of (pa_cons (pe_w e) (pa_w es) hs) h
theorem w_ix {r : R2} (hr : IxR X r) (hs : PlainIx b) (h : WE X a σ H fun x H1 => WE X b σ H1 fun y H2 => r x y H2 Q) : WE X (.Subscript a b p) σ H Q := we_of (pe_ix hr (pe_w a) (pe_w b) hs) h
/-- the parts of a slice -/
def WO (X : Cx) (o : Option Expr) (σ : L2.St) (H : Hp) (Q : Option Int → Hp → Prop) : Prop := match o with
  | none => Q none H
  | some e => WE X e σ H fun x H1 => ∃ i, x = .int i ∧ Q (some i) H1
theorem po_w : ∀ o : Option Expr, PO X o (WO X o)
  | none => po_none
  | some e => po_some (pe_w e)
theorem w_slice {lo hi : Option Expr} {p2 : Pos} {r : V → Option Int → Option Int → Hp → VK → Prop} (hr : SlR X r) (h : WE X e σ H fun x H1 => WO X lo σ H1 fun l H2 => WO X hi σ H2 fun u H3 => r x l u H3 Q) : WE X (.Subscript e (.Slice lo hi none p2) p) σ H Q := we_of (pe_slice hr (pe_w e) (po_w lo) (po_w hi)) h
/-! ### calls -/
/-- a def that may be called by its name -/
structure Cal (P : Program) (w : World) (K : PySem.W.Frag) (mg : Str → Option Value) (base : Heap) (k : Nat) (x : Str) (sp : Sp) : Prop where
  ex : ∃ (f : Addr) (fd : FuncData) (ps : List Str), FnOk P w K mg base (L2N.CX P w) k f fd ps sp ∧ mg x = some (.ref f) ∧ PySem.W.keepIn K (.ref f) = true ∧ Binds K fd ps []
/-- a method of the class at C -/
structure Met (P : Program) (w : World) (K : PySem.W.Frag) (mg : Str → Option Value) (base : Heap) (k : Nat) (C : Addr) (m : Str) (sp : Sp) : Prop where
  ex : ∃ (f : Addr) (fd : FuncData) (ps : List Str), Cls K C ∧ Meth K C m f ∧ FnOk P w K mg base (L2N.CX P w) k f fd ps sp ∧ Binds K fd ps []
/-- a class that may be made by its name; sp: its __init__ -/
structure Mak (P : Program) (w : World) (K : PySem.W.Frag) (mg : Str → Option Value) (base : Heap) (k : Nat) (x : Str) (C : Addr) (sp : Sp) : Prop where
  ex : ∃ (f : Addr) (fd : FuncData) (ps : List Str), Mk K C f ∧ FnOk P w K mg base (L2N.CX P w) k f fd ps sp ∧ mg x = some (.ref C) ∧ Binds K fd ps []
/-- what a callee lets out, at the slots σ -/
abbrev EX (W : WX) (σ : L2.St) : XK := fun cls d H => W cls d σ H
/-- f(e, ..), f a def of the module -/
theorem w_call {k j : Nat} {sp : Sp} {W : WX} (c : Cal X.prog X.w X.K X.mg X.base k x sp) (tk : L2N.Takes X W) (hr : Room j X.A) (hk : k ≤ j) (n : Gn X x)
    (he : starEach (e :: es) X.env = (false, eval e X.env) :: starEach es X.env) (hpl : (backTo pos (starEach es X.env)).any (·.1) = false)
    (h : WA X (e :: es) σ H fun vs H1 => sp vs H1 Q (EX W σ)) : WE X (.Call (.Name x p) (e :: es) [] pos) σ H Q := by
  obtain ⟨f, fd, ps, F, hm, kp, b⟩ := c.ex
  exact we_of (pe_callS (E := L2.WE W) F (hr.mono hk) n.gl hm kp b (fun σ => L2N.passAt tk σ) (pa_w _) n.dbg he hpl) h
theorem w_call0 {k j : Nat} {sp : Sp} {W : WX} (c : Cal X.prog X.w X.K X.mg X.base k x sp) (tk : L2N.Takes X W) (hr : Room j X.A) (hk : k ≤ j) (n : Gn X x)
    (h : sp [] H Q (EX W σ)) : WE X (.Call (.Name x p) [] [] pos) σ H Q := by
  obtain ⟨f, fd, ps, F, hm, kp, b⟩ := c.ex
  refine ⟨fun pins s I => ?_⟩
  refine wpAny_Call_Name_kw (ld_glob I n.gl hm ?_ n.dbg)
  exact PySem.W.callWith_K0 I.kIn kp (run_fnS (us := []) (E := L2.WE W) F (hr.mono hk) b (L2N.passAt tk σ) I .nil h)
/-- o.m(e, ..) -/
theorem w_meth {k j : Nat} {C : Addr} {m : Str} {apos : Pos} {o : Expr} {sp : Sp} {W : WX} {pl : Sem Bool} (c : Met X.prog X.w X.K X.mg X.base k C m sp) (tk : L2N.Takes X W) (hr : Room j X.A) (hk : k ≤ j)
    (hst : starEach (e :: es) X.env = (false, eval e X.env) :: starEach es X.env) (hpl : (backTo pos (starEach es X.env)).any (·.1) = false)
    (ht : eval (.Call (.Attribute o m apos) (e :: es) [] pos) X.env = (do
      let ov ← eval o X.env
      standAt apos.atName
      let (f, first) ← holding [ov] (getMethod ov m pl)
      callWith pos f first (backTo pos (starEach (e :: es) X.env)) (backToKw pos (keywordEach [] X.env))))
    (h : WE X o σ H fun x H1 => ∃ a dx fs, x = .ref a ∧ H1 a = some (.ins C dx fs) ∧ fs.lookup m = none ∧ WA X (e :: es) σ H1 fun vs H2 => sp (x :: vs) H2 Q (EX W σ)) : WE X (.Call (.Attribute o m apos) (e :: es) [] pos) σ H Q := by
  obtain ⟨f, fd, ps, cl, hm, F, b⟩ := c.ex
  refine ⟨fun pins s I => ?_⟩
  refine PySem.W.methodCall_KW (pl := pl) (thn (h.run pins s I) fun u s1 ⟨x, H1, I1, rx, a, dx, fs, ex, ea, l, q⟩ => ?_) ht
  subst ex
  obtain rfl : u = Value.ref a := rx
  refine getmeth_ok I1 ea cl hm l ?_
  refine PySem.W.callWith_K (first := [.ref a]) (h₀ := X.base) I.ok.mod.kin hm.kp (thn (q.run pos pins s1 I1) fun us s2 ⟨vs, H2, I2, r, q2⟩ => ⟨I2.kIn, ?_⟩) hst hpl
  exact run_fnS (us := .ref a :: us) (vs := .ref a :: vs) (E := L2.WE W) F (hr.mono hk) b (L2N.passAt tk σ) I2 (.cons rfl r) q2
theorem w_meth0 {k j : Nat} {C : Addr} {m : Str} {apos : Pos} {o : Expr} {sp : Sp} {W : WX} {pl : Sem Bool} (c : Met X.prog X.w X.K X.mg X.base k C m sp) (tk : L2N.Takes X W) (hr : Room j X.A) (hk : k ≤ j)
    (ht : eval (.Call (.Attribute o m apos) [] [] pos) X.env = (do
      let ov ← eval o X.env
      standAt apos.atName
      let (f, first) ← holding [ov] (getMethod ov m pl)
      callWith pos f first (backTo pos (starEach [] X.env)) (backToKw pos (keywordEach [] X.env))))
    (h : WE X o σ H fun x H1 => ∃ a dx fs, x = .ref a ∧ H1 a = some (.ins C dx fs) ∧ fs.lookup m = none ∧ sp [x] H1 Q (EX W σ)) : WE X (.Call (.Attribute o m apos) [] [] pos) σ H Q := by
  obtain ⟨f, fd, ps, cl, hm, F, b⟩ := c.ex
  refine ⟨fun pins s I => ?_⟩
  refine PySem.W.methodCall_KW (pl := pl) (thn (h.run pins s I) fun u s1 ⟨x, H1, I1, rx, a, dx, fs, ex, ea, l, q⟩ => ?_) ht
  subst ex
  obtain rfl : u = Value.ref a := rx
  refine getmeth_ok I1 ea cl hm l ?_
  exact PySem.W.callWith_K0 (first := [.ref a]) I1.kIn hm.kp (run_fnS (us := [.ref a]) (vs := [.ref a]) (E := L2.WE W) F (hr.mono hk) b (L2N.passAt tk σ) I1 (.cons rfl .nil) q)
/-- C(e, ..): a new instance, then __init__ -/
theorem run_mk {k : Nat} {C f : Addr} {fd : FuncData} {ps : List Str} {sp : Sp} {W : WX} {pins : List (Addr × Obj)} {s : Shared} {us : List Value} {vs : List V} (M : Mk X.K C f) (F : FnOk X.prog X.w X.K X.mg X.base (L2N.CX X.prog X.w) k f fd ps sp) (hr : Room (k + 1) X.A) (hb : Binds X.K fd ps [])
    (tk : L2N.Takes X W) (I : Inv X pins σ H s) (r : Vals vs us)
    (h : ∀ x dx, H x = none → H dx = none → dx ≠ x → sp (.ref x :: vs) (upd (upd H dx (.own x)) x (.ins C dx [])) (fun v H2 => v = .non ∧ Q (.ref x) H2) (EX W σ)) :
    wpAny (model X.prog X.w) X.A (call (.ref C) us) (EP X pins σ Q) X.xe s := by
  have hq := h (s.heap.objs.size + 1) s.heap.objs.size (I.hok.fresh (Nat.le_succ _)) (I.hok.fresh (Nat.le_refl _)) (Nat.ne_of_lt (Nat.lt_succ_self _))
  have I2 := Inv.made (C := C) I
  have r2 : Vals (V.ref (s.heap.objs.size + 1) :: vs) (Value.ref (s.heap.objs.size + 1) :: us) := .cons rfl r
  have hl : (Value.ref (s.heap.objs.size + 1) :: us).length = ps.length := by
    have e := r2.length
    rw [F.len _ _ _ _ hq] at e
    exact e.symm
  have bb := hb _ (Value.ref (s.heap.objs.size + 1) :: us) I2.kIn (by rw [List.append_nil]; exact hl)
  rw [List.append_nil] at bb
  refine wpAny_call (make_map (f := f) I.kIn M.makes M.init (beq_iff_eq.mp M.fn) (codeAny_mono (F.run _ X.stack _ _ ⟨Value.ref (s.heap.objs.size + 1) :: us, []⟩ (Value.ref (s.heap.objs.size + 1) :: us) _ _ (EX W σ) (hr.make C us [])
    (I2.env0.make C us []) bb r2 hq) fun r s' hq' => ?_))
  cases r with
  | error e => exact L2N.passAt tk σ pins _ _ e s' I2 hq'
  | ok fl =>
    cases fl with
    | ret u =>
      obtain ⟨v, H', I3, rv, ev, q3⟩ := I2.after hq'
      subst ev
      exact ⟨rv, ⟨V.ref (s.heap.objs.size + 1), H', I3, rfl, q3⟩⟩
    | next => exact False.elim hq'
    | brk => exact False.elim hq'
    | cont => exact False.elim hq'
theorem w_make {k j : Nat} {C : Addr} {sp : Sp} {W : WX} (c : Mak X.prog X.w X.K X.mg X.base k x C sp) (tk : L2N.Takes X W) (hr : Room j X.A) (hk : k + 1 ≤ j) (n : Gn X x)
    (he : starEach (e :: es) X.env = (false, eval e X.env) :: starEach es X.env) (hpl : (backTo pos (starEach es X.env)).any (·.1) = false)
    (h : WA X (e :: es) σ H fun vs H1 => ∀ x dx, H1 x = none → H1 dx = none → dx ≠ x → sp (.ref x :: vs) (upd (upd H1 dx (.own x)) x (.ins C dx [])) (fun v H2 => v = .non ∧ Q (.ref x) H2) (EX W σ)) : WE X (.Call (.Name x p) (e :: es) [] pos) σ H Q := by
  obtain ⟨f, fd, ps, M, F, hm, b⟩ := c.ex
  refine ⟨fun pins s I => ?_⟩
  refine wpAny_Call_Name_kw (ld_glob I n.gl hm ?_ n.dbg)
  refine PySem.W.callWith_K (h₀ := X.base) I.ok.mod.kin M.kp (thn (h.run pos pins s I) fun us s1 ⟨vs, H1, I1, r, q⟩ => ⟨I1.kIn, ?_⟩) he hpl
  exact run_mk M F (hr.mono hk) b tk I1 r q
theorem w_callB {id : String} {r : List V → Hp → VK → Prop} (hc : CallR X (.builtin id) r) (n : Bn X x) (hv : bootBuiltins x = some (.builtin id))
    (he : starEach (e :: es) X.env = (false, eval e X.env) :: starEach es X.env) (hpl : (backTo pos (starEach es X.env)).any (·.1) = false) (h : WA X (e :: es) σ H fun vs H1 => r vs H1 Q) : WE X (.Call (.Name x p) (e :: es) [] pos) σ H Q :=
  we_of (pe_callB hc n.gl n.mg hv (pa_w _) n.nn n.dbg he hpl) h
theorem w_callTy {id : String} {r : List V → Hp → VK → Prop} (hc : CallR X (.type id) r) (n : Bn X x) (hv : bootBuiltins x = some (.type id))
    (he : starEach (e :: es) X.env = (false, eval e X.env) :: starEach es X.env) (hpl : (backTo pos (starEach es X.env)).any (·.1) = false) (h : WA X (e :: es) σ H fun vs H1 => r vs H1 Q) : WE X (.Call (.Name x p) (e :: es) [] pos) σ H Q :=
  we_of (pe_callTy hc n.gl n.mg hv (pa_w _) n.nn n.dbg he hpl) h
end
section
variable {X : Cx} {e a b c : Expr} {es : List Expr} {st : Stmt} {sts rest : List Stmt} {σ : L2.St} {H : Hp} {nx bk ct : L2.St → Hp → Prop} {rt : VK} {Q : VK} {QG : L2.St → Hp → Prop} {pos p : Pos} {x : Str} {i : Nat} {v : V}
/-! ### statements -/
theorem b_nil (q : nx σ H) : WB X [] nx rt bk ct σ H := wb_of pss_nil q
theorem b_cons (h : WS X st (WB X rest nx rt bk ct) rt bk ct σ H) : WB X (st :: rest) nx rt bk ct σ H := wb_of (pss_cons (ps_w st) (pss_w rest)) h
theorem s_set {px : Pos} (n : Lc X x i) (hs : swapsWith e (some (.Name x px)) pos.line X.env = pure false) (h : WE X e σ H fun v H1 => nx (σ.set i (some v)) H1) : WS X (.Assign [.Name x px] e pos) nx rt bk ct σ H := ws_of (L2.ps_set n.nd n.at_ n.loc (pe_w e) hs n.fn) h
theorem s_asg {tg : Expr} (hs : swapsWithSole [tg] e pos.line X.env = pure false) (hw : swappedStores [tg] e X.env = pure none) (h1 : (assignEach [tg] X.env).map (·.2) = [assign tg X.env])
    (h : WE X e σ H fun v H1 => WG X tg v σ H1 nx) : WS X (.Assign [tg] e pos) nx rt bk ct σ H := ws_of (ps_asg (pe_w e) (pg_w tg) hs hw h1) h
theorem s_fld {o : Expr} {f : Str} {p' : Pos} (hs : swapsWith e (some (.Attribute o f p')) pos.line X.env = pure false) (h : WE X e σ H fun y H1 => WE X o σ H1 fun x H2 => ∃ a C dx fs, x = .ref a ∧ H2 a = some (.ins C dx fs) ∧ Cls X.K C ∧ NoAttr X.K C f ∧ fs.length < 1000 ∧
  nx σ (upd H2 a (.ins C dx (putF f y fs)))) : WS X (.Assign [.Attribute o f p'] e pos) nx rt bk ct σ H := ws_of (ps_fld (pe_w o) (pe_w e) hs) h
theorem s_expr (hs : swapsWith e none pos.line X.env = pure false) (h : WE X e σ H fun _ H1 => nx σ H1) : WS X (.Expr e pos) nx rt bk ct σ H := ws_of (ps_expr (pe_w e) hs) h
theorem s_ret (h : WE X e σ H rt) : WS X (.Return (some e) pos) nx rt bk ct σ H := ws_of (ps_ret (pe_w e)) h
theorem s_retN (h : rt .non H) : WS X (.Return none pos) nx rt bk ct σ H := ws_of ps_retN h
theorem s_if {ys ns : List Stmt} (h : WT X c σ H fun k H1 => if k = true then WB X ys nx rt bk ct σ H1 else WB X ns nx rt bk ct σ H1) : WS X (.If c ys ns pos) nx rt bk ct σ H := ws_of (ps_if (pt_w c) (pss_w ys) (pss_w ns)) h
theorem s_pass (q : nx σ H) : WS X (.Pass pos) nx rt bk ct σ H := ws_of ps_pass q
theorem s_break (q : bk σ H) : WS X (.Break pos) nx rt bk ct σ H := ws_of ps_break q
theorem s_aug {px : Pos} {op : Operator} {ti : TIp} (n : Lc X x i) (ho : PIp X op ti) (hx : σ[i]? = some (some v)) (h : WE X e σ H fun y H1 => ti v y H1 fun z H2 => nx (σ.set i (some z)) H2) : WS X (.AugAssign (.Name x px) op e pos) nx rt bk ct σ H := ws_of (ps_aug n.nd n.at_ n.loc (pe_w e) ho n.fn) ⟨v, hx, h⟩
/-! ### targets -/
theorem g_name (n : Lc X x i) (q : QG (σ.set i (some v)) H) : WG X (.Name x p) v σ H QG := wg_of (pg_name n.nd n.at_ n.loc n.fn) q
theorem g_tup {a : Addr} {xs : List V} {j : Nat} (hc : X.calm = true) (ht : SqT X.K H a xs) (hn : (assignEach es X.env).length = xs.length) (hst : (assignEach es X.env).findIdx? (·.1) = none) (h : WGs X es xs σ H QG) : WG X (.Tuple es j p) (.ref a) σ H QG :=
  wg_of (pg_tup hc (pgs_w es) hn hst) ⟨a, xs, rfl, ht, rfl, h⟩
theorem gs_nil (q : QG σ H) : WGs X [] [] σ H QG := wgs_of pgs_nil ⟨rfl, q⟩
theorem gs_cons {vs : List V} (hs : (assignEach (e :: es) X.env).map (·.2) = assign e X.env :: (assignEach es X.env).map (·.2)) (h : WG X e v σ H fun σ' H' => WGs X es vs σ' H' QG) : WGs X (e :: es) (v :: vs) σ H QG := wgs_of (pgs_cons (pg_w e) (pgs_w es) hs) ⟨v, vs, rfl, h⟩
/-! ### loops -/
theorem f_list {tg iter : Expr} {body : List Stmt} (hp : PassesOwn (model X.prog X.w) X.A X.env X.xe) (hc : X.calm = true) (hs : ∀ x, foldedSetIterable iter X.env x = pure x)
    (h : WE X iter σ H fun x H1 => ∃ (a : Addr) (xs : List V), x = .ref a ∧ SqL X.K H1 a xs ∧ ∃ Pv : Nat → L2.St → Hp → Prop, Pv 0 σ H1 ∧ (∀ i σ H, i ≤ xs.length → Pv i σ H → SqL X.K H a xs) ∧
      (∀ i x σ H, xs[i]? = some x → Pv i σ H → WG X tg x σ H fun σ2 H2 => WB X body (Pv (i + 1)) rt nx (Pv (i + 1)) σ2 H2) ∧ ∀ σ H, Pv xs.length σ H → nx σ H) :
    WS X (.For tg iter body [] pos) nx rt bk ct σ H := by
  refine ws_of (ps_for hp hc (pi_list (pe_w iter)) (pg_w tg) (pss_w body) hs) ⟨fun pins s I => wpAny_mono (h.run pins s I) ?_ fun _ _ z => z⟩
  rintro u s1 ⟨x, H1, I1, r1, a, xs, rfl, hx, Pv, h0, hl, ht, hd⟩
  exact ⟨.ref a, H1, I1, r1, a, rfl, ⟨xs, hx⟩, for_list (g := WG X tg) (tb := fun D => WB X body D.nx D.rt D.bk D.ct) (D := ⟨nx, rt, bk, ct⟩) Pv h0 hl ht hd⟩
theorem f_tup {tg iter : Expr} {body : List Stmt} (hp : PassesOwn (model X.prog X.w) X.A X.env X.xe) (hc : X.calm = true) (hs : ∀ x, foldedSetIterable iter X.env x = pure x)
    (h : WE X iter σ H fun x H1 => ∃ (a : Addr) (xs : List V), x = .ref a ∧ SqT X.K H1 a xs ∧ ∃ Pv : Nat → L2.St → Hp → Prop, Pv 0 σ H1 ∧ (∀ i σ H, i ≤ xs.length → Pv i σ H → SqT X.K H a xs) ∧
      (∀ i x σ H, xs[i]? = some x → Pv i σ H → WG X tg x σ H fun σ2 H2 => WB X body (Pv (i + 1)) rt nx (Pv (i + 1)) σ2 H2) ∧ ∀ σ H, Pv xs.length σ H → nx σ H) :
    WS X (.For tg iter body [] pos) nx rt bk ct σ H := by
  refine ws_of (ps_for hp hc (pi_tup (pe_w iter)) (pg_w tg) (pss_w body) hs) ⟨fun pins s I => wpAny_mono (h.run pins s I) ?_ fun _ _ z => z⟩
  rintro u s1 ⟨x, H1, I1, r1, a, xs, rfl, hx, Pv, h0, hl, ht, hd⟩
  exact ⟨.ref a, H1, I1, r1, a, rfl, ⟨xs, hx⟩, for_tup (g := WG X tg) (tb := fun D => WB X body D.nx D.rt D.bk D.ct) (D := ⟨nx, rt, bk, ct⟩) Pv h0 hl ht hd⟩
end
end Z

end
section
set_option autoImplicit true
namespace Z
open PySem PySem.Spec PyProof.Rows L2
/-! ### operators by values, several kinds at once -/
section
variable {X : Cx} {K : PySem.W.Frag} {H : Hp} {Q : VK} {x y : V} {i j : Int} {a b : Addr} {xs ys : List V}
def rAddA (K : PySem.W.Frag) : R2 := fun x y H Q => rI0 (fun i j => .int (i + j)) x y H Q ∨ rCat x y H Q ∨ rCatA K x y H Q ∨ (∃ i j, x = .str i ∧ y = .str j ∧ i.length + j.length ≤ sizeLine ∧ Q (.str (i ++ j)) H)
theorem op_addA : OpR X (binaryOp .Add) (rAddA X.K) := OpR.or op_add (OpR.or op_cat (OpR.or op_catA op_add_str))
theorem add_int (q : Q (.int (i + j)) H) : rAddA K (.int i) (.int j) H Q := .inl ⟨i, j, rfl, rfl, q⟩
theorem add_lst (ha : H a = some (.lst xs)) (hb : H b = some (.lst ys)) (hz : xs.length + ys.length ≤ sizeLine) (q : ∀ p, H p = none → Q (.ref p) (upd H p (.lst (xs ++ ys)))) : rAddA K (.ref a) (.ref b) H Q := .inr (.inl ⟨a, b, xs, ys, rfl, rfl, ha, hb, hz, q⟩)
theorem add_str {u w : Str} (hz : u.length + w.length ≤ sizeLine) (q : Q (.str (u ++ w)) H) : rAddA K (.str u) (.str w) H Q := .inr (.inr (.inr ⟨u, w, rfl, rfl, hz, q⟩))
theorem add_tup (ha : SqT K H a xs) (hb : SqT K H b ys) (hz : xs.length + ys.length ≤ sizeLine) (q : (xs = [] → Q (.ref b) H) ∧ (xs ≠ [] → ys = [] → Q (.ref a) H) ∧ (xs ≠ [] → ys ≠ [] → ∀ p, H p = none → Q (.ref p) (upd H p (.tup (xs ++ ys))))) : rAddA K (.ref a) (.ref b) H Q :=
  .inr (.inr (.inl ⟨a, b, xs, ys, rfl, rfl, ha, hb, hz, q.1, q.2.1, q.2.2⟩))
theorem sub_int (q : Q (.int (i - j)) H) : rI0 (fun i j => .int (i - j)) (.int i) (.int j) H Q := ⟨i, j, rfl, rfl, q⟩
theorem cmp_int {g : Int → Int → V} (q : Q (g i j) H) : rI0 g (.int i) (.int j) H Q := ⟨i, j, rfl, rfl, q⟩
/-! an own method called from within a built-in: __len__, __eq__ -/
section
variable {k : Nat} {f : Addr} {fd : FuncData} {ps : List Str} {sp : Sp} {pins : List (Addr × Obj)} {s : Shared} {σ : L2.St}
theorem no_takes : L2N.Takes X (fun _ _ _ _ => False) := fun _ _ ⟨_, _, _, _, _, _, _, _, _, _, _, _, _, _, _, _, w⟩ => w.elim
/-- at A, as deep as the running body -/
theorem run_at {A : Around} {us : List Value} {vs : List V} (F : FnOk X.prog X.w X.K X.mg X.base (L2N.CX X.prog X.w) k f fd ps sp) (hr : Room k A) (hA : A.frames = X.A.frames) (b : Binds X.K fd ps [])
    (I : Inv X pins σ H s) (r : Vals vs us) (h : sp vs H Q (fun _ _ _ => False)) : wpAny (model X.prog X.w) A (call (.ref f) us) (EP X pins σ Q) X.xe s := by
  have hl : us.length = ps.length := by rw [← r.length]; exact F.len _ _ _ _ h
  have bb := b s us I.kIn (by rw [List.append_nil]; exact hl)
  rw [List.append_nil] at bb
  have e0 : Env0 X.prog X.w X.K X.mg X.base A X.stack s H := by
    have e := I.env0
    exact ⟨by rw [hA]; exact e.frames, e.mod, e.bs, e.bsz, e.funs, e.frf, e.hok, e.bare⟩
  refine wpAny_call (codeAny_mono (F.run A X.stack s H ⟨us, []⟩ us vs Q (fun _ _ _ => False) hr e0 bb r h) fun r s' hq => ?_)
  cases r with
  | error e => exact L2N.passAt (no_takes (X := X)) σ pins H s e s' I hq
  | ok fl =>
    cases fl with
    | ret w =>
      obtain ⟨z, H', I', rz, q⟩ := I.after hq
      exact ⟨z, H', I', rz, q⟩
    | next => exact False.elim hq
    | brk => exact False.elim hq
    | cont => exact False.elim hq
end
/-- len of an instance -/
def rLenI (X : Cx) (x : V) (H : Hp) (Q : VK) : Prop := ∃ (a C dx : Addr) (fs : List (Str × V)) (k : Nat) (sp : Sp), x = .ref a ∧ H a = some (.ins C dx fs) ∧ Met X.prog X.w X.K X.mg X.base k C "__len__" sp ∧ Room (k + 1) X.A ∧
  sp [.ref a] H (fun v H2 => ∃ n : Int, v = .int n ∧ 0 ≤ n ∧ n < 2 ^ 63 ∧ Q (.int n) H2) (fun _ _ _ => False)
abbrev rLenOf (K : PySem.W.Frag) : List V → Hp → VK → Prop := fun xs H Q => ∃ x n, xs = [x] ∧ LenV K x H n ∧ Q (.int n) H
def LenA (X : Cx) (x : V) (H : Hp) (Q : VK) : Prop := rLenOf X.K [x] H Q ∨ rLenI X x H Q
theorem call_lenA : CallR X (.builtin "len") (fun xs H Q => ∃ x, xs = [x] ∧ LenA X x H Q) := by
  intro pins s σ H xs us Q I r h
  obtain ⟨x, rfl, h⟩ := h
  rcases h with h | ⟨a, C, dx, fs, k, sp, rfl, ha, c, hr, q⟩
  · exact call_len pins s σ H _ us Q I r h
  · obtain ⟨f, fd, ps, cl, hm, F, b⟩ := c.ex
    have r0 := r
    cases r with
    | cons r1 rr =>
      cases rr
      cases r1
      obtain ⟨mA, J, _⟩ := ins_get I.hok ha
      obtain ⟨od, J, _⟩ := J.look
      refine Calls.call_function_entry kind_len plain_len entry_len (args_len1 _) ?_
      unfold Builtin.«len»
      refine wpAny_bind (m := oneArg "len" _) (wpAny_pure ?_)
      refine wpAny_bind (m := callSpecial? (.ref a) (Str.ofString "__len__")) (PySem.W.special_fn I.kIn J hm.at_ (beq_iff_eq.mp hm.fn) ?_)
      refine wpAny_mono (run_at F hr.in1 rfl b I r0 q) (fun u s' z => ?_) fun _ _ z => z
      obtain ⟨v, H', I', rv, n, rfl, h0, h1, q⟩ := z
      obtain ⟨t, rfl⟩ := rv
      refine wpAny_bind (wpAny_holding (wpAny_pure ?_))
      refine wpAny_bind (wpAny_letGo ?_)
      show wpAny _ _ (if n < 0 then _ else _) _ _ _
      rw [if_neg (by omega)]
      show wpAny _ _ (if n ≥ 2 ^ 63 then _ else _) _ _ _
      rw [if_neg (by omega)]
      exact wpAny_bind (wpAny_mkInt (wpAny_pure ⟨_, rfl, .int n, H', I'.kept (t' := s'.toks + 1) (fun b u e => e), ⟨_, rfl⟩, q⟩))
/-- == of two instances -/
def rEqI (X : Cx) : R2 := fun x y H Q => ∃ (a b C dx dy : Addr) (fs gs : List (Str × V)) (k : Nat) (sp : Sp), x = .ref a ∧ y = .ref b ∧ H a = some (.ins C dx fs) ∧ H b = some (.ins C dy gs) ∧ Met X.prog X.w X.K X.mg X.base k C "__eq__" sp ∧ Room k X.A ∧
  sp [.ref a, .ref b] H (fun v H2 => ∃ z, v = .bl z ∧ Q (.bl z) H2) (fun _ _ _ => False)
theorem op_eqI : OpR X (compareOp .Eq) (rEqI X) := by
  intro pins s σ H x y v u Q I rx ry h
  obtain ⟨a, b, C, dx, dy, fs, gs, k, sp, rfl, rfl, ha, hb, c, hr, q⟩ := h
  obtain ⟨f, fd, ps, cl, hm, F, bi⟩ := c.ex
  cases rx
  cases ry
  obtain ⟨mA, J, _⟩ := ins_get I.hok ha
  obtain ⟨mB, J', _⟩ := ins_get I.hok hb
  obtain ⟨od, J, _⟩ := J.look
  obtain ⟨od', J', _⟩ := J'.look
  obtain ⟨m, hF⟩ := I.fr
  show wpAny (model X.prog X.w) X.A (richCompare .Eq (.ref a) (.ref b)) (EP X pins σ Q) X.xe s
  refine PySem.W.cmp_K (op := .Eq) (tb := .ref C) hr.units0 hF I.ok.mod.kin J J'.type (by simp [PySem.W.notFirst]) hm.at_ hm.fn ?_
  refine wpAny_mono (run_at (vs := [.ref a, .ref b]) F hr rfl bi I (.cons rfl (.cons rfl .nil)) q) (fun w s' z => ?_) fun _ _ z => z
  obtain ⟨v, H', I', rv, z, rfl, q⟩ := z
  cases rv
  exact ⟨.bl z, H', I', rfl, q⟩
def rEqA (X : Cx) : R2 := fun x y H Q => (rEq x y H Q ∨ rEqD X.K x y H Q) ∨ rEqI X x y H Q
def rNeA (K : PySem.W.Frag) : R2 := fun x y H Q => rNe x y H Q ∨ rNeD K x y H Q
theorem op_eqA (hu : X.A.units + 64 < cLine) : OpR X (compareOp .Eq) (rEqA X) := OpR.or (OpR.or op_eq (op_eqD hu)) op_eqI
theorem op_neA (hu : X.A.units + 64 < cLine) : OpR X (compareOp .NotEq) (rNeA X.K) := OpR.or op_ne (op_neD hu)
theorem eq_sc (h : scal x y = true) (q : Q (.bl (decide (x = y))) H) : rEqA X x y H Q := .inl (.inl ⟨h, q⟩)
theorem ne_sc (h : scal x y = true) (q : Q (.bl (!decide (x = y))) H) : rNeA K x y H Q := .inl ⟨h, q⟩
theorem eq_dat {d e : PyData} (hd : Dp X.K H x d) (he : Dp X.K H y e) (sd : SeqAt.shaped d = true) (se : SeqAt.shaped e = true) (q : Q (.bl (PyData.eqv d e)) H) : rEqA X x y H Q := .inl (.inr ⟨d, e, hd, he, sd, se, q⟩)
theorem ne_dat {d e : PyData} (hd : Dp K H x d) (he : Dp K H y e) (sd : SeqAt.shaped d = true) (se : SeqAt.shaped e = true) (q : Q (.bl (!PyData.eqv d e)) H) : rNeA K x y H Q := .inr ⟨d, e, hd, he, sd, se, q⟩
/-- d[k] by values -/
def rIxK : R2 := fun x y H Q => ∃ a v, x = .ref a ∧ DGet H a y (some v) ∧ Q v H
theorem ix_dict (hu : X.A.units + 1 < cLine) : IxR X rIxK := by
  intro value slice pins s σ H x y v u Q I rx ry h hs
  obtain ⟨a, w, rfl, g, q⟩ := h
  obtain rfl : v = Value.ref a := rx
  exact tail_any (dict_typeIs I g) PySem.F.slot_dict_getitem.lookup (d_getItem hu I g ry fun w' s3 I3 rw' => ⟨w, H, I3, rw', q⟩) hs
def rIxA (K : PySem.W.Frag) : R2 := fun x y H Q => rIx K x y H Q ∨ rIxK x y H Q
theorem ix_A (hu : X.A.units + 1 < cLine) : IxR X (rIxA X.K) := IxR.or ix_seq (ix_dict hu)
theorem ix_l {v : V} (h : SqL K H a xs) (e : atI xs i = some v) (q : Q v H) : rIxA K (.ref a) (.int i) H Q := .inl (.inl ⟨a, xs, i, v, rfl, rfl, h, e, q⟩)
theorem ix_t {v : V} (h : SqT K H a xs) (e : atI xs i = some v) (q : Q v H) : rIxA K (.ref a) (.int i) H Q := .inl (.inr (.inl ⟨a, xs, i, v, rfl, rfl, h, e, q⟩))
theorem atI_zero {x : V} {xs : List V} : atI (x :: xs) 0 = some x := atI_nat (j := 0) rfl
theorem ix_t0 {v : V} (h : SqT K H a (v :: xs)) (q : Q v H) : rIxA K (.ref a) (.int 0) H Q := ix_t h atI_zero q
theorem ix_l0 {v : V} (h : SqL K H a (v :: xs)) (q : Q v H) : rIxA K (.ref a) (.int 0) H Q := ix_l h atI_zero q
theorem ix_kk {v : V} {kvs : List (Key × V)} {k : Key} (h : Rd H a (.dK kvs)) (e : valV kvs k = some v) (q : Q v H) : rIxA K (.ref a) (kV k) H Q := .inr ⟨a, v, rfl, .inl ⟨kvs, k, h, rfl, e.symm⟩, q⟩
theorem ix_ks {v : V} {kvs : List (Key × V)} {k : Str} (h : Rd H a (.dK kvs)) (e : valV kvs (.inr k : Key) = some v) (q : Q v H) : rIxA K (.ref a) (.str k) H Q := ix_kk (k := .inr k) h e q
theorem ix_ki {v : V} {kvs : List (Key × V)} {k : Int} (h : Rd H a (.dK kvs)) (e : valV kvs (.inl k : Key) = some v) (q : Q v H) : rIxA K (.ref a) (.int k) H Q := ix_kk (k := .inl k) h e q
/-- in, not in -/
def rInK (neg : Bool) : R2 := fun x y H Q => ∃ a o, y = .ref a ∧ DGet H a x o ∧ Q (.bl (if neg then !o.isSome else o.isSome)) H
theorem op_inK (hu : X.A.units + 1 < cLine) : OpR X (compareOp .In) (rInK false) := by
  intro pins s σ H x y v u Q I rx ry h
  obtain ⟨a, o, rfl, g, q⟩ := h
  obtain rfl : u = Value.ref a := ry
  exact d_in hu I g rx fun s3 I3 => ⟨.bl o.isSome, H, I3, rfl, q⟩
/-- a sign in a text -/
def rInS : R2 := fun x y H Q => ∃ (c : Nat) (z : Str), x = .str ⟨#[c]⟩ ∧ y = .str z ∧ Q (.bl (decide (c ∈ z.cps.toList))) H
def rInA (K : PySem.W.Frag) : R2 := fun x y H Q => (rIn K false x y H Q ∨ rInK false x y H Q) ∨ rInS x y H Q
theorem op_inA (hu : X.A.units + 1 < cLine) : OpR X (compareOp .In) (rInA X.K) := OpR.or (OpR.or op_in_seq (op_inK hu)) op_in_sign
theorem in_sign {c : Nat} {z : Str} (q : Q (.bl (decide (c ∈ z.cps.toList))) H) : rInA K (.str ⟨#[c]⟩) (.str z) H Q := .inr ⟨c, z, rfl, rfl, q⟩
theorem in_l (h : SqL K H a xs) (h1 : flatV x = true) (h2 : xs.all flatV = true) (q : Q (.bl (inV x xs)) H) : rInA K x (.ref a) H Q := .inl (.inl ⟨a, xs, rfl, .inl h, h1, h2, q⟩)
theorem in_t (h : SqT K H a xs) (h1 : flatV x = true) (h2 : xs.all flatV = true) (q : Q (.bl (inV x xs)) H) : rInA K x (.ref a) H Q := .inl (.inl ⟨a, xs, rfl, .inr h, h1, h2, q⟩)
theorem in_k {kvs : List (Key × V)} {k : Key} (h : Rd H a (.dK kvs)) (q : Q (.bl (valV kvs k).isSome) H) : rInA K (kV k) (.ref a) H Q := .inl (.inr ⟨a, _, rfl, .inl ⟨kvs, k, h, rfl, rfl⟩, q⟩)
theorem nin_l (h : SqL K H a xs) (h1 : flatV x = true) (h2 : xs.all flatV = true) (q : Q (.bl (!inV x xs)) H) : rIn K true x (.ref a) H Q := ⟨a, xs, rfl, .inl h, h1, h2, q⟩
theorem nin_t (h : SqT K H a xs) (h1 : flatV x = true) (h2 : xs.all flatV = true) (q : Q (.bl (!inV x xs)) H) : rIn K true x (.ref a) H Q := ⟨a, xs, rfl, .inr h, h1, h2, q⟩
theorem is_non (q : Q (.bl (decide (x = .non))) H) : (fun (x y : V) (H : Hp) (Q : VK) => y = .non ∧ Q (.bl (decide (x = .non))) H) x .non H Q := ⟨rfl, q⟩
theorem isnot_non (q : Q (.bl (!decide (x = .non))) H) : (fun (x y : V) (H : Hp) (Q : VK) => y = .non ∧ Q (.bl (!decide (x = .non))) H) x .non H Q := ⟨rfl, q⟩
end
/-! ### heaps: what is kept -/
/-- all that was there is there, but what stands at one of these -/
def Bt (S : List Addr) (H H' : Hp) : Prop := ∀ a o, H a = some o → a ∉ S → H' a = some o
theorem Bt.refl {S : List Addr} (H : Hp) : Bt S H H := fun _ _ h _ => h
theorem Bt.trans {S : List Addr} {H H1 H2 : Hp} (a : Bt S H H1) (b : Bt S H1 H2) : Bt S H H2 := fun c o h n => b c o (a c o h n) n
theorem Bt.of {S : List Addr} {H H' : Hp} (h : Same H H') : Bt S H H' := fun a o e _ => h a o e
theorem Bt.put {S : List Addr} {H : Hp} {a : Addr} {o : HO} (h : a ∈ S) : Bt S H (L2.upd H a o) := fun b u e n => by
  have ne : b ≠ a := by
    rintro rfl
    exact n h
  rw [upd_ne ne]; exact e
theorem Bt.mono {S T : List Addr} {H H' : Hp} (h : ∀ a ∈ S, a ∈ T) (b : Bt S H H') : Bt T H H' := fun a o e n => b a o e fun z => n (h a z)
theorem same_new {H : Hp} {p : Addr} {o : HO} (h : H p = none) : Same H (upd H p o) := fun a u e => by rw [upd_ne (ne_of_none e h)]; exact e
/-- an object that H0 does not know may change -/
theorem same_mut {H0 H : Hp} {p : Addr} {o : HO} (e : Same H0 H) (h : H0 p = none) : Same H0 (upd H p o) := fun a u ha => by rw [upd_ne (ne_of_none ha h)]; exact e a u ha
theorem same_bt {H0 H H' : Hp} {S : List Addr} (e : Same H0 H) (b : Bt S H H') (h : ∀ a ∈ S, H0 a = none) : Same H0 H' := fun a u ha => b a u (e a u ha) fun z => by have := h a z; rw [ha] at this; cases this
theorem same_get {H H' : Hp} {a : Addr} {o : HO} (e : Same H H') (h : H a = some o) : H' a = some o := e _ _ h
theorem bt_get {S : List Addr} {H H' : Hp} {a : Addr} {o : HO} (e : Bt S H H') (h : H a = some o) (n : a ∉ S) : H' a = some o := e _ _ h n
theorem off1 {H : Hp} {l : Addr} (h : H l = none) : ∀ a ∈ [l], H a = none := fun a ha => by rw [List.mem_singleton.mp ha]; exact h
/-- tuples are kept -/
def Tx (H H' : Hp) : Prop := ∀ a xs, Rd H a (.tup xs) → Rd H' a (.tup xs)
theorem Tx.refl (H : Hp) : Tx H H := fun _ _ h => h
theorem Tx.trans {H H1 H2 : Hp} (a : Tx H H1) (b : Tx H1 H2) : Tx H H2 := fun c o h => b c o (a c o h)
theorem same_rd {H H' : Hp} {a : Addr} {o : HO} (e : Same H H') (h : Rd H a o) : Rd H' a o := by
  rcases h with h | ⟨u, h⟩
  · exact .inl (e _ _ h)
  · exact .inr ⟨u, e _ _ h⟩
theorem Tx.of {H H' : Hp} (e : Same H H') : Tx H H' := fun _ _ h => same_rd e h
theorem Tx.new {H : Hp} {p : Addr} {o : HO} (h : H p = none) : Tx H (upd H p o) := .of (same_new h)
/-- what is not a tuple may change -/
def NoT (o : HO) : Prop := match o with
  | .tup _ => False
  | .frz _ _ => False
  | _ => True
theorem Tx.put {H : Hp} {p : Addr} {o u : HO} (h : H p = some o) (n : NoT o) : Tx H (L2.upd H p u) := fun a xs r => by
  have ne : a ≠ p := by
    rintro rfl
    rcases r with r | ⟨w, r⟩
    · rw [h] at r; cases r; exact n
    · rw [h] at r; cases r; exact n
  rcases r with r | ⟨w, r⟩
  · exact .inl (by rw [upd_ne ne]; exact r)
  · exact .inr ⟨w, by rw [upd_ne ne]; exact r⟩
theorem Tx.bt {S : List Addr} {H H' : Hp} (b : Bt S H H') (h : ∀ a ∈ S, ∀ o, H a = some o → NoT o) : Tx H H' := fun a xs r => by
  have ne : a ∉ S := fun z => by
    rcases r with r | ⟨w, r⟩
    · exact h a z _ r
    · exact h a z _ r
  rcases r with r | ⟨w, r⟩
  · exact .inl (b _ _ r ne)
  · exact .inr ⟨w, b _ _ r ne⟩
theorem Tx.sqt {K : PySem.W.Frag} {H H' : Hp} {a : Addr} {xs : List V} (t : Tx H H') (h : SqT K H a xs) : SqT K H' a xs := by
  rcases h with h | h
  · exact .inl (t _ _ h)
  · exact .inr h
/-! ### data that never change: none, bools, ints, texts, tuples of such -/
mutual
inductive Im (K : PySem.W.Frag) (H : Hp) : V → PyData → Prop
  | non : Im K H .non .none
  | bl (b : Bool) : Im K H (.bl b) (.bool b)
  | int (i : Int) : Im K H (.int i) (.int i)
  | str (x : Str) : Im K H (.str x) (.str x)
  | tup {a : Addr} {xs : List V} {ds : List PyData} : SqT K H a xs → ImAll K H xs ds → Im K H (.ref a) (.tuple ds)
inductive ImAll (K : PySem.W.Frag) (H : Hp) : List V → List PyData → Prop
  | nil : ImAll K H [] []
  | cons {v : V} {vs : List V} {d : PyData} {ds : List PyData} : Im K H v d → ImAll K H vs ds → ImAll K H (v :: vs) (d :: ds)
end
section
variable {K : PySem.W.Frag} {H H' : Hp}
mutual
theorem Im.tx (t : Tx H H') : ∀ {v : V} {d : PyData}, Im K H v d → Im K H' v d
  | _, _, .non => .non
  | _, _, .bl b => .bl b
  | _, _, .int i => .int i
  | _, _, .str x => .str x
  | _, _, .tup h r => .tup (t.sqt h) (ImAll.tx t r)
theorem ImAll.tx (t : Tx H H') : ∀ {vs : List V} {ds : List PyData}, ImAll K H vs ds → ImAll K H' vs ds
  | _, _, .nil => .nil
  | _, _, .cons h r => .cons (Im.tx t h) (ImAll.tx t r)
end
mutual
theorem Im.dp : ∀ {v : V} {d : PyData}, Im K H v d → Dp K H v d
  | _, _, .non => .non
  | _, _, .bl b => .bl b
  | _, _, .int i => .int i
  | _, _, .str x => .str x
  | _, _, .tup h r => .tup h (ImAll.dp r)
theorem ImAll.dp : ∀ {vs : List V} {ds : List PyData}, ImAll K H vs ds → DpAll K H vs ds
  | _, _, .nil => .nil
  | _, _, .cons h r => .cons (Im.dp h) (ImAll.dp r)
end
theorem Im.same (e : Same H H') {v : V} {d : PyData} (h : Im K H v d) : Im K H' v d := h.tx (.of e)
theorem ImAll.same (e : Same H H') {v : List V} {d : List PyData} (h : ImAll K H v d) : ImAll K H' v d := h.tx (.of e)
theorem ImAll.length : ∀ {vs : List V} {ds : List PyData}, ImAll K H vs ds → vs.length = ds.length
  | _, _, .nil => rfl
  | _, _, .cons _ r => by rw [List.length_cons, List.length_cons, ImAll.length r]
theorem ImAll.append : ∀ {vs ws : List V} {ds es : List PyData}, ImAll K H vs ds → ImAll K H ws es → ImAll K H (vs ++ ws) (ds ++ es)
  | _, _, _, _, .nil, q => q
  | _, _, _, _, .cons h r, q => .cons h (ImAll.append r q)
theorem ImAll.one {v : V} {d : PyData} (h : Im K H v d) : ImAll K H [v] [d] := .cons h .nil
theorem ImAll.snoc {vs : List V} {ds : List PyData} {v : V} {d : PyData} (h : ImAll K H vs ds) (q : Im K H v d) : ImAll K H (vs ++ [v]) (ds ++ [d]) := h.append (.one q)
theorem ImAll.get : ∀ {vs : List V} {ds : List PyData} {i : Nat} {v : V}, ImAll K H vs ds → vs[i]? = some v → ∃ d, ds[i]? = some d ∧ Im K H v d
  | _, _, _, _, .nil, e => by simp at e
  | _, _, 0, _, .cons h _, e => by simp at e; subst e; exact ⟨_, rfl, h⟩
  | _, _, i + 1, v, .cons _ r, e => by
    obtain ⟨d, h1, h2⟩ := ImAll.get (i := i) (v := v) r (by simpa using e)
    exact ⟨d, by simpa using h1, h2⟩
theorem ImAll.at : ∀ {vs : List V} {ds : List PyData} {i : Nat} {d : PyData}, ImAll K H vs ds → ds[i]? = some d → ∃ v, vs[i]? = some v ∧ Im K H v d
  | _, _, _, _, .nil, e => by simp at e
  | _, _, 0, _, .cons h _, e => by simp at e; subst e; exact ⟨_, rfl, h⟩
  | _, _, i + 1, v, .cons _ r, e => by
    obtain ⟨d, h1, h2⟩ := ImAll.at (i := i) (d := v) r (by simpa using e)
    exact ⟨d, by simpa using h1, h2⟩
theorem ImAll.take : ∀ {vs : List V} {ds : List PyData} (n : Nat), ImAll K H vs ds → ImAll K H (vs.take n) (ds.take n)
  | _, _, 0, _ => .nil
  | _, _, _ + 1, .nil => .nil
  | _, _, n + 1, .cons h r => .cons h (ImAll.take n r)
theorem ImAll.drop : ∀ {vs : List V} {ds : List PyData} (n : Nat), ImAll K H vs ds → ImAll K H (vs.drop n) (ds.drop n)
  | _, _, 0, r => r
  | _, _, _ + 1, .nil => .nil
  | _, _, n + 1, .cons _ r => ImAll.drop n r
theorem ImAll.snoc_inv : ∀ {vs : List V} {v : V} {ds : List PyData}, ImAll K H (vs ++ [v]) ds → ∃ es d, ds = es ++ [d] ∧ ImAll K H vs es ∧ Im K H v d
  | [], _, _, .cons h .nil => ⟨[], _, rfl, .nil, h⟩
  | _ :: _, _, _, .cons h r => by
    obtain ⟨es, d, e, h1, h2⟩ := ImAll.snoc_inv r
    exact ⟨_ :: es, d, by rw [e] <;> rfl, .cons h h1, h2⟩
theorem Im.tup_inv {v : V} {ds : List PyData} (h : Im K H v (.tuple ds)) : ∃ a xs, v = .ref a ∧ SqT K H a xs ∧ ImAll K H xs ds := by
  cases h with
  | tup h r => exact ⟨_, _, rfl, h, r⟩
theorem Im.int_inv {v : V} {i : Int} (h : Im K H v (.int i)) : v = .int i := by cases h; rfl
theorem Im.str_inv {v : V} {i : Str} (h : Im K H v (.str i)) : v = .str i := by cases h; rfl
theorem Im.non_inv {v : V} (h : Im K H v .none) : v = .non := by cases h; rfl
theorem ImAll.inv2 {vs : List V} {d e : PyData} (h : ImAll K H vs [d, e]) : ∃ v w, vs = [v, w] ∧ Im K H v d ∧ Im K H w e := by
  cases h with
  | cons h1 h =>
    cases h with
    | cons h2 h => cases h; exact ⟨_, _, rfl, h1, h2⟩
theorem Im.pair_inv {v : V} {d e : PyData} (h : Im K H v (.tuple [d, e])) : ∃ a x y, v = .ref a ∧ SqT K H a [x, y] ∧ Im K H x d ∧ Im K H y e := by
  obtain ⟨a, xs, rfl, h1, h2⟩ := h.tup_inv
  obtain ⟨x, y, rfl, h3, h4⟩ := h2.inv2
  exact ⟨a, x, y, rfl, h1, h3, h4⟩
theorem Im.pair {a : Addr} {x y : V} {d e : PyData} (h : SqT K H a [x, y]) (hx : Im K H x d) (hy : Im K H y e) : Im K H (.ref a) (.tuple [d, e]) := .tup h (.cons hx (.cons hy .nil))
end
theorem sqt_new {K : PySem.W.Frag} {H : Hp} {a : Addr} {xs : List V} (h : H a = some (.tup xs)) : SqT K H a xs := .inl (.inl h)
theorem sql_new {K : PySem.W.Frag} {H : Hp} {a : Addr} {xs : List V} (h : H a = some (.lst xs)) : SqL K H a xs := .inl (.inl h)
/-! ### the same rules, the heap behind a letter -/
/-- a new object o: at p, behind it H2 -/
def NewAt (H : Hp) (o : HO) (R : Addr → Hp → Prop) : Prop := ∀ p H2, H p = none → Same H H2 → H2 p = some o → R p H2
theorem new_at {H : Hp} {o : HO} {R : Addr → Hp → Prop} (h : ∀ p H2, H p = none → Same H H2 → H2 p = some o → R p H2) : NewAt H o R := h
/-- the object at a is changed to o: behind it H2 -/
def ChgAt (H : Hp) (a : Addr) (o : HO) (R : Hp → Prop) : Prop := ∀ H2, Bt [a] H H2 → Tx H H2 → H2 a = some o → R H2
theorem chg_at {H : Hp} {a : Addr} {o : HO} {R : Hp → Prop} (h : ∀ H2, Bt [a] H H2 → Tx H H2 → H2 a = some o → R H2) : ChgAt H a o R := h
/-- a word that a walk does not look into -/
def Wd (P : Prop) : Prop := P
section
variable {X : Cx} {e a b c o : Expr} {es : List Expr} {σ : L2.St} {H : Hp} {Q : VK} {pos p apos : Pos} {K : PySem.W.Frag}
theorem new_g {H : Hp} {o : HO} {Q : Addr → Hp → Prop} (h : NewAt H o Q) : ∀ p, H p = none → Q p (upd H p o) := fun p hp => h p _ hp (same_new hp) upd_same
theorem w_tupG {j : Nat} (h : WA X es σ H fun xs H1 => xs.length ≤ sizeLine ∧ NewAt H1 (.tup xs) fun p H2 => Q (.ref p) H2) : WE X (.Tuple es j p) σ H Q :=
  w_tup (h.mono fun xs H1 q => ⟨q.1, new_g q.2⟩)
theorem w_lstG (h : WA X es σ H fun xs H1 => xs.length ≤ sizeLine ∧ NewAt H1 (.lst xs) fun p H2 => Q (.ref p) H2) : WE X (.List es p) σ H Q :=
  w_lst (h.mono fun xs H1 q => ⟨q.1, new_g q.2⟩)
/-- l.append(e) -/
theorem w_app (hb : attributeBase o ("append" : Str) X.env (eval o X.env) = eval o X.env)
    (hfew : ((backTo pos (starEach [e] X.env)).all (fun x => !x.1) && (backToKw pos (keywordEach [] X.env)).all (fun x => x.1.isSome) && decide (([e] : List Expr).length + ([] : List Keyword).length + (if ([] : List Keyword).isEmpty then 0 else 1) < 30)) = true)
    (hline : (apos.endLine == pos.line) = true) (hs : starEach [e] X.env = (false, eval e X.env) :: starEach [] X.env) (hplain : (backTo pos (starEach [] X.env)).any (·.1) = false)
    (h : WE X o σ H fun x H1 => (∃ l xs, x = .ref l ∧ SqL X.K H1 l xs) ∧ WE X e σ H1 fun y H2 => ∃ l xs, x = .ref l ∧ H2 l = some (.lst xs) ∧ xs.length < sizeLine ∧ ChgAt H2 l (.lst (xs ++ [y])) fun H3 => Q .non H3) :
    WE X (.Call (.Attribute o "append" apos) [e] [] pos) σ H Q := by
  refine we_of (pe_bm PySem.F.plainAttrs_list PySem.F.slot_list_append PySem.F.type_list_append mt_append (pe_w o) (pa_cons (pe_w e) pa_nil hs) hb hfew hline hs hplain) (h.mono ?_)
  rintro x H1 ⟨⟨l, xs, rfl, hx⟩, q⟩
  refine ⟨.inl ⟨rfl, xs, hx⟩, q.mono ?_⟩
  rintro y H2 ⟨l', ys, el, hl, hz, q⟩
  cases el
  exact ⟨l, ys, y, rfl, rfl, hl, hz, q _ (.put (by simp)) (.put hl trivial) upd_same⟩
theorem s_fldG {nx bk ct : L2.St → Hp → Prop} {rt : VK} {f : Str} {p' : Pos} (hs : swapsWith e (some (.Attribute o f p')) pos.line X.env = pure false) (h : WE X e σ H fun y H1 => WE X o σ H1 fun x H2 => ∃ a C dx fs, x = .ref a ∧ H2 a = some (.ins C dx fs) ∧ Cls X.K C ∧ NoAttr X.K C f ∧ fs.length < 1000 ∧
    ChgAt H2 a (.ins C dx (putF f y fs)) fun H3 => nx σ H3) : WS X (.Assign [.Attribute o f p'] e pos) nx rt bk ct σ H := by
  refine s_fld hs (h.mono ?_)
  intro y H1 q
  refine q.mono ?_
  rintro x H2 ⟨a, C, dx, fs, ex, ha, c, n, hl, q⟩
  exact ⟨a, C, dx, fs, ex, ha, c, n, hl, q _ (.put (by simp)) (.put ha trivial) upd_same⟩
theorem add_lstG {a b : Addr} {xs ys : List V} (ha : H a = some (.lst xs)) (hb : H b = some (.lst ys)) (hz : xs.length + ys.length ≤ sizeLine) (q : NewAt H (.lst (xs ++ ys)) fun p H2 => Q (.ref p) H2) : rAddA K (.ref a) (.ref b) H Q := add_lst ha hb hz (new_g q)
end
end Z

end
section
set_option autoImplicit true
namespace Z
open PySem PySem.Spec PyProof.Rows L2
/-! ### names of a def's body, by one look -/
def visB (sc : Scope) (x : Str) : Bool := match sc.names.lookup x with
  | some .local => true
  | some .cell => true
  | some .free => true
  | _ => false
def locB (sc : Scope) (x : Str) : Bool := match sc.names.lookup x with
  | some .local => true
  | some .cell => true
  | _ => false
def okN (x : Str) : Bool := !(x == ("__debug__" : Str)) && !(x == ("__classdict__" : Str))
theorem vis_of {sc : Scope} {x : Str} (h : visB sc x = true) : Vis sc x := by
  unfold visB at h
  split at h
  · exact .inl (by assumption)
  · exact .inr (.inl (by assumption))
  · exact .inr (.inr (by assumption))
  · cases h
theorem loc_of {sc : Scope} {x : Str} (h : locB sc x = true) : Loc sc x := by
  unfold locB at h
  split at h
  · exact .inl (by assumption)
  · exact .inr (by assumption)
  · cases h
theorem okN_of {x : Str} (h : okN x = true) : (x == ("__debug__" : Str)) = false ∧ (x == ("__classdict__" : Str)) = false := by
  unfold okN at h
  simp only [Bool.and_eq_true, Bool.not_eq_true'] at h
  exact h
def lcB (N : List Str) (m : Nat) (sc : Scope) : Bool := decide N.Nodup && (N.take m).all fun x => locB sc x && okN x
theorem loc_vis {sc : Scope} {x : Str} (h : Loc sc x) : Vis sc x := by
  rcases h with h | h
  · exact .inl h
  · exact .inr (.inl h)
section
variable {X : Cx} {N : List Str} {sc : Scope} {x : Str} {i : Nat}
/-- a def's own names -/
theorem lcs_of (hN : X.N = N) (hs : X.env.scope = sc) (hf : ∀ x, X.fn x = true) {m : Nat} (h : lcB N m sc = true) : ∀ (i : Nat) (x : Str), N[i]? = some x → i < m → Lc X x i := by
  intro i x hx hm
  unfold lcB at h
  simp only [Bool.and_eq_true, decide_eq_true_eq, List.all_eq_true] at h
  obtain ⟨h1, h2⟩ := h
  obtain ⟨h3, h4⟩ := h2 x (List.mem_of_getElem? (i := i) (by rw [List.getElem?_take_of_lt hm]; exact hx))
  obtain ⟨h5, h6⟩ := okN_of h4
  exact ⟨⟨by rw [hN]; exact hx, by rw [hs]; exact loc_vis (loc_of h3), h5, h6⟩, by rw [hN]; exact h1, by rw [hs]; exact loc_of h3, .inl (hf x)⟩
def gnB (sc : Scope) (x : Str) : Bool := decide (sc.names.lookup x = some .globalImplicit) && !(x == ("__debug__" : Str))
theorem gn_of (hs : X.env.scope = sc) (h : gnB sc x = true) : Gn X x := by
  unfold gnB at h
  simp only [Bool.and_eq_true, decide_eq_true_eq, Bool.not_eq_true'] at h
  exact ⟨by show X.env.scope.names.lookup x = _; rw [hs]; exact h.1, h.2⟩
theorem bn_of (hs : X.env.scope = sc) (hm : X.mg x = none) (h : (gnB sc x && decide (x ≠ "__name__")) = true) : Bn X x := by
  simp only [Bool.and_eq_true, decide_eq_true_eq] at h
  exact ⟨gn_of hs h.1, hm, h.2⟩
/-- the names that a comprehension's block reads -/
theorem nm_blk {s : Shared} {H : Hp} {scope : Scope} {cl : List (Str × Addr)} {C : Addr} {fp : List Addr} (hN : X.N = N) (hs : X.env.scope = sc) (h : (decide (N[i]? = some x) && visB (relS scope sc) x && okN x) = true) :
    Nm (X.blk s H scope (compEnvC scope cl C X.env) fp) x i := by
  simp only [Bool.and_eq_true, decide_eq_true_eq] at h
  obtain ⟨⟨h1, h2⟩, h3⟩ := h
  obtain ⟨h5, h6⟩ := okN_of h3
  exact ⟨by show X.N[i]? = _; rw [hN]; exact h1, by show Vis (relS scope X.env.scope) x; rw [hs]; exact vis_of h2, h5, h6⟩
theorem lc_blk {s : Shared} {H : Hp} {scope : Scope} {cl : List (Str × Addr)} {C : Addr} {fp : List Addr} (hN : X.N = N) (hs : X.env.scope = sc) (h : (decide (N[i]? = some x) && decide N.Nodup && (decide ((relS scope sc).names.lookup x = some .local) || (decide ((relS scope sc).names.lookup x = some .cell) && decide (scope.names.lookup x = some .cell))) && okN x) = true) :
    Lc (X.blk s H scope (compEnvC scope cl C X.env) fp) x i := by
  simp only [Bool.and_eq_true, decide_eq_true_eq, Bool.or_eq_true] at h
  obtain ⟨⟨⟨h1, h0⟩, h2⟩, h3⟩ := h
  obtain ⟨h5, h6⟩ := okN_of h3
  have hl : Loc (relS scope X.env.scope) x := by
    rw [hs]
    rcases h2 with h2 | ⟨h2, _⟩
    · exact .inl h2
    · exact .inr h2
  refine ⟨⟨by show X.N[i]? = _; rw [hN]; exact h1, loc_vis hl, h5, h6⟩, by show X.N.Nodup; rw [hN]; exact h0, hl, ?_⟩
  rcases h2 with h2 | ⟨_, h2⟩
  · exact .inr (by show (relS scope X.env.scope).names.lookup x = _; rw [hs]; exact h2)
  · exact .inl (by show (scope.names.lookup x == some .cell) = true; rw [h2]; rfl)
theorem gn_blk {s : Shared} {H : Hp} {scope : Scope} {cl : List (Str × Addr)} {C : Addr} {fp : List Addr} (hs : X.env.scope = sc) (h : gnB (relS scope sc) x = true) : Gn (X.blk s H scope (compEnvC scope cl C X.env) fp) x := by
  unfold gnB at h
  simp only [Bool.and_eq_true, decide_eq_true_eq, Bool.not_eq_true'] at h
  exact ⟨by show (relS scope X.env.scope).names.lookup x = _; rw [hs]; exact h.1, h.2⟩
theorem bn_blk {s : Shared} {H : Hp} {scope : Scope} {cl : List (Str × Addr)} {C : Addr} {fp : List Addr} (hs : X.env.scope = sc) (hm : X.mg x = none) (h : (gnB (relS scope sc) x && decide (x ≠ "__name__")) = true) : Bn (X.blk s H scope (compEnvC scope cl C X.env) fp) x := by
  simp only [Bool.and_eq_true, decide_eq_true_eq] at h
  exact ⟨gn_blk hs h.1, hm, h.2⟩
end
/-! ### a def by its body, where it stands a letter -/
/-- where a body stands -/
structure Here (X : Cx) (P : Program) (w : World) (K : PySem.W.Frag) (mg : Str → Option Value) (base : Heap) (N : List Str) (sc : Scope) (k : Nat) (E : XK) : Prop where
  prog : X.prog = P
  w : X.w = w
  K : X.K = K
  mg : X.mg = mg
  base : X.base = base
  N : X.N = N
  sc : X.env.scope = sc
  calm : X.calm = true
  fn : ∀ x, X.fn x = true
  room : Room k X.A
  own : PassesOwn (model X.prog X.w) X.A X.env X.xe
  stk : X.stack = X.env :: X.outer
  frm : X.env.frame = some X.env.locals
  tk : L2N.Takes X (fun cls d _ H => E cls d H)
section
variable {P : Program} {w : World} {K : PySem.W.Frag} {mg : Str → Option Value} {base : Heap}
theorem fn_here {x qual : Str} {st : Stmt} {f : Addr} {fd : FuncData} {N ps : List Str} {k : Nat} {sp : Sp} (F : C8.Fun K x qual st f fd) (S : C8.scC N ps (C8.fnScope st) = true) (len : ∀ vs H Q E, sp vs H Q E → vs.length = ps.length)
    (body : ∀ X : Cx, ∀ E, Here X P w K mg base N (C8.fnScope st) k E → ∀ vs H Q, sp vs H Q E → WB X (C8.fnBody st) (fun _ H' => Q .non H') Q (fun _ _ => False) (fun _ _ => False) (start N vs) H) : FnOk P w K mg base (L2N.CX P w) (k + 1) f fd ps sp := by
  obtain ⟨oc, od, dV, kV, doc, pm, an, cdv, ct, osl, rfl, lk, hcd⟩ := F.ex
  exact fn_of lk hcd (C8.fnScope_by S) len fun A outer s H vs Q E hr hsp =>
    ⟨_, pss_w _, body _ E ⟨rfl, rfl, rfl, rfl, rfl, rfl, rfl, rfl, fun _ => rfl, hr, passes_of rfl, rfl, rfl, L2N.takes_of rfl rfl rfl rfl⟩ vs H Q hsp⟩
theorem cal_of {x : Str} {st : Stmt} {f : Addr} {fd : FuncData} {N ps : List Str} {k : Nat} {sp : Sp} (F : C8.Def K mg x st f fd) (b : Binds K fd ps []) (S : C8.scC N ps (C8.fnScope st) = true) (len : ∀ vs H Q E, sp vs H Q E → vs.length = ps.length)
    (body : ∀ X : Cx, ∀ E, Here X P w K mg base N (C8.fnScope st) k E → ∀ vs H Q, sp vs H Q E → WB X (C8.fnBody st) (fun _ H' => Q .non H') Q (fun _ _ => False) (fun _ _ => False) (start N vs) H) : Cal P w K mg base (k + 1) x sp :=
  ⟨f, fd, ps, fn_here F.fn S len body, F.mgf, F.kp, b⟩
theorem met_of {m qual : Str} {C : Addr} {st : Stmt} {f : Addr} {fd : FuncData} {N ps : List Str} {k : Nat} {sp : Sp} (c : Cls K C) (me : Meth K C m f) (F : C8.Fun K m qual st f fd) (b : Binds K fd ps []) (S : C8.scC N ps (C8.fnScope st) = true) (len : ∀ vs H Q E, sp vs H Q E → vs.length = ps.length)
    (body : ∀ X : Cx, ∀ E, Here X P w K mg base N (C8.fnScope st) k E → ∀ vs H Q, sp vs H Q E → WB X (C8.fnBody st) (fun _ H' => Q .non H') Q (fun _ _ => False) (fun _ _ => False) (start N vs) H) : Met P w K mg base (k + 1) C m sp :=
  ⟨f, fd, ps, c, me, fn_here F S len body, b⟩
theorem mak_of {x qual : Str} {C : Addr} {st : Stmt} {f : Addr} {fd : FuncData} {N ps : List Str} {k : Nat} {sp : Sp} (M : Mk K C f) (hm : mg x = some (.ref C)) (F : C8.Fun K "__init__" qual st f fd) (b : Binds K fd ps []) (S : C8.scC N ps (C8.fnScope st) = true) (len : ∀ vs H Q E, sp vs H Q E → vs.length = ps.length)
    (body : ∀ X : Cx, ∀ E, Here X P w K mg base N (C8.fnScope st) k E → ∀ vs H Q, sp vs H Q E → WB X (C8.fnBody st) (fun _ H' => Q .non H') Q (fun _ _ => False) (fun _ _ => False) (start N vs) H) : Mak P w K mg base (k + 1) x C sp :=
  ⟨f, fd, ps, M, fn_here F S len body, hm, b⟩
end
end Z

end
namespace Z
open PySem PySem.Spec PyProof.Rows L2
/-- a tuple is unpacked; a value is a list; y is put to the list x -/
def TgT (K : PySem.W.Frag) (H : Hp) (a : Addr) (R : List V → Prop) : Prop := ∃ xs, (SqT K H a xs ∨ SqL K H a xs) ∧ R xs
theorem tg_t {K : PySem.W.Frag} {H : Hp} {a : Addr} {R : List V → Prop} {xs : List V} (h : SqT K H a xs) (q : R xs) : TgT K H a R := ⟨xs, .inl h, q⟩
theorem tg_l {K : PySem.W.Frag} {H : Hp} {a : Addr} {R : List V → Prop} {xs : List V} (h : SqL K H a xs) (q : R xs) : TgT K H a R := ⟨xs, .inr h, q⟩
def IsLst (K : PySem.W.Frag) (H : Hp) (x : V) (R : Prop) : Prop := (∃ l xs, x = .ref l ∧ SqL K H l xs) ∧ R
theorem is_l {K : PySem.W.Frag} {H : Hp} {l : Addr} {xs : List V} {R : Prop} (h : SqL K H l xs) (q : R) : IsLst K H (.ref l) R := ⟨⟨l, xs, rfl, h⟩, q⟩
def AppTo (H : Hp) (x y : V) (R : Hp → Prop) : Prop := ∃ l xs, x = .ref l ∧ H l = some (.lst xs) ∧ xs.length < sizeLine ∧ ChgAt H l (.lst (xs ++ [y])) R
theorem app_to {H : Hp} {l : Addr} {xs : List V} {y : V} {R : Hp → Prop} (h : H l = some (.lst xs)) (hz : xs.length < sizeLine) (q : ∀ H2, Bt [l] H H2 → Tx H H2 → H2 l = some (.lst (xs ++ [y])) → R H2) : AppTo H (.ref l) y R := ⟨l, xs, rfl, h, hz, q⟩
/-- a value's truth -/
def TruAt (K : PySem.W.Frag) (x : V) (H : Hp) (R : Bool → Prop) : Prop := ∃ k, TruV K x H k ∧ R k
theorem tru_l {K : PySem.W.Frag} {H : Hp} {l : Addr} {xs : List V} {R : Bool → Prop} (h : SqL K H l xs) (q : R (!xs.isEmpty)) : TruAt K (.ref l) H R := ⟨_, .inl ⟨xs, h, rfl⟩, q⟩
theorem tru_t {K : PySem.W.Frag} {H : Hp} {l : Addr} {xs : List V} {R : Bool → Prop} (h : SqT K H l xs) (q : R (!xs.isEmpty)) : TruAt K (.ref l) H R := ⟨_, .inr (.inl ⟨xs, h, rfl⟩), q⟩
theorem tru_k {K : PySem.W.Frag} {H : Hp} {l : Addr} {kvs : List (Key × V)} {R : Bool → Prop} (h : H l = some (.dK kvs)) (q : R (!kvs.isEmpty)) : TruAt K (.ref l) H R := ⟨_, .inr (.inr ⟨kvs, h, rfl⟩), q⟩
theorem tru_b {K : PySem.W.Frag} {H : Hp} {b : Bool} {R : Bool → Prop} (q : R b) : TruAt K (.bl b) H R := ⟨_, rfl, q⟩
/-! ### tests -/
theorem if_t {c A B : Prop} [Decidable c] (h : c) (q : A) : if c then A else B := by rw [if_pos h]; exact q
theorem if_f {c A B : Prop} [Decidable c] (h : ¬ c) (q : B) : if c then A else B := by rw [if_neg h]; exact q
theorem if_d {c A B : Prop} [Decidable c] (h1 : c → A) (h2 : ¬ c → B) : if decide c = true then A else B := by
  by_cases h : c
  · exact if_t (decide_eq_true h) (h1 h)
  · exact if_f (by simpa using h) (h2 h)
theorem if_n {c A B : Prop} [Decidable c] (h1 : ¬ c → A) (h2 : c → B) : if (!decide c) = true then A else B := by
  by_cases h : c
  · exact if_f (by simpa using h) (h2 h)
  · exact if_t (by simpa using h) (h1 h)
theorem if_b {b : Bool} {A B : Prop} (h1 : b = true → A) (h2 : b = false → B) : if b = true then A else B := by
  cases b with
  | true => exact if_t rfl (h1 rfl)
  | false => exact if_f (by decide) (h2 rfl)
theorem if_tt {A B : Prop} (q : A) : if true = true then A else B := if_t rfl q
theorem if_ff {A B : Prop} (q : B) : if false = true then A else B := if_f (by decide) q
theorem if_ntt {A B : Prop} (q : B) : if (!true) = true then A else B := if_f (by decide) q
theorem if_nff {A B : Prop} (q : A) : if (!false) = true then A else B := if_t (by decide) q
/-! ### one step of a reading, found by the text's form -/
class Stp (G : Prop) (S : outParam Prop) : Prop where
  go : S → G
instance {A B : Prop} : Stp (if true = true then A else B) A := ⟨if_tt⟩
instance {A B : Prop} : Stp (if false = true then A else B) B := ⟨if_ff⟩
instance {A B : Prop} : Stp (if (!true) = true then A else B) B := ⟨if_ntt⟩
instance {A B : Prop} : Stp (if (!false) = true then A else B) A := ⟨if_nff⟩
instance {A B : Prop} {x : V} {xs : List V} : Stp (if (!(x :: xs).isEmpty) = true then A else B) A := ⟨fun q => if_t rfl q⟩
instance {A B : Prop} {x : V} {xs : List V} : Stp (if (!!(x :: xs).isEmpty) = true then A else B) B := ⟨fun q => if_f (by intro z; cases z) q⟩
instance {A B : Prop} : Stp (if (!([] : List V).isEmpty) = true then A else B) B := ⟨fun q => if_f (by intro z; cases z) q⟩
instance {A B : Prop} : Stp (if (!!([] : List V).isEmpty) = true then A else B) A := ⟨fun q => if_t rfl q⟩
instance {A B : Prop} {α β : Type} {f : α → β} {x : α} : Stp (if (Option.map f (some x)).isSome = true then A else B) A := ⟨fun q => if_t rfl q⟩
instance {A B : Prop} {α β : Type} {f : α → β} : Stp (if (Option.map f none).isSome = true then A else B) B := ⟨fun q => if_f (by intro z; cases z) q⟩
theorem stp {G S : Prop} [h : Stp G S] (s : S) : G := h.go s
/-! words that a step is told by -/
def Sl (σ : L2.St) (i : Nat) (R : V → Prop) : Prop := ∃ v, σ[i]? = some (some v) ∧ R v
theorem sl_i {σ : L2.St} {i : Nat} {R : V → Prop} {v : V} (h : σ[i]? = some (some v)) (q : R v) : Sl σ i R := ⟨v, h, q⟩
def Sd (A B : Prop) : Prop := A ∧ B
theorem sd {A B : Prop} (a : A) (b : B) : Sd A B := ⟨a, b⟩
def LeN (k m : Nat) (B : Prop) : Prop := k ≤ m ∧ B
theorem le_n {k m : Nat} {B : Prop} (a : k ≤ m) (b : B) : LeN k m B := ⟨a, b⟩
def SzL (k : Nat) (B : Prop) : Prop := k ≤ sizeLine ∧ B
theorem sz_l {k : Nat} {B : Prop} (a : Nat.ble k 16777216 = true) (b : B) : SzL k B := ⟨Nat.le_of_ble_eq_true a, b⟩
def ExB (x : V) (R : Bool → Prop) : Prop := ∃ k, x = .bl k ∧ R k
instance {k : Bool} {R : Bool → Prop} : Stp (ExB (.bl k) R) (R k) := ⟨fun q => ⟨k, rfl, q⟩⟩
def ExI (x : V) (R : Int → Prop) : Prop := ∃ k, x = .int k ∧ R k
instance {k : Int} {R : Int → Prop} : Stp (ExI (.int k) R) (R k) := ⟨fun q => ⟨k, rfl, q⟩⟩
class Nc (X : Cx) (x : Str) (i : outParam Nat) : Prop where
  nm : Nm X x i
class Lcc (X : Cx) (x : Str) (i : outParam Nat) : Prop where
  lc : Lc X x i
instance {X : Cx} {x : Str} {i : Nat} [h : Lcc X x i] : Nc X x i := ⟨h.lc.toNm⟩
class Gnc (X : Cx) (x : Str) : Prop where
  gn : Gn X x
class Bnc (X : Cx) (x : Str) : Prop where
  bn : Bn X x
/-- what is told of where a body stands -/
class Hc (X : Cx) : Prop where
  calm : X.calm = true
  hu : X.A.units + 65 < cLine
  own : PassesOwn (model X.prog X.w) X.A X.env X.xe
class Rm (X : Cx) (k : outParam Nat) : Prop where
  room : Room k X.A
/-- a module's def that may be called -/
class Fn (X : Cx) (x : Str) (k : outParam Nat) (sp : outParam Sp) : Prop where
  cal : Cal X.prog X.w X.K X.mg X.base k x sp
  gn : Gn X x
/-- a method -/
class Mtf (X : Cx) (m : Str) (k : outParam Nat) (C : outParam Addr) (sp : outParam Sp) : Prop where
  met : Met X.prog X.w X.K X.mg X.base k C m sp
/-- a class that may be made -/
class Mkf (X : Cx) (x : Str) (k : outParam Nat) (C : outParam Addr) (sp : outParam Sp) : Prop where
  mak : Mak X.prog X.w X.K X.mg X.base k x C sp
  gn : Gn X x
/-- what is wished of exceptions -/
class Tk (X : Cx) (W : outParam WX) : Prop where
  tk : L2N.Takes X W
theorem takes_no {X : Cx} : L2N.Takes X (fun _ _ _ _ => False) := fun _ _ ⟨_, _, _, _, _, _, _, _, _, _, _, _, _, _, _, _, w⟩ => w.elim
/-- a body's frame -/
class Fr (X : Cx) : Prop where
  stk : X.stack = X.env :: X.outer
  frm : X.env.frame = some X.env.locals
theorem Hc.hu0 {X : Cx} (h : Hc X) : X.A.units + 1 < cLine := by have := h.hu; omega
theorem Hc.hu1 {X : Cx} (h : Hc X) : X.A.units + 64 < cLine := by have := h.hu; omega
theorem hc_of {X : Cx} {k : Nat} (c : X.calm = true) (r : Room k X.A) (o : PassesOwn (model X.prog X.w) X.A X.env X.xe) : Hc X := ⟨c, by have := r.un; omega, o⟩
section
variable {X : Cx} {e a b c o : Expr} {es : List Expr} {st : Stmt} {sts rest : List Stmt} {σ : L2.St} {H : Hp} {Q : VK} {QB : Bool → Hp → Prop} {QA : List V → Hp → Prop} {QG : L2.St → Hp → Prop} {pos p px apos : Pos} {x : Str} {i j : Nat} {v w : V} {nx bk ct : L2.St → Hp → Prop} {rt : VK}
instance [n : Nc X x i] : Stp (WE X (.Name x p) σ H Q) (Sl σ i fun v => Q v H) := ⟨fun ⟨_, h, q⟩ => w_name n.nm h q⟩
instance {z : Int} : Stp (WE X (.Constant (.int z) j p) σ H Q) (Q (.int z) H) := ⟨w_int⟩
instance {z : Bool} : Stp (WE X (.Constant (.bool z) j p) σ H Q) (Q (.bl z) H) := ⟨w_bl⟩
instance {z : Str} : Stp (WE X (.Constant (.str z) j p) σ H Q) (Q (.str z) H) := ⟨w_str⟩
instance : Stp (WE X (.Constant .none j p) σ H Q) (Q .non H) := ⟨w_non⟩
instance : Stp (WA X [] σ H QA) (QA [] H) := ⟨a_nil⟩
instance : Stp (WA X (e :: es) σ H QA) (Sd (starEach (e :: es) X.env = (false, eval e X.env) :: starEach es X.env) (WE X e σ H fun x H1 => WA X es σ H1 fun xs H2 => QA (x :: xs) H2)) := ⟨fun ⟨h, q⟩ => a_cons h q⟩
instance : Stp (WE X (.BinOp a .Add b p) σ H Q) (WE X a σ H fun x H1 => WE X b σ H1 fun y H2 => rAddA X.K x y H2 Q) := ⟨w_op op_addA⟩
instance : Stp (WE X (.BinOp a .Sub b p) σ H Q) (WE X a σ H fun x H1 => WE X b σ H1 fun y H2 => rI0 (fun i j => .int (i - j)) x y H2 Q) := ⟨w_op op_sub⟩
instance : Stp (WE X (.UnaryOp .USub a p) σ H Q) (WE X a σ H fun x H1 => rU (fun i => .int (-i)) x H1 Q) := ⟨w_un un_neg⟩
/-- the comparisons' operators -/
class Cop (X : Cx) (op : CmpOp) (r : outParam R2) : Prop where
  ok : OpR X (compareOp op) r
  nb : op ≠ .In ∧ op ≠ .NotIn
abbrev rIsNn : R2 := fun x y H Q => y = .non ∧ Q (.bl (decide (x = .non))) H
abbrev rNotNn : R2 := fun x y H Q => y = .non ∧ Q (.bl (!decide (x = .non))) H
instance : Cop X .Lt (rI0 fun i j => .bl (decide (i < j))) := ⟨op_lt, by decide⟩
instance : Cop X .LtE (rI0 fun i j => .bl (decide (i ≤ j))) := ⟨op_le, by decide⟩
instance : Cop X .Gt (rI0 fun i j => .bl (decide (j < i))) := ⟨op_gt, by decide⟩
instance : Cop X .GtE (rI0 fun i j => .bl (decide (j ≤ i))) := ⟨op_ge, by decide⟩
instance [h : Hc X] : Cop X .Eq (rEqA X) := ⟨op_eqA h.hu1, by decide⟩
instance [h : Hc X] : Cop X .NotEq (rNeA X.K) := ⟨op_neA h.hu1, by decide⟩
instance : Cop X .Is rIsNn := ⟨op_isN, by decide⟩
instance : Cop X .IsNot rNotNn := ⟨op_notN, by decide⟩
instance {op : CmpOp} {r : R2} [h : Cop X op r] : Stp (WE X (.Compare a [op] [b] p) σ H Q) (WE X a σ H fun x H1 => WE X b σ H1 fun y H2 => r x y H2 Q) := ⟨w_cmp h.ok (nobehind _ h.nb.1 h.nb.2)⟩
instance {op : CmpOp} {r : R2} [h : Cop X op r] : Stp (WT X (.Compare a [op] [b] p) σ H QB) (WE X a σ H fun x H1 => WE X b σ H1 fun y H2 => r x y H2 fun z H3 => ExB z fun k => QB k H3) := ⟨t_cmp h.ok (nobehind _ h.nb.1 h.nb.2)⟩
instance [h : Hc X] : Stp (WE X (.Compare a [.In] [b] p) σ H Q) (Sd (behindInMarks .In b = false) (WE X a σ H fun x H1 => WE X b σ H1 fun y H2 => rInA X.K x y H2 Q)) := ⟨fun z => w_cmp (op_inA h.hu0) z.1 z.2⟩
instance [h : Hc X] : Stp (WT X (.Compare a [.In] [b] p) σ H QB) (Sd (behindInMarks .In b = false) (WE X a σ H fun x H1 => WE X b σ H1 fun y H2 => rInA X.K x y H2 fun z H3 => ExB z fun k => QB k H3)) := ⟨fun z => t_cmp (op_inA h.hu0) z.1 z.2⟩
instance : Stp (WE X (.Compare a [.NotIn] [b] p) σ H Q) (Sd (behindInMarks .NotIn b = false) (WE X a σ H fun x H1 => WE X b σ H1 fun y H2 => rIn X.K true x y H2 Q)) := ⟨fun z => w_cmp op_notIn_seq z.1 z.2⟩
instance : Stp (WT X (.Compare a [.NotIn] [b] p) σ H QB) (Sd (behindInMarks .NotIn b = false) (WE X a σ H fun x H1 => WE X b σ H1 fun y H2 => rIn X.K true x y H2 fun z H3 => ExB z fun k => QB k H3)) := ⟨fun z => t_cmp op_notIn_seq z.1 z.2⟩
instance {op op' : CmpOp} {r r' : R2} [h : Cop X op r] [h' : Cop X op' r'] : Stp (WE X (.Compare a [op, op'] [b, c] p) σ H Q) (Sd (lastMarks [op, op'] [b, c] = false) (WE X a σ H fun x H1 => WE X b σ H1 fun y H2 => r x y H2 fun z H3 => ExB z fun k => (if k = true then WE X c σ H3 fun w' H4 => r' y w' H4 Q else Q (.bl false) H3))) :=
  ⟨fun z => w_chain h.ok h'.ok z.1 z.2⟩
instance {op op' : CmpOp} {r r' : R2} [h : Cop X op r] [h' : Cop X op' r'] : Stp (WT X (.Compare a [op, op'] [b, c] p) σ H QB) (Sd (lastMarks [op, op'] [b, c] = false) (WE X a σ H fun x H1 => WE X b σ H1 fun y H2 => r x y H2 fun z H3 => ExB z fun k => (if k = true then WE X c σ H3 fun w' H4 => r' y w' H4 fun z H5 => ExB z fun k => QB k H5 else ExB (V.bl false) fun k => QB k H3))) :=
  ⟨fun z => t_chain h.ok h'.ok z.1 z.2⟩
instance : Stp (WE X (.IfExp c a b p) σ H Q) (WT X c σ H fun k H1 => if k = true then WE X a σ H1 Q else WE X b σ H1 Q) := ⟨w_if⟩
instance : Stp (WE X (.BoolOp .And [a] p) σ H Q) (WE X a σ H Q) := ⟨w_bop1⟩
instance : Stp (WE X (.BoolOp .Or [a] p) σ H Q) (WE X a σ H Q) := ⟨w_bop1⟩
instance : Stp (WE X (.BoolOp .And (a :: b :: es) p) σ H Q) (WE X a σ H fun x H1 => ExB x fun k => if k = true then WE X (.BoolOp .And (b :: es) p) σ H1 Q else Q (.bl false) H1) := ⟨w_and⟩
instance : Stp (WE X (.BoolOp .Or (a :: b :: es) p) σ H Q) (WE X a σ H fun x H1 => ExB x fun k => if k = true then Q (.bl true) H1 else WE X (.BoolOp .Or (b :: es) p) σ H1 Q) := ⟨w_or⟩
instance : Stp (WE X (.UnaryOp .Not a p) σ H Q) (WE X a σ H fun x H1 => ExB x fun k => Q (.bl (!k)) H1) := ⟨w_not⟩
instance : Stp (WT X (.BoolOp .And (a :: es) p) σ H QB) (WW X (.BoolOp .And (a :: es) p) σ H QB) := ⟨t_ww⟩
instance : Stp (WT X (.BoolOp .Or (a :: es) p) σ H QB) (WW X (.BoolOp .Or (a :: es) p) σ H QB) := ⟨t_ww⟩
instance : Stp (WW X (.BoolOp .And [a] p) σ H QB) (WT X a σ H QB) := ⟨t_and1⟩
instance : Stp (WW X (.BoolOp .Or [a] p) σ H QB) (WT X a σ H QB) := ⟨t_or1⟩
instance : Stp (WW X (.BoolOp .And (a :: b :: es) p) σ H QB) (WT X a σ H fun k H1 => if k = true then WW X (.BoolOp .And (b :: es) p) σ H1 QB else QB false H1) := ⟨t_and⟩
instance : Stp (WW X (.BoolOp .Or (a :: b :: es) p) σ H QB) (WT X a σ H fun k H1 => if k = true then QB true H1 else WW X (.BoolOp .Or (b :: es) p) σ H1 QB) := ⟨t_or⟩
instance : Stp (WT X (.UnaryOp .Not a p) σ H QB) (WT X a σ H fun k H1 => QB (!k) H1) := ⟨t_not⟩
/-- tests by a value's truth: a name, a field, a call, a subscript -/
instance : Stp (WT X (.Name x p) σ H QB) (WE X (.Name x p) σ H fun x H' => TruAt X.K x H' fun k => QB k H') := ⟨t_tru fun _ => rfl⟩
instance {f : Str} : Stp (WT X (.Attribute e f p) σ H QB) (WE X (.Attribute e f p) σ H fun x H' => TruAt X.K x H' fun k => QB k H') := ⟨t_tru fun _ => rfl⟩
instance {ks : List Keyword} : Stp (WT X (.Call e es ks p) σ H QB) (WE X (.Call e es ks p) σ H fun x H' => TruAt X.K x H' fun k => QB k H') := ⟨t_tru fun _ => rfl⟩
instance : Stp (WT X (.Subscript e a p) σ H QB) (WE X (.Subscript e a p) σ H fun x H' => TruAt X.K x H' fun k => QB k H') := ⟨t_tru fun _ => rfl⟩
instance : Stp (WE X (.Tuple es j p) σ H Q) (WA X es σ H fun xs H1 => SzL xs.length (NewAt H1 (.tup xs) fun p H2 => Q (.ref p) H2)) := ⟨w_tupG⟩
instance : Stp (WE X (.List es p) σ H Q) (WA X es σ H fun xs H1 => SzL xs.length (NewAt H1 (.lst xs) fun p H2 => Q (.ref p) H2)) := ⟨w_lstG⟩
/-- what may stand as an index -/
class Ixc (b : Expr) : Prop where
  ok : PlainIx b
instance : Ixc (.Name x p) := ⟨fun _ _ => rfl⟩
instance {z : Const} : Ixc (.Constant z j p) := ⟨fun _ _ => rfl⟩
instance {op : Operator} : Ixc (.BinOp a op b p) := ⟨fun _ _ => rfl⟩
instance {op : UnaryOp} : Ixc (.UnaryOp op a p) := ⟨fun _ _ => rfl⟩
instance {ks : List Keyword} : Ixc (.Call e es ks p) := ⟨fun _ _ => rfl⟩
instance : Ixc (.Subscript a b p) := ⟨fun _ _ => rfl⟩
instance {f : Str} : Ixc (.Attribute e f p) := ⟨fun _ _ => rfl⟩
instance [h : Hc X] [n : Ixc b] : Stp (WE X (.Subscript a b p) σ H Q) (WE X a σ H fun x H1 => WE X b σ H1 fun y H2 => rIxA X.K x y H2 Q) := ⟨w_ix (ix_A h.hu0) n.ok⟩
def rSlA2 (K : PySem.W.Frag) : V → Option Int → Option Int → Hp → VK → Prop := fun x lo hi H Q => rSlL K x lo hi H Q ∨ rSlA K x lo hi H Q
instance {lo hi : Option Expr} {p2 : Pos} : Stp (WE X (.Subscript e (.Slice lo hi none p2) p) σ H Q) (WE X e σ H fun x H1 => WO X lo σ H1 fun l H2 => WO X hi σ H2 fun u H3 => rSlA2 X.K x l u H3 Q) := ⟨w_slice (SlR.or sl_list sl_tupA)⟩
instance {Q : Option Int → Hp → Prop} : Stp (WO X none σ H Q) (Q none H) := ⟨fun h => h⟩
instance {Q : Option Int → Hp → Prop} : Stp (WO X (some e) σ H Q) (WE X e σ H fun x H1 => ExI x fun i => Q (some i) H1) := ⟨fun h => h⟩
/-- a call of the module's def -/
instance {k m : Nat} {sp : Sp} {W : WX} [f : Fn X x k sp] [r : Rm X m] [t : Tk X W] : Stp (WE X (.Call (.Name x p) (e :: es) [] pos) σ H Q)
    (LeN k m (Sd (starEach (e :: es) X.env = (false, eval e X.env) :: starEach es X.env) (Sd ((backTo pos (starEach es X.env)).any (·.1) = false) (WA X (e :: es) σ H fun vs H1 => sp vs H1 Q (EX W σ))))) := ⟨fun ⟨h1, h2, h3, h⟩ => w_call f.cal t.tk r.room h1 f.gn h2 h3 h⟩
instance {k m : Nat} {sp : Sp} {W : WX} [f : Fn X x k sp] [r : Rm X m] [t : Tk X W] : Stp (WE X (.Call (.Name x p) [] [] pos) σ H Q) (LeN k m (sp [] H Q (EX W σ))) := ⟨fun ⟨h1, h⟩ => w_call0 f.cal t.tk r.room h1 f.gn h⟩
/-- a new instance, ahead of its __init__ -/
theorem same_made {p dx C : Addr} (h1 : H p = none) (h2 : H dx = none) : Same H (upd (upd H dx (.own p)) p (.ins C dx [])) := fun a o e => by
  rw [upd_ne (ne_of_none e h1), upd_ne (ne_of_none e h2)]; exact e
def NewIns (H : Hp) (C : Addr) (R : Addr → Addr → Hp → Prop) : Prop := ∀ p dx H2, H p = none → Same H H2 → H2 p = some (.ins C dx []) → R p dx H2
instance {k m : Nat} {C : Addr} {sp : Sp} {W : WX} [f : Mkf X x k C sp] [r : Rm X m] [t : Tk X W] : Stp (WE X (.Call (.Name x p) (e :: es) [] pos) σ H Q)
    (LeN (k + 1) m (Sd (starEach (e :: es) X.env = (false, eval e X.env) :: starEach es X.env) (Sd ((backTo pos (starEach es X.env)).any (·.1) = false)
      (WA X (e :: es) σ H fun vs H1 => NewIns H1 C fun p dx H2 => sp (.ref p :: vs) H2 (fun v H3 => v = .non ∧ Q (.ref p) H3) (EX W σ))))) :=
  ⟨fun ⟨h1, h2, h3, h⟩ => w_make f.mak t.tk r.room h1 f.gn h2 h3 ⟨fun pos pins s I => wpAny_mono (h.run pos pins s I) (fun us s1 ⟨xs, H1, I1, r, q⟩ => ⟨xs, H1, I1, r, fun p dx a b c => q p dx _ a (same_made a b) upd_same⟩) fun _ _ z => z⟩⟩
/-- a method: the instance at hand -/
def InsM (H : Hp) (C : Addr) (m : Str) (x : V) (R : Prop) : Prop := ∃ a dx fs, x = .ref a ∧ H a = some (.ins C dx fs) ∧ fs.lookup m = none ∧ R
theorem ins_m {a C dx : Addr} {fs : List (Str × V)} {m : Str} {R : Prop} (h : H a = some (.ins C dx fs)) (l : fs.lookup m = none) (q : R) : InsM H C m (.ref a) R := ⟨a, dx, fs, rfl, h, l, q⟩
def mcall (X : Cx) (o : Expr) (m : Str) (apos : Pos) (es : List Expr) (pos : Pos) (pl : Sem Bool) : Sem Value := do
  let ov ← eval o X.env
  standAt apos.atName
  let (f, first) ← holding [ov] (getMethod ov m pl)
  callWith pos f first (backTo pos (starEach es X.env)) (backToKw pos (keywordEach [] X.env))
instance {k m' : Nat} {C : Addr} {m : Str} {sp : Sp} {W : WX} [f : Mtf X m k C sp] [r : Rm X m'] [t : Tk X W] : Stp (WE X (.Call (.Attribute o m apos) (e :: es) [] pos) σ H Q)
    (LeN k m' (Sd (starEach (e :: es) X.env = (false, eval e X.env) :: starEach es X.env) (Sd ((backTo pos (starEach es X.env)).any (·.1) = false) (Sd (∃ pl, eval (.Call (.Attribute o m apos) (e :: es) [] pos) X.env = mcall X o m apos (e :: es) pos pl)
      (WE X o σ H fun x H1 => InsM H1 C m x (WA X (e :: es) σ H1 fun vs H2 => sp (x :: vs) H2 Q (EX W σ))))))) :=
  ⟨fun ⟨h1, h2, h3, ⟨_, h4⟩, h⟩ => w_meth f.met t.tk r.room h1 h2 h3 h4 h⟩
instance {k m' : Nat} {C : Addr} {m : Str} {sp : Sp} {W : WX} [f : Mtf X m k C sp] [r : Rm X m'] [t : Tk X W] : Stp (WE X (.Call (.Attribute o m apos) [] [] pos) σ H Q)
    (LeN k m' (Sd (∃ pl, eval (.Call (.Attribute o m apos) [] [] pos) X.env = mcall X o m apos [] pos pl) (WE X o σ H fun x H1 => InsM H1 C m x (sp [x] H1 Q (EX W σ))))) :=
  ⟨fun ⟨h1, ⟨_, h4⟩, h⟩ => w_meth0 f.met t.tk r.room h1 h4 h⟩
/-- built-ins by their names -/
abbrev rTupOf (K : PySem.W.Frag) : List V → Hp → VK → Prop := fun xs H Q => ∃ p ys, xs = [.ref p] ∧ ((SqL K H p ys ∧ ∀ l, H l = none → Q (.ref l) (upd H l (.tup ys))) ∨ (SqT K H p ys ∧ Q (.ref p) H))
def rTupOf1 (K : PySem.W.Frag) (x : V) (H : Hp) (Q : VK) : Prop := rTupOf K [x] H Q
theorem tupof_l {K : PySem.W.Frag} {l : Addr} {ys : List V} (h : SqL K H l ys) (q : NewAt H (.tup ys) fun p H2 => Q (.ref p) H2) : rTupOf1 K (.ref l) H Q := ⟨l, ys, rfl, .inl ⟨h, new_g q⟩⟩
theorem tupof_t {K : PySem.W.Frag} {l : Addr} {ys : List V} (h : SqT K H l ys) (q : Q (.ref l) H) : rTupOf1 K (.ref l) H Q := ⟨l, ys, rfl, .inr ⟨h, q⟩⟩
abbrev rListOf (K : PySem.W.Frag) : List V → Hp → VK → Prop := fun xs H Q => ∃ p ys, xs = [.ref p] ∧ (SqL K H p ys ∨ SqT K H p ys) ∧ ∀ l, H l = none → Q (.ref l) (upd H l (.lst ys))
def rListOf1 (K : PySem.W.Frag) (x : V) (H : Hp) (Q : VK) : Prop := rListOf K [x] H Q
theorem lstof_l {K : PySem.W.Frag} {l : Addr} {ys : List V} (h : SqL K H l ys) (q : NewAt H (.lst ys) fun p H2 => Q (.ref p) H2) : rListOf1 K (.ref l) H Q := ⟨l, ys, rfl, .inl h, new_g q⟩
theorem lstof_t {K : PySem.W.Frag} {l : Addr} {ys : List V} (h : SqT K H l ys) (q : NewAt H (.lst ys) fun p H2 => Q (.ref p) H2) : rListOf1 K (.ref l) H Q := ⟨l, ys, rfl, .inr h, new_g q⟩
theorem len_l {l : Addr} {ys : List V} (h : SqL X.K H l ys) (q : Q (.int (ys.length : Int)) H) : LenA X (.ref l) H Q := .inl ⟨.ref l, ys.length, rfl, .inl ⟨ys, h, rfl⟩, q⟩
theorem len_t {l : Addr} {ys : List V} (h : SqT X.K H l ys) (q : Q (.int (ys.length : Int)) H) : LenA X (.ref l) H Q := .inl ⟨.ref l, ys.length, rfl, .inr ⟨ys, h, rfl⟩, q⟩
theorem len_s {z : Str} (h : z.length ≤ sizeLine) (q : Q (.int (z.length : Int)) H) : LenA X (.str z) H Q := .inl ⟨.str z, z.length, rfl, ⟨h, rfl⟩, q⟩
theorem len_i {a C dx : Addr} {fs : List (Str × V)} {k m : Nat} {sp : Sp} (h : H a = some (.ins C dx fs)) (f : Mtf X "__len__" k C sp) (r : Rm X m) (hk : k + 1 ≤ m) (q : sp [.ref a] H (fun v H2 => ∃ n : Int, v = .int n ∧ 0 ≤ n ∧ n < 2 ^ 63 ∧ Q (.int n) H2) (fun _ _ _ => False)) : LenA X (.ref a) H Q :=
  .inr ⟨a, C, dx, fs, k, sp, rfl, h, f.met, r.room.mono hk, q⟩
theorem eq_i {a b C dx dy : Addr} {fs gs : List (Str × V)} {k m : Nat} {sp : Sp} (h : H a = some (.ins C dx fs)) (h2 : H b = some (.ins C dy gs)) (f : Mtf X "__eq__" k C sp) (r : Rm X m) (hk : k ≤ m)
    (q : sp [.ref a, .ref b] H (fun v H2 => ∃ z, v = .bl z ∧ Q (.bl z) H2) (fun _ _ _ => False)) : rEqA X (.ref a) (.ref b) H Q :=
  .inr ⟨a, b, C, dx, dy, fs, gs, k, sp, rfl, rfl, h, h2, f.met, r.room.mono hk, q⟩
/-- one argument -/
def C1 (X : Cx) (e : Expr) (pos : Pos) : Prop := starEach [e] X.env = (false, eval e X.env) :: starEach [] X.env ∧ (backTo pos (starEach [] X.env)).any (·.1) = false
theorem w_b1 {id : String} {r : List V → Hp → VK → Prop} (hc : CallR X (.builtin id) r) (n : Bn X x) (hv : bootBuiltins x = some (.builtin id)) (c : C1 X e pos) (h : WE X e σ H fun y H1 => r [y] H1 Q) : WE X (.Call (.Name x p) [e] [] pos) σ H Q :=
  w_callB hc n hv c.1 c.2 (a_cons c.1 (h.mono fun y H1 q => a_nil q))
theorem w_t1 {id : String} {r : List V → Hp → VK → Prop} (hc : CallR X (.type id) r) (n : Bn X x) (hv : bootBuiltins x = some (.type id)) (c : C1 X e pos) (h : WE X e σ H fun y H1 => r [y] H1 Q) : WE X (.Call (.Name x p) [e] [] pos) σ H Q :=
  w_callTy hc n hv c.1 c.2 (a_cons c.1 (h.mono fun y H1 q => a_nil q))
instance (priority := high) [n : Bnc X "tuple"] : Stp (WE X (.Call (.Name "tuple" p) [e] [] pos) σ H Q) (Sd (starEach [e] X.env = (false, eval e X.env) :: starEach [] X.env ∧ (backTo pos (starEach [] X.env)).any (·.1) = false) (WE X e σ H fun y H1 => rTupOf1 X.K y H1 Q)) := ⟨fun z => w_t1 call_tuple_of n.bn (by decide +kernel) z.1 z.2⟩
instance (priority := high) [n : Bnc X "list"] : Stp (WE X (.Call (.Name "list" p) [e] [] pos) σ H Q) (Sd (starEach [e] X.env = (false, eval e X.env) :: starEach [] X.env ∧ (backTo pos (starEach [] X.env)).any (·.1) = false) (WE X e σ H fun y H1 => rListOf1 X.K y H1 Q)) := ⟨fun z => w_t1 call_list_of n.bn (by decide +kernel) z.1 z.2⟩
instance (priority := high) [n : Bnc X "len"] : Stp (WE X (.Call (.Name "len" p) [e] [] pos) σ H Q) (Sd (starEach [e] X.env = (false, eval e X.env) :: starEach [] X.env ∧ (backTo pos (starEach [] X.env)).any (·.1) = false) (WE X e σ H fun y H1 => LenA X y H1 Q)) := ⟨fun z => w_b1 call_lenA n.bn (by decide +kernel) z.1 (z.2.mono fun y H1 q => ⟨y, rfl, q⟩)⟩
def rMax1 (x y : V) (H : Hp) (Q : VK) : Prop := ∃ i j, [x, y] = [V.int i, V.int j] ∧ Q (.int (if j > i then j else i)) H
def rMin1 (x y : V) (H : Hp) (Q : VK) : Prop := ∃ i j, [x, y] = [V.int i, V.int j] ∧ Q (.int (if j < i then j else i)) H
instance (priority := high) [h : Hc X] [n : Bnc X "max"] : Stp (WE X (.Call (.Name "max" p) [a, b] [] pos) σ H Q) (Sd (starEach [a, b] X.env = (false, eval a X.env) :: starEach [b] X.env ∧ starEach [b] X.env = (false, eval b X.env) :: starEach [] X.env ∧ (backTo pos (starEach [b] X.env)).any (·.1) = false) (WE X a σ H fun x H1 => WE X b σ H1 fun y H2 => rMax1 x y H2 Q)) :=
  ⟨fun z => w_callB (call_max2 h.calm) n.bn (by decide +kernel) z.1.1 z.1.2.2 (a_cons z.1.1 (z.2.mono fun y H1 q => a_cons z.1.2.1 (q.mono fun y H1 q => a_nil q)))⟩
instance (priority := high) [h : Hc X] [n : Bnc X "min"] : Stp (WE X (.Call (.Name "min" p) [a, b] [] pos) σ H Q) (Sd (starEach [a, b] X.env = (false, eval a X.env) :: starEach [b] X.env ∧ starEach [b] X.env = (false, eval b X.env) :: starEach [] X.env ∧ (backTo pos (starEach [b] X.env)).any (·.1) = false) (WE X a σ H fun x H1 => WE X b σ H1 fun y H2 => rMin1 x y H2 Q)) :=
  ⟨fun z => w_callB (call_min2 h.calm) n.bn (by decide +kernel) z.1.1 z.1.2.2 (a_cons z.1.1 (z.2.mono fun y H1 q => a_cons z.1.2.1 (q.mono fun y H1 q => a_nil q)))⟩
instance {m n : Int} : Stp (rMax1 (.int m) (.int n) H Q) (Q (.int (max m n)) H) := ⟨fun q => ⟨m, n, rfl, by
  have e : (if n > m then n else m) = max m n := by split <;> omega
  rw [e]; exact q⟩⟩
instance {m n : Int} : Stp (rMin1 (.int m) (.int n) H Q) (Q (.int (min m n)) H) := ⟨fun q => ⟨m, n, rfl, by
  have e : (if n < m then n else m) = min m n := by split <;> omega
  rw [e]; exact q⟩⟩
/-- l.append(e) -/
instance : Stp (WE X (.Call (.Attribute o "append" apos) [e] [] pos) σ H Q) (Sd (attributeBase o ("append" : Str) X.env (eval o X.env) = eval o X.env)
    (Sd (((backTo pos (starEach [e] X.env)).all (fun x => !x.1) && (backToKw pos (keywordEach [] X.env)).all (fun x => x.1.isSome) && decide (([e] : List Expr).length + ([] : List Keyword).length + (if ([] : List Keyword).isEmpty then 0 else 1) < 30)) = true)
    (Sd ((apos.endLine == pos.line) = true) (Sd (starEach [e] X.env = (false, eval e X.env) :: starEach [] X.env) (Sd ((backTo pos (starEach [] X.env)).any (·.1) = false)
    (WE X o σ H fun x H1 => IsLst X.K H1 x (WE X e σ H1 fun y H2 => AppTo H2 x y fun H3 => Q .non H3))))))) :=
  ⟨fun ⟨h1, h2, h3, h4, h5, h⟩ => w_app h1 h2 h3 h4 h5 h⟩
/-! ### statements -/
instance : Stp (WB X [] nx rt bk ct σ H) (nx σ H) := ⟨b_nil⟩
/-- no comprehension -/
class Noc (e : Expr) : Prop where
  ok : True
instance : Noc (.Name x p) := ⟨trivial⟩
instance {z : Const} : Noc (.Constant z j p) := ⟨trivial⟩
instance {op : Operator} : Noc (.BinOp a op b p) := ⟨trivial⟩
instance {op : UnaryOp} : Noc (.UnaryOp op a p) := ⟨trivial⟩
instance {op : BoolOp} : Noc (.BoolOp op es p) := ⟨trivial⟩
instance {ops : List CmpOp} : Noc (.Compare a ops es p) := ⟨trivial⟩
instance {ks : List Keyword} : Noc (.Call e es ks p) := ⟨trivial⟩
instance : Noc (.Subscript a b p) := ⟨trivial⟩
instance {f : Str} : Noc (.Attribute e f p) := ⟨trivial⟩
instance : Noc (.Tuple es j p) := ⟨trivial⟩
instance : Noc (.List es p) := ⟨trivial⟩
instance {ks : List (Option Expr)} : Noc (.Dict ks es p) := ⟨trivial⟩
instance : Noc (.IfExp c a b p) := ⟨trivial⟩
instance [n : Lcc X x i] [Noc e] : Stp (WS X (.Assign [.Name x px] e pos) nx rt bk ct σ H) (Sd (swapsWith e (some (.Name x px)) pos.line X.env = pure false) (WE X e σ H fun v H1 => nx (σ.set i (some v)) H1)) := ⟨fun z => s_set n.lc z.1 z.2⟩
instance (priority := low) {tg : Expr} [Noc e] : Stp (WS X (.Assign [tg] e pos) nx rt bk ct σ H) (Sd (swapsWithSole [tg] e pos.line X.env = pure false) (Sd (swappedStores [tg] e X.env = pure none) (Sd ((assignEach [tg] X.env).map (·.2) = [assign tg X.env]) (WE X e σ H fun v H1 => WG X tg v σ H1 nx)))) := ⟨fun ⟨h1, h2, h3, h⟩ => s_asg h1 h2 h3 h⟩
instance : Stp (WS X (.Expr e pos) nx rt bk ct σ H) (Sd (swapsWith e none pos.line X.env = pure false) (WE X e σ H fun _ H1 => nx σ H1)) := ⟨fun z => s_expr z.1 z.2⟩
instance : Stp (WS X (.Return (some e) pos) nx rt bk ct σ H) (WE X e σ H rt) := ⟨s_ret⟩
instance : Stp (WS X (.Return none pos) nx rt bk ct σ H) (rt .non H) := ⟨s_retN⟩
/-- a statement's end, by a word of one's own -/
theorem s_mid (Mid : L2.St → Hp → Prop) (h : WS X st Mid rt bk ct σ H) (q : ∀ σ H, Mid σ H → nx σ H) : WS X st nx rt bk ct σ H := ⟨fun pins s I => wpAny_mono (h.run pins s I) (fun f s1 z => by
  cases f with
  | next => obtain ⟨σ', H', I', n⟩ := z; exact ⟨σ', H', I', q _ _ n⟩
  | brk => exact z
  | cont => exact z
  | ret u => exact z) fun _ _ z => z⟩
instance : Stp (WS X (.Pass pos) nx rt bk ct σ H) (nx σ H) := ⟨s_pass⟩
instance : Stp (WS X (.Break pos) nx rt bk ct σ H) (bk σ H) := ⟨s_break⟩
instance [n : Lcc X x i] : Stp (WS X (.AugAssign (.Name x px) .Add e pos) nx rt bk ct σ H) (Sl σ i fun v => WE X e σ H fun y H1 => ipI (fun i j => i + j) v y H1 fun z H2 => nx (σ.set i (some z)) H2) := ⟨fun ⟨_, h, q⟩ => s_aug n.lc ip_add h q⟩
/-! ### targets -/
instance [n : Lcc X x i] : Stp (WG X (.Name x p) v σ H QG) (QG (σ.set i (some v)) H) := ⟨g_name n.lc⟩
instance : Stp (WGs X [] [] σ H QG) (QG σ H) := ⟨gs_nil⟩
instance {vs : List V} : Stp (WGs X (e :: es) (v :: vs) σ H QG) (Sd ((assignEach (e :: es) X.env).map (·.2) = assign e X.env :: (assignEach es X.env).map (·.2)) (WG X e v σ H fun σ' H' => WGs X es vs σ' H' QG)) := ⟨fun z => gs_cons z.1 z.2⟩
instance [h : Hc X] {a : Addr} : Stp (WG X (.Tuple es j p) (.ref a) σ H QG) (Sd ((assignEach es X.env).findIdx? (·.1) = none) (TgT X.K H a fun xs => Sd ((assignEach es X.env).length = xs.length) (WGs X es xs σ H QG))) := ⟨fun ⟨h1, _, h2, h3, q⟩ => by
  rcases h2 with h2 | h2
  · exact g_tup h.calm h2 h3 h1 q
  · exact wg_of (pg_unl h.calm (pgs_w es) h3 h1) ⟨a, _, rfl, h2, rfl, q⟩⟩
/-! ### operators on values -/
variable {K : PySem.W.Frag} {m n : Int}
instance : Stp (rAddA K (.int m) (.int n) H Q) (Q (.int (m + n)) H) := ⟨add_int⟩
instance : Stp (rI0 (fun i j => .int (i - j)) (.int m) (.int n) H Q) (Q (.int (m - n)) H) := ⟨sub_int⟩
instance {b : Bool} {R : Bool → Prop} : Stp (TruAt K (.bl b) H R) (R b) := ⟨tru_b⟩
instance : Stp (rU (fun i => .int (-i)) (.int m) H Q) (Q (.int (-m)) H) := ⟨fun q => ⟨m, rfl, q⟩⟩
instance {g : Int → Int → V} : Stp (rI0 g (.int m) (.int n) H Q) (Q (g m n) H) := ⟨cmp_int⟩
instance : Stp (ipI (fun i j => i + j) (.int m) (.int n) H Q) (Q (.int (m + n)) H) := ⟨fun q => ⟨m, n, rfl, rfl, q⟩⟩
instance : Stp (rIsNn .non .non H Q) (Q (.bl true) H) := ⟨fun q => is_non q⟩
instance : Stp (rIsNn (.int m) .non H Q) (Q (.bl false) H) := ⟨fun q => is_non q⟩
instance {b : Bool} : Stp (rIsNn (.bl b) .non H Q) (Q (.bl false) H) := ⟨fun q => is_non q⟩
instance : Stp (rIsNn (.str x) .non H Q) (Q (.bl false) H) := ⟨fun q => is_non q⟩
instance {a : Addr} : Stp (rIsNn (.ref a) .non H Q) (Q (.bl false) H) := ⟨fun q => is_non q⟩
instance : Stp (rNotNn .non .non H Q) (Q (.bl false) H) := ⟨fun q => isnot_non q⟩
instance : Stp (rNotNn (.int m) .non H Q) (Q (.bl true) H) := ⟨fun q => isnot_non q⟩
instance {b : Bool} : Stp (rNotNn (.bl b) .non H Q) (Q (.bl true) H) := ⟨fun q => isnot_non q⟩
instance : Stp (rNotNn (.str x) .non H Q) (Q (.bl true) H) := ⟨fun q => isnot_non q⟩
instance {a : Addr} : Stp (rNotNn (.ref a) .non H Q) (Q (.bl true) H) := ⟨fun q => isnot_non q⟩
theorem eq_int (q : Q (.bl (decide (m = n))) H) : rEqA X (.int m) (.int n) H Q := eq_sc rfl (by
  have e : decide (V.int m = V.int n) = decide (m = n) := by
    by_cases h : m = n
    · simp [h]
    · simp [h]
  rw [e]; exact q)
theorem ne_int (q : Q (.bl (!decide (m = n))) H) : rNeA K (.int m) (.int n) H Q := ne_sc rfl (by
  have e : decide (V.int m = V.int n) = decide (m = n) := by
    by_cases h : m = n
    · simp [h]
    · simp [h]
  rw [e]; exact q)
theorem eq_str {s t : Str} (q : Q (.bl (decide (s = t))) H) : rEqA X (.str s) (.str t) H Q := eq_sc rfl (by
  have e : decide (V.str s = V.str t) = decide (s = t) := by
    by_cases h : s = t
    · simp [h]
    · simp [h]
  rw [e]; exact q)
theorem ne_str {s t : Str} (q : Q (.bl (!decide (s = t))) H) : rNeA K (.str s) (.str t) H Q := ne_sc rfl (by
  have e : decide (V.str s = V.str t) = decide (s = t) := by
    by_cases h : s = t
    · simp [h]
    · simp [h]
  rw [e]; exact q)
instance : Stp (rEqA X (.int m) (.int n) H Q) (Q (.bl (decide (m = n))) H) := ⟨eq_int⟩
instance : Stp (rNeA K (.int m) (.int n) H Q) (Q (.bl (!decide (m = n))) H) := ⟨ne_int⟩
instance {s t : Str} : Stp (rEqA X (.str s) (.str t) H Q) (Q (.bl (decide (s = t))) H) := ⟨eq_str⟩
instance {s t : Str} : Stp (rNeA K (.str s) (.str t) H Q) (Q (.bl (!decide (s = t))) H) := ⟨ne_str⟩
instance : Stp (rEqA X .non (.int n) H Q) (Q (.bl false) H) := ⟨fun q => eq_sc rfl q⟩
instance : Stp (rNeA K .non (.int n) H Q) (Q (.bl true) H) := ⟨fun q => ne_sc rfl q⟩
instance {s : Str} : Stp (rEqA X .non (.str s) H Q) (Q (.bl false) H) := ⟨fun q => eq_sc rfl q⟩
instance {s : Str} : Stp (rNeA K .non (.str s) H Q) (Q (.bl true) H) := ⟨fun q => ne_sc rfl q⟩
instance {s : Str} : Stp (rEqA X (.int m) (.str s) H Q) (Q (.bl false) H) := ⟨fun q => eq_sc rfl q⟩
instance {s : Str} : Stp (rNeA K (.int m) (.str s) H Q) (Q (.bl true) H) := ⟨fun q => ne_sc rfl q⟩
instance {b : Bool} {s : Str} : Stp (rEqA X (.bl b) (.str s) H Q) (Q (.bl false) H) := ⟨fun q => eq_sc rfl q⟩
instance {b : Bool} {s : Str} : Stp (rNeA K (.bl b) (.str s) H Q) (Q (.bl true) H) := ⟨fun q => ne_sc rfl q⟩
end
end Z

namespace Z
open PySem PySem.Spec PyProof.Rows L2
/-- what a for walks, over the text itself -/
structure WI (X : Cx) (tg iter : Expr) (σ : L2.St) (H : Hp) (R : It → Hp → Prop) : Prop where
  run : ∀ (pins : List (Addr × Obj)) (s : Shared), Inv X pins σ H s →
    wpAny (model X.prog X.w) X.A (eval iter X.env) (fun v s1 => wpAny (model X.prog X.w) X.A (pyIter v) (PIE X pins σ tg R) X.xe s1) X.xe s
theorem pi_w {X : Cx} (tg iter : Expr) : PI X tg iter (WI X tg iter) := ⟨fun pins s _ _ _ I h => h.run pins s I⟩
theorem wi_of {X : Cx} {tg iter : Expr} {σ : L2.St} {H : Hp} {R : It → Hp → Prop} {t : TI} (h : PI X tg iter t) (q : t σ H R) : WI X tg iter σ H R := ⟨fun pins s I => h.run pins s σ H R I q⟩
/-- a block of a comprehension -/
abbrev blkX (X : Cx) (scope : Scope) (s : Shared) (H : Hp) (C : Addr) (cl : List (Str × Addr)) (fp : List Addr) : Cx := X.blk s H scope (compEnvC scope cl C X.env) fp
instance {X : Cx} {scope : Scope} {s : Shared} {H : Hp} {C : Addr} {cl : List (Str × Addr)} {fp : List Addr} [h : Hc X] : Hc (blkX X scope s H C cl fp) := ⟨h.calm, h.hu, .never⟩
instance {X : Cx} {scope : Scope} {s : Shared} {H : Hp} {C : Addr} {cl : List (Str × Addr)} {fp : List Addr} : Tk (blkX X scope s H C cl fp) (fun _ _ _ _ => False) := ⟨takes_no⟩
instance {X : Cx} {scope : Scope} {s : Shared} {H : Hp} {C : Addr} {cl : List (Str × Addr)} {fp : List Addr} {k : Nat} [h : Rm X k] : Rm (blkX X scope s H C cl fp) k := ⟨h.room⟩
theorem fn_blk {X : Cx} {scope sc : Scope} {s : Shared} {H : Hp} {C : Addr} {cl : List (Str × Addr)} {fp : List Addr} {x : Str} {k : Nat} {sp : Sp} (f : Fn X x k sp) (hs : X.env.scope = sc) (h : gnB (relS scope sc) x = true) : Fn (blkX X scope s H C cl fp) x k sp := ⟨f.cal, gn_blk hs h⟩
section
variable {X : Cx} {e a b c o iter tg elt : Expr} {es ifs : List Expr} {body : List Stmt} {σ : L2.St} {H : Hp} {Q : VK} {pos p px apos : Pos} {x : Str} {i j : Nat} {v w : V} {nx bk ct : L2.St → Hp → Prop} {rt : VK}
/-- a for, by its walk -/
theorem s_for (hc : Hc X) (hs : ∀ x, foldedSetIterable iter X.env x = pure x)
    (h : WI X tg iter σ H fun J H1 => ∃ n G Y, Walk J n G Y ∧ ∃ Pv : Nat → L2.St → Hp → Prop, Pv 0 σ H1 ∧ (∀ i σ H, i ≤ n → Pv i σ H → G H) ∧
      (∀ i x σ H H', i < n → Pv i σ H → Y i H x H' → WG X tg x σ H' fun σ2 H2 => WB X body (Pv (i + 1)) rt nx (Pv (i + 1)) σ2 H2) ∧ ∀ σ H, Pv n σ H → nx σ H) :
    WS X (.For tg iter body [] pos) nx rt bk ct σ H := by
  refine ws_of (ps_for hc.own hc.calm (pi_w tg iter) (pg_w tg) (pss_w body) hs) ⟨fun pins s I => wpAny_mono (h.run pins s I) (fun u s1 h1 => wpAny_mono h1 ?_ fun _ _ z => z) fun _ _ z => z⟩
  rintro itv s2 ⟨it, fp, tn, J, H', e1, I2, T, st, f, n, G, Y, wk, Pv, h0, hG, ht, hd⟩
  exact ⟨it, fp, tn, J, H', e1, I2, T, st, f, for_it wk (g := WG X tg) (tb := fun D => WB X body D.nx D.rt D.bk D.ct) (D := ⟨nx, rt, bk, ct⟩) Pv h0 hG ht hd⟩
theorem wi_list {R : It → Hp → Prop} (h : WE X iter σ H fun x H1 => ∃ (a : Addr) (xs : List V), x = .ref a ∧ SqL X.K H1 a xs ∧ R (Itl X.K a) H1) : WI X tg iter σ H R := by
  refine wi_of (pi_list (pe_w iter)) (h.mono ?_)
  rintro x H1 ⟨a, xs, rfl, hx, q⟩
  exact ⟨a, rfl, ⟨xs, hx⟩, q⟩
theorem wi_tup {R : It → Hp → Prop} (h : WE X iter σ H fun x H1 => ∃ (a : Addr) (xs : List V), x = .ref a ∧ SqT X.K H1 a xs ∧ R (Itt X.K a) H1) : WI X tg iter σ H R := by
  refine wi_of (pi_tup (pe_w iter)) (h.mono ?_)
  rintro x H1 ⟨a, xs, rfl, hx, q⟩
  exact ⟨a, rfl, ⟨xs, hx⟩, q⟩
theorem wi_range1 {R : It → Hp → Prop} (n : Bn X "range") (hs : starEach [a] X.env = [(false, eval a X.env)]) (h : WE X a σ H fun x H1 => ∃ j : Int, x = .int j ∧ -(2 ^ 62) ≤ j ∧ j < 2 ^ 62 ∧ R (Itr 0 j.toNat) H1) : WI X tg (.Call (.Name "range" p) [a] [] pos) σ H R := by
  refine wi_of (pi_range1 n.gl n.mg (pa_cons (pe_w a) pa_nil hs) hs) (h.mono ?_)
  rintro x H1 ⟨j, rfl, h1, h2, q⟩
  exact ⟨j, rfl, h1, h2, q⟩
theorem wi_range2 {R : It → Hp → Prop} (n : Bn X "range") (hs : starEach [a, b] X.env = [(false, eval a X.env), (false, eval b X.env)]) (hs2 : starEach [b] X.env = [(false, eval b X.env)])
    (h : WE X a σ H fun x H1 => WE X b σ H1 fun y H2 => ∃ i j : Int, x = .int i ∧ y = .int j ∧ (-(2 ^ 62) ≤ i ∧ i < 2 ^ 62 ∧ -(2 ^ 62) ≤ j ∧ j < 2 ^ 62) ∧ R (Itr i (j - i).toNat) H2) : WI X tg (.Call (.Name "range" p) [a, b] [] pos) σ H R := by
  refine wi_of (pi_range2 n.gl n.mg (pa_cons (pe_w a) (pa_cons (pe_w b) pa_nil hs2) (by rw [hs, hs2])) hs hs2) (h.mono ?_)
  intro x H1 q
  refine q.mono ?_
  rintro y H2 ⟨i, j, rfl, rfl, h1, q⟩
  exact ⟨i, j, rfl, h1, q⟩
theorem wi_enum {R : It → Hp → Prop} {elts : List Expr} {kk : Nat} {tpos : Pos} (n : Bn X "enumerate") (hs : starEach [e] X.env = [(false, eval e X.env)]) (h : WE X e σ H fun x H1 => ∃ (a : Addr) (xs : List V), x = .ref a ∧ SqL X.K H1 a xs ∧ R (Ite X.K a) H1) :
    WI X (.Tuple elts kk tpos) (.Call (.Name "enumerate" p) [e] [] pos) σ H R := by
  refine wi_of (pi_enum n.gl n.mg (pa_cons (pe_w e) pa_nil hs) hs) (h.mono ?_)
  rintro x H1 ⟨a, xs, rfl, hx, q⟩
  exact ⟨a, xs, rfl, hx, q⟩
theorem wi_zip {R : It → Hp → Prop} {elts : List Expr} {kk : Nat} {tpos : Pos} (n : Bn X "zip") (hs : starEach [a, b] X.env = [(false, eval a X.env), (false, eval b X.env)]) (hs2 : starEach [b] X.env = [(false, eval b X.env)])
    (h : WE X a σ H fun x H1 => WE X b σ H1 fun y H2 => ∃ (a b : Addr) (xs ys : List V), x = .ref a ∧ y = .ref b ∧ SqL X.K H2 a xs ∧ SqL X.K H2 b ys ∧ R (Itz X.K a b) H2) :
    WI X (.Tuple elts kk tpos) (.Call (.Name "zip" p) [a, b] [] pos) σ H R := by
  refine wi_of (pi_zip n.gl n.mg (pa_cons (pe_w a) (pa_cons (pe_w b) pa_nil hs2) (by rw [hs, hs2])) (by rw [hs, hs2]) (by rw [hs2]; rfl)) (h.mono ?_)
  intro x H1 q
  refine q.mono ?_
  rintro y H2 ⟨a, b, xs, ys, rfl, rfl, hx, hy, q⟩
  exact ⟨a, b, xs, ys, rfl, hx, hy, q⟩
/-- the tests of a clause: none, one -/
def WTs (X : Cx) (ifs : List Expr) (σ : L2.St) (H : Hp) (Q : Bool → Hp → Prop) : Prop := match ifs with
  | [] => Q true H
  | [c] => WT X c σ H Q
  | _ => False
theorem pts_w : ∀ ifs : List Expr, PTs X ifs (WTs X ifs)
  | [] => pts_nil
  | [c] => pts_one (pt_w c)
  | _ :: _ :: _ => ⟨fun _ _ _ _ _ _ h => h.elim⟩
/-- what a list comprehension asks, by its walk -/
theorem lc_read {scope : Scope} (own : List (Str × Nat)) 
    (h : WI X tg iter σ H fun J H1 => ∃ n G Y, Walk J n G Y ∧ ∀ D, H1 D = none → ∃ Pv : Nat → Hp → Prop, Pv 0 (upd H1 D (.lst [])) ∧ (∀ i H, i ≤ n → Pv i H → G H) ∧
      (∀ i x H H', i < n → Pv i H → Y i H x H' → ∀ s0 H0 C cl fp, WG (blkX X scope s0 H0 C cl fp) tg x (wipe σ (own.map (·.2))) H' fun σ2 H2 => wipe σ2 (own.map (·.2)) = wipe σ (own.map (·.2)) ∧ ∀ s0 H0 C cl fp, WTs (blkX X scope s0 H0 C cl fp) ifs σ2 H2 fun b H3 =>
        if b = true then ∀ s0 H0 C cl fp, WE (blkX X scope s0 H0 C cl fp) elt σ2 H3 fun y H4 => ∃ acc, H4 D = some (.lst acc) ∧ acc.length < sizeLine ∧ ChgAt H4 D (.lst (acc ++ [y])) fun H5 => Pv (i + 1) H5 else Pv (i + 1) H3) ∧ ∀ H, Pv n H → Q (.ref D) H) :
    tLc (WI X tg iter) (fun x σ H Q => ∀ s0 H0 C cl fp, WG (blkX X scope s0 H0 C cl fp) tg x σ H Q) (fun σ H Q => ∀ s0 H0 C cl fp, WTs (blkX X scope s0 H0 C cl fp) ifs σ H Q) (fun σ H Q => ∀ s0 H0 C cl fp, WE (blkX X scope s0 H0 C cl fp) elt σ H Q) (own.map (·.2)) σ H Q := by
  refine ⟨fun pins s I => wpAny_mono (h.run pins s I) (fun u s1 h1 => wpAny_mono h1 ?_ fun _ _ z => z) fun _ _ z => z⟩
  rintro itv s2 ⟨it, fp, tn, J, H', e1, I2, T, st, f, n, G, Y, wk, q⟩
  refine ⟨it, fp, tn, J, H', e1, I2, T, st, f, fun D hD => ?_⟩
  obtain ⟨Pv, h0, hG, ht, hd⟩ := q D hD
  refine lc_it (g := fun x σ H Q => ∀ s0 H0 C cl fp, WG (blkX X scope s0 H0 C cl fp) tg x σ H Q) (tt := fun σ H Q => ∀ s0 H0 C cl fp, WTs (blkX X scope s0 H0 C cl fp) ifs σ H Q) (te := fun σ H Q => ∀ s0 H0 C cl fp, WE (blkX X scope s0 H0 C cl fp) elt σ H Q) (vs := own.map (·.2)) (σ := σ) wk Pv h0 hG (fun i x H H' hi pv y s0 H0 C cl fp => (ht i x H H' hi pv y s0 H0 C cl fp).mono ?_) hd
  rintro σ3 H3 ⟨hw, q3⟩
  refine ⟨hw, fun s0 H0 C cl fp => ?_⟩
  have key : ∀ b H3, (if b = true then ∀ s0 H0 C cl fp, WE (blkX X scope s0 H0 C cl fp) elt σ3 H3 fun y H4 => ∃ acc, H4 D = some (.lst acc) ∧ acc.length < sizeLine ∧ ChgAt H4 D (.lst (acc ++ [y])) fun H5 => Pv (i + 1) H5 else Pv (i + 1) H3) →
      (if b = true then ∀ s0 H0 C cl fp, WE (blkX X scope s0 H0 C cl fp) elt σ3 H3 fun y H4 => ∃ acc, H4 D = some (.lst acc) ∧ acc.length < sizeLine ∧ Pv (i + 1) (upd H4 D (.lst (acc ++ [y]))) else Pv (i + 1) H3) := by
    intro b H3 z
    cases b with
    | false => exact z
    | true =>
      refine iteT ?_
      have z' : ∀ s0 H0 C cl fp, WE (blkX X scope s0 H0 C cl fp) elt σ3 H3 fun y H4 => ∃ acc, H4 D = some (.lst acc) ∧ acc.length < sizeLine ∧ ChgAt H4 D (.lst (acc ++ [y])) fun H5 => Pv (i + 1) H5 := z
      intro s0 H0 C cl fp
      refine (z' s0 H0 C cl fp).mono ?_
      rintro y H4 ⟨acc, e4, hz, q4⟩
      exact ⟨acc, e4, hz, q4 _ (.put (by simp)) (.put e4 trivial) upd_same⟩
  have q4 := q3 s0 H0 C cl fp
  clear q3
  match ifs, q4 with
  | [], q4 => exact key true H3 q4
  | [c], q4 => exact WT.mono q4 fun b H4 q5 => key _ _ q5
  | _ :: _ :: _, q4 => exact q4
/-- a list comprehension, by its walk -/
theorem w_lc {scope : Scope} (own : List (Str × Nat)) (hc : Hc X) (nd : X.N.Nodup) (ok : BlkOk X.N X.env.scope scope own) (hs : ∀ x, foldedSetIterable iter X.env x = pure x)
    (h : WI X tg iter σ H fun J H1 => ∃ n G Y, Walk J n G Y ∧ ∀ D, H1 D = none → ∃ Pv : Nat → Hp → Prop, Pv 0 (upd H1 D (.lst [])) ∧ (∀ i H, i ≤ n → Pv i H → G H) ∧
      (∀ i x H H', i < n → Pv i H → Y i H x H' → ∀ s0 H0 C cl fp, WG (blkX X scope s0 H0 C cl fp) tg x (wipe σ (own.map (·.2))) H' fun σ2 H2 => wipe σ2 (own.map (·.2)) = wipe σ (own.map (·.2)) ∧ ∀ s0 H0 C cl fp, WTs (blkX X scope s0 H0 C cl fp) ifs σ2 H2 fun b H3 =>
        if b = true then ∀ s0 H0 C cl fp, WE (blkX X scope s0 H0 C cl fp) elt σ2 H3 fun y H4 => ∃ acc, H4 D = some (.lst acc) ∧ acc.length < sizeLine ∧ ChgAt H4 D (.lst (acc ++ [y])) fun H5 => Pv (i + 1) H5 else Pv (i + 1) H3) ∧ ∀ H, Pv n H → Q (.ref D) H) :
    WE X (.ListComp elt [⟨tg, iter, ifs, 0⟩] scope pos) σ H Q := by
  exact we_of (pe_lc (own := own) (g := fun x σ H Q => ∀ s0 H0 C cl fp, WG (blkX X scope s0 H0 C cl fp) tg x σ H Q) (tt := fun σ H Q => ∀ s0 H0 C cl fp, WTs (blkX X scope s0 H0 C cl fp) ifs σ H Q) (te := fun σ H Q => ∀ s0 H0 C cl fp, WE (blkX X scope s0 H0 C cl fp) elt σ H Q)
    hc.calm nd (pi_w tg iter) ok (fun s0 H0 C cl fp => ⟨fun pins s σ H v u Q I r z => (z s0 H0 C cl fp).run pins s u I r⟩) (fun s0 H0 C cl fp => ⟨fun pins s σ H Q I z => (pts_w ifs).run pins s σ H Q I (z s0 H0 C cl fp)⟩) (fun s0 H0 C cl fp => ⟨fun pins s σ H Q I z => (z s0 H0 C cl fp).run pins s I⟩) hs) (lc_read own h)
/-- name = [..] on one line, the name a local -/
theorem s_lc {scope : Scope} {y : Str} {py spos : Pos} {i : Nat} (own : List (Str × Nat)) (hc : Hc X) (nd : X.N.Nodup) (hy : X.N[i]? = some y) (hyl : X.env.scope.names.lookup y = some .local) (hsw : swapsWith (.ListComp elt [⟨tg, iter, ifs, 0⟩] scope pos) (some (.Name y py)) spos.line X.env = pure true)
    (ok : BlkOk X.N X.env.scope scope own) (hs : ∀ x, foldedSetIterable iter X.env x = pure x)
    (h : tLc (WI X tg iter) (fun x σ H Q => ∀ s0 H0 C cl fp, WG (blkX X scope s0 H0 C cl fp) tg x σ H Q) (fun σ H Q => ∀ s0 H0 C cl fp, WTs (blkX X scope s0 H0 C cl fp) ifs σ H Q) (fun σ H Q => ∀ s0 H0 C cl fp, WE (blkX X scope s0 H0 C cl fp) elt σ H Q) (own.map (·.2)) σ H (fun v H1 => nx (σ.set i (some v)) H1)) :
    WS X (.Assign [.Name y py] (.ListComp elt [⟨tg, iter, ifs, 0⟩] scope pos) spos) nx rt bk ct σ H :=
  ws_of (ps_setLc (own := own) (g := fun x σ H Q => ∀ s0 H0 C cl fp, WG (blkX X scope s0 H0 C cl fp) tg x σ H Q) (tt := fun σ H Q => ∀ s0 H0 C cl fp, WTs (blkX X scope s0 H0 C cl fp) ifs σ H Q) (te := fun σ H Q => ∀ s0 H0 C cl fp, WE (blkX X scope s0 H0 C cl fp) elt σ H Q)
    hc.calm nd hy hyl hsw (pi_w tg iter) ok (fun s0 H0 C cl fp => ⟨fun pins s σ H v u Q I r z => (z s0 H0 C cl fp).run pins s u I r⟩) (fun s0 H0 C cl fp => ⟨fun pins s σ H Q I z => (pts_w ifs).run pins s σ H Q I (z s0 H0 C cl fp)⟩) (fun s0 H0 C cl fp => ⟨fun pins s σ H Q I z => (z s0 H0 C cl fp).run pins s I⟩) hs) h
end
end Z

section
set_option autoImplicit true
/-! enumerate over a tuple -/
namespace PySem
open Sem (wp)
open AutoSeq1 (wpAny_loadPart')
theorem meets_enumerate_newTup (l : Addr) (items : Array Value) (n : Nat) (dct : Option Addr) (sl : Array (Option Value)) :
    Meets (Builtin.«enumerate.__new__» ⟨[.type "enumerate", .ref l], []⟩) (fun _ R s => s.heap.get? l = some { cls := .type "tuple", dict := dct, data := .seq items n, slots := sl } ∧
      R (.ok (.ret (.ref (s.heap.push { cls := .type "tuple_iterator", data := .fields #[.ref l, .int 0 0] }).objs.size)))
        { s with heap := (s.heap.push { cls := .type "tuple_iterator", data := .fields #[.ref l, .int 0 0] }).push { cls := .type "enumerate", data := .fields #[.none, .bool false, .ref s.heap.objs.size, rawInt 0, .none, .none] } }) :=
  .of_wp fun prog w A R s h => by
    obtain ⟨hp, g, d, tk, os⟩ := s; obtain ⟨hl, h⟩ := h
    have hsub := sub_enumerate
    have hL : Heap.IsTuple (Shared.heap ⟨hp, g, d, tk, os⟩) l items := ⟨_, hl, rfl, n, rfl⟩
    wp_walk using wpAny_loadPart' hl
    refine wpAny_stack_any fun st => wpAny_pure ?_
    split
    · rename_i c _ _ _ _ _
      cases (c == Value.type "enumerate")
      · wp_walk using wpAny_loadPart' hl, wpAny_pyIter_tuple hL
        exact ⟨_, rfl, h⟩
      · wp_walk using wpAny_loadPart' hl, wpAny_pyIter_tuple hL
        exact ⟨_, rfl, h⟩
    · wp_walk using wpAny_loadPart' hl, wpAny_pyIter_tuple hL
      exact ⟨_, rfl, h⟩
section
variable {prog : Program} {w : World} {A : Around} {E : Value → Shared → Prop} {s : Shared}
theorem call_enumerate_tup {l : Addr} {items : Array Value} {Q : Value → Shared → Prop} (hL : s.heap.IsTuple l items)
    (h : ∀ h', IsEnum h' (s.heap.objs.size + 1) s.heap.objs.size 0 .none → h'.IsTupleIter s.heap.objs.size l 0 → h'.objs.size = s.heap.objs.size + 2 →
      (∀ b o, s.heap.get? b = some o → h'.get? b = some o) → Q (.ref (s.heap.objs.size + 1)) { s with heap := h' }) :
    wpAny (model prog w) A (call (.type "enumerate") [.ref l]) Q E s := by
  obtain ⟨⟨c, dct, dt, sl⟩, hl, hc, n, hd⟩ := hL
  replace hc : c = .type "tuple" := hc
  replace hd : dt = .seq items n := hd
  subst hc hd
  refine callType_new F.called_enumerate (by decide) (F.typeCall_enumerate_1 _) (F.newCall_enumerate_1 _) (fun obj => F.args_object_init_2 obj _) F.entry_enumerate_new
    (meets_enumerate_newTup l items n dct sl) ⟨hl, ?_⟩
  have hz : (s.heap.push { cls := .type "tuple_iterator", data := .fields #[.ref l, .int 0 0] }).objs.size = s.heap.objs.size + 1 := Heap.size_push ..
  show _ ∧ _
  rw [hz]
  have he : IsEnum ((s.heap.push { cls := .type "tuple_iterator", data := .fields #[.ref l, .int 0 0] }).push
      { cls := .type "enumerate", data := .fields #[.none, .bool false, .ref s.heap.objs.size, rawInt 0, .none, .none] }) (s.heap.objs.size + 1) s.heap.objs.size 0 .none := by
    have := Heap.get?_push_size (s.heap.push { cls := .type "tuple_iterator", data := .fields #[.ref l, .int 0 0] })
      (o := { cls := .type "enumerate", data := .fields #[.none, .bool false, .ref s.heap.objs.size, rawInt 0, .none, .none] }) rfl
    rw [hz] at this; exact this
  refine ⟨⟨_, he, rfl⟩, h _ he ⟨_, Heap.get?_push_of_some _ (Heap.get?_push_size _ rfl), rfl, rfl⟩ (by rw [Heap.size_push, hz]) fun b o x => Heap.get?_push_of_some _ (Heap.get?_push_of_some _ x)⟩
end
end PySem
namespace Z
open PySem PySem.Spec PyProof.Rows L2
/-- the tuple at a, each item in a new pair -/
def Itet (K : PySem.W.Frag) (a : Addr) : It :=
  ⟨fun i H => ∃ (xs : List V) (x : V), SqT K H a xs ∧ xs[i]? = some x, fun i H v H' => ∃ T x, v = .ref T ∧ H T = none ∧ H' = upd H T (.tup [.int (i : Nat), x]) ∧ ∀ xs, SqT K H a xs → xs[i]? = some x, fun i H => ∃ xs : List V, SqT K H a xs ∧ xs.length = i⟩
theorem turn_enumT {P : Program} {w : World} {K : PySem.W.Frag} {elts : List Expr} {kk : Nat} {tpos : Pos} (a e it : Addr) (hai : a ≠ it) (hae : a ≠ e) :
    Turn P w K (.Tuple elts kk tpos) (Itet K a) [e, it] e (fun i h => (∃ old, IsEnum h e it ((i : Nat) : Int) old) ∧ h.IsTupleIter it a i ∧ e ≠ it) where
  mem := by simp
  obj := fun i h st b hb => by
    obtain ⟨⟨old, he⟩, ⟨o, ho, hc, hd⟩, _⟩ := st
    have e' : b = e ∨ b = it := by simpa using hb
    rcases e' with z | z
    · rw [z]; exact ⟨_, he, fun v q => nomatch q⟩
    · rw [z]; exact ⟨o, ho, fun v q => by rw [hd] at q; cases q⟩
  keep := fun i h h' st k => let ⟨⟨old, he⟩, hi, hne⟩ := st; ⟨⟨old, k e (by simp) _ he⟩, hi.at fun o q => k it (by simp) o q, hne⟩
  item := by
    intro X hP hw hK hc i pins s σ H E I hf st hg
    subst hP hw hK
    obtain ⟨⟨old, he⟩, hit, hne⟩ := st
    obtain ⟨xs, x, hq, hx⟩ := hg
    obtain ⟨its, rv, p, hz⟩ := I.tuple hq
    have hp : s.heap.IsTuple a its.toArray := p
    obtain ⟨u, hu, ru⟩ := rv.get hx
    have hel : e < s.heap.objs.size := Heap.lt_size he
    have hil : it < s.heap.objs.size := by obtain ⟨_, q, _⟩ := hit; exact Heap.lt_size q
    have hl : i < its.toArray.size := by
      have := (List.getElem?_eq_some_iff.mp hu).1
      simpa using this
    refine wpAny_pyNext_enum_itemD (Draws.tuple (prog := X.prog) (w := X.w) (A := X.A.in1) (I.ok.hd hc) it a hai its.toArray) he ⟨hit, hp⟩ hl hne (by simp [hne, Ne.symm hae]) fun x' h' tk hx' ho hit' hT hsz hk => ?_
    obtain rfl : x' = u := by
      have e1 : its.toArray[i]? = some u := by simpa using hu
      rw [e1] at hx'
      exact (Option.some.inj hx').symm
    refine ⟨_, rfl, wpAny_letOwnedTupleGo_enum (s := { s with heap := h', toks := tk + 1 }) ho fun h'' he' sb => ?_⟩
    have hT2 : h''.get? s.heap.objs.size = some { cls := .type "tuple", data := .seq #[.int i tk, x'] } := (sb.2 _ (Nat.ne_of_gt hel)).trans hT
    have new : ObjOk X.prog X.w (upd H s.heap.objs.size (.tup [.int (i : Nat), x])) h'' s.heap.objs.size (.tup [.int (i : Nat), x]) :=
      ⟨by show 2 ≤ sizeLine; decide, [.int i tk, x'], .cons ⟨_, rfl⟩ (.cons ru .nil), ⟨_, hT2, rfl, _, rfl⟩⟩
    have I1 : Inv X pins σ (upd H s.heap.objs.size (.tup [.int (i : Nat), x])) { s with heap := h'', toks := tk + 1 } :=
      I.turnedNew (ch := [e, it]) (fun b ob hb q => (sb.2 b (fun z => hb (by simp [z]))).trans (hk b ob (fun z => hb (by simp [z])) (fun z => hb (by simp [z])) q)) hf (Nat.le_refl _) new
    refine ⟨.ref s.heap.objs.size, _, I1, rfl, ⟨_, x, rfl, I.hok.fresh (Nat.le_refl _), rfl, fun ys hy => by rw [I.tuple_inj hy hq]; exact hx⟩, ⟨⟨x', ?_⟩, hit'.1.at fun o q => (sb.2 it (Ne.symm hne)).trans q, hne⟩, fun b hb => ?_⟩
    · have e1 : ((i + 1 : Nat) : Int) = (i : Int) + 1 := by omega
      rw [e1]; exact he'
    · have hb' : b < s.heap.objs.size := by
        have e' : b = e ∨ b = it := by simpa using hb
        rcases e' with z | z
        · rw [z]; exact hel
        · rw [z]; exact hil
      rw [upd_ne (Nat.ne_of_lt hb')]
      exact (hf b hb).1
  done := by
    intro X hP hw hK hc i pins s σ H E I hf st hg
    subst hP hw hK
    obtain ⟨⟨old, he⟩, hit, hne⟩ := st
    obtain ⟨xs, hq, hx⟩ := hg
    obtain ⟨its, rv, p, hz⟩ := I.tuple hq
    have hp : s.heap.IsTuple a its.toArray := p
    obtain ⟨f0, f1, f2, f3, f4, f5⟩ := hf it (by simp)
    have hl := rv.length
    have e1 : its.toArray.size = i := by simp; omega
    have hst : s.heap.IsTupleIter it a its.toArray.size ∧ s.heap.IsTuple a its.toArray := ⟨by rw [e1]; exact hit, hp⟩
    exact wpAny_pyNext_enum_endD (Draws.tuple (prog := X.prog) (w := X.w) (A := X.A.in1) (I.ok.hd hc) it a hai its.toArray) he hst fun h' eb => ⟨rfl, I.turned (t' := s.toks) (fun b o hb q => eb b o hb q) f0 f1 f3 f4 f5⟩
  self := fun A i s Q E st h => let ⟨⟨_, he⟩, _⟩ := st; wpAny_pyIter_enum he h
def iEnumT (K : PySem.W.Frag) (ta : TA) : TI := fun σ H R => ta σ H fun vs H1 => ∃ a xs, vs = [.ref a] ∧ SqT K H1 a xs ∧ R (Itet K a) H1
theorem pi_enumT {X : Cx} {e : Expr} {ta : TA} {p pos tpos : Pos} {elts : List Expr} {kk : Nat} (hg : Gl X "enumerate") (hm : X.mg "enumerate" = none) (ha : PA X [e] ta) (hs : starEach [e] X.env = [(false, eval e X.env)] := by rfl) :
    PI X (.Tuple elts kk tpos) (.Call (.Name "enumerate" p) [e] [] pos) (iEnumT X.K ta) := by
  refine ⟨fun pins s σ H R I h => ?_⟩
  refine Call_ (ld_blt I hg hm boot_enumerate (PyProof.Rows.callWith_type1 (thn (ha.run pos pins s σ H _ I h) fun us s1 ⟨vs, H1, I1, r1, q1⟩ => ?_) hs rfl))
  obtain ⟨a, xs, ex, hq, q⟩ := q1
  subst ex
  cases r1 with
  | cons r rr =>
    cases rr
    cases r
    obtain ⟨its, rv, p', hz⟩ := I1.tuple hq
    have hal : a < s1.heap.objs.size := p'.lt
    refine call_enumerate_tup (show s1.heap.IsTuple a its.toArray from p') fun h' he hit hsz hk => wpAny_pyIter_enum he ?_
    have I2 : Inv X pins σ H1 { s1 with heap := h' } := I1.kept (t' := s1.toks) hk
    refine ⟨s1.heap.objs.size + 1, [s1.heap.objs.size + 1, s1.heap.objs.size], _, _, H1, rfl, I2, turn_enumT a (s1.heap.objs.size + 1) s1.heap.objs.size (Nat.ne_of_lt hal) (Nat.ne_of_lt (Nat.lt_succ_of_lt hal)), ⟨⟨.none, he⟩, hit, Nat.succ_ne_self _⟩, fun b hb => ?_, q⟩
    have e' : b = s1.heap.objs.size + 1 ∨ b = s1.heap.objs.size := by simpa using hb
    have hle : s1.heap.objs.size ≤ b := by
      rcases e' with z | z
      · rw [z]; exact Nat.le_add_right _ _
      · rw [z]; exact Nat.le_refl _
    exact I1.fpOk hle (I1.hok.fresh hle)
theorem walk_enumT {K : PySem.W.Frag} {a : Addr} {xs : List V} : Walk (Itet K a) xs.length (fun H => SqT K H a xs) (YPair (fun i => some (.int (i : Nat))) (fun i => xs[i]?)) := by
  refine ⟨fun i _ hi q => ⟨xs, xs[i], q, by simp [hi]⟩, fun _ q => ⟨xs, q, rfl⟩, fun i H v H' _ q y => ?_⟩
  obtain ⟨T, x, h1, h2, h3, h4⟩ := y
  exact ⟨T, .int (i : Nat), x, h1, h2, h3, rfl, h4 xs q⟩
section
variable {X : Cx} {e : Expr} {σ : L2.St} {H : Hp} {p pos : Pos}
theorem wi_enumT {R : It → Hp → Prop} {elts : List Expr} {kk : Nat} {tpos : Pos} (n : Bn X "enumerate") (hs : starEach [e] X.env = [(false, eval e X.env)]) (h : WE X e σ H fun x H1 => ∃ (a : Addr) (xs : List V), x = .ref a ∧ SqT X.K H1 a xs ∧ R (Itet X.K a) H1) :
    WI X (.Tuple elts kk tpos) (.Call (.Name "enumerate" p) [e] [] pos) σ H R := by
  refine wi_of (pi_enumT n.gl n.mg (pa_cons (pe_w e) pa_nil hs) hs) (h.mono ?_)
  rintro x H1 ⟨a, xs, rfl, hx, q⟩
  exact ⟨a, xs, rfl, hx, q⟩
end
end Z

end
/-! exceptions, try, isinstance -/
namespace Z
open PySem PySem.Spec PyProof.Rows L2
/-! ### a try's body, an except's suite: the same names -/
section
variable {X : Cx} {x : Str} {i k : Nat} {C : Addr} {sp : Sp} {pn : List (Addr × Obj)} {xe : Value → Shared → Prop} {a : Addr}
instance [h : Lcc X x i] : Lcc (X.tr pn xe) x i := ⟨⟨⟨h.lc.at_, h.lc.vis, h.lc.dbg, h.lc.cdi⟩, h.lc.nd, h.lc.loc, h.lc.fn⟩⟩
instance [h : Gnc X x] : Gnc (X.tr pn xe) x := ⟨⟨h.gn.gl, h.gn.dbg⟩⟩
instance [h : Bnc X x] : Bnc (X.tr pn xe) x := ⟨⟨⟨h.bn.gl, h.bn.dbg⟩, h.bn.mg, h.bn.nn⟩⟩
instance [h : Rm X k] : Rm (X.tr pn xe) k := ⟨h.room⟩
instance [h : Fn X x k sp] : Fn (X.tr pn xe) x k sp := ⟨h.cal, ⟨h.gn.gl, h.gn.dbg⟩⟩
instance [h : Mtf X x k C sp] : Mtf (X.tr pn xe) x k C sp := ⟨h.met⟩
instance [h : Mkf X x k C sp] : Mkf (X.tr pn xe) x k C sp := ⟨h.mak, ⟨h.gn.gl, h.gn.dbg⟩⟩
instance [h : Fr X] : Fr (X.tr pn xe) := ⟨h.stk, h.frm⟩
instance [h : Lcc X x i] : Lcc (X.suite a pn) x i := ⟨⟨⟨h.lc.at_, h.lc.vis, h.lc.dbg, h.lc.cdi⟩, h.lc.nd, h.lc.loc, h.lc.fn⟩⟩
instance [h : Gnc X x] : Gnc (X.suite a pn) x := ⟨⟨h.gn.gl, h.gn.dbg⟩⟩
instance [h : Bnc X x] : Bnc (X.suite a pn) x := ⟨⟨⟨h.bn.gl, h.bn.dbg⟩, h.bn.mg, h.bn.nn⟩⟩
instance : Tk (X.suite a pn) (fun _ _ _ _ => False) := ⟨takes_no⟩
end
/-! ### raise C(): an own class without own __init__ -/
/-- what the head tells of such a class -/
structure XcC (K : PySem.W.Frag) (C : Addr) : Prop where
  q : PySem.W.excIn K C He.veBase "ValueError.__new__" = true
  kC : PySem.W.keepIn K (.ref C) = true
  sub : PySem.W.subIn K (.ref C) (.type "BaseException") = some true
  ty : PySem.W.typeIn K (.ref C) = some (.type "type")
class Xc (X : Cx) (x : Str) (C : outParam Addr) : Prop where
  gn : Gn X x
  gC : X.mg x = some (.ref C)
  c : XcC X.K C
instance {X : Cx} {x : Str} {C : Addr} {pn : List (Addr × Obj)} {xe : Value → Shared → Prop} [h : Xc X x C] : Xc (X.tr pn xe) x C := ⟨⟨h.gn.gl, h.gn.dbg⟩, h.gC, h.c⟩
theorem pmk_own0 {X : Cx} {x : Str} {C : Addr} {p pos : Pos} (h : Xc X x C) : L2N.PMk X (.Call (.Name x p) [] [] pos) (fun _ H Q => Q (.ref C) none H) := by
  intro pins s σ H Q I q
  refine wpAny_Call_Name_kw (ld_glob I h.gn.gl h.gC ?_ h.gn.dbg)
  refine PySem.W.callWith_K0 I.kIn h.c.kC ?_
  obtain ⟨bm, N, nm, qn, bs, hdct, sn, sub, ab, col, dd, k0, k1, k2, k3, k5, mN, hC, hN, hni, T⟩ := exc_obj I.kIn h.c.q
  refine wpAny_call_exc_subT (rest := []) PySem.F.excBase_ValueError T hC hN hni (fun h' e hm => ?_) (Nat.zero_le _)
  exact L2N.mk_of I hm (raises_own h.c.sub h.c.ty) q (I.hok.gone hm.new)
section
variable {X : Cx} {σ : L2.St} {H : Hp} {nx bk ct : L2.St → Hp → Prop} {rt : VK} {x : Str} {C : Addr} {W : WX} {p pos pos2 : Pos} {e : Expr}
instance [h : Xc X x C] [c : Hc X] [t : Tk X W] : Stp (WS X (.Raise (some (.Call (.Name x p) [] [] pos)) none pos2) nx rt bk ct σ H) (W (.ref C) none σ H) := ⟨fun q => ws_of (L2N.ps_raise c.calm t.tk (pmk_own0 h)) q⟩
end
/-! ### raise C(e): an own class, its __init__ lays one field -/
/-- self.f = v on an exception that is being made -/
def sp_exinit (f : Str) (C : Addr) : Sp := fun vs H Q _ => vs.length = 2 ∧ ∃ a v, vs = [.ref a, v] ∧ H a = some (exo a C none) ∧ ∀ dx, H dx = none → dx ≠ a → Q .non (upd (upd H dx (exd dx [(f, v)])) a (exo a C (some dx)))
theorem exinit_body {X : Cx} {f : Str} {C : Addr} {p1 p2 p3 p4 : Pos} {vs : List V} {H : Hp} {Q : VK} {E : XK} {bk ct : L2.St → Hp → Prop} (n0 : Lcc X "self" 0) (n1 : Lcc X f 1) (c : OexC X.K C ∧ PySem.W.findIn X.K (.ref C) f = some none) (q : sp_exinit f C vs H Q E) :
    WB X [.Assign [.Attribute (.Name "self" p1) f p2] (.Name f p3) p4] (fun _ H' => Q .non H') Q bk ct (start ["self", f] vs) H := by
  obtain ⟨_, a, v, rfl, ha, q⟩ := q
  refine b_cons (ws_of (ps_ost (pe_w _) (pe_w _)) ?_)
  refine w_name n1.lc.toNm (v := v) rfl (w_name n0.lc.toNm (v := .ref a) rfl ⟨a, C, rfl, c.1, c.2, .inl ⟨ha, fun dx hd ne => b_nil (q dx hd ne)⟩⟩)
abbrev XfO (K : PySem.W.Frag) (C : Addr) (f : Str) : Prop := OexC K C ∧ PySem.W.findIn K (.ref C) f = some none
class Xf (X : Cx) (x : Str) (C : outParam Addr) (f : outParam Str) (k : outParam Nat) : Prop where
  gn : Gn X x
  gC : X.mg x = some (.ref C)
  c : XfO X.K C f
  ini : ∃ fI fd, PySem.W.findIn X.K (.ref C) "__init__" = some (some (.ref fI)) ∧ PySem.W.typeIn X.K (.ref fI) = some (.type "function") ∧ Binds X.K fd ["self", f] [] ∧ FnOk X.prog X.w X.K X.mg X.base (L2N.CX X.prog X.w) k fI fd ["self", f] (sp_exinit f C)
instance {X : Cx} {x f : Str} {C : Addr} {k : Nat} {pn : List (Addr × Obj)} {xe : Value → Shared → Prop} [h : Xf X x C f k] : Xf (X.tr pn xe) x C f k := ⟨⟨h.gn.gl, h.gn.dbg⟩, h.gC, h.c, h.ini⟩
/-- the exception's dict is new -/
def NewX (H : Hp) (f : Str) (v : V) (R : Addr → Hp → Prop) : Prop := ∀ d H2, H d = none → Same H H2 → H2 d = some (.xd [(f, v)]) → R d H2
theorem pmk_f {X : Cx} {x f : Str} {C : Addr} {k m : Nat} {e : Expr} {p pos : Pos} (h : Xf X x C f k) (r : Room m X.A) (hk : k + 1 ≤ m) (he : starEach [e] X.env = (false, eval e X.env) :: starEach [] X.env) (hpl : (backTo pos (starEach [] X.env)).any (·.1) = false) :
    L2N.PMk X (.Call (.Name x p) [e] [] pos) (fun σ H Q => WE X e σ H fun v H1 => NewX H1 f v fun d H2 => Q (.ref C) (some d) H2) := by
  intro pins s σ H Q I hh
  obtain ⟨nm, q, N, bs, bm, sn, sub, ab, col, dd, k0, k1, k2, k3, k5, hC, hbm⟩ := h.c.1.cls
  obtain ⟨fI, fd, iC, tI, hb, F1⟩ := h.ini
  have hr : Room (k + 1) X.A := r.mono hk
  refine wpAny_Call_Name_kw (ld_glob I h.gn.gl h.gC ?_ h.gn.dbg)
  refine PySem.W.callWith_K (h₀ := X.base) I.ok.mod.kin h.c.1.kC (thn ((pa_cons (pe_w e) pa_nil he).run pos pins s σ H (fun vs H1 => ∃ v, vs = [v] ∧ NewX H1 f v fun d H2 => Q (.ref C) (some d) H2) I
    (hh.mono fun v H1 q1 => ⟨v, rfl, q1⟩)) fun us s1 ⟨vs, H1, I1, r1, v, ev, q1⟩ => ⟨I1.kIn, ?_⟩) he hpl
  subst ev
  show wpAny _ _ (call (.ref C) us) _ _ _
  obtain ⟨hp, g, dr, tk, os⟩ := s1
  have hsz : hp.objs.size ≤ hp.objs.size + 1 := Nat.le_succ _
  have hn : H1 (hp.objs.size + 1) = none := I1.hok.fresh hsz
  have kk : ∀ b o, hp.get? b = some o → ((hp.push (PySem.W.kdv_tup us)).push (PySem.HandSPX.excO C hp.objs.size)).get? b = some o := fun b o e => Heap.get?_push_of_some _ (Heap.get?_push_of_some _ e)
  have hget : ((hp.push (PySem.W.kdv_tup us)).push (PySem.HandSPX.excO C hp.objs.size)).get? (hp.objs.size + 1) = some (PySem.HandSPX.excO C hp.objs.size) := by heap_get
  have I2 : Inv X pins σ (upd H1 (hp.objs.size + 1) (exo (hp.objs.size + 1) C none)) ⟨(hp.push (PySem.W.kdv_tup us)).push (PySem.HandSPX.excO C hp.objs.size), g, dr, tk, os⟩ :=
    I1.laid (t' := tk) (a := hp.objs.size + 1) (o := exo (hp.objs.size + 1) C none) (h' := (hp.push (PySem.W.kdv_tup us)).push (PySem.HandSPX.excO C hp.objs.size)) kk hsz (exo_ok hget)
  have r2 : Vals [V.ref (hp.objs.size + 1), v] (Value.ref (hp.objs.size + 1) :: us) := .cons rfl r1
  have hl : (Value.ref (hp.objs.size + 1) :: us).length = (["self", f] : List Str).length := r2.length.symm
  have hus : us.length ≤ sizeLine := by
    rw [← Paired.length r1, sizeLine_eq]
    exact (by decide : 1 ≤ 16777216)
  have bb := hb _ (Value.ref (hp.objs.size + 1) :: us) I2.kIn (by rw [List.append_nil]; exact hl)
  rw [List.append_nil] at bb
  refine wpAny_call (PySem.HandSPX.call_own PySem.F.excBase_ValueError (fun Y => PySem.HandSPX.refsVE_contains Y bm hbm) (I1.kIn _ _ hC) (PySem.W.looks_findIn I1.kIn iC) (fun self => PySem.W.bind_fn I1.kIn self tI) hus
    (codeAny_mono (F1.run _ X.stack _ _ ⟨Value.ref (hp.objs.size + 1) :: us, []⟩ (Value.ref (hp.objs.size + 1) :: us) _ (fun w H2 => w = .non ∧ ∃ d : Addr, H2 (hp.objs.size + 1) = some (exo (hp.objs.size + 1) C (some d)) ∧ H2 d = some (exd d [(f, v)]) ∧ H1 d = none ∧ Q (.ref C) (some d) (upd (del H2 (hp.objs.size + 1)) d (.xd [(f, v)])))
      (fun _ _ _ => False) (hr.make C us []) (I2.env0.make C us []) bb r2 ⟨rfl, hp.objs.size + 1, v, rfl, upd_same, fun dx hdx ne => ?_⟩) fun r s' hq' => ?_))
  · have hd1 : H1 dx = none := by rw [upd_ne ne] at hdx; exact hdx
    refine ⟨rfl, dx, upd_same, by rw [upd_ne ne]; exact upd_same, hd1, q1 dx _ hd1 (fun b o e => ?_) upd_same⟩
    have nb : b ≠ hp.objs.size + 1 := ne_of_none e hn
    have nd : b ≠ dx := ne_of_none e hd1
    rw [upd_ne nd, del_ne nb, upd_ne nb, upd_ne nd, upd_ne nb]
    exact e
  · cases r with
    | error er =>
      obtain ⟨_, _, _, _, _, _, _, _, _, _, _, _, z⟩ := hq'
      exact z.elim
    | ok fl =>
      cases fl with
      | ret u =>
        obtain ⟨w', H2, os2, bare2, un2, hok2, rv, ev, d, ea, ed, hd1, q2⟩ := hq'
        subst ev
        obtain ⟨h2, g2, d2, t2, os'⟩ := s'
        obtain ⟨t0, G, J, kG, ge, hoe, na⟩ := mk_end0 (d2 := d2) (t2 := t2) I1 hsz kk un2 hok2 os2 bare2 ea ed hd1
        exact ⟨rv, ⟨hp.objs.size + 1, _, _, ⟨G, g2, d2, t2, os'⟩, _, .ref C, some d, rfl, J, kG, ge, hoe, ⟨rfl, rfl, fun vs e => by cases e; rfl⟩, rfl, rfl, na, rfl, bare2, raises_own h.c.1.exC h.c.1.tyC, q2⟩⟩
      | next => exact False.elim hq'
      | brk => exact False.elim hq'
      | cont => exact False.elim hq'
section
variable {X : Cx} {σ : L2.St} {H : Hp} {nx bk ct : L2.St → Hp → Prop} {rt : VK} {x f : Str} {C : Addr} {W : WX} {p pos pos2 : Pos} {e : Expr} {k m : Nat}
instance [h : Xf X x C f k] [c : Hc X] [t : Tk X W] [r : Rm X m] : Stp (WS X (.Raise (some (.Call (.Name x p) [e] [] pos)) none pos2) nx rt bk ct σ H) (LeN (k + 1) m (Sd (starEach [e] X.env = (false, eval e X.env) :: starEach [] X.env ∧ (backTo pos (starEach [] X.env)).any (·.1) = false)
    (WE X e σ H fun v H1 => NewX H1 f v fun d H2 => W (.ref C) (some d) σ H2))) := ⟨fun ⟨h1, h2, q⟩ => ws_of (L2N.ps_raise c.calm t.tk (pmk_f h r.room h1 h2.1 h2.2)) q⟩
end
/-! ### try -/
/-- what the clauses wish of an exception of the body -/
def WH (X : Cx) (nx : L2.St → Hp → Prop) (rt : VK) (bk ct : L2.St → Hp → Prop) (Wout : WX) : List ExceptHandler → WX
  | [] => Wout
  | .ExceptHandler (some (.Name x _)) none (b₀ :: suite) _ :: r => fun cls d σ H => ∃ c b, Names X x c ∧ PySem.W.exmOne X.K cls c = some b ∧
      (b = true → ∀ a oe pn, L2N.Zn cls d oe → (∃ vs, oe.data = .fields vs) → H a = none → WB (X.suite a ((a, oe) :: pn)) (b₀ :: suite) nx rt bk ct σ H) ∧ (b = false → WH X nx rt bk ct Wout r cls d σ H)
  | .ExceptHandler (some (.Name x _)) (some n) (b₀ :: suite) _ :: r => fun cls d σ H => ∃ c b i, Names X x c ∧ PySem.W.exmOne X.K cls c = some b ∧ X.N.Nodup ∧ X.N[i]? = some n ∧ X.env.kindOf n = some .local ∧
      (b = true → ∀ a oe pn, L2N.Zn cls d oe → (∃ vs, oe.data = .fields vs) → H a = none → WB (X.suite a ((a, oe) :: pn)) (b₀ :: suite) (fun σ' H' => nx (σ'.set i none) H') rt (fun σ' H' => bk (σ'.set i none) H') (fun σ' H' => ct (σ'.set i none) H') (σ.set i (some (.ref a))) H) ∧
      (b = false → WH X nx rt bk ct Wout r cls d σ H)
  | _ => fun _ _ _ _ => False
section
variable {X : Cx} {σ : L2.St} {H : Hp} {nx bk ct : L2.St → Hp → Prop} {rt : VK} {body : List Stmt} {h₀ : ExceptHandler} {hds : List ExceptHandler} {pos : Pos} {Wout : WX}
theorem s_try (fr : Fr X) (tk : L2N.Takes X Wout) (hb : ∀ pn xe, L2N.Takes (X.tr pn xe) (WH X nx rt bk ct Wout (h₀ :: hds)) → PassesOwn (model X.prog X.w) X.A X.env xe → WB (X.tr pn xe) body nx rt bk ct σ H) :
    WS X (.Try body (h₀ :: hds) [] [] pos) nx rt bk ct σ H := by
  refine ⟨fun pins s I => ?_⟩
  have hs := fr.stk
  have hf := fr.frm
  have ok := I.ok
  have hfr : X.A.frames = some (X.env :: X.outer) := by rw [ok.frames, hs]
  refine wpAny_Try_except ?_
  refine wpAny_mono ((hb (X.pn ++ pins) (fun e s₁ => wpAny (model X.prog X.w) X.A (noteFrame e X.env) (fun _ s₂ => wpAny (model X.prog X.w) X.A (setFlight e none) (fun _ s₃ =>
    wpAny (model X.prog X.w) X.A (handleBy e X.env (h₀ :: hds)) (SP X pins ⟨nx, rt, bk, ct⟩) X.xe s₃) X.xe s₂) X.xe s₁) (fun u s' xx => ?_) PassesOwn.looking).run [] s (I.toTry _)) (fun f s1 hsp => ?_) (fun e s1 he => he)
  · -- the catch
    obtain ⟨a, B, sI, pins', σ', H', cls, d, rfl, J', nb, up, sky, na, os, ag, w⟩ := xx
    have J : Inv X pins σ' H' sI := J'.ofTry ok
    have sky' : Sky B (X.env :: X.outer) a (L2N.Zn cls d) X.env.locals s'.heap := by rw [← hs]; exact sky
    show wpAny (model X.prog X.w) X.A (noteFrame (.ref a) X.env) _ _ _
    refine L2N.Sky.land L2N.Zn.steady hfr hf sky' fun h3 fl3 up3 => ?_
    have J3 : Inv X pins σ' H' { s' with heap := h3 } := J.landed nb fl3.1 (up.trans up3) os ag
    obtain ⟨oe3, vs3, he3, hz3, hd3⟩ := fl3.there
    have notFr : ∀ {h : Heap} {o : Obj} {vs : Array Value}, h.FunFrames B (X.env :: X.outer) → h.get? a = some o → o.data = .fields vs → a ∉ frs (X.env :: X.outer) := fun {h o vs} ff e dd hm => by
      obtain ⟨_, o', e', hnf⟩ := ff.mem hm
      rw [e] at e'; cases e'
      exact hnf _ dd
    have nfr := notFr fl3.2.2.1 he3 hd3
    have nL : a ≠ X.env.locals := fun z => nfr (List.mem_filterMap.mpr ⟨X.env, List.mem_cons_self, by rw [hf, z]⟩)
    have nF : a ∉ X.fs := fun hm => by
      obtain ⟨e, he, q⟩ := List.mem_filterMap.mp hm
      exact nfr (List.mem_filterMap.mpr ⟨e, List.mem_cons_of_mem _ he, q⟩)
    have S3 := J3.suite he3 hd3 na nL nF
    have LT : PySem.W.Looks (model X.prog X.w) h3 (typeOf (.ref a)) cls := fun A Q E s k q => wpAny_typeOf_ref (k _ _ he3) (by rw [hz3.1]; exact q)
    have test : ∀ {x : Str} {np : Pos} {c : Value} {Q : Value → Shared → Prop} {E : Value → Shared → Prop}, Names X x c → Q c { s' with heap := h3 } → wpAny (model X.prog X.w) (X.A.mark (some (.ref a))) (eval (.Name x np) X.env) Q E { s' with heap := h3 } := fun {x np c Q E} hc q => by
      obtain ⟨hg, hdbg, hm | ⟨hm, hv, hnn⟩⟩ := hc
      · exact ld_glob (X := X.suite a ((a, oe3) :: (X.pn ++ pins))) S3 hg hm q hdbg
      · exact ld_blt (X := X.suite a ((a, oe3) :: (X.pn ++ pins))) S3 hg hm hv q hnn hdbg
    have go : ∀ hds' : List ExceptHandler, WH X nx rt bk ct Wout hds' cls d σ' H' → wpAny (model X.prog X.w) X.A (handleBy (.ref a) X.env hds') (SP X pins ⟨nx, rt, bk, ct⟩) X.xe { s' with heap := h3 } := by
      intro hds'
      induction hds' with
      | nil =>
        intro w
        refine wpAny_handleBy_nil ?_
        obtain ⟨k1, k2, k3, oe, vs, T, oT, ts', he, hz, hd, h1, hr⟩ := id fl3
        unfold PySem.passOn
        refine wpAny_bind (wpAny_field he hd h1 ?_)
        rw [if_neg (show ¬ ((Value.ref T == Value.none) = true) from by simp)]
        have fin : wpAny (model X.prog X.w) X.A (setFlight (.ref a) X.env.frame) (fun _ s4 => wpAny (model X.prog X.w) X.A (throw (.ref a) : Sem Flow) (SP X pins ⟨nx, rt, bk, ct⟩) X.xe s4) X.xe { s' with heap := h3 } := by
          rw [hf]
          refine HandSPX.setFlight_upZ fl3 fun h4 hh4 up4 => wpAny_throw (tk _ _ ?_)
          exact ⟨a, B, sI, pins, σ', H', cls, d, rfl, J, nb, (up.trans up3).trans up4, .inr (.inr (by rw [hs]; exact hh4)), na, os, ag, w⟩
        first
          | exact wpAny_bind (wpAny_pure (wpAny_bind fin))
          | exact wpAny_bind fin
      | cons hd r ih =>
        intro w
        match hd, w with
        | .ExceptHandler (some (.Name x np)) none (b₀ :: suite) pos', w =>
          obtain ⟨c, b, hc, hb1, hyes, hno⟩ := w
          have LM := PySem.W.exm_one (M := model X.prog X.w) (J3.kIn) LT hb1
          refine wpAny_handleBy_cons (codeAny_handlers_test ?_) (by intro q; cases q)
          refine test hc (LM.here ?_)
          cases b with
          | true =>
            refine codeAny_handlers_suite ?_
            refine HandSPX.lands_againZ fl3 fun h4 fl4 up4 => ?_
            have J4 : Inv X pins σ' H' { s' with heap := h4 } := J.landed nb fl4.1 ((up.trans up3).trans up4) os ag
            obtain ⟨oe4, vs4, he4, hz4, hd4⟩ := fl4.there
            have S4 := J4.suite he4 hd4 na nL nF
            refine wpAny_mono ((hyes rfl a oe4 (X.pn ++ pins) hz4 ⟨_, hd4⟩ na).run [] _ S4) (fun f s6 hsp => ?_) (fun _ _ z => False.elim z)
            cases f with
            | next =>
              obtain ⟨σ6, H6, S6, q6⟩ := hsp
              exact ⟨_, _, S6.unsuite ok, q6⟩
            | brk =>
              obtain ⟨σ6, H6, S6, q6⟩ := hsp
              exact ⟨_, _, S6.unsuite ok, q6⟩
            | cont =>
              obtain ⟨σ6, H6, S6, q6⟩ := hsp
              exact ⟨_, _, S6.unsuite ok, q6⟩
            | ret u =>
              obtain ⟨v6, σ6, H6, S6, r6, q6⟩ := hsp
              exact ⟨_, _, _, S6.unsuite ok, r6, q6⟩
          | false =>
            show wpAny _ X.A (handleBy (.ref a) X.env r) _ _ _
            exact ih (hno rfl)
        | .ExceptHandler (some (.Name x np)) (some n) (b₀ :: suite) pos', w =>
          obtain ⟨c, b, i, hc, hb1, hN, hi, hln, hyes, hno⟩ := w
          have hloc : Loc X.env.scope n := .inl hln
          have LM := PySem.W.exm_one (M := model X.prog X.w) (J3.kIn) LT hb1
          refine wpAny_handleBy_cons (codeAny_handlers_test ?_) (by intro q; cases q)
          refine test hc (LM.here ?_)
          cases b with
          | true =>
            refine codeAny_handlers_suite_as ?_
            refine HandSPX.lands_againZ fl3 fun h4 fl4 up4 => ?_
            have J4 : Inv X pins σ' H' { s' with heap := h4 } := J.landed nb fl4.1 ((up.trans up3).trans up4) os ag
            obtain ⟨oe4, vs4, he4, hz4, hd4⟩ := fl4.there
            have S4 := J4.suite he4 hd4 na nL nF
            refine store_ok (X := X.suite a ((a, oe4) :: (X.pn ++ pins))) (v := .ref a) S4 hN hi hloc rfl (fun s5 S5 => ?_) (.inr hln)
            refine wpAny_mono ((hyes rfl a oe4 (X.pn ++ pins) hz4 ⟨_, hd4⟩ na).run [] s5 S5) (fun f s6 hsp => ?_) (fun _ _ z => False.elim z)
            have end_ : ∀ {σ6 : L2.St} {H6 : Hp} {Q : Shared → Prop}, Inv (X.suite a ((a, oe4) :: (X.pn ++ pins))) [] σ6 H6 s6 → (∀ s7, Inv X pins (σ6.set i none) H6 s7 → Q s7) →
                wpAny (model X.prog X.w) X.A (do bindName X.env n .none; unbindBehindTheSuite X.env n pos') (fun _ s7 => Q s7) X.xe s6 := fun {σ6 H6 Q} S6 hq => gone_ok (S6.unsuite ok) hN hi hln hq
            cases f with
            | next =>
              obtain ⟨σ6, H6, S6, q6⟩ := hsp
              exact end_ S6 fun s7 J7 => ⟨_, _, J7, q6⟩
            | brk =>
              obtain ⟨σ6, H6, S6, q6⟩ := hsp
              exact end_ S6 fun s7 J7 => ⟨_, _, J7, q6⟩
            | cont =>
              obtain ⟨σ6, H6, S6, q6⟩ := hsp
              exact end_ S6 fun s7 J7 => ⟨_, _, J7, q6⟩
            | ret u =>
              obtain ⟨v6, σ6, H6, S6, r6, q6⟩ := hsp
              exact end_ S6 fun s7 J7 => ⟨_, _, _, J7, r6, q6⟩
          | false =>
            show wpAny _ X.A (handleBy (.ref a) X.env r) _ _ _
            exact ih (hno rfl)
        | .ExceptHandler none _ _ _, w => exact w.elim
        | .ExceptHandler (some (.Name _ _)) none [] _, w => exact w.elim
        | .ExceptHandler (some (.Name _ _)) (some _) [] _, w => exact w.elim
    exact go _ w
  · cases f with
    | next =>
      obtain ⟨σ', H', J', q⟩ := hsp
      exact wpAny_execs_nil ⟨σ', H', J'.ofTry ok, q⟩
    | brk =>
      obtain ⟨σ', H', J', q⟩ := hsp
      exact ⟨σ', H', J'.ofTry ok, q⟩
    | cont =>
      obtain ⟨σ', H', J', q⟩ := hsp
      exact ⟨σ', H', J'.ofTry ok, q⟩
    | ret u =>
      obtain ⟨v, σ', H', J', r, q⟩ := hsp
      exact ⟨v, σ', H', J'.ofTry ok, r, q⟩
end
end Z

/-! isinstance, the module's constants, any values -/
namespace Z
open PySem PySem.Spec PyProof.Rows L2
/-- a built-in type by its name -/
class Tyn (t : Str) (id : outParam String) : Prop where
  bt : bootBuiltins t = some (.type id)
instance : Tyn "int" "int" := ⟨by decide +kernel⟩
instance : Tyn "bool" "bool" := ⟨by decide +kernel⟩
instance : Tyn "str" "str" := ⟨by decide +kernel⟩
instance : Tyn "tuple" "tuple" := ⟨by decide +kernel⟩
instance : Tyn "list" "list" := ⟨by decide +kernel⟩
instance : Tyn "dict" "dict" := ⟨by decide +kernel⟩
instance : Tyn "ValueError" "ValueError" := ⟨by decide +kernel⟩
/-- the module's constant -/
class Gvc (X : Cx) (x : Str) (v : outParam V) : Prop where
  gn : Gn X x
  val : ∃ u, X.mg x = some u ∧ RelV v u
/-- isinstance(x, u) -/
def IsI (K : PySem.W.Frag) (x : V) (u : Value) (H : Hp) (R : Bool → Prop) : Prop := ∃ t b, TyX K H x t ∧ PySem.W.kitOne K t u = some b ∧ R b
theorem ty_t {K : PySem.W.Frag} {H : Hp} {a : Addr} {xs : List V} (h : SqT K H a xs) : TyX K H (.ref a) (.type "tuple") := by
  rcases h with (h | ⟨o, h⟩) | ⟨o, its, n, e, c, _⟩
  · exact .base (.tup h)
  · exact .fTuple h
  · exact .kTuple e c
theorem ty_l {K : PySem.W.Frag} {H : Hp} {a : Addr} {xs : List V} (h : SqL K H a xs) : TyX K H (.ref a) (.type "list") := by
  rcases h with (h | ⟨o, h⟩) | ⟨o, its, n, e, c, _⟩
  · exact .base (.lst h)
  · exact .base (.frz h)
  · exact .kList e c
section
variable {X : Cx} {e a b c o : Expr} {es : List Expr} {σ : L2.St} {H : Hp} {Q : VK} {QB : Bool → Hp → Prop} {pos p q apos : Pos} {x t : Str} {i j : Nat} {v w : V} {id : String} {K : PySem.W.Frag} {R : Bool → Prop} {m n : Int} {C : Addr}
instance [g : Gvc X x v] : Stp (WE X (.Name x p) σ H Q) (Q v H) := ⟨fun h => by
  obtain ⟨u, hm, r⟩ := g.val
  exact w_glob g.gn hm r h⟩
/-- two arguments -/
abbrev C2 (X : Cx) (a b : Expr) (pos : Pos) : Prop := starEach [a, b] X.env = (false, eval a X.env) :: starEach [b] X.env ∧ starEach [b] X.env = (false, eval b X.env) :: starEach [] X.env ∧ (backTo pos (starEach [b] X.env)).any (·.1) = false
theorem w_b2 {id : String} {r : List V → Hp → VK → Prop} (hc : CallR X (.builtin id) r) (n : Bn X x) (hv : bootBuiltins x = some (.builtin id)) (c : C2 X a b pos) (h : WE X a σ H fun x H1 => WE X b σ H1 fun y H2 => r [x, y] H2 Q) : WE X (.Call (.Name x p) [a, b] [] pos) σ H Q :=
  w_callB hc n hv c.1 c.2.2 (a_cons c.1 (h.mono fun y H1 q => a_cons c.2.1 (q.mono fun y H1 q => a_nil q)))
instance (priority := high) [n : Bnc X "isinstance"] [g : Bnc X t] [ty : Tyn t id] : Stp (WE X (.Call (.Name "isinstance" p) [e, .Name t q] [] pos) σ H Q)
    (Sd (starEach [e, .Name t q] X.env = (false, eval e X.env) :: starEach [.Name t q] X.env ∧ starEach [.Name t q] X.env = (false, eval (.Name t q) X.env) :: starEach [] X.env ∧ (backTo pos (starEach [.Name t q] X.env)).any (·.1) = false)
      (WE X e σ H fun y H1 => IsI X.K y (.type id) H1 fun b => Q (.bl b) H1)) :=
  ⟨fun z => w_b2 call_isi n.bn (by decide +kernel) z.1 (z.2.mono fun y H1 ⟨t', b, hy, hk, q⟩ => w_bltn g.bn ty.bt (v := .ty id) rfl ⟨y, .ty id, t', .type id, b, rfl, .ty id, hy, hk, q⟩)⟩
theorem isi_of {u : Value} {b : Bool} {t : Value} (ht : TyX K H v t) (hk : PySem.W.kitOne K t u = some b) (q : R b) : IsI K v u H R := ⟨t, b, ht, hk, q⟩
class Kit (a b : String) (r : outParam Bool) : Prop where
  ok : kitB a b = some r
instance : Kit "tuple" "int" false := ⟨by decide +kernel⟩
instance : Kit "tuple" "bool" false := ⟨by decide +kernel⟩
instance : Kit "tuple" "str" false := ⟨by decide +kernel⟩
instance : Kit "tuple" "tuple" true := ⟨by decide +kernel⟩
instance : Kit "tuple" "list" false := ⟨by decide +kernel⟩
instance : Kit "list" "int" false := ⟨by decide +kernel⟩
instance : Kit "list" "bool" false := ⟨by decide +kernel⟩
instance : Kit "list" "str" false := ⟨by decide +kernel⟩
instance : Kit "list" "tuple" false := ⟨by decide +kernel⟩
instance : Kit "list" "list" true := ⟨by decide +kernel⟩
theorem isi_t {xs : List V} {a : Addr} {b : Bool} (h : SqT K H a xs) (hk : Kit "tuple" id b) (q : R b) : IsI K (.ref a) (.type id) H R := ⟨_, b, ty_t h, kit_ty hk.ok, q⟩
theorem isi_l {xs : List V} {a : Addr} {b : Bool} (h : SqL K H a xs) (hk : Kit "list" id b) (q : R b) : IsI K (.ref a) (.type id) H R := ⟨_, b, ty_l h, kit_ty hk.ok, q⟩
instance : Stp (IsI K .non (.type "int") H R) (R false) := ⟨isi_of (.base .non) (kit_ty (by decide +kernel))⟩
instance : Stp (IsI K .non (.type "bool") H R) (R false) := ⟨isi_of (.base .non) (kit_ty (by decide +kernel))⟩
instance : Stp (IsI K .non (.type "str") H R) (R false) := ⟨isi_of (.base .non) (kit_ty (by decide +kernel))⟩
instance : Stp (IsI K .non (.type "tuple") H R) (R false) := ⟨isi_of (.base .non) (kit_ty (by decide +kernel))⟩
instance {b : Bool} : Stp (IsI K (.bl b) (.type "int") H R) (R true) := ⟨isi_of (.base (.bl b)) (kit_ty (by decide +kernel))⟩
instance {b : Bool} : Stp (IsI K (.bl b) (.type "bool") H R) (R true) := ⟨isi_of (.base (.bl b)) (kit_ty (by decide +kernel))⟩
instance {b : Bool} : Stp (IsI K (.bl b) (.type "str") H R) (R false) := ⟨isi_of (.base (.bl b)) (kit_ty (by decide +kernel))⟩
instance {b : Bool} : Stp (IsI K (.bl b) (.type "tuple") H R) (R false) := ⟨isi_of (.base (.bl b)) (kit_ty (by decide +kernel))⟩
instance : Stp (IsI K (.int m) (.type "int") H R) (R true) := ⟨isi_of (.base (.int m)) (kit_ty (by decide +kernel))⟩
instance : Stp (IsI K (.int m) (.type "bool") H R) (R false) := ⟨isi_of (.base (.int m)) (kit_ty (by decide +kernel))⟩
instance : Stp (IsI K (.int m) (.type "str") H R) (R false) := ⟨isi_of (.base (.int m)) (kit_ty (by decide +kernel))⟩
instance : Stp (IsI K (.int m) (.type "tuple") H R) (R false) := ⟨isi_of (.base (.int m)) (kit_ty (by decide +kernel))⟩
instance : Stp (IsI K (.str x) (.type "int") H R) (R false) := ⟨isi_of (.base (.str x)) (kit_ty (by decide +kernel))⟩
instance : Stp (IsI K (.str x) (.type "bool") H R) (R false) := ⟨isi_of (.base (.str x)) (kit_ty (by decide +kernel))⟩
instance : Stp (IsI K (.str x) (.type "str") H R) (R true) := ⟨isi_of (.base (.str x)) (kit_ty (by decide +kernel))⟩
instance : Stp (IsI K (.str x) (.type "tuple") H R) (R false) := ⟨isi_of (.base (.str x)) (kit_ty (by decide +kernel))⟩
/-- all([..]) over bools -/
def rAll1 (K : PySem.W.Frag) (x : V) (H : Hp) (Q : VK) : Prop := rAll K [x] H Q
def rAny1 (K : PySem.W.Frag) (x : V) (H : Hp) (Q : VK) : Prop := rAny K [x] H Q
theorem all_l {a : Addr} {bs : List Bool} (h : SqL K H a (bs.map V.bl)) (q : Q (.bl (bs.all (fun z => z))) H) : rAll1 K (.ref a) H Q := ⟨a, bs, rfl, h, q⟩
theorem any_l {a : Addr} {bs : List Bool} (h : SqL K H a (bs.map V.bl)) (q : Q (.bl (bs.any (fun z => z))) H) : rAny1 K (.ref a) H Q := ⟨a, bs, rfl, h, q⟩
instance (priority := high) [h : Hc X] [n : Bnc X "all"] : Stp (WE X (.Call (.Name "all" p) [e] [] pos) σ H Q) (Sd (starEach [e] X.env = (false, eval e X.env) :: starEach [] X.env ∧ (backTo pos (starEach [] X.env)).any (·.1) = false) (WE X e σ H fun y H1 => rAll1 X.K y H1 Q)) := ⟨fun z => w_b1 (cr_all h.calm) n.bn (by decide +kernel) z.1 z.2⟩
instance (priority := high) [h : Hc X] [n : Bnc X "any"] : Stp (WE X (.Call (.Name "any" p) [e] [] pos) σ H Q) (Sd (starEach [e] X.env = (false, eval e X.env) :: starEach [] X.env ∧ (backTo pos (starEach [] X.env)).any (·.1) = false) (WE X e σ H fun y H1 => rAny1 X.K y H1 Q)) := ⟨fun z => w_b1 (cr_any h.calm) n.bn (by decide +kernel) z.1 z.2⟩
/-- in, not in: the elements at hand -/
def InS (K : PySem.W.Frag) (neg : Bool) (x y : V) (H : Hp) (R : Bool → Prop) : Prop := ∃ a xs, y = .ref a ∧ (SqL K H a xs ∨ SqT K H a xs) ∧ flatV x = true ∧ xs.all flatV = true ∧ R (if neg then !inV x xs else inV x xs)
end
theorem gvi {mg : Str → Option Value} {x : Str} {n : Int} (h : ∃ t, mg x = some (.int n t)) : ∃ u, mg x = some u ∧ RelV (.int n) u := by
  obtain ⟨t, h⟩ := h
  exact ⟨_, h, t, rfl⟩
theorem gvs {mg : Str → Option Value} {x n : Str} (h : ∃ t, mg x = some (.str n t)) : ∃ u, mg x = some u ∧ RelV (.str n) u := by
  obtain ⟨t, h⟩ := h
  exact ⟨_, h, t, rfl⟩
theorem ims_strs {K : PySem.W.Frag} {H : Hp} : ∀ {xs : List Str} {vs : List V}, ImAll K H vs (xs.map .str) → vs = xs.map .str
  | [], _, .nil => rfl
  | x :: xs, _, .cons h r => by rw [List.map_cons, h.str_inv, ims_strs r]
theorem im_strs {K : PySem.W.Frag} {H : Hp} {a : Addr} {xs : List Str} (h : Im K H (.ref a) (.tuple (xs.map .str))) : SqT K H a (xs.map .str) := by
  obtain ⟨b, vs, e, h1, h2⟩ := h.tup_inv
  cases e
  rw [← ims_strs h2]
  exact h1
/-- a tuple of the module's constants -/
class Kt (K : PySem.W.Frag) (a : Addr) (xs : outParam (List V)) : Prop where
  sq : ∀ H, SqT K H a xs
/-! ### any values: what does not change, or a list -/
inductive An (K : PySem.W.Frag) (H : Hp) : V → PyData → Prop
  | im {v : V} {d : PyData} : Im K H v d → An K H v d
  | lst {a : Addr} {xs : List V} {ds : List PyData} : SqL K H a xs → An K H (.ref a) (.list ds)
theorem An.same {K : PySem.W.Frag} {H H' : Hp} {v : V} {d : PyData} (h : An K H v d) (e : Same H H') : An K H' v d := by
  cases h with
  | im h => exact .im (h.same e)
  | lst h => exact .lst (e.seq h)
/-- the forms of any value -/
theorem An.forms {K : PySem.W.Frag} {H : Hp} {v : V} {d : PyData} (h : An K H v d) : (v = .non ∧ d = .none) ∨ (∃ b, v = .bl b ∧ d = .bool b) ∨ (∃ n, v = .int n ∧ d = .int n) ∨ (∃ x, v = .str x ∧ d = .str x) ∨
    (∃ a xs ds, v = .ref a ∧ d = .tuple ds ∧ SqT K H a xs ∧ ImAll K H xs ds) ∨ ∃ a xs ds, v = .ref a ∧ d = .list ds ∧ SqL K H a xs := by
  cases h with
  | im h =>
    cases h with
    | non => exact .inl ⟨rfl, rfl⟩
    | bl b => exact .inr (.inl ⟨b, rfl, rfl⟩)
    | int n => exact .inr (.inr (.inl ⟨n, rfl, rfl⟩))
    | str x => exact .inr (.inr (.inr (.inl ⟨x, rfl, rfl⟩)))
    | tup h r => exact .inr (.inr (.inr (.inr (.inl ⟨_, _, _, rfl, rfl, h, r⟩))))
  | lst h => exact .inr (.inr (.inr (.inr (.inr ⟨_, _, _, rfl, rfl, h⟩))))
end Z

/-! dicts, o[i] = v, while, slices -/
namespace Z
open PySem PySem.Spec PyProof.Rows L2
section
variable {X : Cx} {e a b c o : Expr} {es : List Expr} {body : List Stmt} {σ : L2.St} {H : Hp} {Q : VK} {QB : Bool → Hp → Prop} {pos p q apos : Pos} {x t : Str} {i : Expr} {v w : V} {K : PySem.W.Frag} {nx bk ct : L2.St → Hp → Prop} {rt : VK}
/-! ### o[i] = v -/
def rSetA : TSet := fun o i v H Q => rSetL o i v H Q ∨ rSetD o i v H Q
theorem set_A (hu : X.A.units + 1 < cLine) : PSet X rSetA := fun pins s σ H o i v ov iv u Q I ro ri rv h => by
  rcases h with h | h
  · exact set_list pins s σ H o i v ov iv u Q I ro ri rv h
  · exact set_dict hu pins s σ H o i v ov iv u Q I ro ri rv h
/-- .. -/
def SetI (H : Hp) (o i v : V) (R : Hp → Prop) : Prop := rSetA o i v H R
theorem set_l {l : Addr} {xs : List V} {k : Int} {j : Nat} {R : Hp → Prop} (h : H l = some (.lst xs)) (hj : ixN xs.length k = some j) (q : ∀ H2, Bt [l] H H2 → Tx H H2 → H2 l = some (.lst (xs.set j v)) → R H2) : SetI H (.ref l) (.int k) v R :=
  .inl ⟨l, xs, k, j, rfl, rfl, h, hj, q _ (.put (by simp)) (.put h trivial) upd_same⟩
theorem set_ds {l : Addr} {kvs : List (Key × V)} {k : Str} {R : Hp → Prop} (h : H l = some (.dK kvs)) (hz : kvs.length < sizeLine) (q : ∀ H2, Bt [l] H H2 → Tx H H2 → H2 l = some (.dK (putK kvs (.inr k : Key) v)) → R H2) : SetI H (.ref l) (.str k) v R :=
  .inr ⟨l, _, rfl, DPut.k (k := .inr k) h hz, q _ (.put (by simp)) (.put h trivial) upd_same⟩
theorem set_di {l : Addr} {kvs : List (Key × V)} {k : Int} {R : Hp → Prop} (h : H l = some (.dK kvs)) (hz : kvs.length < sizeLine) (q : ∀ H2, Bt [l] H H2 → Tx H H2 → H2 l = some (.dK (putK kvs (.inl k : Key) v)) → R H2) : SetI H (.ref l) (.int k) v R :=
  .inr ⟨l, _, rfl, DPut.k (k := .inl k) h hz, q _ (.put (by simp)) (.put h trivial) upd_same⟩
instance (priority := high) [h : Hc X] : Stp (WS X (.Assign [.Subscript o i p] e pos) nx rt bk ct σ H) (Sd (swapsWithSole [.Subscript o i p] e pos.line X.env = pure false) (Sd (swappedStores [.Subscript o i p] e X.env = pure none)
    (Sd ((assignEach [.Subscript o i p] X.env).map (·.2) = [assign (.Subscript o i p) X.env]) (Sd (∀ v, assign (.Subscript o i p) X.env v = (do
      let ov ← holding [v] (eval o X.env)
      let iv ← holding [v, ov] (eval i X.env)
      standAt p
      holding [v, ov, iv] (setItem ov iv v)
      release [v, ov, iv] []))
    (WE X e σ H fun y H1 => WE X o σ H1 fun x H2 => WE X i σ H2 fun j H3 => SetI H3 x j y fun H4 => nx σ H4))))) :=
  ⟨fun ⟨h1, h2, h3, h4, z⟩ => s_asg h1 h2 h3 (z.mono fun y H1 q => wg_of (pg_sub (pe_w o) (pe_w i) (set_A h.hu0) h4) q)⟩
/-! ### {} -/
instance : Stp (WE X (.Dict [] [] p) σ H Q) (NewAt H (.dK []) fun a H2 => Q (.ref a) H2) := ⟨fun q => we_of pe_dnewK (new_g q)⟩
/-! ### in a dict -/
theorem in_ks {l : Addr} {kvs : List (Key × V)} {k : Str} (h : H l = some (.dK kvs)) (q : Q (.bl (valV kvs (.inr k : Key)).isSome) H) : rInA K (.str k) (.ref l) H Q := in_k (k := .inr k) (.inl h) q
theorem in_ki {l : Addr} {kvs : List (Key × V)} {k : Int} (h : H l = some (.dK kvs)) (q : Q (.bl (valV kvs (.inl k : Key)).isSome) H) : rInA K (.int k) (.ref l) H Q := in_k (k := .inl k) (.inl h) q
/-! ### while -/
theorem s_while (hc : Hc X) (Pv : L2.St → Hp → Prop) (μ : L2.St → Hp → Nat) (h0 : Pv σ H)
    (hs : ∀ σ H, Pv σ H → WT X c σ H fun b H1 => if b = true then WB X body (fun σ' H' => Pv σ' H' ∧ μ σ' H' < μ σ H) rt nx (fun σ' H' => Pv σ' H' ∧ μ σ' H' < μ σ H) σ H1 else nx σ H1) : WS X (.While c body [] pos) nx rt bk ct σ H :=
  ws_of (ps_while hc.own (pt_w c) (pss_w body)) (while_by (c := WT X c) (tb := fun D => WB X body D.nx D.rt D.bk D.ct) (D := ⟨nx, rt, bk, ct⟩) Pv μ h0 hs fun σ H Q Q' hq z => WT.mono z hq)
/-! ### slices -/
theorem cut_whole {xs : List V} {lo hi : Option Int} (h : HT.sIx xs.length 0 lo = 0 ∧ HT.sIx xs.length xs.length hi = xs.length) : cutV xs lo hi = xs := by
  unfold cutV
  rw [h.1, h.2]
  simp
theorem sl_l {a : Addr} {xs : List V} {lo hi : Option Int} (h : SqL K H a xs) (q : NewAt H (.lst (cutV xs lo hi)) fun p H2 => Q (.ref p) H2) : rSlA2 K (.ref a) lo hi H Q := .inl ⟨a, xs, rfl, h, new_g q⟩
/-- a tuple's part: the tuple itself, or a new one -/
def SubT (K : PySem.W.Frag) (H : Hp) (xs : List V) (R : Addr → Hp → Prop) : Prop := ∀ p H2, Same H H2 → SqT K H2 p xs → R p H2
theorem sl_t {a : Addr} {xs : List V} {lo hi : Option Int} (h : SqT K H a xs) (q : SubT K H (cutV xs lo hi) fun p H2 => Q (.ref p) H2) : rSlA2 K (.ref a) lo hi H Q :=
  .inr ⟨a, xs, rfl, h, fun w => q a H (Same.refl H) (by rw [cut_whole w]; exact h), fun _ => new_g fun p H2 _ hs h2 => q p H2 hs (.inl (.inl h2))⟩
end
/-! ### fields -/
class Clc (K : PySem.W.Frag) (C : Addr) : Prop where
  cl : Cls K C
class Nac (K : PySem.W.Frag) (C : Addr) (f : Str) : Prop where
  na : NoAttr K C f
section
variable {X : Cx} {e o : Expr} {σ : L2.St} {H : Hp} {Q : VK} {pos p px : Pos} {f : Str} {v y : V} {K : PySem.W.Frag} {nx bk ct : L2.St → Hp → Prop} {rt : VK} {C a dx : Addr} {fs : List (Str × V)}
def FldG (K : PySem.W.Frag) (H : Hp) (x : V) (f : Str) (R : V → Prop) : Prop := ∃ a C dx fs v, x = .ref a ∧ H a = some (.ins C dx fs) ∧ Cls K C ∧ NoAttr K C f ∧ fs.lookup f = some v ∧ R v
theorem fld_g {R : V → Prop} (h : H a = some (.ins C dx fs)) (c : Clc K C) (n : Nac K C f) (l : fs.lookup f = some v) (q : R v) : FldG K H (.ref a) f R := ⟨a, C, dx, fs, v, rfl, h, c.cl, n.na, l, q⟩
def PutG (K : PySem.W.Frag) (H : Hp) (x : V) (f : Str) (y : V) (R : Hp → Prop) : Prop := ∃ a C dx fs, x = .ref a ∧ H a = some (.ins C dx fs) ∧ Cls K C ∧ NoAttr K C f ∧ fs.length < 1000 ∧ ChgAt H a (.ins C dx (putF f y fs)) R
theorem put_g {R : Hp → Prop} (h : H a = some (.ins C dx fs)) (c : Clc K C) (n : Nac K C f) (hz : fs.length < 1000) (q : ∀ H2, Bt [a] H H2 → Tx H H2 → H2 a = some (.ins C dx (putF f y fs)) → R H2) : PutG K H (.ref a) f y R := ⟨a, C, dx, fs, rfl, h, c.cl, n.na, hz, q⟩
instance (priority := high) : Stp (WE X (.Attribute e f p) σ H Q) (Sd (attributeBase e f X.env (eval e X.env) = eval e X.env) (WE X e σ H fun x H1 => FldG X.K H1 x f fun v => Q v H1)) := ⟨fun z => w_fld z.1 z.2⟩
instance (priority := high) : Stp (WS X (.Assign [.Attribute o f px] e pos) nx rt bk ct σ H) (Sd (swapsWith e (some (.Attribute o f px)) pos.line X.env = pure false) (WE X e σ H fun y H1 => WE X o σ H1 fun x H2 => PutG X.K H2 x f y fun H3 => nx σ H3)) := ⟨fun z => s_fldG z.1 z.2⟩
/-- o.f += e, ints -/
def AugF (K : PySem.W.Frag) (H : Hp) (x : V) (f : Str) (R : Addr → Addr → Int → Prop) : Prop := ∃ a C dx fs n, x = .ref a ∧ H a = some (.ins C dx fs) ∧ Cls K C ∧ NoAttr K C f ∧ fs.lookup f = some (.int n) ∧ R a C n
def AugP (H : Hp) (a C : Addr) (f : Str) (z : V) (R : Hp → Prop) : Prop := ∃ dx fs, H a = some (.ins C dx fs) ∧ fs.length < 1000 ∧ ChgAt H a (.ins C dx (putF f z fs)) R
theorem aug_f {R : Addr → Addr → Int → Prop} {n : Int} (h : H a = some (.ins C dx fs)) (c : Clc K C) (z : Nac K C f) (l : fs.lookup f = some (.int n)) (q : R a C n) : AugF K H (.ref a) f R := ⟨a, C, dx, fs, n, rfl, h, c.cl, z.na, l, q⟩
theorem aug_p {R : Hp → Prop} (h : H a = some (.ins C dx fs)) (hz : fs.length < 1000) (q : ∀ H2, Bt [a] H H2 → Tx H H2 → H2 a = some (.ins C dx (putF f y fs)) → R H2) : AugP H a C f y R := ⟨dx, fs, h, hz, q⟩
instance : Stp (WS X (.AugAssign (.Attribute o f px) .Add e pos) nx rt bk ct σ H) (WE X o σ H fun x H1 => AugF X.K H1 x f fun a C n => WE X e σ H1 fun y H2 => ExI y fun m => AugP H2 a C f (.int (n + m)) fun H3 => nx σ H3) :=
  ⟨fun z => ws_of (ps_fldaug (pe_w o) (pe_w e) in_add) (z.mono fun x H1 ⟨a, C, dx, fs, n, ex, h1, h2, h3, h4, q⟩ => by
    subst ex
    refine ⟨a, C, dx, fs, .int n, rfl, h1, h2, h3, h4, q.mono fun y H2 ⟨m, em, dx2, fs2, g1, g4, q2⟩ => ?_⟩
    subst em
    exact ⟨n, m, rfl, rfl, dx2, fs2, g1, g4, q2 _ (.put (by simp)) (.put g1 trivial) upd_same⟩)⟩
end
end Z

/-! list comprehensions, their scope a letter -/
namespace Z
open PySem PySem.Spec PyProof.Rows L2
/-- in each block of this scope -/
def AllB (X : Cx) (sc : Scope) (P : Cx → Prop) : Prop := ∀ s0 H0 C cl fp, P (blkX X sc s0 H0 C cl fp)
theorem all_b {X : Cx} {sc : Scope} {P : Cx → Prop} (h : ∀ s0 H0 C cl fp, P (blkX X sc s0 H0 C cl fp)) : AllB X sc P := h
/-- y is put to the list at D -/
def LstAp (H : Hp) (D : Addr) (y : V) (R : Hp → Prop) : Prop := ∃ acc, H D = some (.lst acc) ∧ acc.length < sizeLine ∧ ChgAt H D (.lst (acc ++ [y])) R
theorem lst_ap {H : Hp} {D : Addr} {y : V} {R : Hp → Prop} {acc : List V} (h : H D = some (.lst acc)) (hz : acc.length < sizeLine) (q : ∀ H2, Bt [D] H H2 → Tx H H2 → H2 D = some (.lst (acc ++ [y])) → R H2) : LstAp H D y R := ⟨acc, h, hz, q⟩
section
variable {X : Cx} {elt tg iter c : Expr} {ifs : List Expr} {σ : L2.St} {H : Hp} {Q : VK} {QB : Bool → Hp → Prop} {pos : Pos} {scope : Scope}
instance : Stp (WTs X [] σ H QB) (QB true H) := ⟨fun q => q⟩
instance : Stp (WTs X [c] σ H QB) (WT X c σ H QB) := ⟨fun q => q⟩
theorem w_lcI (own : List (Str × Nat)) (I : Scope → Prop) (hI : I scope) (hc : Hc X) (nd : X.N.Nodup) (ok : BlkOk X.N X.env.scope scope own) (hs : ∀ x, foldedSetIterable iter X.env x = pure x)
    (h : ∀ sc, I sc → WI X tg iter σ H fun J H1 => ∃ n G Y, Walk J n G Y ∧ ∀ D H2, H1 D = none → Same H1 H2 → H2 D = some (.lst []) → ∃ Pv : Nat → Hp → Prop, Pv 0 H2 ∧ (∀ i H, i ≤ n → Pv i H → G H) ∧
      (∀ i x H H', i < n → Pv i H → Y i H x H' → AllB X sc fun B => WG B tg x (wipe σ (own.map (·.2))) H' fun σ2 H2 => Sd (wipe σ2 (own.map (·.2)) = wipe σ (own.map (·.2))) (AllB X sc fun B => WTs B ifs σ2 H2 fun b H3 =>
        if b = true then AllB X sc fun B => WE B elt σ2 H3 fun y H4 => LstAp H4 D y fun H5 => Pv (i + 1) H5 else Pv (i + 1) H3)) ∧ ∀ H, Pv n H → Q (.ref D) H) :
    WE X (.ListComp elt [⟨tg, iter, ifs, 0⟩] scope pos) σ H Q := by
  refine w_lc own hc nd ok hs ?_
  have h2 := h scope hI
  refine ⟨fun pins s I => wpAny_mono (h2.run pins s I) (fun u s1 h1 => wpAny_mono h1 ?_ fun _ _ z => z) fun _ _ z => z⟩
  rintro itv s2 ⟨it, fp, tn, J, H', e1, I2, T, st, f, n, G, Y, wk, q⟩
  refine ⟨it, fp, tn, J, H', e1, I2, T, st, f, n, G, Y, wk, fun D hD => ?_⟩
  exact q D _ hD (same_new hD) upd_same
theorem s_lcI {y : Str} {py spos : Pos} {i : Nat} {nx bk ct : L2.St → Hp → Prop} {rt : VK} (own : List (Str × Nat)) (I : Scope → Prop) (hI : I scope) (hc : Hc X) (nd : X.N.Nodup) (ok : BlkOk X.N X.env.scope scope own) (hs : ∀ x, foldedSetIterable iter X.env x = pure x) (hy : Lcc X y i) (hk : X.env.scope.kind = .function) (hyl : X.env.scope.names.lookup y = some .local) (hln : (py.line == pos.line) = true) (hno : (scope.names.any fun (n, k) => n == y && (k == .local || k == .cell)) = false)
    (h : ∀ sc, I sc → WI X tg iter σ H fun J H1 => ∃ n G Y, Walk J n G Y ∧ ∀ D H2, H1 D = none → Same H1 H2 → H2 D = some (.lst []) → ∃ Pv : Nat → Hp → Prop, Pv 0 H2 ∧ (∀ i H, i ≤ n → Pv i H → G H) ∧
      (∀ i x H H', i < n → Pv i H → Y i H x H' → AllB X sc fun B => WG B tg x (wipe σ (own.map (·.2))) H' fun σ2 H2 => Sd (wipe σ2 (own.map (·.2)) = wipe σ (own.map (·.2))) (AllB X sc fun B => WTs B ifs σ2 H2 fun b H3 =>
        if b = true then AllB X sc fun B => WE B elt σ2 H3 fun y H4 => LstAp H4 D y fun H5 => Pv (i + 1) H5 else Pv (i + 1) H3)) ∧ ∀ H, Pv n H → nx (σ.set i (some (.ref D))) H) :
    WS X (.Assign [.Name y py] (.ListComp elt [⟨tg, iter, ifs, 0⟩] scope pos) spos) nx rt bk ct σ H := by
  refine s_lc own hc nd hy.lc.at_ hyl (sw_true hk hyl hln hno) ok hs (lc_read own ?_)
  have h2 := h scope hI
  refine ⟨fun pins s I => wpAny_mono (h2.run pins s I) (fun u s1 h1 => wpAny_mono h1 ?_ fun _ _ z => z) fun _ _ z => z⟩
  rintro itv s2 ⟨it, fp, tn, J, H', e1, I2, T, st, f, n, G, Y, wk, q⟩
  refine ⟨it, fp, tn, J, H', e1, I2, T, st, f, n, G, Y, wk, fun D hD => ?_⟩
  exact q D _ hD (same_new hD) upd_same
/-- z is put under y to the dict at D -/
def DicAp (H : Hp) (D : Addr) (y z : V) (R : Hp → Prop) : Prop := ∃ kvs k, y = kV k ∧ H D = some (.dK kvs) ∧ kvs.length < sizeLine ∧ ChgAt H D (.dK (putK kvs k z)) R
theorem dic_ap {D : Addr} {y z : V} {R : Hp → Prop} {kvs : List (Key × V)} {k : Key} (hk : y = kV k) (h : H D = some (.dK kvs)) (hz : kvs.length < sizeLine) (q : ∀ H2, Bt [D] H H2 → Tx H H2 → H2 D = some (.dK (putK kvs k z)) → R H2) : DicAp H D y z R := ⟨kvs, k, hk, h, hz, q⟩
/-- a dict comprehension, by its walk -/
theorem w_dcI {kx vx : Expr} (own : List (Str × Nat)) (I : Scope → Prop) (hI : I scope) (hc : Hc X) (nd : X.N.Nodup) (ok : BlkOk X.N X.env.scope scope own) (hs : ∀ x, foldedSetIterable iter X.env x = pure x)
    (h : ∀ sc, I sc → WI X tg iter σ H fun J H1 => ∃ n G Y, Walk J n G Y ∧ ∀ D H2, H1 D = none → Same H1 H2 → H2 D = some (.dK []) → ∃ Pv : Nat → Hp → Prop, Pv 0 H2 ∧ (∀ i H, i ≤ n → Pv i H → G H) ∧
      (∀ i x H H', i < n → Pv i H → Y i H x H' → AllB X sc fun B => WG B tg x (wipe σ (own.map (·.2))) H' fun σ2 H2 => Sd (wipe σ2 (own.map (·.2)) = wipe σ (own.map (·.2))) (AllB X sc fun B => WTs B ifs σ2 H2 fun b H3 =>
        if b = true then AllB X sc fun B => WE B kx σ2 H3 fun y H4 => AllB X sc fun B => WE B vx σ2 H4 fun z H5 => DicAp H5 D y z fun H6 => Pv (i + 1) H6 else Pv (i + 1) H3)) ∧ ∀ H, Pv n H → Q (.ref D) H) :
    WE X (.DictComp kx vx [⟨tg, iter, ifs, 0⟩] scope pos) σ H Q := by
  refine we_of (pe_dc (own := own) (g := fun x σ H Q => ∀ s0 H0 C cl fp, WG (blkX X scope s0 H0 C cl fp) tg x σ H Q) (tt := fun σ H Q => ∀ s0 H0 C cl fp, WTs (blkX X scope s0 H0 C cl fp) ifs σ H Q)
    (tk := fun σ H Q => ∀ s0 H0 C cl fp, WE (blkX X scope s0 H0 C cl fp) kx σ H Q) (tv := fun σ H Q => ∀ s0 H0 C cl fp, WE (blkX X scope s0 H0 C cl fp) vx σ H Q)
    hc.calm nd (pi_w tg iter) ok (fun s0 H0 C cl fp => ⟨fun pins s σ H v u Q I r z => (z s0 H0 C cl fp).run pins s u I r⟩) (fun s0 H0 C cl fp => ⟨fun pins s σ H Q I z => (pts_w ifs).run pins s σ H Q I (z s0 H0 C cl fp)⟩)
    (fun s0 H0 C cl fp => ⟨fun pins s σ H Q I z => (z s0 H0 C cl fp).run pins s I⟩) (fun s0 H0 C cl fp => ⟨fun pins s σ H Q I z => (z s0 H0 C cl fp).run pins s I⟩) hs) ?_
  have h2 := h scope hI
  refine ⟨fun pins s I => wpAny_mono (h2.run pins s I) (fun u s1 h1 => wpAny_mono h1 ?_ fun _ _ z => z) fun _ _ z => z⟩
  rintro itv s2 ⟨it, fp, tn, J, H', e1, I2, T, st, f, n, G, Y, w, q⟩
  refine ⟨it, fp, tn, J, H', e1, I2, T, st, f, fun D hD => ?_⟩
  obtain ⟨Pv, h0, hG, ht, hd⟩ := q D _ hD (same_new hD) upd_same
  refine ⟨fun i m H => m = n - i ∧ i ≤ n ∧ Pv i H, ⟨n, by simp, Nat.zero_le _, h0⟩, ?_⟩
  rintro i m H1 ⟨rfl, hi, p⟩
  have q2 := hG i H1 hi p
  by_cases hlt : i < n
  · refine .inr ⟨w.goes i H1 hlt q2, Pv (i + 1), fun H' p' => ⟨n - (i + 1), by omega, rfl, hlt, p'⟩, fun x H'' y => ?_⟩
    intro s0 H0 C cl fp
    refine WG.mono (ht i x H1 H'' hlt p (w.yields i H1 x H'' hlt q2 y) s0 H0 C cl fp) ?_
    rintro σ2 H2 ⟨hw, q3⟩
    refine ⟨hw, fun s0 H0 C cl fp => ?_⟩
    have key : ∀ b H3, (if b = true then AllB X scope fun B => WE B kx σ2 H3 fun y H4 => AllB X scope fun B => WE B vx σ2 H4 fun z H5 => DicAp H5 D y z fun H6 => Pv (i + 1) H6 else Pv (i + 1) H3) →
        (if b = true then ∀ s0 H0 C cl fp, WE (blkX X scope s0 H0 C cl fp) kx σ2 H3 fun y H4 => ∀ s0 H0 C cl fp, WE (blkX X scope s0 H0 C cl fp) vx σ2 H4 fun z H5 => ∃ kvs k, y = kV k ∧ H5 D = some (.dK kvs) ∧ kvs.length < sizeLine ∧ Pv (i + 1) (upd H5 D (.dK (putK kvs k z))) else Pv (i + 1) H3) := by
      intro b H3 z
      cases b with
      | false => exact z
      | true =>
        refine iteT ?_
        have z' : AllB X scope fun B => WE B kx σ2 H3 fun y H4 => AllB X scope fun B => WE B vx σ2 H4 fun z H5 => DicAp H5 D y z fun H6 => Pv (i + 1) H6 := z
        intro s0 H0 C cl fp
        refine (z' s0 H0 C cl fp).mono fun y H4 z4 => ?_
        intro s0 H0 C cl fp
        refine WE.mono (z4 s0 H0 C cl fp) ?_
        rintro z H5 ⟨kvs, k, hk, e5, hz, q5⟩
        exact ⟨kvs, k, hk, e5, hz, q5 _ (.put (by simp)) (.put e5 trivial) upd_same⟩
    have q4 := q3 s0 H0 C cl fp
    clear q3
    match ifs, q4 with
    | [], q4 => exact key true H2 q4
    | [c], q4 => exact WT.mono q4 fun b H4 q5 => key _ _ q5
    | _ :: _ :: _, q4 => exact q4
  · have e : i = n := by omega
    subst e
    exact .inl ⟨w.stops H1 q2, hd H1 p⟩
end
end Z

/-! *, %, //, **, int() -/
namespace Z
open PySem PySem.Spec PyProof.Rows L2
section
variable {X : Cx} {e a b : Expr} {σ : L2.St} {H : Hp} {Q : VK} {pos p : Pos} {m n : Int}
/-- a product: one factor is short -/
def rMulA : R2 := rI IntMulOk fun i j => .int (i * j)
theorem op_mulA : OpR X (binaryOp .Mult) rMulA := opI fun _ _ _ _ _ _ _ hc q => mul_int q hc
def MulI (x y : V) (H : Hp) (Q : VK) : Prop := rMulA x y H Q
theorem mul_r (h : Builtin.Int.intBits n ≤ 64) (q : Q (.int (m * n)) H) : MulI (.int m) (.int n) H Q := ⟨m, n, rfl, rfl, .of_right h, q⟩
theorem mul_l (h : Builtin.Int.intBits m ≤ 64) (q : Q (.int (m * n)) H) : MulI (.int m) (.int n) H Q := ⟨m, n, rfl, rfl, .of_left h, q⟩
instance : Stp (WE X (.BinOp a .Mult b p) σ H Q) (WE X a σ H fun x H1 => WE X b σ H1 fun y H2 => MulI x y H2 Q) := ⟨w_op op_mulA⟩
def ModI (x y : V) (H : Hp) (Q : VK) : Prop := rI (fun _ j => 0 < j) (fun i j => .int (i % j)) x y H Q
theorem mod_i (h : 0 < n) (q : Q (.int (m % n)) H) : ModI (.int m) (.int n) H Q := ⟨m, n, rfl, rfl, h, q⟩
instance : Stp (WE X (.BinOp a .Mod b p) σ H Q) (WE X a σ H fun x H1 => WE X b σ H1 fun y H2 => ModI x y H2 Q) := ⟨w_op op_mod⟩
def DivI (x y : V) (H : Hp) (Q : VK) : Prop := rI CDiv (fun i j => .int (i / j)) x y H Q
theorem div_i (h : 0 < n) (h2 : n < 1073741824) (q : Q (.int (m / n)) H) : DivI (.int m) (.int n) H Q := ⟨m, n, rfl, rfl, ⟨h, h2⟩, q⟩
instance : Stp (WE X (.BinOp a .FloorDiv b p) σ H Q) (WE X a σ H fun x H1 => WE X b σ H1 fun y H2 => DivI x y H2 Q) := ⟨w_op op_fdiv⟩
def PowI (x y : V) (H : Hp) (Q : VK) : Prop := rI CPow (fun i j => .int (i ^ j.toNat)) x y H Q
theorem pow_i (h : 0 ≤ n ∧ n ≤ 1000000 ∧ m.natAbs < 2 ^ 64) (q : Q (.int (m ^ n.toNat)) H) : PowI (.int m) (.int n) H Q := ⟨m, n, rfl, rfl, h, q⟩
instance : Stp (WE X (.BinOp a .Pow b p) σ H Q) (WE X a σ H fun x H1 => WE X b σ H1 fun y H2 => PowI x y H2 Q) := ⟨w_op op_pow⟩
/-- int(e): an int stays -/
def IntI (x : V) (H : Hp) (Q : VK) : Prop := (∃ i, x = .int i ∧ Q (.int i) H) ∨ (∃ k, x = .bl k ∧ Q (.int (if k then 1 else 0)) H) ∨ ∃ a n, x = .str a ∧ PySem.intText? a = some n ∧ a.length ≤ 640 ∧ Q (.int n) H
instance : Stp (IntI (.int m) H Q) (Q (.int m) H) := ⟨fun q => .inl ⟨m, rfl, q⟩⟩
instance {k : Bool} : Stp (IntI (.bl k) H Q) (Q (.int (if k then 1 else 0)) H) := ⟨fun q => .inr (.inl ⟨k, rfl, q⟩)⟩
theorem int_s {a : Str} {n : Int} (h : PySem.intText? a = some n) (hz : a.length ≤ 640) (q : Q (.int n) H) : IntI (.str a) H Q := .inr (.inr ⟨a, n, rfl, h, hz, q⟩)
theorem call_intA : CallR X (.type "int") (fun xs H Q => ∃ x, xs = [x] ∧ IntI x H Q) := fun pins s σ H xs us Q I r ⟨x, e, h⟩ => by
  subst e
  rcases h with ⟨i, rfl, q⟩ | ⟨k, rfl, q⟩ | ⟨a, n, rfl, h1, h2, q⟩
  · exact call_int1 pins s σ H _ us Q I r (.inl ⟨i, rfl, q⟩)
  · exact call_int1 pins s σ H _ us Q I r (.inr ⟨k, rfl, q⟩)
  · exact call_int_str pins s σ H _ us Q I r ⟨a, n, rfl, h1, h2, q⟩
instance (priority := high) [n : Bnc X "int"] : Stp (WE X (.Call (.Name "int" p) [e] [] pos) σ H Q) (Sd (starEach [e] X.env = (false, eval e X.env) :: starEach [] X.env ∧ (backTo pos (starEach [] X.env)).any (·.1) = false) (WE X e σ H fun y H1 => IntI y H1 Q)) :=
  ⟨fun z => w_t1 call_intA n.bn (by decide +kernel) z.1 (z.2.mono fun y H1 q => ⟨y, rfl, q⟩)⟩
end
/-! ### the law's draws -/
/-- at l: [cells, at, big, seed], the cells at c -/
def DrAt (H : Hp) (l c : Addr) : Prop := c ≠ l ∧ ∃ (cells : List Int) (i : Nat) (big seed : Int), H l = some (.lst [.ref c, .int i, .int big, .int seed]) ∧ H c = some (.lst (cells.map .int)) ∧ 0 ≤ big
theorem DrAt.same {H H' : Hp} {l c : Addr} (h : DrAt H l c) (e : Same H H') : DrAt H' l c := by
  obtain ⟨n, cells, i, big, seed, h1, h2, h3⟩ := h
  exact ⟨n, cells, i, big, seed, e _ _ h1, e _ _ h2, h3⟩
theorem DrAt.bt {S : List Addr} {H H' : Hp} {l c : Addr} (h : DrAt H l c) (e : Bt S H H') (n1 : l ∉ S) (n2 : c ∉ S) : DrAt H' l c := by
  obtain ⟨n, cells, i, big, seed, h1, h2, h3⟩ := h
  exact ⟨n, cells, i, big, seed, e _ _ h1 n1, e _ _ h2 n2, h3⟩
end Z

/-! strips in plain Lean -/
namespace M
section
variable {α : Type}
/-- the thing of a number -/
def thingAt : List (Int × α) → Int → Option α → Option α
  | [], _, d => d
  | (s, t) :: r, n, d => if s > n then d else thingAt r n (some t)
/-- one stretch as pieces -/
def pieceAt (b : Int) (e : Option Int) (s : Int) (nx : Option Int) (t : α) : List (Option Int × α) :=
  match (match nx with
    | none => e
    | some a => match e with
      | none => some a
      | some e => if e < a then some e else some a) with
  | none => [(none, t)]
  | some a => if max s b < a then [(some (a - max s b), t)] else []
def piecesOf : List (Int × α) → Int → Option Int → List (Option Int × α)
  | [], _, _ => []
  | (s, t) :: r, b, e => pieceAt b e s (r.head?.map (·.1)) t ++ piecesOf r b e
def addO (x : Int) : Option Int → Int
  | none => x
  | some k => x + k
/-- a piece more -/
def stripStep [DecidableEq α] (st : List (Int × α) × Int) (p : Option Int × α) : List (Int × α) × Int :=
  if p.1 = some 0 then st
  else (if (st.1.getLast?.map (·.2)) = some p.2 then st.1 else st.1 ++ [(st.2, p.2)], addO st.2 p.1)
def stripOf [DecidableEq α] (ps : List (Option Int × α)) : List (Int × α) := (ps.foldl stripStep ([], 0)).1
def endStep : Option Int → Option Int → Option Int
  | some x, some k => some (x + k)
  | _, _ => none
def endOf (b : Int) (ps : List (Option Int × α)) : Option Int := ps.foldl (fun e p => endStep e p.1) (some b)
def restOf (l : List (Int × α)) : Option Int → List (Option Int × α)
  | none => []
  | some e => piecesOf l e none
def overlaid [DecidableEq α] (l : List (Int × α)) (b : Int) (ps : List (Option Int × α)) : List (Int × α) := stripOf (piecesOf l 0 (some b) ++ ps ++ restOf l (endOf b ps))
def inserted [DecidableEq α] (l : List (Int × α)) (at_ many : Int) (t : α) : List (Int × α) := stripOf (piecesOf l 0 (some at_) ++ [(some many, t)] ++ piecesOf l at_ none)
def removed [DecidableEq α] (l : List (Int × α)) (at_ many : Int) : List (Int × α) := stripOf (piecesOf l 0 (some at_) ++ piecesOf l (at_ + many) none)
def moved [DecidableEq α] (l : List (Int × α)) (at_ many to : Int) : List (Int × α) :=
  stripOf (piecesOf (removed l at_ many) 0 (some to) ++ piecesOf l at_ (some (at_ + many)) ++ piecesOf (removed l at_ many) to none)
theorem piecesOf_length (b : Int) (e : Option Int) : ∀ l : List (Int × α), (piecesOf l b e).length ≤ l.length
  | [] => Nat.le_refl _
  | (s, t) :: r => by
    have ih := piecesOf_length b e r
    have h1 : (pieceAt b e s (r.head?.map (·.1)) t).length ≤ 1 := by
      unfold pieceAt
      split
      · exact Nat.le_refl _
      · split
        · exact Nat.le_refl _
        · exact Nat.zero_le _
    rw [piecesOf, List.length_append, List.length_cons]
    omega
theorem stripStep_length [DecidableEq α] (st : List (Int × α) × Int) (p : Option Int × α) : (stripStep st p).1.length ≤ st.1.length + 1 := by
  unfold stripStep
  split
  · omega
  · split
    · exact Nat.le_succ _
    · simp
theorem fold_length [DecidableEq α] : ∀ (ps : List (Option Int × α)) (st : List (Int × α) × Int), (ps.foldl stripStep st).1.length ≤ st.1.length + ps.length
  | [], st => Nat.le_refl _
  | p :: r, st => by
    have h1 := fold_length r (stripStep st p)
    have h2 := stripStep_length st p
    rw [List.foldl_cons, List.length_cons]
    omega
theorem stripOf_length [DecidableEq α] (ps : List (Option Int × α)) : (stripOf ps).length ≤ ps.length := by
  have h := fold_length ps ([], 0)
  unfold stripOf
  simpa using h
theorem rest_length (l : List (Int × α)) (e : Option Int) : (restOf l e).length ≤ l.length := by
  cases e with
  | none => exact Nat.zero_le _
  | some k => exact piecesOf_length _ _ _
theorem removed_length [DecidableEq α] (l : List (Int × α)) (b m : Int) : (removed l b m).length ≤ 2 * l.length := by
  have h1 := stripOf_length (piecesOf l 0 (some b) ++ piecesOf l (b + m) none)
  have h2 := piecesOf_length 0 (some b) l
  have h3 := piecesOf_length (b + m) none l
  rw [List.length_append] at h1
  unfold removed
  omega
end
end M

/-! how the plain things stand in the heap -/
namespace Z
open PySem PySem.Spec PyProof.Rows L2 M
section
variable {α : Type}
def encO : Option Int → PyData
  | none => .none
  | some k => .int k
def encS (f : α → PyData) (l : List (Int × α)) : PyData := .tuple (l.map fun p => .tuple [.int p.1, f p.2])
def encP (f : α → PyData) (p : Option Int × α) : PyData := .tuple [encO p.1, f p.2]
def optV : Option Int → V
  | none => .non
  | some k => .int k
/-- an encoding that == sees through -/
structure En [DecidableEq α] (f : α → PyData) : Prop where
  eq : ∀ x y, PyData.eqv (f x) (f y) = decide (x = y)
  sh : ∀ x, SeqAt.shaped (f x) = true
/-- at a stands a list of pieces -/
def PcAt (K : PySem.W.Frag) (H : Hp) (a : Addr) (f : α → PyData) (ps : List (Option Int × α)) : Prop := ∃ xs, H a = some (.lst xs) ∧ ImAll K H xs (ps.map (encP f))
variable {K : PySem.W.Frag} {H H' : Hp} {a : Addr} {f : α → PyData}
theorem PcAt.same {ps : List (Option Int × α)} (h : PcAt K H a f ps) (e : Same H H') : PcAt K H' a f ps := by
  obtain ⟨xs, h1, h2⟩ := h
  exact ⟨xs, e _ _ h1, h2.same e⟩
theorem Im.optV_inv {v : V} {o : Option Int} (h : Im K H v (encO o)) : v = optV o := by
  cases o with
  | none => exact h.non_inv
  | some k => exact h.int_inv
theorem Im.optV (o : Option Int) : Im K H (optV o) (encO o) := by
  cases o with
  | none => exact .non
  | some k => exact .int k
theorem strip_get {l : List (Int × α)} {xs : List V} {i : Nat} {x : V} (h : ImAll K H xs (l.map fun p => .tuple [.int p.1, f p.2])) (hi : xs[i]? = some x) :
    ∃ (s : Int) (t : α) (b : Addr) (u : V), l[i]? = some (s, t) ∧ x = .ref b ∧ SqT K H b [.int s, u] ∧ Im K H u (f t) := by
  obtain ⟨dd, e1, e2⟩ := h.get hi
  rw [List.getElem?_map] at e1
  obtain ⟨⟨s, t⟩, e3, rfl⟩ := Option.map_eq_some_iff.mp e1
  obtain ⟨b, x, u, rfl, h3, h4, h5⟩ := e2.pair_inv
  obtain rfl := h4.int_inv
  exact ⟨s, t, b, u, e3, rfl, h3, h5⟩
theorem piece_get {ps : List (Option Int × α)} {xs : List V} {i : Nat} {x : V} (h : ImAll K H xs (ps.map (encP f))) (hi : xs[i]? = some x) :
    ∃ (o : Option Int) (t : α) (b : Addr) (u : V), ps[i]? = some (o, t) ∧ x = .ref b ∧ SqT K H b [optV o, u] ∧ Im K H u (f t) := by
  obtain ⟨dd, e1, e2⟩ := h.get hi
  rw [List.getElem?_map] at e1
  obtain ⟨⟨o, t⟩, e3, rfl⟩ := Option.map_eq_some_iff.mp e1
  obtain ⟨b, x, u, rfl, h3, h4, h5⟩ := e2.pair_inv
  obtain rfl := h4.optV_inv
  exact ⟨o, t, b, u, e3, rfl, h3, h5⟩
theorem add_opt {k m : Int} {Q : VK} (q : Q (.int (m + k)) H) : ipI (fun i j => i + j) (.int m) (optV (some k)) H Q := ⟨m, k, rfl, rfl, q⟩
theorem lt_size {n : Nat} (h : n < 16777216) : n < sizeLine := h
theorem le_size {n : Nat} (h : n ≤ 16777216) : n ≤ sizeLine := h
theorem snoc_cases {β : Type} (l : List β) : l = [] ∨ ∃ a b, l = a ++ [b] := by
  rcases List.eq_nil_or_concat l with h | ⟨a, b, h⟩
  · exact .inl h
  · exact .inr ⟨a, b, by rw [h, List.concat_eq_append]⟩
theorem drop_at {β : Type} {l : List β} {i : Nat} {x : β} (h : l[i]? = some x) : l.drop i = x :: l.drop (i + 1) := by
  obtain ⟨h1, h2⟩ := List.getElem?_eq_some_iff.mp h
  rw [List.drop_eq_getElem_cons h1, h2]
theorem take_at {β : Type} {l : List β} {i : Nat} {x : β} (h : l[i]? = some x) : l.take (i + 1) = l.take i ++ [x] := by
  rw [List.take_add_one, h] <;> rfl
theorem drop_end {β : Type} {l : List β} {n : Nat} (h : l.length ≤ n) : l.drop n = [] := List.drop_of_length_le h
theorem take_end {β : Type} {l : List β} {n : Nat} (h : l.length ≤ n) : l.take n = l := List.take_of_length_le h
theorem strip_last {l : List (Int × α)} {zs : List V} {y : V} (h : ImAll K H (zs ++ [y]) (l.map fun p => .tuple [.int p.1, f p.2])) :
    ∃ (init : List (Int × α)) (s : Int) (t : α) (b : Addr) (u : V), l = init ++ [(s, t)] ∧ y = .ref b ∧ SqT K H b [.int s, u] ∧ Im K H u (f t) := by
  obtain ⟨ds, dl, e4, hI1, hI2⟩ := h.snoc_inv
  rcases snoc_cases l with rfl | ⟨init, ⟨s, t⟩, rfl⟩
  · simp at e4
  · rw [List.map_append] at e4
    have e5 := List.append_inj_right' e4 rfl
    simp at e5
    subst e5
    obtain ⟨b, x, u, rfl, h3, h4, h5⟩ := hI2.pair_inv
    obtain rfl := h4.int_inv
    exact ⟨init, s, t, b, u, rfl, rfl, h3, h5⟩
end
end Z
namespace Z
open PySem PySem.Spec PyProof.Rows L2 M
theorem _root_.L2.Same.tq {K : PySem.W.Frag} {H H' : Hp} {a : Addr} {xs : List V} (e : Same H H') (h : SqT K H a xs) : SqT K H' a xs := (Tx.of e).sqt h
theorem pc_add {α : Type} {f : α → PyData} {K : PySem.W.Frag} {H : Hp} {Q : VK} {a b : Addr} {ps qs : List (Option Int × α)} (h1 : PcAt K H a f ps) (h2 : PcAt K H b f qs) (hz : ps.length + qs.length ≤ 16777216)
    (q : ∀ p H', H p = none → Same H H' → PcAt K H' p f (ps ++ qs) → Q (.ref p) H') : rAddA K (.ref a) (.ref b) H Q := by
  obtain ⟨xs, g1, g2⟩ := h1
  obtain ⟨ys, g3, g4⟩ := h2
  refine add_lstG g1 g3 (le_size (by rw [g2.length, g4.length, List.length_map, List.length_map]; exact hz)) fun p H' hp e hp1 => q p H' hp e ⟨_, hp1, ?_⟩
  rw [List.map_append]
  exact (g2.same e).append (g4.same e)
theorem pc_one {α : Type} {f : α → PyData} {K : PySem.W.Frag} {H : Hp} {T L : Addr} {o : Option Int} {t : α} {w : V} (h : SqT K H T [optV o, w]) (hw : Im K H w (f t)) (hl : H L = some (.lst [.ref T])) : PcAt K H L f [(o, t)] :=
  ⟨_, hl, .one (.pair h (Im.optV o) hw)⟩
theorem strip_at {α : Type} {f : α → PyData} {K : PySem.W.Frag} {H : Hp} {l : List (Int × α)} {xs : List V} {i : Nat} {s : Int} {t : α} (h : ImAll K H xs (l.map fun p => .tuple [.int p.1, f p.2])) (hi : l[i]? = some (s, t)) :
    ∃ (b : Addr) (u : V), xs[i]? = some (.ref b) ∧ SqT K H b [.int s, u] ∧ Im K H u (f t) := by
  obtain ⟨v, h1, h2⟩ := h.at (i := i) (d := .tuple [.int s, f t]) (by rw [List.getElem?_map, hi] <;> rfl)
  obtain ⟨b, x, u, rfl, h3, h4, h5⟩ := h2.pair_inv
  obtain rfl := h4.int_inv
  exact ⟨b, u, h1, h3, h5⟩
theorem atI_succ {xs : List V} {i : Nat} {x : V} (h : xs[i + 1]? = some x) : atI xs ((i : Int) + 1) = some x := by
  have e : ((i : Int) + 1) = ((i + 1 : Nat) : Int) := by omega
  rw [e, atI_nat]; exact h
theorem head_drop {α : Type} {l : List α} {i : Nat} : (l.drop i).head? = l[i]? := by
  rw [List.head?_drop]
end Z


namespace M
open PySem PySem.Spec
abbrev most : Int := 999999
def isNum : PyData → Int → Int → Bool
  | .int n, lo, hi => decide (lo ≤ n) && decide (n ≤ hi)
  | _, _, _ => false
def kinds : List Str := ["ink", "ground", "face"]
def isKind : PyData → Bool
  | .str w => kinds.contains w
  | _ => false
def isOrder : PyData → Bool
  | .str w => (["nearest", "newest"] : List Str).contains w
  | _ => false
def isAxis : PyData → Bool
  | .str w => (["row", "column"] : List Str).contains w
  | _ => false
def isRange : PyData → PyData → Bool
  | .int a, b => isNum (.int a) 0 most && isNum b a most
  | _, _ => false
def isNone : PyData → Bool
  | .none => true
  | _ => false
def isTold (d : PyData) : Bool := isNone d || isNum d 0 9
def isCells : PyData → Bool
  | .tuple [.str w, a, b, c, d] => w == ("cells" : Str) && (isRange a b && isRange c d)
  | _ => false
def isCells5 (ds : List PyData) : Bool := isCells (.tuple ds)
def isScope1 (w : Str) (r : List PyData) : Bool := match r with
  | [a, b] => isNum a 0 most && (isNone b || isRange a b)
  | r => isCells (.tuple (.str w :: r))
def isScope : PyData → Bool
  | .tuple (.str w :: r) => if w = "table" then r.isEmpty else if (["rows", "columns"] : List Str).contains w && r.length == 2 then isScope1 w r else isCells (.tuple (.str w :: r))
  | _ => false
end M
namespace Z
open PySem PySem.Spec PyProof.Rows L2 M
theorem in_lits {w : Str} : ∀ l : List Str, inV (.str w) (l.map .str) = l.contains w
  | [] => rfl
  | a :: l => by
    have ih := in_lits (w := w) l
    unfold inV at ih ⊢
    rw [List.map_cons, List.any_cons, ih, List.contains_cons]
    show (a == w || _) = (w == a || _)
    rw [BEq.comm]
theorem in3 {w a b c : Str} : inV (.str w) [.str a, .str b, .str c] = ([a, b, c] : List Str).contains w := in_lits [a, b, c]
theorem in2 {w a b : Str} : inV (.str w) [.str a, .str b] = ([a, b] : List Str).contains w := in_lits [a, b]
theorem isScope_table {r : List PyData} : isScope (.tuple (.str "table" :: r)) = r.isEmpty := rfl
theorem isScope_line {w : Str} {a b : PyData} (h : ¬ w = "table") (h2 : (["rows", "columns"] : List Str).contains w = true) : isScope (.tuple [.str w, a, b]) = (isNum a 0 999999 && (isNone b || isRange a b)) := by
  show (if w = "table" then _ else if ((["rows", "columns"] : List Str).contains w && true) = true then _ else _) = _
  rw [if_neg h, h2] <;> rfl
theorem isScope_other {w : Str} {r : List PyData} (h : ¬ w = "table") (h2 : ¬ ((["rows", "columns"] : List Str).contains w = true ∧ r.length = 2)) : isScope (.tuple (.str w :: r)) = isCells (.tuple (.str w :: r)) := by
  show (if w = "table" then _ else if ((["rows", "columns"] : List Str).contains w && (r.length == 2)) = true then _ else _) = _
  rw [if_neg h, if_neg]
  rw [Bool.and_eq_true, beq_iff_eq]
  exact h2
theorem isRange_no {d e : PyData} (h : isNum d 0 999999 = false) : isRange d e = false := by
  cases d with
  | int n =>
    show (isNum (.int n) 0 999999 && isNum e n 999999) = false
    rw [h] <;> rfl
  | _ => rfl
theorem isRange_yes {n : Int} {e : PyData} (h : isNum (.int n) 0 999999 = true) : isRange (.int n) e = isNum e n 999999 := by
  show (isNum (.int n) 0 999999 && isNum e n 999999) = _
  rw [h] <;> rfl
theorem isCells_ne {x : Str} {a b c d : PyData} (h : ¬ x = "cells") : isCells (.tuple [.str x, a, b, c, d]) = false := by
  show ((x == ("cells" : Str)) && _) = false
  rw [beq_eq_false_iff_ne.mpr h] <;> rfl
theorem isCells_eq {a b c d : PyData} : isCells (.tuple [.str "cells", a, b, c, d]) = (isRange a b && isRange c d) := by
  show ((("cells" : Str) == ("cells" : Str)) && _) = _
  rw [beq_self_eq_true] <;> rfl
theorem isCells_len {ds : List PyData} (h : ¬ ds.length = 5) : isCells (.tuple ds) = false := by
  unfold isCells
  split
  · rename_i e
    cases e
    exact absurd rfl h
  · rfl
theorem lt_app {a b : Prop} : a → b → a ∧ b := And.intro
theorem len_ds {K : PySem.W.Frag} {H : Hp} {xs : List V} {ds : List PyData} {n : Nat} (h : ImAll K H xs ds) : ((xs.length : Int) = (n : Int)) ↔ ds.length = n := by
  rw [h.length]
  omega
theorem ne_len {n : Nat} {m : Int} : (!decide ((n : Int) = m)) = true ↔ ¬ (n : Int) = m := by simp
theorem ImAll.nil_inv {K : PySem.W.Frag} {H : Hp} {xs : List V} (h : ImAll K H xs []) : xs = [] := by cases h; rfl
theorem ImAll.cons_inv {K : PySem.W.Frag} {H : Hp} {xs : List V} {d : PyData} {ds : List PyData} (h : ImAll K H xs (d :: ds)) : ∃ v vs, xs = v :: vs ∧ Im K H v d ∧ ImAll K H vs ds := by
  cases h with
  | cons a b => exact ⟨_, _, rfl, a, b⟩
/-- the forms of what does not change -/
theorem Im.forms {K : PySem.W.Frag} {H : Hp} {v : V} {d : PyData} (h : Im K H v d) : (v = .non ∧ d = .none) ∨ (∃ b, v = .bl b ∧ d = .bool b) ∨ (∃ n, v = .int n ∧ d = .int n) ∨ (∃ x, v = .str x ∧ d = .str x) ∨
    (∃ a xs ds, v = .ref a ∧ d = .tuple ds ∧ SqT K H a xs ∧ ImAll K H xs ds) := by
  cases h with
  | non => exact .inl ⟨rfl, rfl⟩
  | bl b => exact .inr (.inl ⟨b, rfl, rfl⟩)
  | int n => exact .inr (.inr (.inl ⟨n, rfl, rfl⟩))
  | str x => exact .inr (.inr (.inr (.inl ⟨x, rfl, rfl⟩)))
  | tup h r => exact .inr (.inr (.inr (.inr ⟨_, _, _, rfl, rfl, h, r⟩)))
end Z

namespace M
open PySem PySem.Spec
abbrev Tab := List (Str × Str)
def goes (tab : Tab) (a : Str) : Nat → Str → Str
  | 0, h => h
  | n + 1, h => match tab.lookup h with
    | none => h
    | some y => if h = a then h else goes tab a n y
/-- a chain ends within so many steps -/
def Dn (tab : Tab) : Nat → Str → Prop
  | 0, x => tab.lookup x = none
  | n + 1, x => ∀ y, tab.lookup x = some y → Dn tab n y
def dep : Nat → Nat
  | 0 => 0
  | n + 1 => dep n + 1 + dep n
def linkOf (tab : Tab) : PyData → Option (Str × Str)
  | .tuple [.str a, .str b] => if kinds.contains a && (kinds.contains b && (!(tab.lookup a).isSome && !decide (goes tab a (dep tab.length) b = a))) then some (a, b) else none
  | _ => none
/-- the first wrong link from i on, or the table -/
def links (tab : Tab) (i : Nat) : List PyData → Option Nat ⊕ Tab
  | [] => .inr tab
  | d :: r => match linkOf tab d with
    | none => .inl (some i)
    | some p => links (tab ++ [p]) (i + 1) r
def linkFault (ds : List PyData) : Option Nat := match links [] 0 ds with
  | .inl o => o
  | .inr _ => none
theorem goes_end {tab : Tab} {a h : Str} (e : tab.lookup h = none) : ∀ {n : Nat}, goes tab a n h = h
  | 0 => rfl
  | n + 1 => by
    show (match tab.lookup h with
      | none => h
      | some y => if h = a then h else goes tab a n y) = _
    rw [e]
theorem goes_go {tab : Tab} {a h y : Str} {n : Nat} (e : tab.lookup h = some y) (hh : ¬ h = a) : goes tab a (n + 1) h = goes tab a n y := by
  show (match tab.lookup h with
    | none => h
    | some y => if h = a then h else goes tab a n y) = _
  rw [e]
  exact if_neg hh
theorem goes_stop {tab : Tab} {a h y : Str} {n : Nat} (e : tab.lookup h = some y) (hh : h = a) : goes tab a (n + 1) h = h := by
  show (match tab.lookup h with
    | none => h
    | some y => if h = a then h else goes tab a n y) = _
  rw [e]
  exact if_pos hh
theorem kind_inv {d : PyData} (h : isKind d = true) : ∃ w, d = .str w ∧ kinds.contains w = true := by
  cases d with
  | str w => exact ⟨w, rfl, h⟩
  | _ => cases h
theorem linkOf_len {tab : Tab} {ds : List PyData} (h : ¬ ds.length = 2) : linkOf tab (.tuple ds) = none := by
  unfold linkOf
  split
  · rename_i e
    cases e
    exact absurd rfl h
  · rfl
theorem linkOf_k0 {tab : Tab} {d e : PyData} (h : isKind d = false) : linkOf tab (.tuple [d, e]) = none := by
  unfold linkOf
  split
  · rename_i e
    cases e
    rw [show kinds.contains _ = false from h] <;> rfl
  · rfl
theorem linkOf_k1 {tab : Tab} {d e : PyData} (h : isKind e = false) : linkOf tab (.tuple [d, e]) = none := by
  unfold linkOf
  split
  · rename_i e
    cases e
    rw [show kinds.contains _ = false from h]
    simp
  · rfl
theorem linkOf_in {tab : Tab} {a b : Str} (h : (tab.lookup a).isSome = true) : linkOf tab (.tuple [.str a, .str b]) = none := by
  show (if _ then _ else _) = _
  rw [h]
  simp
theorem linkOf_ring {tab : Tab} {a b : Str} (h : goes tab a (dep tab.length) b = a) : linkOf tab (.tuple [.str a, .str b]) = none := by
  show (if (kinds.contains a && (kinds.contains b && (!(tab.lookup a).isSome && !decide (goes tab a (dep tab.length) b = a)))) = true then _ else _) = _
  rw [decide_eq_true h]
  simp
theorem linkOf_ok {tab : Tab} {a b : Str} (ha : kinds.contains a = true) (hb : kinds.contains b = true) (h : tab.lookup a = none) (g : ¬ goes tab a (dep tab.length) b = a) : linkOf tab (.tuple [.str a, .str b]) = some (a, b) := by
  show (if (kinds.contains a && (kinds.contains b && (!(tab.lookup a).isSome && !decide (goes tab a (dep tab.length) b = a)))) = true then _ else _) = _
  rw [decide_eq_false g, ha, hb, h] <;> rfl
theorem links_step {tab : Tab} {i : Nat} {d : PyData} {r : List PyData} {p : Str × Str} (h : linkOf tab d = some p) : links tab i (d :: r) = links (tab ++ [p]) (i + 1) r := by
  show (match linkOf tab d with
    | none => Sum.inl (some i)
    | some p => links (tab ++ [p]) (i + 1) r) = _
  rw [h]
theorem look_app {tab : Tab} {a b x : Str} : (tab ++ [(a, b)]).lookup x = match tab.lookup x with
    | some y => some y
    | none => if x = a then some b else none := by
  rw [List.lookup_append]
  cases tab.lookup x with
  | some y => rfl
  | none =>
    by_cases h : x = a
    · subst h; simp [List.lookup]
    · have : (x == a) = false := by simpa using h
      simp [List.lookup, this, h]
theorem Dn.mono {tab : Tab} : ∀ {n : Nat} {x : Str}, Dn tab n x → Dn tab (n + 1) x
  | 0, x, h => fun y e => by rw [show tab.lookup x = none from h] at e; cases e
  | n + 1, x, h => fun y e => Dn.mono (h y e)
theorem Dn.add {tab : Tab} {n m : Nat} {x : Str} (h : Dn tab n x) : Dn tab (n + m) x := by
  induction m with
  | zero => exact h
  | succ m ih => exact Dn.mono ih
theorem Dn.le {tab : Tab} {n m : Nat} {x : Str} (h : Dn tab n x) (l : n ≤ m) : Dn tab m x := by
  have := h.add (m := m - n)
  rwa [Nat.add_sub_cancel' l] at this
theorem Dn.off {tab : Tab} {a b : Str} (ha : tab.lookup a = none) : ∀ {n : Nat} {x : Str}, Dn tab n x → goes tab a n x ≠ a → Dn (tab ++ [(a, b)]) n x
  | 0, x, h, g => by
    show (tab ++ [(a, b)]).lookup x = none
    have h0 : tab.lookup x = none := h
    have g0 : x ≠ a := g
    rw [look_app, h0]
    exact if_neg g0
  | n + 1, x, h, g => fun y e => by
    rw [look_app] at e
    cases h0 : tab.lookup x with
    | some z =>
      rw [h0] at e
      cases e
      have hx : x ≠ a := fun q => by rw [q, ha] at h0; cases h0
      have g1 : goes tab a (n + 1) x = goes tab a n y := by
        show (match tab.lookup x with
          | none => x
          | some y => if x = a then x else goes tab a n y) = _
        rw [h0]
        exact if_neg hx
      exact Dn.off ha (h y h0) (by rw [← g1]; exact g)
    | none =>
      rw [h0] at e
      have g1 : goes tab a (n + 1) x = x := by
        show (match tab.lookup x with
          | none => x
          | some y => if x = a then x else goes tab a n y) = _
        rw [h0]
      have hx : x ≠ a := by rw [← g1]; exact g
      simp only [hx, if_false] at e
      cases e
theorem Dn.new {tab : Tab} {a b : Str} {m : Nat} (hb : Dn (tab ++ [(a, b)]) m b) : ∀ {n : Nat} {x : Str}, Dn tab n x → Dn (tab ++ [(a, b)]) (n + 1 + m) x
  | 0, x, h => by
    have h0 : tab.lookup x = none := h
    have e : 0 + 1 + m = m + 1 := by omega
    rw [e]
    intro y hy
    rw [look_app, h0] at hy
    by_cases hx : x = a
    · simp only [hx, if_true] at hy
      cases hy
      exact hb
    · simp only [hx, if_false] at hy
      cases hy
  | n + 1, x, h => by
    have e : n + 1 + 1 + m = (n + 1 + m) + 1 := by omega
    rw [e]
    intro y hy
    rw [look_app] at hy
    cases h0 : tab.lookup x with
    | some z =>
      rw [h0] at hy
      cases hy
      exact Dn.new hb (h y h0)
    | none =>
      rw [h0] at hy
      by_cases hx : x = a
      · simp only [hx, if_true] at hy
        cases hy
        exact hb.le (by omega)
      · simp only [hx, if_false] at hy
        cases hy
theorem Dn.link {tab : Tab} {a b : Str} (h : ∀ x, Dn tab (dep tab.length) x) (ha : tab.lookup a = none) (g : goes tab a (dep tab.length) b ≠ a) (x : Str) : Dn (tab ++ [(a, b)]) (dep (tab ++ [(a, b)]).length) x := by
  have hb := Dn.off (b := b) ha (h b) g
  have := Dn.new hb (h x)
  rw [List.length_append]
  exact this
end M
namespace Z
open PySem PySem.Spec PyProof.Rows L2 M
def encT (tab : Tab) : List (Key × V) := tab.map fun p => ((.inr p.1 : Key), .str p.2)
theorem valV_tab {tab : Tab} {k : Str} : valV (encT tab) (.inr k : Key) = (tab.lookup k).map .str := by
  induction tab with
  | nil => rfl
  | cons p r ih =>
    obtain ⟨a, b⟩ := p
    by_cases h : a = k
    · subst h
      rw [encT, List.map_cons, valV_pos rfl]
      simp [List.lookup]
    · have h2 : ¬ ((.inr a : Key) = .inr k) := fun z => h (Sum.inr.inj z)
      rw [encT, List.map_cons, valV_neg h2]
      have h3 : (k == a) = false := by simpa using fun z => h z.symm
      simp only [List.lookup, h3]
      exact ih
theorem putK_tab {tab : Tab} {a b : Str} (h : tab.lookup a = none) : putK (encT tab) (.inr a : Key) (.str b) = encT (tab ++ [(a, b)]) := by
  unfold putK
  rw [valV_any, valV_tab, h]
  simp [encT]
/-- any values, several -/
inductive AnAll (K : PySem.W.Frag) (H : Hp) : List V → List PyData → Prop
  | nil : AnAll K H [] []
  | cons {v : V} {vs : List V} {d : PyData} {ds : List PyData} : An K H v d → AnAll K H vs ds → AnAll K H (v :: vs) (d :: ds)
theorem AnAll.same {K : PySem.W.Frag} {H H' : Hp} (e : Same H H') : ∀ {vs : List V} {ds : List PyData}, AnAll K H vs ds → AnAll K H' vs ds
  | _, _, .nil => .nil
  | _, _, .cons a r => .cons (a.same e) (AnAll.same e r)
theorem AnAll.length {K : PySem.W.Frag} {H : Hp} : ∀ {vs : List V} {ds : List PyData}, AnAll K H vs ds → vs.length = ds.length
  | _, _, .nil => rfl
  | _, _, .cons _ r => by rw [List.length_cons, List.length_cons, AnAll.length r]
theorem AnAll.get {K : PySem.W.Frag} {H : Hp} : ∀ {vs : List V} {ds : List PyData} {i : Nat} {v : V}, AnAll K H vs ds → vs[i]? = some v → ∃ d, ds[i]? = some d ∧ An K H v d
  | _, _, _, _, .nil, e => by simp at e
  | _, _, 0, _, .cons h _, e => by simp at e; subst e; exact ⟨_, rfl, h⟩
  | _, _, i + 1, v, .cons _ r, e => by
    obtain ⟨d, h1, h2⟩ := AnAll.get (i := i) (v := v) r (by simpa using e)
    exact ⟨d, by simpa using h1, h2⟩
theorem AnAll.of {K : PySem.W.Frag} {H : Hp} : ∀ {vs : List V} {ds : List PyData}, ImAll K H vs ds → AnAll K H vs ds
  | _, _, .nil => .nil
  | _, _, .cons h r => .cons (.im h) (AnAll.of r)
section
variable {X : Cx} {c : Expr} {body : List Stmt} {σ : L2.St} {H : Hp} {pos : Pos} {nx bk ct : L2.St → Hp → Prop} {rt : VK}
theorem s_whileW (hc : Hc X) (W : Nat → L2.St → Hp → Prop) (m : Nat) (h0 : W m σ H)
    (hs : ∀ m σ H, W m σ H → WT X c σ H fun b H1 => if b = true then WB X body (fun σ' H' => ∃ m', m' < m ∧ W m' σ' H') rt nx (fun σ' H' => ∃ m', m' < m ∧ W m' σ' H') σ H1 else nx σ H1) : WS X (.While c body [] pos) nx rt bk ct σ H :=
  ws_of (ps_while hc.own (pt_w c) (pss_w body)) ⟨W, ⟨m, h0⟩, fun m σ H w => WT.mono (hs m σ H w) fun b H1 q => by
    cases b with
    | true => exact iteT ⟨_, fun _ _ z => z, (show WB X body _ rt nx _ σ H1 from q)⟩
    | false => exact q⟩
end
end Z

namespace M
open PySem PySem.Spec
/-- a telling: value, age -/
abbrev Tl := Option (Int × Int)
abbrev Strip := List (Int × Tl)
structure Lv where
  whole : Tl
  lanes : Strip
  files : Strip
  spots : List (Int × Strip)
def plain : Strip := [(0, none)]
def emptyLv : Lv := ⟨none, plain, plain, [(0, plain)]⟩
def encTl : Tl → PyData
  | none => .none
  | some (v, a) => .tuple [.int v, .int a]
end M
namespace Z
open PySem PySem.Spec PyProof.Rows L2 M
/-- levels at a -/
def LvAt (K : PySem.W.Frag) (H : Hp) (a : Addr) (lv : Lv) : Prop := ∃ dx w l f s, H a = some (.ins (He.ga K "Levels") dx [("whole", w), ("lanes", l), ("files", f), ("spots", s)]) ∧
  Im K H w (encTl lv.whole) ∧ Im K H l (encS encTl lv.lanes) ∧ Im K H f (encS encTl lv.files) ∧ Im K H s (encS (encS encTl) lv.spots)
theorem LvAt.same {K : PySem.W.Frag} {H H' : Hp} {a : Addr} {lv : Lv} (h : LvAt K H a lv) (e : Same H H') : LvAt K H' a lv := by
  obtain ⟨dx, w, l, f, s, h0, h1, h2, h3, h4⟩ := h
  exact ⟨dx, w, l, f, s, e _ _ h0, h1.same e, h2.same e, h3.same e, h4.same e⟩
end Z
namespace M
open PySem PySem.Spec
structure Tab3 where
  ink : Lv
  ground : Lv
  face : Lv
abbrev Ent := Tab3 × Int
structure Sh where
  order : Str
  links : List (Str × Str)
  tab : Tab3
  age : Int
  past : List Ent
  later : List Ent
def encL (l : List (Str × Str)) : List PyData := l.map fun p => .tuple [.str p.1, .str p.2]
def emptyTab : Tab3 := ⟨emptyLv, emptyLv, emptyLv⟩
def newSh (o : Str) (l : List (Str × Str)) : Sh := ⟨o, l, emptyTab, 0, [], []⟩
theorem linkOf_enc {tab : Tab} {d : PyData} {p : Str × Str} (h : linkOf tab d = some p) : d = .tuple [.str p.1, .str p.2] := by
  unfold linkOf at h
  split at h
  · split at h
    · cases h; rfl
    · cases h
  · cases h
theorem links_enc : ∀ {ds : List PyData} {tab tab' : Tab} {i : Nat}, links tab i ds = .inr tab' → ∃ more, tab' = tab ++ more ∧ ds = encL more
  | [], tab, tab', i, h => by cases h; exact ⟨[], by simp, rfl⟩
  | d :: r, tab, tab', i, h => by
    unfold links at h
    cases e : linkOf tab d with
    | none => rw [e] at h; cases h
    | some p =>
      rw [e] at h
      obtain ⟨more, h1, h2⟩ := links_enc h
      refine ⟨p :: more, by rw [h1]; simp, ?_⟩
      rw [linkOf_enc e, h2] <;> rfl
theorem linkFault_none {ds : List PyData} (h : linkFault ds = none) : ∃ l, ds = encL l := by
  unfold linkFault at h
  have key : ∀ {ds : List PyData} {tab : Tab} {i : Nat}, links tab i ds ≠ .inl none := by
    intro ds
    induction ds with
    | nil => intro tab i z; cases z
    | cons d r ih =>
      intro tab i z
      unfold links at z
      cases e : linkOf tab d with
      | none => rw [e] at z; cases z
      | some p => rw [e] at z; exact ih z
  cases e : links [] 0 ds with
  | inr tab => obtain ⟨more, _, h2⟩ := links_enc e; exact ⟨more, h2⟩
  | inl o =>
    rw [e] at h
    have h : o = none := h
    subst h
    exact absurd e key
end M
namespace Z
open PySem PySem.Spec PyProof.Rows L2 M
theorem bt_sql {S : List Addr} {K : PySem.W.Frag} {H H' : Hp} {a : Addr} {xs : List V} (b : Bt S H H') (h : SqL K H a xs) (n : a ∉ S) : SqL K H' a xs := by
  rcases h with (h | ⟨o, h⟩) | h
  · exact .inl (.inl (b _ _ h n))
  · exact .inl (.inr ⟨o, b _ _ h n⟩)
  · exact .inr h
/-- a table of levels at t -/
def TabAt (K : PySem.W.Frag) (H : Hp) (t : Addr) (tb : Tab3) : Prop := ∃ a b c, H t = some (.dK [((.inr "ink" : Key), .ref a), (.inr "ground", .ref b), (.inr "face", .ref c)]) ∧ LvAt K H a tb.ink ∧ LvAt K H b tb.ground ∧ LvAt K H c tb.face
theorem TabAt.same {K : PySem.W.Frag} {H H' : Hp} {t : Addr} {tb : Tab3} (h : TabAt K H t tb) (e : Same H H') : TabAt K H' t tb := by
  obtain ⟨a, b, c, h0, h1, h2, h3⟩ := h
  exact ⟨a, b, c, e _ _ h0, h1.same e, h2.same e, h3.same e⟩
inductive EntAll (K : PySem.W.Frag) (H : Hp) : List V → List Ent → Prop
  | nil : EntAll K H [] []
  | cons {p t : Addr} {vs : List V} {e : Ent} {es : List Ent} : SqT K H p [.ref t, .int e.2] → TabAt K H t e.1 → EntAll K H vs es → EntAll K H (.ref p :: vs) (e :: es)
theorem EntAll.same {K : PySem.W.Frag} {H H' : Hp} (e : Same H H') : ∀ {vs : List V} {es : List Ent}, EntAll K H vs es → EntAll K H' vs es
  | _, _, .nil => .nil
  | _, _, .cons a b r => .cons (e.tq a) (b.same e) (EntAll.same e r)
/-- a sheet at a; its lists of deeds at p, l -/
def ShAt (K : PySem.W.Frag) (H : Hp) (a p l : Addr) (s : Sh) : Prop := p ≠ l ∧ ∃ dx t lk ps ls, H a = some (.ins (He.ga K "Sheet") dx [("order", .str s.order), ("links", lk), ("table", .ref t), ("age", .int s.age), ("past", .ref p), ("later", .ref l)]) ∧
  Im K H lk (.tuple (encL s.links)) ∧ TabAt K H t s.tab ∧ H p = some (.lst ps) ∧ EntAll K H ps s.past ∧ H l = some (.lst ls) ∧ EntAll K H ls s.later
theorem ShAt.same {K : PySem.W.Frag} {H H' : Hp} {a p l : Addr} {s : Sh} (h : ShAt K H a p l s) (e : Same H H') : ShAt K H' a p l s := by
  obtain ⟨ne, dx, t, lk, ps, ls, h0, h1, h2, h3, h4, h5, h6⟩ := h
  exact ⟨ne, dx, t, lk, ps, ls, e _ _ h0, h1.same e, h2.same e, e _ _ h3, h4.same e, e _ _ h5, h6.same e⟩
theorem AnAll.im {K : PySem.W.Frag} {H : Hp} : ∀ {xs : List V} {l : List (Str × Str)}, AnAll K H xs (encL l) → ImAll K H xs (encL l)
  | _, [], .nil => .nil
  | _, p :: r, .cons a b => by
    refine .cons ?_ (AnAll.im b)
    cases a with
    | im h => exact h
end Z
namespace Z
open PySem PySem.Spec PyProof.Rows L2 M
/-- the kinds' dict so far -/
def kv3 (as : List Addr) : List (Key × V) := List.zipWith (fun k a => ((.inr k : Key), V.ref a)) kinds as
theorem kv3_put {as : List Addr} {i : Nat} {x : V} {p : Addr} (h : as.length = i) (hi : i < 3) (hx : ([.str "ink", .str "ground", .str "face"] : List V)[i]? = some x) : ∃ k : Key, x = kV k ∧ putK (kv3 as) k (.ref p) = kv3 (as ++ [p]) := by
  match as, i, h with
  | [], _, rfl => cases hx; exact ⟨.inr "ink", rfl, rfl⟩
  | [a], _, rfl => cases hx; exact ⟨.inr "ground", rfl, rfl⟩
  | [a, b], _, rfl => cases hx; exact ⟨.inr "face", rfl, rfl⟩
  | _ :: _ :: _ :: _, _, rfl => simp at hi; omega
theorem kv3_length {as : List Addr} : (kv3 as).length ≤ 3 := by
  unfold kv3
  rw [List.length_zipWith]
  exact Nat.min_le_left _ _
end Z
namespace Z
open PySem PySem.Spec PyProof.Rows L2 M
theorem same_none {H H' : Hp} {p : Addr} (e : Same H H') (h : H' p = none) : H p = none := by
  cases z : H p with
  | none => rfl
  | some o => rw [e _ _ z] at h; cases h
theorem bt_none {S : List Addr} {H H' : Hp} {p : Addr} (e : Bt S H H') (h : H' p = none) (n : p ∉ S) : H p = none := by
  cases z : H p with
  | none => rfl
  | some o => rw [e _ _ z n] at h; cases h
theorem LvAt.bt {S : List Addr} {K : PySem.W.Frag} {H H' : Hp} {a : Addr} {lv : Lv} (h : LvAt K H a lv) (b : Bt S H H') (t : Tx H H') (n : a ∉ S) : LvAt K H' a lv := by
  obtain ⟨dx, w, l, f, s, h0, h1, h2, h3, h4⟩ := h
  exact ⟨dx, w, l, f, s, b _ _ h0 n, h1.tx t, h2.tx t, h3.tx t, h4.tx t⟩
theorem LvAt.ne {K : PySem.W.Frag} {H : Hp} {a b : Addr} {lv : Lv} {kvs : List (Key × V)} (h : LvAt K H a lv) (hb : H b = some (.dK kvs)) : a ≠ b := by
  obtain ⟨dx, w, l, f, s, h0, _⟩ := h
  rintro rfl
  rw [h0] at hb
  cases hb
end Z
namespace Z
open PySem PySem.Spec PyProof.Rows L2 M
theorem EntAll.length {K : PySem.W.Frag} {H : Hp} : ∀ {vs : List V} {es : List Ent}, EntAll K H vs es → vs.length = es.length
  | _, _, .nil => rfl
  | _, _, .cons _ _ r => by rw [List.length_cons, List.length_cons, EntAll.length r]
end Z
namespace M
open PySem PySem.Spec
def Tab3.get (t : Tab3) (k : Str) : Lv := if k = "ink" then t.ink else if k = "ground" then t.ground else t.face
theorem kind3 {k : Str} (h : kinds.contains k = true) : k = "ink" ∨ k = "ground" ∨ k = "face" := by
  simpa [kinds] using h
theorem thingAt_one {α : Type} {x : α} {r : Int} (h : 0 ≤ r) : thingAt [(0, x)] r none = some x := by
  unfold thingAt
  rw [if_neg (by omega)]
  rfl
theorem look_take {l : List (Str × Str)} {i : Nat} {a b k : Str} (h : (l.take i).lookup k = none) (e : l[i]? = some (a, b)) : (l.take (i + 1)).lookup k = if k = a then some b else none := by
  rw [Z.take_at e]
  have := look_app (tab := l.take i) (a := a) (b := b) (x := k)
  rw [h] at this
  exact this
theorem look_more {l : List (Str × Str)} {i : Nat} {k b : Str} (h : (l.take i).lookup k = some b) : l.lookup k = some b := by
  have : l = l.take i ++ l.drop i := (List.take_append_drop i l).symm
  rw [this, List.lookup_append, h]
  rfl
end M
namespace Z
open PySem PySem.Spec PyProof.Rows L2 M
theorem TabAt.get {K : PySem.W.Frag} {H : Hp} {t : Addr} {tb : Tab3} {k : Str} (h : TabAt K H t tb) (hk : kinds.contains k = true) : ∃ b kvs, H t = some (.dK kvs) ∧ valV kvs (.inr k : Key) = some (.ref b) ∧ LvAt K H b (tb.get k) := by
  obtain ⟨a, b, c, h0, h1, h2, h3⟩ := h
  rcases kind3 hk with rfl | rfl | rfl
  · exact ⟨a, _, h0, rfl, h1⟩
  · exact ⟨b, _, h0, rfl, h2⟩
  · exact ⟨c, _, h0, rfl, h3⟩
theorem link_get {K : PySem.W.Frag} {H : Hp} {l : List (Str × Str)} {xs : List V} {i : Nat} {x : V} (h : ImAll K H xs (encL l)) (hi : xs[i]? = some x) :
    ∃ (a b : Str) (p : Addr), l[i]? = some (a, b) ∧ x = .ref p ∧ SqT K H p [.str a, .str b] := by
  obtain ⟨dd, e1, e2⟩ := h.get hi
  unfold encL at e1
  rw [List.getElem?_map] at e1
  obtain ⟨⟨a, b⟩, e3, rfl⟩ := Option.map_eq_some_iff.mp e1
  obtain ⟨p, x, u, rfl, h3, h4, h5⟩ := e2.pair_inv
  obtain rfl := h4.str_inv
  obtain rfl := h5.str_inv
  exact ⟨a, b, p, e3, rfl, h3⟩
end Z
namespace M
open PySem PySem.Spec
theorem tab_empty (k : Str) : emptyTab.get k = emptyLv := by
  unfold Tab3.get
  split
  · rfl
  · split
    · rfl
    · rfl
end M

/-! methods of lists, a dict while it is walked -/
namespace Z
open PySem PySem.Spec PyProof.Rows L2
section
variable {X : Cx} {e e2 o : Expr} {es : List Expr} {σ : L2.St} {H : Hp} {Q : VK} {pos p apos : Pos} {K : PySem.W.Frag}
/-- what a call of a built-in's method asks of the text -/
def BmT (X : Cx) (o : Expr) (name : Str) (e : Expr) (es : List Expr) (apos pos : Pos) : Prop := attributeBase o name X.env (eval o X.env) = eval o X.env ∧
  ((backTo pos (starEach (e :: es) X.env)).all (fun x => !x.1) && (backToKw pos (keywordEach [] X.env)).all (fun x => x.1.isSome) && decide ((e :: es).length + ([] : List Keyword).length + (if ([] : List Keyword).isEmpty then 0 else 1) < 30)) = true ∧
  (apos.endLine == pos.line) = true ∧ starEach (e :: es) X.env = (false, eval e X.env) :: starEach es X.env ∧ (backTo pos (starEach es X.env)).any (·.1) = false
theorem w_bm {T : String} {name : Str} {id : String} {r : V → List V → Hp → VK → Prop} (pa : PlainAttrs T) (slot : Slot T name id) (hty : typeOf (.builtin id) = pure (.type "method_descriptor")) (hm : MtR X id r) (c : BmT X o name e es apos pos)
    (h : WE X o σ H fun x H1 => tyV X.K T x H1 ∧ WA X (e :: es) σ H1 fun vs H2 => r x vs H2 Q) : WE X (.Call (.Attribute o name apos) (e :: es) [] pos) σ H Q :=
  we_of (pe_bm pa slot hty hm (pe_w o) (pa_w _) c.1 c.2.1 c.2.2.1 c.2.2.2.1 c.2.2.2.2) h
theorem w_bm0 {T : String} {name : Str} {id : String} {r : V → List V → Hp → VK → Prop} (pa : PlainAttrs T) (slot : Slot T name id) (hty : typeOf (.builtin id) = pure (.type "method_descriptor")) (hm : MtR X id r)
    (hb : attributeBase o name X.env (eval o X.env) = eval o X.env) (hl : (apos.endLine == pos.line) = true)
    (h : WE X o σ H fun x H1 => tyV X.K T x H1 ∧ r x [] H1 Q) : WE X (.Call (.Attribute o name apos) [] [] pos) σ H Q := we_of (pe_bm0 pa slot hty hm (pe_w o) hb hl) h
/-- l.insert(i, e) -/
def InsTo (H : Hp) (x i y : V) (R : Hp → Prop) : Prop := ∃ l xs, ∃ k : Int, x = .ref l ∧ i = .int k ∧ H l = some (.lst xs) ∧ xs.length < sizeLine ∧ 0 ≤ k ∧ k < 2 ^ 63 ∧ ChgAt H l (.lst (xs.take k.toNat ++ [y] ++ xs.drop k.toNat)) R
theorem ins_to {l : Addr} {xs : List V} {k : Int} {y : V} {R : Hp → Prop} (h : H l = some (.lst xs)) (hz : xs.length < sizeLine) (h0 : 0 ≤ k) (h1 : k < 2 ^ 63) (q : ∀ H2, Bt [l] H H2 → Tx H H2 → H2 l = some (.lst (xs.take k.toNat ++ [y] ++ xs.drop k.toNat)) → R H2) : InsTo H (.ref l) (.int k) y R :=
  ⟨l, xs, k, rfl, rfl, h, hz, h0, h1, q⟩
instance : Stp (WE X (.Call (.Attribute o "insert" apos) [e, e2] [] pos) σ H Q) (Sd (BmT X o "insert" e [e2] apos pos) (Sd (starEach [e2] X.env = (false, eval e2 X.env) :: starEach [] X.env)
    (WE X o σ H fun x H1 => IsLst X.K H1 x (WE X e σ H1 fun i H2 => WE X e2 σ H2 fun y H3 => InsTo H3 x i y fun H4 => Q .non H4)))) :=
  ⟨fun ⟨c, c2, h⟩ => w_bm PySem.F.plainAttrs_list PySem.F.slot_list_insert PySem.F.type_list_insert mt_insert c (h.mono (by
    rintro x H1 ⟨⟨l, xs, rfl, hx⟩, q⟩
    refine ⟨.inl ⟨rfl, xs, hx⟩, a_cons c.2.2.2.1 (q.mono fun i H2 q => a_cons c2 (q.mono ?_))⟩
    rintro y H3 ⟨l', ys, k, el, rfl, hl, hz, h0, h1, q⟩
    cases el
    exact a_nil ⟨l, ys, k, y, rfl, rfl, hl, hz, h0, h1, q _ (.put (by simp)) (.put hl trivial) upd_same⟩))⟩
/-- an expression runs while the dict at d is walked -/
theorem w_lock {d : Addr} {kvs : List (Key × V)} (h : H d = some (.dK kvs)) (q : ∀ od H1, H1 d = some (.frz od (.dK kvs)) → Bt [d] H H1 → Tx H H1 → WE X e σ H1 fun v H' => Same H1 H' ∧ ∀ H2, Same H H2 → Bt [d] H' H2 → Tx H' H2 → Q v H2) : WE X e σ H Q := by
  refine we_of (pe_lock (pe_w e)) ⟨d, _, h, trivial, fun od => (q od _ upd_same (.put (by simp)) (.put h trivial)).mono ?_⟩
  rintro v H' ⟨es, q⟩
  have hd : H' d = some (.frz od (.dK kvs)) := es _ _ upd_same
  refine ⟨hd, q _ (fun a o ha => ?_) (.put (by simp)) (fun a xs r => ?_)⟩
  · by_cases z : a = d
    · subst z; rw [upd_same, ← ha, h]
    · rw [upd_ne z]; exact es _ _ (by rw [upd_ne z]; exact ha)
  · have ne : a ≠ d := by
      rintro rfl
      rcases r with r | ⟨w, r⟩ <;> (rw [hd] at r; cases r)
    rcases r with r | ⟨w, r⟩
    · exact .inl (by rw [upd_ne ne]; exact r)
    · exact .inr ⟨w, by rw [upd_ne ne]; exact r⟩
/-- for x in d, d a dict that is walked -/
theorem wi_keys {tg iter : Expr} {R : It → Hp → Prop} (h : WE X iter σ H fun x H1 => ∃ d o kvs, x = .ref d ∧ H1 d = some (.frz o (.dK kvs)) ∧ R (Itk d o kvs) H1) : WI X tg iter σ H R := by
  refine wi_of (pi_keys (pe_w iter)) (h.mono ?_)
  rintro x H1 ⟨d, o, kvs, rfl, hd, q⟩
  exact ⟨d, o, rfl, .inl ⟨kvs, hd, q⟩⟩
end
end Z
namespace Z
open PySem PySem.Spec PyProof.Rows L2
/-! ### data in lists -/
/-- a list of such data -/
def LiAt (K : PySem.W.Frag) (H : Hp) (a : Addr) (ds : List PyData) : Prop := ∃ xs, H a = some (.lst xs) ∧ ImAll K H xs ds
section
variable {K : PySem.W.Frag} {H H' : Hp} {a : Addr} {ds : List PyData} {X : Cx} {Q : VK}
theorem LiAt.same (h : LiAt K H a ds) (e : Same H H') : LiAt K H' a ds := by
  obtain ⟨xs, h1, h2⟩ := h
  exact ⟨xs, e _ _ h1, h2.same e⟩
theorem LiAt.bt {S : List Addr} (h : LiAt K H a ds) (b : Bt S H H') (t : Tx H H') (n : a ∉ S) : LiAt K H' a ds := by
  obtain ⟨xs, h1, h2⟩ := h
  exact ⟨xs, b _ _ h1 n, h2.tx t⟩
/-- what a place of a tuple, a list holds -/
theorem ix_im {v : V} {i : Int} {d : PyData} (h : Im K H v (.tuple ds)) (hi : 0 ≤ i) (e : ds[i.toNat]? = some d) (q : ∀ w, Im K H w d → Q w H) : rIxA K v (.int i) H Q := by
  obtain ⟨b, xs, rfl, h1, h2⟩ := h.tup_inv
  obtain ⟨w, e1, e2⟩ := h2.at e
  exact ix_t h1 (by rw [show i = ((i.toNat : Nat) : Int) by omega, atI_nat]; exact e1) (q w e2)
theorem ix_li {i : Int} {d : PyData} (h : LiAt K H a ds) (hi : 0 ≤ i) (e : ds[i.toNat]? = some d) (q : ∀ w, Im K H w d → Q w H) : rIxA K (.ref a) (.int i) H Q := by
  obtain ⟨xs, h1, h2⟩ := h
  obtain ⟨w, e1, e2⟩ := h2.at e
  exact ix_l (sql_new h1) (by rw [show i = ((i.toNat : Nat) : Int) by omega, atI_nat]; exact e1) (q w e2)
theorem LiAt.dp (h : LiAt K H a ds) : Dp K H (.ref a) (.list ds) := by
  obtain ⟨xs, h1, h2⟩ := h
  exact .lst (sql_new h1) h2.dp
end
/-! the law's draws, kept -/
theorem DrAt.ne {H : Hp} {l c p : Addr} (h : DrAt H l c) (n : H p = none) : p ≠ l := by
  obtain ⟨_, _, _, _, _, h1, _⟩ := h
  rintro rfl
  rw [h1] at n
  cases n
theorem DrAt.ne2 {H : Hp} {l c p : Addr} (h : DrAt H l c) (n : H p = none) : p ≠ c := by
  obtain ⟨_, _, _, _, _, _, h1, _⟩ := h
  rintro rfl
  rw [h1] at n
  cases n
/-- p is none of the draws' objects -/
structure Off (p l c : Addr) : Prop where
  l : p ≠ l
  c : p ≠ c
theorem DrAt.off {H : Hp} {l c p : Addr} (h : DrAt H l c) (n : H p = none) : Off p l c := ⟨h.ne n, h.ne2 n⟩
theorem DrAt.chg {H H' : Hp} {l c p : Addr} (h : DrAt H l c) (b : Bt [p] H H') (o : Off p l c) : DrAt H' l c := h.bt b (fun z => o.l (List.mem_singleton.mp z).symm) (fun z => o.c (List.mem_singleton.mp z).symm)
theorem fresh_ne {H : Hp} {p q : Addr} {o : HO} (h : H p = none) (h2 : H q = some o) : p ≠ q := by
  rintro rfl
  rw [h2] at h
  cases h
/-! an error's field, in an except suite -/
structure XfG (X : Cx) (a : Addr) (pn : List (Addr × Obj)) (e : Expr) (f : Str) (p : Pos) (σ : L2.St) (H : Hp) (Q : VK) : Prop where
  go : WE (X.suite a pn) (.Attribute e f p) σ H Q
instance (priority := high + 1) {X : Cx} {a : Addr} {pn : List (Addr × Obj)} {e : Expr} {f : Str} {p : Pos} {σ : L2.St} {H : Hp} {Q : VK} : Stp (WE (X.suite a pn) (.Attribute e f p) σ H Q) (XfG X a pn e f p σ H Q) := ⟨fun h => h.go⟩
theorem xf_g {X : Cx} {a C dd : Addr} {oe : Obj} {pn : List (Addr × Obj)} {e : Expr} {f : Str} {p : Pos} {σ : L2.St} {H : Hp} {Q : VK} {fs : List (Str × V)} {v : V} (T : XfC X.K C) (hno : PySem.W.findIn X.K (.ref C) f = some none)
    (hz : L2N.Zn (.ref C) (some dd) oe) (hf : ∃ vs, oe.data = .fields vs) (hb : attributeBase e f X.env (eval e X.env) = eval e X.env) (hd : H dd = some (.xd fs)) (hl : fs.lookup f = some v)
    (h : WE (X.suite a ((a, oe) :: pn)) e σ H fun x H1 => x = .ref a ∧ H1 = H ∧ Q v H) : XfG X a ((a, oe) :: pn) e f p σ H Q := by
  refine ⟨we_of (pe_xf T hno hz.zc hf (pe_w e) hb) (h.mono ?_)⟩
  rintro x H1 ⟨rfl, rfl, q⟩
  exact ⟨rfl, rfl, dd, fs, v, rfl, hd, hl, q⟩
/-- an own new instance -/
theorem new_ins {H : Hp} {C : Addr} {R : Addr → Addr → Hp → Prop} (h : ∀ p dx H2, H p = none → Same H H2 → H2 p = some (.ins C dx []) → R p dx H2) : NewIns H C R := h
/-! the same facts, in the order in which they are looked for -/
theorem dr_same {H H' : Hp} {l c : Addr} (e : Same H H') (h : DrAt H l c) : DrAt H' l c := h.same e
theorem dr_chg {H H' : Hp} {l c p : Addr} (b : Bt [p] H H') (o : Off p l c) (h : DrAt H l c) : DrAt H' l c := h.chg b o
theorem sq_bt {S : List Addr} {K : PySem.W.Frag} {H H' : Hp} {a : Addr} {xs : List V} (b : Bt S H H') (n : a ∉ S) (h : SqL K H a xs) : SqL K H' a xs := by
  rcases h with (h | ⟨o, h⟩) | h
  · exact .inl (.inl (b _ _ h n))
  · exact .inl (.inr ⟨o, b _ _ h n⟩)
  · exact .inr h
theorem sq_tx {K : PySem.W.Frag} {H H' : Hp} {a : Addr} {xs : List V} (e : Tx H H') (h : SqT K H a xs) : SqT K H' a xs := e.sqt h
theorem sq_same {K : PySem.W.Frag} {H H' : Hp} {a : Addr} {xs : List V} (e : Same H H') (h : SqT K H a xs) : SqT K H' a xs := (Tx.of e).sqt h
theorem ob_bt {S : List Addr} {H H' : Hp} {a : Addr} {o : HO} (e : Bt S H H') (n : a ∉ S) (h : H a = some o) : H' a = some o := e _ _ h n
theorem im_tx {K : PySem.W.Frag} {H H' : Hp} {v : V} {d : PyData} (e : Tx H H') (h : Im K H v d) : Im K H' v d := h.tx e
theorem im_same {K : PySem.W.Frag} {H H' : Hp} {v : V} {d : PyData} (e : Same H H') (h : Im K H v d) : Im K H' v d := h.same e
theorem ims_tx {K : PySem.W.Frag} {H H' : Hp} {v : List V} {d : List PyData} (e : Tx H H') (h : ImAll K H v d) : ImAll K H' v d := h.tx e
theorem ims_same {K : PySem.W.Frag} {H H' : Hp} {v : List V} {d : List PyData} (e : Same H H') (h : ImAll K H v d) : ImAll K H' v d := h.same e
theorem dr_ne {H : Hp} {l c p : Addr} (n : H p = none) (h : DrAt H l c) : p ≠ l := h.ne n
theorem off_nil {p : Addr} : p ∉ ([] : List Addr) := fun h => nomatch h
theorem off_cons {p q : Addr} {S : List Addr} (n : p ≠ q) (h : p ∉ S) : p ∉ q :: S := fun z => (List.mem_cons.mp z).elim n h
end Z

/-! texts: join, split, str, int; lists and tuples added -/
namespace Z
open PySem PySem.Spec PyProof.Rows L2
/-- what isinstance asks of an instance's class -/
structure InsC (K : PySem.W.Frag) (C : Addr) : Prop where
  c1 : PySem.W.findIn K (.ref C) "__class__" = some (some (.builtin "object.__class__"))
  c2 : PySem.W.specialIn K (.builtin "object.__class__") "__get__" = some (some (.builtin "getset_descriptor.__get__"))
  c3 : PySem.W.takesIn K (.builtin "object.__class__") = some true
  c4 : PySem.W.mroIn K C (.type "object") = some true
/-- an own class by its name -/
class Ocl (X : Cx) (x : Str) (C : outParam Addr) : Prop where
  gn : Gn X x
  gC : X.mg x = some (.ref C)
section
variable {X : Cx} {e o a b : Expr} {σ : L2.St} {H : Hp} {Q : VK} {pos p apos : Pos} {K : PySem.W.Frag}
/-- what a call of a text's method with one argument asks of the text -/
abbrev TmT (X : Cx) (o : Expr) (name : Str) (e : Expr) (apos pos : Pos) : Prop := starEach [e] X.env = [(false, eval e X.env)] ∧ attributeBase o name X.env (eval o X.env) = eval o X.env ∧ (apos.endLine == pos.line) = true
def IsTx (x : V) (R : Prop) : Prop := (∃ a, x = .str a) ∧ R
instance {x : Str} {R : Prop} : Stp (IsTx (.str x) R) R := ⟨fun q => ⟨⟨x, rfl⟩, q⟩⟩
def JoinS (K : PySem.W.Frag) (x y : V) (H : Hp) (Q : VK) : Prop := ∃ a p, ∃ ys : List Str, x = .str a ∧ y = .ref p ∧ (SqL K H p (ys.map V.str) ∨ SqT K H p (ys.map V.str)) ∧ (ys.map (·.length)).sum + ys.length * a.length ≤ 16777216 ∧ Q (.str (Txt.join a ys)) H
theorem join_l {a : Str} {p : Addr} {ys : List Str} (h : SqL K H p (ys.map V.str)) (hz : (ys.map (·.length)).sum + ys.length * a.length ≤ 16777216) (q : Q (.str (Txt.join a ys)) H) : JoinS K (.str a) (.ref p) H Q := ⟨a, p, ys, rfl, rfl, .inl h, hz, q⟩
instance : Stp (WE X (.Call (.Attribute o "join" apos) [e] [] pos) σ H Q) (Sd (TmT X o "join" e apos pos) (WE X o σ H fun x H1 => IsTx x (WE X e σ H1 fun y H2 => JoinS X.K x y H2 Q))) :=
  ⟨fun ⟨c, h⟩ => we_of (pe_m1 PySem.F.slot_str_join PySem.F.type_str_join mt_join (pe_w o) (pe_w e) c.1 c.2.1 c.2.2) (h.mono (by
    rintro x H1 ⟨hx, q⟩
    refine ⟨hx, q.mono ?_⟩
    rintro y H2 ⟨a, p, ys, rfl, rfl, h1, h2, q⟩
    exact ⟨a, p, ys, rfl, rfl, h1, h2, q⟩))⟩
def SplS (x y : V) (H : Hp) (Q : VK) : Prop := ∃ a b : Str, x = .str a ∧ y = .str b ∧ (b.length == 0) = false ∧ a.length + 2 ≤ 16777216 ∧ NewAt H (.lst ((Txt.split a b).map .str)) fun p H2 => Q (.ref p) H2
theorem spl_s {a b : Str} (h : (b.length == 0) = false) (hz : a.length + 2 ≤ 16777216) (q : NewAt H (.lst ((Txt.split a b).map .str)) fun p H2 => Q (.ref p) H2) : SplS (.str a) (.str b) H Q := ⟨a, b, rfl, rfl, h, hz, q⟩
instance : Stp (WE X (.Call (.Attribute o "split" apos) [e] [] pos) σ H Q) (Sd (TmT X o "split" e apos pos) (WE X o σ H fun x H1 => IsTx x (WE X e σ H1 fun y H2 => SplS x y H2 Q))) :=
  ⟨fun ⟨c, h⟩ => we_of (pe_m1 PySem.F.slot_str_split PySem.F.type_str_split mt_split (pe_w o) (pe_w e) c.1 c.2.1 c.2.2) (h.mono (by
    rintro x H1 ⟨hx, q⟩
    refine ⟨hx, q.mono ?_⟩
    rintro y H2 ⟨a, b, rfl, rfl, h1, h2, q⟩
    exact ⟨a, b, rfl, rfl, h1, h2, new_g q⟩))⟩
/-- str(x) -/
def StrA (x : V) (H : Hp) (Q : VK) : Prop := (∃ i : Int, x = .int i ∧ i.natAbs.log2 < 1920 ∧ Q (.str (toString i)) H) ∨ ∃ a, x = .str a ∧ Q (.str a) H
theorem str_i {i : Int} (h : i.natAbs.log2 < 1920) (q : Q (.str (toString i)) H) : StrA (.int i) H Q := .inl ⟨i, rfl, h, q⟩
instance {x : Str} : Stp (StrA (.str x) H Q) (Q (.str x) H) := ⟨fun q => .inr ⟨x, rfl, q⟩⟩
theorem call_strA : CallR X (.type "str") (fun xs H Q => ∃ x, xs = [x] ∧ StrA x H Q) := fun pins s σ H xs us Q I r ⟨x, e, h⟩ => by
  subst e
  rcases h with ⟨i, rfl, h, q⟩ | ⟨a, rfl, q⟩
  · exact call_str_int pins s σ H _ us Q I r ⟨i, rfl, h, q⟩
  · exact SkE.call_str_str pins s σ H _ us Q I r ⟨a, rfl, q⟩
instance (priority := high) [n : Bnc X "str"] : Stp (WE X (.Call (.Name "str" p) [e] [] pos) σ H Q) (Sd (starEach [e] X.env = (false, eval e X.env) :: starEach [] X.env ∧ (backTo pos (starEach [] X.env)).any (·.1) = false) (WE X e σ H fun y H1 => StrA y H1 Q)) :=
  ⟨fun z => w_t1 call_strA n.bn (by decide +kernel) z.1 (z.2.mono fun y H1 q => ⟨y, rfl, q⟩)⟩
theorem add_gl {a b : Addr} {xs ys : List V} (ha : H a = some (.lst xs)) (hb : H b = some (.lst ys)) (hz : xs.length + ys.length ≤ 16777216) (q : NewAt H (.lst (xs ++ ys)) fun p H2 => Q (.ref p) H2) : rAddA K (.ref a) (.ref b) H Q := add_lstG ha hb hz q
/-- tuple + tuple -/
theorem add_gt {a b : Addr} {xs ys : List V} (ha : SqT K H a xs) (hb : SqT K H b ys) (hz : xs.length + ys.length ≤ 16777216) (q : SubT K H (xs ++ ys) fun p H2 => Q (.ref p) H2) : rAddA K (.ref a) (.ref b) H Q := by
  refine add_tup ha hb hz ⟨fun e => q b H (Same.refl H) (by rw [e]; exact hb), fun _ e => q a H (Same.refl H) (by rw [e, List.append_nil]; exact ha), fun _ _ => ?_⟩
  exact new_g fun p H2 _ hs h2 => q p H2 hs (.inl (.inl h2))
theorem sub_t {xs : List V} {R : Addr → Hp → Prop} (h : ∀ p H2, Same H H2 → SqT K H2 p xs → R p H2) : SubT K H xs R := h
/-- a place of a written list of texts -/
theorem ix_strs {a : Addr} {vs : List V} (ws : List Str) {z : Int} (h : SqL X.K H a vs) (e : vs = ws.map .str) (h0 : 0 ≤ z) (h1 : z < ws.length) (q : ∀ w ∈ ws, Q (.str w) H) : rIxA X.K (.ref a) (.int z) H Q := by
  obtain ⟨k, rfl⟩ : ∃ k : Nat, z = (k : Int) := ⟨z.toNat, by omega⟩
  have hk : k < ws.length := by omega
  subst e
  exact ix_l h (atI_nat (by rw [List.getElem?_map, List.getElem?_eq_getElem hk]; rfl)) (q _ (List.getElem_mem hk))
theorem ix_tn {a : Addr} {xs : List V} {i : Int} {v : V} (h : SqT X.K H a xs) (h0 : 0 ≤ i) (e : xs[i.toNat]? = some v) (q : Q v H) : rIxA X.K (.ref a) (.int i) H Q := by
  refine ix_t h ?_ q
  rw [show i = ((i.toNat : Nat) : Int) by omega]
  exact atI_nat e
theorem ix_ln {a : Addr} {xs : List V} {i : Int} {v : V} (h : SqL X.K H a xs) (h0 : 0 ≤ i) (e : xs[i.toNat]? = some v) (q : Q v H) : rIxA X.K (.ref a) (.int i) H Q := by
  refine ix_l h ?_ q
  rw [show i = ((i.toNat : Nat) : Int) by omega]
  exact atI_nat e
instance (priority := high) {x : Str} {C : Addr} {p2 : Pos} [n : Bnc X "isinstance"] [g : Ocl X x C] : Stp (WE X (.Call (.Name "isinstance" p) [e, .Name x p2] [] pos) σ H Q)
    (Sd (starEach [e, .Name x p2] X.env = (false, eval e X.env) :: starEach [.Name x p2] X.env ∧ starEach [.Name x p2] X.env = (false, eval (.Name x p2) X.env) :: starEach [] X.env ∧ (backTo pos (starEach [.Name x p2] X.env)).any (·.1) = false)
      (WE X e σ H fun y H1 => IsI X.K y (.ref C) H1 fun b => Q (.bl b) H1)) :=
  ⟨fun z => w_b2 call_isi n.bn (by decide +kernel) z.1 (z.2.mono fun y H1 ⟨t', b, hy, hk, q⟩ => w_glob g.gn g.gC (v := .ref C) rfl ⟨y, .ref C, t', .ref C, b, rfl, .own C, hy, hk, q⟩)⟩
theorem isi_i {C dx a : Addr} {fs : List (Str × V)} {R : Bool → Prop} (h : H a = some (.ins C dx fs)) (c : Cls K C) (i : InsC K C) (q : R true) : IsI K (.ref a) (.ref C) H R :=
  ⟨.ref C, true, .base (.ins h c i.c1 i.c2 i.c3 i.c4), by unfold PySem.W.kitOne; rw [beq_self_eq_true]; rfl, q⟩
theorem isi_no {u v : Value} {x : V} {R : Bool → Prop} (h : TyX K H x u) (k : PySem.W.kitOne K u v = some false) (q : R false) : IsI K x v H R := ⟨u, false, h, k, q⟩
end
end Z

/-! checks for the head: constants, exceptions with a field -/
namespace Z
open PySem PySem.Spec PyProof.Rows L2
/-- the value u of the written part is the datum d -/
def imB (K : PySem.W.Frag) : Nat → Value → PyData → Bool
  | 0, _, _ => false
  | _ + 1, .none, .none => true
  | _ + 1, .int i _, .int j => decide (i = j)
  | _ + 1, .str i _, .str j => decide (i = j)
  | n + 1, .ref a, .tuple ds => (match K.lookup a with
    | some ⟨.type c, _, .seq its _, _⟩ => decide (c = "tuple") && (decide (its.size ≤ sizeLine) && (decide (its.toList.length = ds.length) && (its.toList.zip ds).all fun p => imB K n p.1 p.2))
    | _ => false)
  | _ + 1, _, _ => false
theorem imAll_of {K : PySem.W.Frag} {n : Nat} (ih : ∀ u d, imB K n u d = true → ∃ v, RelV v u ∧ ∀ H, Im K H v d) : ∀ (us : List Value) (ds : List PyData), us.length = ds.length → ((us.zip ds).all fun p => imB K n p.1 p.2) = true → ∃ vs, Vals vs us ∧ ∀ H, ImAll K H vs ds
  | [], [], _, _ => ⟨[], .nil, fun _ => .nil⟩
  | [], _ :: _, h, _ => by cases h
  | _ :: _, [], h, _ => by cases h
  | u :: us, d :: ds, h, q => by
    rw [List.zip_cons_cons, List.all_cons, Bool.and_eq_true] at q
    obtain ⟨v, r1, i1⟩ := ih u d q.1
    obtain ⟨vs, r2, i2⟩ := imAll_of ih us ds (by simpa using h) q.2
    exact ⟨v :: vs, .cons r1 r2, fun H => .cons (i1 H) (i2 H)⟩
theorem imB_ok {K : PySem.W.Frag} : ∀ (n : Nat) (u : Value) (d : PyData), imB K n u d = true → ∃ v, RelV v u ∧ ∀ H, Im K H v d
  | 0, _, _, h => by cases h
  | n + 1, u, d, h => by
    unfold imB at h
    split at h
    · rename_i e; cases e
    · exact ⟨.non, rfl, fun _ => .non⟩
    · obtain rfl := of_decide_eq_true h
      exact ⟨.int _, ⟨_, rfl⟩, fun _ => .int _⟩
    · obtain rfl := of_decide_eq_true h
      exact ⟨.str _, ⟨_, rfl⟩, fun _ => .str _⟩
    · rename_i e1
      split at h
      · rename_i c dd its m sl hk
        simp only [Bool.and_eq_true, decide_eq_true_eq] at h
        obtain ⟨rfl, h2, h3, h4⟩ := h
        cases e1
        obtain ⟨vs, r, i⟩ := imAll_of (imB_ok n) _ _ h3 h4
        exact ⟨.ref _, rfl, fun H => .tup (.inr ⟨_, its, m, hk, rfl, rfl, h2, r⟩) (i H)⟩
      · cases h
    · cases h
/-- a global tuple -/
def glB (K : PySem.W.Frag) (x : Str) (d : PyData) : Bool := imB K 9 (.ref (He.ga K x)) d
theorem glB_ok {K : PySem.W.Frag} {x : Str} {d : PyData} (h : glB K x d = true) : ∀ H, Im K H (.ref (He.ga K x)) d := by
  obtain ⟨v, r, i⟩ := imB_ok _ _ _ h
  cases v with
  | ref a =>
    have e : Value.ref (He.ga K x) = Value.ref a := r
    cases e
    exact i
  | non => cases r
  | bl b => cases r
  | int b => obtain ⟨t, r⟩ := r; cases r
  | str b => obtain ⟨t, r⟩ := r; cases r
  | byt b => obtain ⟨t, r⟩ := r; cases r
  | flt b => obtain ⟨t, r⟩ := r; cases r
  | ty b => cases r
/-- an own exception class with one field -/
def oexB (K : PySem.W.Frag) (C : Addr) (f : Str) : Bool := (match K.lookup C with
  | some ⟨.type "type", _, .cls cd, sl⟩ => (match cd.mro, sl.toList with
    | .ref C' :: bm, [_, _, _, _, some (.builtin n), _] => C' == C && n == "ValueError.__new__" && !cd.hasDel && cd.hasDict && PySem.HandSPX.refsVE bm
    | _, _ => false)
  | _ => false) && (decide (PySem.W.findIn K (.ref C) "__setattr__" = some (some (.builtin "object.__setattr__"))) && (decide (PySem.W.subIn K (.ref C) (.type "BaseException") = some true) && (decide (PySem.W.typeIn K (.ref C) = some (.type "type")) &&
    (PySem.W.keepIn K (.ref C) && decide (PySem.W.findIn K (.ref C) f = some none)))))
theorem oexB_ok {K : PySem.W.Frag} {C : Addr} {f : Str} (q : oexB K C f = true) : XfO K C f := by
  unfold oexB at q
  simp only [Bool.and_eq_true, decide_eq_true_eq] at q
  obtain ⟨q, h1, h2, h3, h4, h5⟩ := q
  refine ⟨⟨?_, h1, h2, h3, h4⟩, h5⟩
  split at q
  · rename_i dd cd sl ho
    split at q
    · rename_i C' bm k0 k1 k2 k3 n k5 hm hs
      simp only [Bool.and_eq_true, beq_iff_eq, Bool.not_eq_true'] at q
      obtain ⟨⟨⟨⟨rfl, rfl⟩, hdel⟩, hdi⟩, ht⟩ := q
      obtain ⟨nm, bs, mro, ns, qn, hd, sn, sub, ab, col, del⟩ := cd
      dsimp only at hm hdel hdi
      subst hm hdel hdi
      have hsl : sl = #[k0, k1, k2, k3, some (.builtin "ValueError.__new__"), k5] := by
        obtain ⟨l⟩ := sl
        simp only at hs
        rw [hs]
      subst hsl
      exact ⟨nm, qn, ns, bs, bm, sn, sub, ab, col, dd, k0, k1, k2, k3, k5, ho, ht⟩
    · cases q
  · cases q
theorem fun_of {K : PySem.W.Frag} {x q : Str} {st : Stmt} {f : Addr} {fd : FuncData} (F : FunD K x q (C8.fnArgs st) (C8.fnBody st) (C8.fnScope st) [] [] f fd) : C8.Fun K x q st f fd := by
  obtain ⟨oc, od, dV, kV, doc, pm, an, cdv, ct, osl, h1, h2, h3, _, _⟩ := F.ex
  exact ⟨oc, od, dV, kV, doc, pm, an, cdv, ct, osl, h1, h2, h3⟩
def insB (K : PySem.W.Frag) (C : Addr) : Bool := decide (PySem.W.findIn K (.ref C) "__class__" = some (some (.builtin "object.__class__"))) && (decide (PySem.W.specialIn K (.builtin "object.__class__") "__get__" = some (some (.builtin "getset_descriptor.__get__"))) &&
  (decide (PySem.W.takesIn K (.builtin "object.__class__") = some true) && decide (PySem.W.mroIn K C (.type "object") = some true)))
theorem insB_ok {K : PySem.W.Frag} {C : Addr} (h : insB K C = true) : InsC K C := by
  unfold insB at h
  simp only [Bool.and_eq_true, decide_eq_true_eq] at h
  exact ⟨h.1, h.2.1, h.2.2.1, h.2.2.2⟩
/-- a law's end: the written part by the head, the wish of exceptions by the world -/
theorem law_end {lw : PySem.W.OpenLaw} {lv : Nat} {qq : Program} {ls : List Str} {xp : (Str → Option Value) → Heap → Prop} {yp : World → Heap → Prop} {dr : DefRec} {Cw : World → CXT} {arg : Str}
    (h1 : lw.most = some 63) (h2 : dr.params.defaults = []) (rm : Room lv callerA)
    (F : ∀ (w : World) (mg : Str → Option Value) (fa : Addr) (h : Heap), yp w h → h.Ns mainGlobals mg → mg dr.name = some (.ref fa) → ∃ (K : PySem.W.Frag) (fd : FuncData) (sp : Sp), K.In h ∧
      (∀ (s : Shared) (u : Value), BindsTo s fd ⟨[u], []⟩ [(arg, u)]) ∧ (∀ (H : Hp) (b : Addr) (is : List Int), SqL K H b (is.map V.int) → sp [.ref b] H (fun v _ => v = .bl true) fun _ _ _ => False) ∧
      ∀ b0 : Heap, K.In b0 → b0.Ns mainGlobals mg → FnOk lw.prog w K mg b0 (Cw w) lv fa fd [arg] sp)
    (cx : ∀ (w : World) (H : Hp) (s : Shared) (e : Value) (s' : Shared), Cw w [] H s (fun _ _ _ => False) e s' → False) :
    PySem.W.WalkO qq ls xp yp lw.row.toRowW dr [] (fun f vs => PySem.call f vs) := by
  refine Att.attach_call h1 h2 ?_
  intro w s0 s1 mg mb fa o pm cd doc b vs is Gd Yd ho hd hcd hm hobj hi hl hg
  obtain ⟨K, fd, sp, kin, hb, hq, hf⟩ := F w mg fa _ Yd Gd.T.g hm
  refine law_call kin Gd.T.g Gd.T.b Gd.T.builtins Gd.T.nolimit hg hobj hi (Nat.le_trans hl (by decide)) rm hf hb ?_ ?_
  · exact fun H _ hS => hq H b is hS
  · exact fun H e s' => cx w H s1 e s'
theorem cx_no {P : Program} {w : World} {o : List Env} {H : Hp} {s s' : Shared} {e : Value} (h : L2N.CX P w o H s (fun _ _ _ => False) e s') : False := by
  obtain ⟨_, _, _, _, _, _, _, _, _, _, _, _, z⟩ := h
  exact z
end Z

/-! a head's look at what the top has left: the objects level by level, no address sought twice -/
namespace Z
open PySem PySem.Spec PySem.W PyProof.Rows
def refsQ (o : Obj) : List Addr := match o.data with
  | .dict es _ => es.toList.flatMap fun e => He.refV e.val
  | .func fd => He.refV fd.code
  | .cls cd => [cd.ns]
  | .seq xs _ => xs.toList.flatMap He.refV
  | _ => []
def nextQ (g : Addr → Option Obj) : List Addr → List Addr
  | [] => []
  | a :: r => (match g a with
    | none => []
    | some o => refsQ o) ++ nextQ g r
def levQ (g : Addr → Option Obj) : Nat → List Addr → List Addr
  | 0, l => l
  | n + 1, l => l ++ levQ g n (nextQ g l)
def partQ (n : Nat) (g : Addr → Option Obj) : Frag := He.frT g (levQ g n [mainGlobals])
def lookQ (fa : List He.Fa) (fn : List He.DefD) (tf : List He.Defn) (ex : Frag → Bool) (g : Addr → Option Obj) (K : Frag) : He.AlX := (He.obsT fa fn [] K, (ex K && He.tabsB g tf K))
theorem saysQ {fa : List He.Fa} {fn : List He.DefD} {tf : List He.Defn} {ex : Frag → Bool} {w : World} {h : Heap} {as : List Addr} (e : lookQ fa fn tf ex h.get? (He.frT h.get? as) = He.valX fn [] w) : He.SaysX fa fn [] tf ex w h (He.frT h.get? as) := by
  obtain ⟨e1, e2⟩ := Prod.mk.inj e
  rw [Bool.and_eq_true] at e2
  have key : ∀ p ∈ tf, codeHdIn (He.frT h.get? as) (He.cT (He.frT h.get? as) p).1 (He.cT (He.frT h.get? as) p).2 = true ∧ ∃ o, h.get? (He.cT (He.frT h.get? as) p).2 = some o ∧ He.emptyTab o = true := by
    intro p hp
    have q := List.all_eq_true.mp e2.2 p hp
    rw [Bool.and_eq_true] at q
    refine ⟨q.1, ?_⟩
    have q2 := q.2
    split at q2
    · exact ⟨_, by assumption, q2⟩
    · cases q2
  refine ⟨e1, e2.1, fun p hp => (key p hp).1, fun p hp => ?_, fun p hp => ?_⟩
  · obtain ⟨_, o, g, z⟩ := key p hp
    exact He.frT_none g z
  · obtain ⟨_, o, g, z⟩ := key p hp
    rw [g, He.emptyTab_eq z]
def hookQ (n : Nat) (fa : List He.Fa) (fn : List He.DefD) (tf : List He.Defn) (ex : Frag → Bool) : Hook where
  α := He.AlX
  obs s := lookQ fa fn tf ex s.heap.get? (partQ n s.heap.get?)
  val w := He.valX fn [] w
  says w h := ∃ K : Frag, K.In h ∧ He.SaysX fa fn [] tf ex w h K
  of _ _ e := ⟨_, He.frT_in, saysQ e⟩
  keeps _ _ _ := fun ⟨K, hK, c⟩ k => ⟨K, Frag.In.keeps hK k, ⟨c.t, c.more, c.hd, c.out, fun p hp => k _ _ (c.empty p hp)⟩⟩
def seeQ (n : Nat) (fa : List He.Fa) (fn : List He.DefD) (tf : List He.Defn) (ex : Frag → Bool) (s : SharedT) : He.AlX := lookQ fa fn tf ex (HandSHeadRun.getT s) (partQ n (HandSHeadRun.getT s))
theorem seeQ_eq {n : Nat} {fa : List He.Fa} {fn : List He.DefD} {tf : List He.Defn} {ex : Frag → Bool} (s : SharedT) : seeQ n fa fn tf ex s = (hookQ n fa fn tf ex).obs s.abs := by
  show lookQ fa fn tf ex (HandSHeadRun.getT s) (partQ n (HandSHeadRun.getT s)) = lookQ fa fn tf ex s.abs.heap.get? (partQ n s.abs.heap.get?)
  rw [show HandSHeadRun.getT s = s.abs.heap.get? from funext (HandSHeadRun.getT_eq s)]
end Z

/-! a caught error of an own class, with or without fields, that is handed to an own def: isinstance there -/
namespace Z
open PySem PySem.Spec PySem.Calls PyProof.Rows L2
section
open PySem.W
variable {K : Frag} {x D : Addr} {ox : Obj} {od : Option Obj}
theorem find_cls {a g : Value} (hd : (clsIn K D).isSome = true) (f : findIn K (.ref D) "__class__" = some (some a)) (sg : specialIn K a "__get__" = some (some g)) (t : takesIn K a = some true) : findObj K D od "__class__" = some (.bind g a) := by
  obtain ⟨cd, hd⟩ := Option.isSome_iff_exists.mp hd
  unfold findObj
  rw [hd, Option.bind_some, f, Option.bind_some]
  simp [sg, t]
theorem cls_of {prog : Program} {w : World} {A : Around} {E : Value → Shared → Prop} {s : Shared} {Q : Option Value → Shared → Prop} (C : ExcC K D) (kin : K.In s.heap) (i : InstAt s.heap x ox D od) (q : Q (some (.ref D)) { s with toks := s.toks + 1 }) :
    wpAny (model prog w) A (getAttr? (.ref x) "__class__") Q E s := by
  have fo := find_cls (od := od) (by obtain ⟨cd, hc, _⟩ := any_some C.hd; rw [hc]; rfl) C.ha C.hn C.ht
  obtain ⟨h, gs, dn, tk, out⟩ := s
  have a0 := i.type (M := model prog w)
  have a1 := looks_findIn (M := model prog w) kin C.hg
  have a2 := looks_findIn (M := model prog w) kin C.hk
  have a3 := looks_find (M := model prog w) kin i fo
  have a4 : Looks (model prog w) h (isInstance (.ref x) (.type "BaseException")) true := a0.andThen (looks_subIn kin C.hs)
  have b0 : (false && onTheHeap (Value.builtin "BaseException.__getattribute__")) = false := rfl
  have b1 : (Value.builtin "BaseException.__getattribute__" == Value.builtin "object.__getattribute__") = false := by decide +kernel
  have b2 : (onTheHeap (Value.ref D) && Value.builtin "BaseException.__getattribute__" == Value.builtin "object.__getattribute__") = false := by rw [b1]; rfl
  unfold getAttr? getAttrBy? getAttrBy
  refine wpAny_bind (wpAny_mkText (wpAny_bind (wpAny_attempt (wpAny_holding (wpAny_bind (a0.at (wpAny_bind (a1.at ?_))))))))
  show wpAny _ _ (if (onTheHeap (Value.ref D) && Value.builtin "BaseException.__getattribute__" == Value.builtin "object.__getattribute__") = true then _ else _) _ _ _
  rw [b2, if_neg Bool.false_ne_true]
  unfold getAttrByItsOwn hookBefore
  refine wpAny_bind ?_
  rw [if_pos (show onTheHeap (Value.ref D) = true from rfl)]
  refine a2.at ?_
  refine wpAny_bind (wpAny_attempt (wpAny_holding ?_))
  unfold callGetattribute
  rw [b0, if_neg Bool.false_ne_true]
  unfold boundAndCalled
  rw [PySem.F.excAttr_ValueError.ga.bind (.ref x)]
  refine wpAny_bind (wpAny_pure ?_)
  show wpAny _ _ (call (.builtin "BaseException.__getattribute__") [.ref x, .str "__class__" tk]) _ _ _
  refine wpAny_call (codeAny_call_builtin PySem.F.excAttr_ValueError.ga.plain PySem.F.entry_bexc_ga ?_)
  refine @check_slot (model prog w) _ _ ⟨h, gs, dn, tk + 1, out⟩ "BaseException.__getattribute__" "BaseException" "__getattribute__" (.ref x) [.str "__class__" tk] [] _ (by decide +kernel) (by decide +kernel) a4 (PySem.F.args_bexc_ga (.ref x) (.str "__class__" tk)) ?_
  unfold Builtin.«object.__getattribute__»
  refine wpAny_bind (wpAny_of_eq (a := ((Value.ref x : Value), [Value.str "__class__" tk])) (by first | rfl | (simp only [slotArgs]; rfl)) ?_)
  refine wpAny_bind (wpAny_pure (wpAny_bind (a0.at (wpAny_bind (a3.at ?_)))))
  show wpAny _ _ (holding [Value.builtin "object.__class__"] (call (.builtin "getset_descriptor.__get__") [.builtin "object.__class__", .ref x, .ref D]) >>= ret) _ _ _
  refine wpAny_bind (wpAny_holding (wpAny_call (class_get (s := ⟨h, gs, dn, tk + 1, out⟩) (ox := ox) (od := od) kin i C.hm ?_)))
  refine wpAny_pure ?_
  show wpAny _ _ (handedOut (.ref D)) _ _ _
  rw [handedOut_of (v := .ref D) rfl]
  first
    | exact wpAny_pure (wpAny_pure q)
    | exact wpAny_pure q
    | exact wpAny_pure (wpAny_bind (wpAny_pure (wpAny_pure q)))
theorem kit_exc (C : ExcC K D) : KitX K (.ref x) (.ref D) (fun h => InstAt h x ox D od) where
  ty := fun _ _ _ i => i.type
  it := fun M h k _ => by
    obtain ⟨cd, hc, _⟩ := any_some C.hd
    unfold clsIn at hc
    split at hc
    · rename_i o1 o2 o3 o4 ho
      intro A' Q' E' s' kk q
      unfold isType loadHead
      exact wpAny_bind (wpAny_loadPart (kk _ _ (k _ _ ho)) (wpAny_pure q))
    · cases hc
  ne := (handS_kitx_exc (x := x) (ox := ox) C.hg C.hk C.hs C.hd C.ha C.hn C.ht C.hm).ne
  ca := fun k i q => cls_of C k i q
end
end Z
namespace Z
open PySem PySem.Spec PyProof.Rows L2
/-- isinstance of the error at a: its class D, its fields' place d -/
def rIsH (K : PySem.W.Frag) (D a : Addr) (d : Option Addr) : List V → Hp → VK → Prop := fun xs H Q => ∃ (c : V) (cv : Value) (b : Bool), xs = [.ref a, c] ∧ (∀ u, RelV c u → u = cv) ∧ PySem.W.kitOne K (.ref D) cv = some b ∧ (∀ dd, d = some dd → ∃ fs, H dd = some (.xd fs)) ∧ Q (.bl b) H
theorem call_isH {X : Cx} {a D : Addr} {d : Option Addr} {oe : Obj} (hp : (a, oe) ∈ X.pn) (C : ExcC X.K D) (hz : Zc (.ref D) d oe) (hf : ∃ vs, oe.data = .fields vs) : CallR X (.builtin "isinstance") (rIsH X.K D a d) := by
  intro pins s σ H xs us Q I r ⟨c, cv, b, hx, hcv, hk, hd, q⟩
  subst hx
  match us, r with
  | [_, u2], .cons rx (.cons rt .nil) =>
    cases rx
    obtain rfl := hcv _ rt
    have at_ := (I.pin (a, oe) (List.mem_append.mpr (.inl hp))).1
    obtain ⟨vs, hv⟩ := hf
    have nc : PySem.W.notCls oe = true := by unfold PySem.W.notCls; rw [hv]
    have J : ∃ od, PySem.W.InstAt s.heap a oe D od := by
      cases d with
      | none => exact ⟨none, at_, hz.1, nc, by rw [hz.2]; trivial⟩
      | some dd =>
        obtain ⟨fs, hfs⟩ := hd dd rfl
        have ok : ObjOk X.prog X.w H s.heap dd (.xd fs) := I.hok dd _ hfs
        obtain ⟨mA, hns, _⟩ := ok
        obtain ⟨od, ho, _⟩ := lookIn_ns hns
        exact ⟨some od, at_, hz.1, nc, by rw [hz.2]; exact ho⟩
    obtain ⟨od, J⟩ := J
    exact PySem.W.kia_one (kit_exc C) I.kIn J hk (fun z => nomatch z) fun tk => ⟨.bl b, H, I.kept (t' := tk) fun _ _ z => z, rfl, q⟩
/-- the error that is handled here -/
class Exh (X : Cx) (a D : outParam Addr) (d : outParam (Option Addr)) : Prop where
  ok : ∃ oe, (a, oe) ∈ X.pn ∧ ExcC X.K D ∧ Zc (.ref D) d oe ∧ ∃ vs, oe.data = .fields vs
def IsH (K : PySem.W.Frag) (D a : Addr) (d : Option Addr) (v : Value) (y : V) (H : Hp) (R : Bool → Prop) : Prop := ∃ b, y = .ref a ∧ PySem.W.kitOne K (.ref D) v = some b ∧ (∀ dd, d = some dd → ∃ fs, H dd = some (.xd fs)) ∧ R b
section
variable {X : Cx} {e : Expr} {σ : L2.St} {H : Hp} {Q : VK} {pos p p2 : Pos} {a D C : Addr} {d : Option Addr} {x : Str} {id : String}
instance (priority := 20000) [n : Bnc X "isinstance"] [g : Ocl X x C] [ex : Exh X a D d] : Stp (WE X (.Call (.Name "isinstance" p) [e, .Name x p2] [] pos) σ H Q)
    (Sd (starEach [e, .Name x p2] X.env = (false, eval e X.env) :: starEach [.Name x p2] X.env ∧ starEach [.Name x p2] X.env = (false, eval (.Name x p2) X.env) :: starEach [] X.env ∧ (backTo pos (starEach [.Name x p2] X.env)).any (·.1) = false)
      (WE X e σ H fun y H1 => IsH X.K D a d (.ref C) y H1 fun b => Q (.bl b) H1)) :=
  ⟨fun z => by
    obtain ⟨oe, h1, h2, h3, h4⟩ := ex.ok
    refine w_b2 (call_isH h1 h2 h3 h4) n.bn (by decide +kernel) z.1 (z.2.mono fun y H1 ⟨b, hy, hk, hd, q⟩ => w_glob g.gn g.gC (v := .ref C) rfl ⟨.ref C, .ref C, b, ?_, fun u r => r, hk, hd, q⟩)
    rw [hy]⟩
instance (priority := 20000) [n : Bnc X "isinstance"] [g : Bnc X x] [ty : Tyn x id] [ex : Exh X a D d] : Stp (WE X (.Call (.Name "isinstance" p) [e, .Name x p2] [] pos) σ H Q)
    (Sd (starEach [e, .Name x p2] X.env = (false, eval e X.env) :: starEach [.Name x p2] X.env ∧ starEach [.Name x p2] X.env = (false, eval (.Name x p2) X.env) :: starEach [] X.env ∧ (backTo pos (starEach [.Name x p2] X.env)).any (·.1) = false)
      (WE X e σ H fun y H1 => IsH X.K D a d (.type id) y H1 fun b => Q (.bl b) H1)) :=
  ⟨fun z => by
    obtain ⟨oe, h1, h2, h3, h4⟩ := ex.ok
    refine w_b2 (call_isH h1 h2 h3 h4) n.bn (by decide +kernel) z.1 (z.2.mono fun y H1 ⟨b, hy, hk, hd, q⟩ => w_bltn g.bn ty.bt (v := .ty id) rfl ⟨.ty id, .type id, b, ?_, fun u r => r, hk, hd, q⟩)
    rw [hy]⟩
end
/-! ### an own def that is called while an error is handled: its promise may speak of the error -/
abbrev SpE := Addr × Obj → Sp
structure FnE (P : Program) (w : World) (K : PySem.W.Frag) (mg : Str → Option Value) (base : Heap) (T : CXT) (k : Nat) (f : Addr) (fd : FuncData) (ps : List Str) (sp : SpE) : Prop where
  len : ∀ p vs H Q E, sp p vs H Q E → vs.length = ps.length
  run : ∀ (A : Around) (outer : List Env) (s : Shared) (H : Hp) (args : Args) (us : List Value) (vs : List V) (Q : VK) (E : XK) (p : Addr × Obj), L2H.RoomH k A → L2H.Hot1 A p → L2H.PinOk outer H s p → Env0 P w K mg base A outer s H →
    BindsTo s fd args (ps.zip us) → Vals vs us → sp p vs H Q E → codeAny (model P w) A (.call (.ref f) args) (CR T outer P w H s Q E) s
theorem fnE_of {T : CXT} {P : Program} {w : World} {K : PySem.W.Frag} {mg : Str → Option Value} {base : Heap} {k : Nat} {f : Addr} {name qual : Str} {params : Arguments} {body : List Stmt} {scope : Scope} {dV kV doc pm cdv ct oc : Value} {an od : Option Addr} {osl : Array (Option Value)} {N ps : List Str} {sp : SpE}
    (at_ : K.lookup f = some ⟨oc, od, .func (PySem.W.fnOf name qual params body scope dV kV doc pm an cdv ct), osl⟩) (code : PySem.W.codeIn K cdv qual = true) (S : FnScope N ps scope) (len : ∀ p vs H Q E, sp p vs H Q E → vs.length = ps.length)
    (go : ∀ (A : Around) (outer : List Env) (s : Shared) (H : Hp) (vs : List V) (Q : VK) (E : XK) (p : Addr × Obj), L2H.Hot1 A p → L2H.RoomH k (A.deeper (envOfC qual scope s.heap.objs.size f cdv)) → sp p vs H Q E →
      WB (L2H.cxH T P w K mg base N qual scope f cdv A outer s H E p) body (fun _ H' => Q .non H') Q (fun _ _ => False) (fun _ _ => False) (start N vs) H) :
    FnE P w K mg base T (k + 1) f (PySem.W.fnOf name qual params body scope dV kV doc pm an cdv ct) ps sp where
  len := len
  run := fun A outer s H args us vs Q E p room hot pin e0 bd rv hsp => by
    have ln := len _ _ _ _ _ hsp
    have kin : K.In s.heap := e0.mod.kin.keeps fun b o e => (e0.bs b o e).1
    have nl : s.heap.NoLimit := e0.mod.nolimit.keeps fun b o e => (e0.bs b o e).1
    have kinds : ∀ y ∈ ps.zip us, scope.names.lookup y.1 = some .local ∨ (scope.names.lookup y.1 = some .cell ∧ ((cellsFrom (s.heap.objs.size + 1) scope.names []).lookup y.1).isSome = true) := by
      rintro ⟨n, v⟩ hy
      exact (S.par n (List.of_mem_zip hy).1).imp (fun q => q) fun q => ⟨q, PySem.W.cellsFrom_some _ _ _ (.inl q)⟩
    refine codeAny_call_function room.depth (kin _ _ at_) rfl S.co S.gen rfl (PySem.W.codeRec_of kin code) (bd _ _ _ _ ?_)
    refine wpAny_newFunctionEnv_cells S.kind kinds fun env he s1 x => ?_
    subst he
    have I := L2H.inv_startH (CX := T) (E := E) S pin e0 ln rv x
    refine ⟨nl.keeps x.toInCall.keep, codeAny_func (wpAny_mono ((pss_w body).run [] s1 (start N vs) H { nx := fun _ H' => Q .non H', rt := Q } I (go A outer s H vs Q E p hot (room.deeper _) hsp)) (fun fl s' hs => ?_) fun e s' hs => hs)⟩
    match fl, hs with
    | .ret u, ⟨v, σ', H', J, rv', q⟩ => exact ⟨v, H', J.os, J.bare, J.base, J.hok, rv', q⟩
    | .next, ⟨σ', H', J, q⟩ => exact ⟨V.non, H', J.os, J.bare, J.base, J.hok, rfl, q⟩
    | .brk, ⟨_, _, _, q⟩ => exact q.elim
    | .cont, ⟨_, _, _, q⟩ => exact q.elim
end Z
namespace Z
open PySem PySem.Spec PyProof.Rows L2
structure CalE (P : Program) (w : World) (K : PySem.W.Frag) (mg : Str → Option Value) (base : Heap) (k : Nat) (x : Str) (sp : SpE) : Prop where
  ex : ∃ (f : Addr) (fd : FuncData) (ps : List Str), FnE P w K mg base (L2N.CX P w) k f fd ps sp ∧ mg x = some (.ref f) ∧ PySem.W.keepIn K (.ref f) = true ∧ Binds K fd ps []
/-- where the body of such a def stands -/
structure HereE (X : Cx) (P : Program) (w : World) (K : PySem.W.Frag) (mg : Str → Option Value) (base : Heap) (N : List Str) (sc : Scope) (E : XK) (p : Addr × Obj) : Prop where
  prog : X.prog = P
  w : X.w = w
  K : X.K = K
  mg : X.mg = mg
  base : X.base = base
  N : X.N = N
  sc : X.env.scope = sc
  fn : ∀ x, X.fn x = true
  pn : p ∈ X.pn
section
variable {P : Program} {w : World} {K : PySem.W.Frag} {mg : Str → Option Value} {base : Heap}
theorem calE_of {x : Str} {st : Stmt} {f : Addr} {fd : FuncData} {N ps : List Str} {k : Nat} {sp : SpE} (F : C8.Def K mg x st f fd) (b : Binds K fd ps []) (S : C8.scC N ps (C8.fnScope st) = true) (len : ∀ p vs H Q E, sp p vs H Q E → vs.length = ps.length)
    (body : ∀ X : Cx, ∀ E p, HereE X P w K mg base N (C8.fnScope st) E p → ∀ vs H Q, sp p vs H Q E → WB X (C8.fnBody st) (fun _ H' => Q .non H') Q (fun _ _ => False) (fun _ _ => False) (start N vs) H) : CalE P w K mg base (k + 1) x sp := by
  obtain ⟨oc, od, dV, kV, doc, pm, an, cdv, ct, osl, rfl, lk, hcd⟩ := F.fn.ex
  exact ⟨f, _, ps, fnE_of lk hcd (C8.fnScope_by S) len fun A outer s H vs Q E p hot hr hsp => body _ E p ⟨rfl, rfl, rfl, rfl, rfl, rfl, rfl, fun _ => rfl, List.mem_singleton.mpr rfl⟩ vs H Q hsp, F.mgf, F.kp, b⟩
end
theorem w_callE {X : Cx} {x : Str} {e : Expr} {es : List Expr} {σ : L2.St} {H : Hp} {Q : VK} {q pos : Pos} {k j : Nat} {sp : SpE} {W : WX} {p : Addr × Obj} (c : CalE X.prog X.w X.K X.mg X.base k x sp) (tk : L2N.Takes X W) (hr : L2H.RoomH j X.A) (hk : k ≤ j) (n : Gn X x) (hot : L2H.Hot1 X.A p) (hp : p ∈ X.pn)
    (he : starEach (e :: es) X.env = (false, eval e X.env) :: starEach es X.env) (hpl : (backTo pos (starEach es X.env)).any (·.1) = false) (h : WA X (e :: es) σ H fun vs H1 => sp p vs H1 Q (EX W σ)) : WE X (.Call (.Name x q) (e :: es) [] pos) σ H Q := by
  obtain ⟨f, fd, ps, F, hm, kp, b⟩ := c.ex
  refine ⟨fun pins s I => wpAny_Call_Name_kw (ld_glob I n.gl hm ?_ n.dbg)⟩
  refine PySem.W.callWith_K (h₀ := X.base) I.ok.mod.kin kp (thn ((pa_w (e :: es)).run pos pins s σ H _ I h) fun us s1 ⟨vs, H1, I1, r, sps⟩ => ⟨I1.kIn, ?_⟩) he hpl
  have pin := I1.pin p (List.mem_append_left _ hp)
  have ln : us.length = ps.length := by rw [← F.len _ _ _ _ _ sps]; first | exact r.length | exact r.length.symm
  have bd := b s1 us I1.kIn (by rw [List.append_nil]; exact ln)
  rw [List.append_nil] at bd
  refine wpAny_call (codeAny_mono (F.run X.A X.stack s1 H1 ⟨us, []⟩ us vs Q (EX W σ) p (hr.mono hk) hot ⟨pin.1, pin.2.1, fun hm' => (List.mem_cons.mp (I1.stkSub p.1 hm')).elim pin.2.2.1 pin.2.2.2.1, pin.2.2.2.2⟩ I1.env0 bd r sps) fun o s' ho => ?_)
  match o, ho with
  | .error u, ho => exact L2N.passAt tk σ pins H1 s1 u s' I1 ho
  | .ok (.ret u), ho => exact I1.after ho
  | .ok .next, ho => exact ho.elim
  | .ok .brk, ho => exact ho.elim
  | .ok .cont, ho => exact ho.elim
end Z
namespace Z
open PySem PySem.Spec PyProof.Rows L2
/-! ### the own errors told apart -/
def excCB (K : PySem.W.Frag) (D : Addr) : Bool := decide (PySem.W.findIn K (.ref D) "__getattribute__" = some (some (.builtin "BaseException.__getattribute__"))) && (decide (PySem.W.findIn K (.ref D) "__getattr__" = some none) && (decide (PySem.W.subIn K (.ref D) (.type "BaseException") = some true) &&
  (PySem.W.hasDictIn K D && (decide (PySem.W.findIn K (.ref D) "__class__" = some (some (.builtin "object.__class__"))) && (decide (PySem.W.specialIn K (.builtin "object.__class__") "__get__" = some (some (.builtin "getset_descriptor.__get__"))) &&
  (decide (PySem.W.takesIn K (.builtin "object.__class__") = some true) && decide (PySem.W.mroIn K D (.type "object") = some true)))))))
theorem excCB_ok {K : PySem.W.Frag} {D : Addr} (h : excCB K D = true) : ExcC K D := by
  unfold excCB at h
  simp only [Bool.and_eq_true, decide_eq_true_eq] at h
  exact ⟨h.1, h.2.1, h.2.2.1, h.2.2.2.1, h.2.2.2.2.1, h.2.2.2.2.2.1, h.2.2.2.2.2.2.1, h.2.2.2.2.2.2.2⟩
def kindsB (K : PySem.W.Frag) (ns : List Str) : Bool := ns.all fun a => excCB K (He.ga K a) && (decide (PySem.W.kitOne K (.ref (He.ga K a)) (.type "ValueError") = some true) && ns.all fun b => decide (PySem.W.kitOne K (.ref (He.ga K a)) (.ref (He.ga K b)) = some (decide (a = b))))
theorem kinds_ok {K : PySem.W.Frag} {ns : List Str} (h : kindsB K ns = true) {a : Str} (ha : a ∈ ns) : ExcC K (He.ga K a) ∧ PySem.W.kitOne K (.ref (He.ga K a)) (.type "ValueError") = some true ∧ ∀ b ∈ ns, PySem.W.kitOne K (.ref (He.ga K a)) (.ref (He.ga K b)) = some (decide (a = b)) := by
  have h := List.all_eq_true.mp h a ha
  simp only [Bool.and_eq_true, decide_eq_true_eq, List.all_eq_true] at h
  exact ⟨excCB_ok h.1, h.2.1, h.2.2⟩
end Z

namespace G
open PySem PySem.Spec PyProof.Rows L2 Z
def top (i : Nat) : Stmt := PySem.Challenge.pw_gridlooks_k17_errors_are_apart.main.body.getD i (.Pass ⟨0, 0, 0, 0⟩)
abbrev s_BadLink_init : Stmt := inClass (top 12) 0
abbrev n_BadLink_init : List Str := ["self", "index"]
theorem sc_BadLink_init : C8.scC n_BadLink_init ["self", "index"] (C8.fnScope s_BadLink_init) = true := by decide +kernel
theorem lc_BadLink_init : lcB n_BadLink_init 2 (C8.fnScope s_BadLink_init) = true := by decide +kernel
abbrev s_BadDeed_init : Stmt := inClass (top 13) 0
abbrev n_BadDeed_init : List Str := ["self", "index"]
theorem sc_BadDeed_init : C8.scC n_BadDeed_init ["self", "index"] (C8.fnScope s_BadDeed_init) = true := by decide +kernel
theorem lc_BadDeed_init : lcB n_BadDeed_init 2 (C8.fnScope s_BadDeed_init) = true := by decide +kernel
abbrev s_BadLine_init : Stmt := inClass (top 14) 0
abbrev n_BadLine_init : List Str := ["self", "line"]
theorem sc_BadLine_init : C8.scC n_BadLine_init ["self", "line"] (C8.fnScope s_BadLine_init) = true := by decide +kernel
theorem lc_BadLine_init : lcB n_BadLine_init 2 (C8.fnScope s_BadLine_init) = true := by decide +kernel
abbrev s_strip_of : Stmt := top 16
abbrev n_strip_of : List Str := ["pieces", "found", "start", "size", "thing"]
theorem sc_strip_of : C8.scC n_strip_of ["pieces"] (C8.fnScope s_strip_of) = true := by decide +kernel
theorem lc_strip_of : lcB n_strip_of 5 (C8.fnScope s_strip_of) = true := by decide +kernel
abbrev s_thing_at : Stmt := top 17
abbrev n_thing_at : List Str := ["strip", "place", "found", "start", "thing"]
theorem sc_thing_at : C8.scC n_thing_at ["strip", "place"] (C8.fnScope s_thing_at) = true := by decide +kernel
theorem lc_thing_at : lcB n_thing_at 5 (C8.fnScope s_thing_at) = true := by decide +kernel
abbrev s_pieces_of : Stmt := top 18
abbrev n_pieces_of : List Str := ["strip", "begin", "end", "found", "at", "start", "thing", "after", "first"]
theorem sc_pieces_of : C8.scC n_pieces_of ["strip", "begin", "end"] (C8.fnScope s_pieces_of) = true := by decide +kernel
theorem lc_pieces_of : lcB n_pieces_of 9 (C8.fnScope s_pieces_of) = true := by decide +kernel
abbrev s_overlaid : Stmt := top 19
abbrev n_overlaid : List Str := ["strip", "begin", "pieces", "end", "size", "thing", "rest"]
theorem sc_overlaid : C8.scC n_overlaid ["strip", "begin", "pieces"] (C8.fnScope s_overlaid) = true := by decide +kernel
theorem lc_overlaid : lcB n_overlaid 7 (C8.fnScope s_overlaid) = true := by decide +kernel
abbrev s_inserted : Stmt := top 20
abbrev n_inserted : List Str := ["strip", "at", "many", "thing"]
theorem sc_inserted : C8.scC n_inserted ["strip", "at", "many", "thing"] (C8.fnScope s_inserted) = true := by decide +kernel
theorem lc_inserted : lcB n_inserted 4 (C8.fnScope s_inserted) = true := by decide +kernel
abbrev s_removed : Stmt := top 21
abbrev n_removed : List Str := ["strip", "at", "many"]
theorem sc_removed : C8.scC n_removed ["strip", "at", "many"] (C8.fnScope s_removed) = true := by decide +kernel
theorem lc_removed : lcB n_removed 3 (C8.fnScope s_removed) = true := by decide +kernel
abbrev s_moved : Stmt := top 22
abbrev n_moved : List Str := ["strip", "at", "many", "to", "held", "left"]
theorem sc_moved : C8.scC n_moved ["strip", "at", "many", "to"] (C8.fnScope s_moved) = true := by decide +kernel
theorem lc_moved : lcB n_moved 6 (C8.fnScope s_moved) = true := by decide +kernel
abbrev s_starts_of : Stmt := top 23
abbrev n_starts_of : List Str := ["strip", "start", "thing"]
theorem sc_starts_of : C8.scC n_starts_of ["strip"] (C8.fnScope s_starts_of) = true := by decide +kernel
theorem lc_starts_of : lcB n_starts_of 1 (C8.fnScope s_starts_of) = true := by decide +kernel
abbrev s_Levels_init : Stmt := inClass (top 27) 0
abbrev n_Levels_init : List Str := ["self", "whole", "lanes", "files", "spots"]
theorem sc_Levels_init : C8.scC n_Levels_init ["self", "whole", "lanes", "files", "spots"] (C8.fnScope s_Levels_init) = true := by decide +kernel
theorem lc_Levels_init : lcB n_Levels_init 5 (C8.fnScope s_Levels_init) = true := by decide +kernel
abbrev s_Levels_parts : Stmt := inClass (top 27) 1
abbrev n_Levels_parts : List Str := ["self"]
theorem sc_Levels_parts : C8.scC n_Levels_parts ["self"] (C8.fnScope s_Levels_parts) = true := by decide +kernel
theorem lc_Levels_parts : lcB n_Levels_parts 1 (C8.fnScope s_Levels_parts) = true := by decide +kernel
abbrev s_Levels_tellings_at : Stmt := inClass (top 27) 2
abbrev n_Levels_tellings_at : List Str := ["self", "row", "column", "cell"]
theorem sc_Levels_tellings_at : C8.scC n_Levels_tellings_at ["self", "row", "column"] (C8.fnScope s_Levels_tellings_at) = true := by decide +kernel
theorem lc_Levels_tellings_at : lcB n_Levels_tellings_at 4 (C8.fnScope s_Levels_tellings_at) = true := by decide +kernel
abbrev s_empty_levels : Stmt := top 28
abbrev n_empty_levels : List Str := []
theorem sc_empty_levels : C8.scC n_empty_levels [] (C8.fnScope s_empty_levels) = true := by decide +kernel
theorem lc_empty_levels : lcB n_empty_levels 0 (C8.fnScope s_empty_levels) = true := by decide +kernel
abbrev s_size_of : Stmt := top 29
abbrev n_size_of : List Str := ["a", "b"]
theorem sc_size_of : C8.scC n_size_of ["a", "b"] (C8.fnScope s_size_of) = true := by decide +kernel
theorem lc_size_of : lcB n_size_of 2 (C8.fnScope s_size_of) = true := by decide +kernel
abbrev s_with_told : Stmt := top 30
abbrev n_with_told : List Str := ["levels", "scope", "telling", "lanes", "files", "word", "top", "bottom", "left", "right", "pieces"]
theorem sc_with_told : C8.scC n_with_told ["levels", "scope", "telling"] (C8.fnScope s_with_told) = true := by decide +kernel
theorem lc_with_told : lcB n_with_told 11 (C8.fnScope s_with_told) = true := by decide +kernel
abbrev s_laid : Stmt := top 31
abbrev n_laid : List Str := ["spots", "row", "column", "pieces", "found", "at", "many", "inner", "size", "strip"]
theorem sc_laid : C8.scC n_laid ["spots", "row", "column", "pieces"] (C8.fnScope s_laid) = true := by decide +kernel
theorem lc_laid : lcB n_laid 10 (C8.fnScope s_laid) = true := by decide +kernel
abbrev s_block_of : Stmt := top 32
abbrev n_block_of : List Str := ["levels", "scope", "word", "top", "bottom", "left", "right", "size", "strip"]
theorem sc_block_of : C8.scC n_block_of ["levels", "scope"] (C8.fnScope s_block_of) = true := by decide +kernel
theorem lc_block_of : lcB n_block_of 7 (C8.fnScope s_block_of) = true := by decide +kernel
abbrev s_on_strips : Stmt := top 33
abbrev n_on_strips : List Str := ["spots", "change", "size", "strip"]
theorem sc_on_strips : C8.scC n_on_strips ["spots", "change"] (C8.fnScope s_on_strips) = true := by decide +kernel
theorem lc_on_strips : lcB n_on_strips 2 (C8.fnScope s_on_strips) = true := by decide +kernel
abbrev s_with_inserted : Stmt := top 34
abbrev n_with_inserted : List Str := ["levels", "axis", "at", "many", "how", "lane", "strip", "lanes", "file", "change"]
theorem sc_with_inserted : C8.scC n_with_inserted ["levels", "axis", "at", "many", "how"] (C8.fnScope s_with_inserted) = true := by decide +kernel
theorem lc_with_inserted : lcB n_with_inserted 10 (C8.fnScope s_with_inserted) = true := by decide +kernel
abbrev s_with_removed : Stmt := top 35
abbrev n_with_removed : List Str := ["levels", "axis", "at", "many", "spots"]
theorem sc_with_removed : C8.scC n_with_removed ["levels", "axis", "at", "many"] (C8.fnScope s_with_removed) = true := by decide +kernel
theorem lc_with_removed : lcB n_with_removed 5 (C8.fnScope s_with_removed) = true := by decide +kernel
abbrev s_with_moved : Stmt := top 36
abbrev n_with_moved : List Str := ["levels", "axis", "at", "many", "to", "spots"]
theorem sc_with_moved : C8.scC n_with_moved ["levels", "axis", "at", "many", "to"] (C8.fnScope s_with_moved) = true := by decide +kernel
theorem lc_with_moved : lcB n_with_moved 6 (C8.fnScope s_with_moved) = true := by decide +kernel
abbrev s_is_number : Stmt := top 41
abbrev n_is_number : List Str := ["value", "least", "most"]
theorem sc_is_number : C8.scC n_is_number ["value", "least", "most"] (C8.fnScope s_is_number) = true := by decide +kernel
theorem lc_is_number : lcB n_is_number 3 (C8.fnScope s_is_number) = true := by decide +kernel
abbrev s_is_kind : Stmt := top 42
abbrev n_is_kind : List Str := ["value"]
theorem sc_is_kind : C8.scC n_is_kind ["value"] (C8.fnScope s_is_kind) = true := by decide +kernel
theorem lc_is_kind : lcB n_is_kind 1 (C8.fnScope s_is_kind) = true := by decide +kernel
abbrev s_check_kind : Stmt := top 43
abbrev n_check_kind : List Str := ["kind"]
theorem sc_check_kind : C8.scC n_check_kind ["kind"] (C8.fnScope s_check_kind) = true := by decide +kernel
theorem lc_check_kind : lcB n_check_kind 1 (C8.fnScope s_check_kind) = true := by decide +kernel
abbrev s_check_order : Stmt := top 44
abbrev n_check_order : List Str := ["order"]
theorem sc_check_order : C8.scC n_check_order ["order"] (C8.fnScope s_check_order) = true := by decide +kernel
theorem lc_check_order : lcB n_check_order 1 (C8.fnScope s_check_order) = true := by decide +kernel
abbrev s_is_range : Stmt := top 45
abbrev n_is_range : List Str := ["a", "b"]
theorem sc_is_range : C8.scC n_is_range ["a", "b"] (C8.fnScope s_is_range) = true := by decide +kernel
theorem lc_is_range : lcB n_is_range 2 (C8.fnScope s_is_range) = true := by decide +kernel
abbrev s_is_cells : Stmt := top 46
abbrev n_is_cells : List Str := ["value"]
theorem sc_is_cells : C8.scC n_is_cells ["value"] (C8.fnScope s_is_cells) = true := by decide +kernel
theorem lc_is_cells : lcB n_is_cells 1 (C8.fnScope s_is_cells) = true := by decide +kernel
abbrev s_is_scope : Stmt := top 47
abbrev n_is_scope : List Str := ["value"]
theorem sc_is_scope : C8.scC n_is_scope ["value"] (C8.fnScope s_is_scope) = true := by decide +kernel
theorem lc_is_scope : lcB n_is_scope 1 (C8.fnScope s_is_scope) = true := by decide +kernel
abbrev s_is_told_value : Stmt := top 48
abbrev n_is_told_value : List Str := ["value"]
theorem sc_is_told_value : C8.scC n_is_told_value ["value"] (C8.fnScope s_is_told_value) = true := by decide +kernel
theorem lc_is_told_value : lcB n_is_told_value 1 (C8.fnScope s_is_told_value) = true := by decide +kernel
abbrev s_is_axis : Stmt := top 49
abbrev n_is_axis : List Str := ["value"]
theorem sc_is_axis : C8.scC n_is_axis ["value"] (C8.fnScope s_is_axis) = true := by decide +kernel
theorem lc_is_axis : lcB n_is_axis 1 (C8.fnScope s_is_axis) = true := by decide +kernel
abbrev s_link_fault : Stmt := top 50
abbrev n_link_fault : List Str := ["links", "table", "index", "link", "here"]
theorem sc_link_fault : C8.scC n_link_fault ["links"] (C8.fnScope s_link_fault) = true := by decide +kernel
theorem lc_link_fault : lcB n_link_fault 5 (C8.fnScope s_link_fault) = true := by decide +kernel
abbrev s_telling_of : Stmt := top 51
abbrev n_telling_of : List Str := ["order", "tellings", "there", "telling"]
theorem sc_telling_of : C8.scC n_telling_of ["order", "tellings"] (C8.fnScope s_telling_of) = true := by decide +kernel
theorem lc_telling_of : lcB n_telling_of 3 (C8.fnScope s_telling_of) = true := by decide +kernel
abbrev s_age_of : Stmt := top 52
abbrev n_age_of : List Str := ["telling"]
theorem sc_age_of : C8.scC n_age_of ["telling"] (C8.fnScope s_age_of) = true := by decide +kernel
theorem lc_age_of : lcB n_age_of 1 (C8.fnScope s_age_of) = true := by decide +kernel
abbrev s_Sheet_init : Stmt := inClass (top 53) 0
abbrev n_Sheet_init : List Str := ["self", "order", "links", "index", "kind"]
theorem sc_Sheet_init : C8.scC n_Sheet_init ["self", "order", "links"] (C8.fnScope s_Sheet_init) = true := by decide +kernel
theorem lc_Sheet_init : lcB n_Sheet_init 4 (C8.fnScope s_Sheet_init) = true := by decide +kernel
abbrev s_Sheet_shown : Stmt := inClass (top 53) 1
abbrev n_Sheet_shown : List Str := ["self", "kind", "row", "column", "telling", "one", "other"]
theorem sc_Sheet_shown : C8.scC n_Sheet_shown ["self", "kind", "row", "column"] (C8.fnScope s_Sheet_shown) = true := by decide +kernel
theorem lc_Sheet_shown : lcB n_Sheet_shown 7 (C8.fnScope s_Sheet_shown) = true := by decide +kernel
abbrev s_Sheet_look : Stmt := inClass (top 53) 2
abbrev n_Sheet_look : List Str := ["self", "row", "column"]
theorem sc_Sheet_look : C8.scC n_Sheet_look ["self", "row", "column"] (C8.fnScope s_Sheet_look) = true := by decide +kernel
theorem lc_Sheet_look : lcB n_Sheet_look 3 (C8.fnScope s_Sheet_look) = true := by decide +kernel
abbrev s_Sheet_go_to : Stmt := inClass (top 53) 3
abbrev n_Sheet_go_to : List Str := ["self", "table"]
theorem sc_Sheet_go_to : C8.scC n_Sheet_go_to ["self", "table"] (C8.fnScope s_Sheet_go_to) = true := by decide +kernel
theorem lc_Sheet_go_to : lcB n_Sheet_go_to 2 (C8.fnScope s_Sheet_go_to) = true := by decide +kernel
abbrev s_Sheet_tell : Stmt := inClass (top 53) 4
abbrev n_Sheet_tell : List Str := ["self", "scope", "kind", "value", "table"]
theorem sc_Sheet_tell : C8.scC n_Sheet_tell ["self", "scope", "kind", "value"] (C8.fnScope s_Sheet_tell) = true := by decide +kernel
theorem lc_Sheet_tell : lcB n_Sheet_tell 5 (C8.fnScope s_Sheet_tell) = true := by decide +kernel
abbrev s_Sheet_insert : Stmt := inClass (top 53) 5
abbrev n_Sheet_insert : List Str := ["self", "axis", "at", "many", "how", "kind"]
theorem sc_Sheet_insert : C8.scC n_Sheet_insert ["self", "axis", "at", "many", "how"] (C8.fnScope s_Sheet_insert) = true := by decide +kernel
theorem lc_Sheet_insert : lcB n_Sheet_insert 5 (C8.fnScope s_Sheet_insert) = true := by decide +kernel
abbrev s_Sheet_remove : Stmt := inClass (top 53) 6
abbrev n_Sheet_remove : List Str := ["self", "axis", "at", "many", "kind"]
theorem sc_Sheet_remove : C8.scC n_Sheet_remove ["self", "axis", "at", "many"] (C8.fnScope s_Sheet_remove) = true := by decide +kernel
theorem lc_Sheet_remove : lcB n_Sheet_remove 4 (C8.fnScope s_Sheet_remove) = true := by decide +kernel
abbrev s_Sheet_move : Stmt := inClass (top 53) 7
abbrev n_Sheet_move : List Str := ["self", "axis", "at", "many", "to", "kind"]
theorem sc_Sheet_move : C8.scC n_Sheet_move ["self", "axis", "at", "many", "to"] (C8.fnScope s_Sheet_move) = true := by decide +kernel
theorem lc_Sheet_move : lcB n_Sheet_move 5 (C8.fnScope s_Sheet_move) = true := by decide +kernel
abbrev s_Sheet_copy : Stmt := inClass (top 53) 8
abbrev n_Sheet_copy : List Str := ["self", "scope", "row", "column", "how", "table", "kind", "levels", "block", "spots"]
theorem sc_Sheet_copy : C8.scC n_Sheet_copy ["self", "scope", "row", "column", "how"] (C8.fnScope s_Sheet_copy) = true := by decide +kernel
theorem lc_Sheet_copy : lcB n_Sheet_copy 10 (C8.fnScope s_Sheet_copy) = true := by decide +kernel
abbrev s_Sheet_shown_block : Stmt := inClass (top 53) 9
abbrev n_Sheet_shown_block : List Str := ["self", "kind", "scope", "word", "top", "bottom", "left", "right", "rows", "columns", "found", "row", "many", "pieces", "column", "size", "value"]
theorem sc_Sheet_shown_block : C8.scC n_Sheet_shown_block ["self", "kind", "scope"] (C8.fnScope s_Sheet_shown_block) = true := by decide +kernel
theorem lc_Sheet_shown_block : lcB n_Sheet_shown_block 17 (C8.fnScope s_Sheet_shown_block) = true := by decide +kernel
abbrev s_Sheet_starts : Stmt := inClass (top 53) 10
abbrev n_Sheet_starts : List Str := ["self", "axis", "found", "kind", "levels", "strips", "strip", "start"]
theorem sc_Sheet_starts : C8.scC n_Sheet_starts ["self", "axis"] (C8.fnScope s_Sheet_starts) = true := by decide +kernel
theorem lc_Sheet_starts : lcB n_Sheet_starts 8 (C8.fnScope s_Sheet_starts) = true := by decide +kernel
abbrev s_Sheet_undo : Stmt := inClass (top 53) 11
abbrev n_Sheet_undo : List Str := ["self"]
theorem sc_Sheet_undo : C8.scC n_Sheet_undo ["self"] (C8.fnScope s_Sheet_undo) = true := by decide +kernel
theorem lc_Sheet_undo : lcB n_Sheet_undo 1 (C8.fnScope s_Sheet_undo) = true := by decide +kernel
abbrev s_Sheet_redo : Stmt := inClass (top 53) 12
abbrev n_Sheet_redo : List Str := ["self"]
theorem sc_Sheet_redo : C8.scC n_Sheet_redo ["self"] (C8.fnScope s_Sheet_redo) = true := by decide +kernel
theorem lc_Sheet_redo : lcB n_Sheet_redo 1 (C8.fnScope s_Sheet_redo) = true := by decide +kernel
abbrev s_Sheet_twin : Stmt := inClass (top 53) 13
abbrev n_Sheet_twin : List Str := ["self"]
theorem sc_Sheet_twin : C8.scC n_Sheet_twin ["self"] (C8.fnScope s_Sheet_twin) = true := by decide +kernel
theorem lc_Sheet_twin : lcB n_Sheet_twin 1 (C8.fnScope s_Sheet_twin) = true := by decide +kernel
abbrev s_Sheet_ranked : Stmt := inClass (top 53) 14
abbrev n_Sheet_ranked : List Str := ["self", "nests", "ages", "ranks", "kind", "at", "age"]
theorem sc_Sheet_ranked : C8.scC n_Sheet_ranked ["self"] (C8.fnScope s_Sheet_ranked) = true := by decide +kernel
theorem lc_Sheet_ranked : lcB n_Sheet_ranked 4 (C8.fnScope s_Sheet_ranked) = true := by decide +kernel
abbrev s_Sheet_eq : Stmt := inClass (top 53) 15
abbrev n_Sheet_eq : List Str := ["self", "other"]
theorem sc_Sheet_eq : C8.scC n_Sheet_eq ["self", "other"] (C8.fnScope s_Sheet_eq) = true := by decide +kernel
theorem lc_Sheet_eq : lcB n_Sheet_eq 2 (C8.fnScope s_Sheet_eq) = true := by decide +kernel
abbrev s_Sheet_len : Stmt := inClass (top 53) 16
abbrev n_Sheet_len : List Str := ["self"]
theorem sc_Sheet_len : C8.scC n_Sheet_len ["self"] (C8.fnScope s_Sheet_len) = true := by decide +kernel
theorem lc_Sheet_len : lcB n_Sheet_len 1 (C8.fnScope s_Sheet_len) = true := by decide +kernel
abbrev s_check_shift : Stmt := top 54
abbrev n_check_shift : List Str := ["axis", "places", "many", "place"]
theorem sc_check_shift : C8.scC n_check_shift ["axis", "places", "many"] (C8.fnScope s_check_shift) = true := by decide +kernel
theorem lc_check_shift : lcB n_check_shift 3 (C8.fnScope s_check_shift) = true := by decide +kernel
abbrev s_stretches : Stmt := top 55
abbrev n_stretches : List Str := ["starts", "begin", "end", "cuts", "start", "one", "two"]
theorem sc_stretches : C8.scC n_stretches ["starts", "begin", "end"] (C8.fnScope s_stretches) = true := by decide +kernel
theorem lc_stretches : lcB n_stretches 4 (C8.fnScope s_stretches) = true := by decide +kernel
abbrev s_with_rank : Stmt := top 56
abbrev n_with_rank : List Str := ["telling", "ranks"]
theorem sc_with_rank : C8.scC n_with_rank ["telling", "ranks"] (C8.fnScope s_with_rank) = true := by decide +kernel
theorem lc_with_rank : lcB n_with_rank 2 (C8.fnScope s_with_rank) = true := by decide +kernel
abbrev s_ranked_strip : Stmt := top 57
abbrev n_ranked_strip : List Str := ["strip", "ranks", "start", "telling"]
theorem sc_ranked_strip : C8.scC n_ranked_strip ["strip", "ranks"] (C8.fnScope s_ranked_strip) = true := by decide +kernel
theorem lc_ranked_strip : lcB n_ranked_strip 2 (C8.fnScope s_ranked_strip) = true := by decide +kernel
abbrev s_ranked_levels : Stmt := top 58
abbrev n_ranked_levels : List Str := ["levels", "ranks", "spots", "start", "strip"]
theorem sc_ranked_levels : C8.scC n_ranked_levels ["levels", "ranks"] (C8.fnScope s_ranked_levels) = true := by decide +kernel
theorem lc_ranked_levels : lcB n_ranked_levels 3 (C8.fnScope s_ranked_levels) = true := by decide +kernel
abbrev s_note_age : Stmt := top 59
abbrev n_note_age : List Str := ["telling", "ages"]
theorem sc_note_age : C8.scC n_note_age ["telling", "ages"] (C8.fnScope s_note_age) = true := by decide +kernel
theorem lc_note_age : lcB n_note_age 2 (C8.fnScope s_note_age) = true := by decide +kernel
abbrev s_gather_ages : Stmt := top 60
abbrev n_gather_ages : List Str := ["nests", "ages", "whole", "lanes", "files", "spots", "strip", "start", "telling"]
theorem sc_gather_ages : C8.scC n_gather_ages ["nests", "ages"] (C8.fnScope s_gather_ages) = true := by decide +kernel
theorem lc_gather_ages : lcB n_gather_ages 9 (C8.fnScope s_gather_ages) = true := by decide +kernel
abbrev s_is_small : Stmt := top 64
abbrev n_is_small : List Str := ["value"]
theorem sc_is_small : C8.scC n_is_small ["value"] (C8.fnScope s_is_small) = true := by decide +kernel
theorem lc_is_small : lcB n_is_small 1 (C8.fnScope s_is_small) = true := by decide +kernel
abbrev s_is_small_scope : Stmt := top 65
abbrev n_is_small_scope : List Str := ["value", "part"]
theorem sc_is_small_scope : C8.scC n_is_small_scope ["value"] (C8.fnScope s_is_small_scope) = true := by decide +kernel
theorem lc_is_small_scope : lcB n_is_small_scope 1 (C8.fnScope s_is_small_scope) = true := by decide +kernel
abbrev s_is_shift : Stmt := top 66
abbrev n_is_shift : List Str := ["value"]
theorem sc_is_shift : C8.scC n_is_shift ["value"] (C8.fnScope s_is_shift) = true := by decide +kernel
theorem lc_is_shift : lcB n_is_shift 1 (C8.fnScope s_is_shift) = true := by decide +kernel
abbrev s_is_deed : Stmt := top 67
abbrev n_is_deed : List Str := ["value", "word"]
theorem sc_is_deed : C8.scC n_is_deed ["value"] (C8.fnScope s_is_deed) = true := by decide +kernel
theorem lc_is_deed : lcB n_is_deed 2 (C8.fnScope s_is_deed) = true := by decide +kernel
abbrev s_Deeds_init : Stmt := inClass (top 68) 0
abbrev n_Deeds_init : List Str := ["self", "deeds", "index", "deed"]
theorem sc_Deeds_init : C8.scC n_Deeds_init ["self", "deeds"] (C8.fnScope s_Deeds_init) = true := by decide +kernel
theorem lc_Deeds_init : lcB n_Deeds_init 4 (C8.fnScope s_Deeds_init) = true := by decide +kernel
abbrev s_word_of : Stmt := top 71
abbrev n_word_of : List Str := ["part"]
theorem sc_word_of : C8.scC n_word_of ["part"] (C8.fnScope s_word_of) = true := by decide +kernel
theorem lc_word_of : lcB n_word_of 1 (C8.fnScope s_word_of) = true := by decide +kernel
abbrev s_scope_words : Stmt := top 72
abbrev n_scope_words : List Str := ["scope", "part"]
theorem sc_scope_words : C8.scC n_scope_words ["scope"] (C8.fnScope s_scope_words) = true := by decide +kernel
theorem lc_scope_words : lcB n_scope_words 1 (C8.fnScope s_scope_words) = true := by decide +kernel
abbrev s_deed_line : Stmt := top 73
abbrev n_deed_line : List Str := ["deed", "part"]
theorem sc_deed_line : C8.scC n_deed_line ["deed"] (C8.fnScope s_deed_line) = true := by decide +kernel
theorem lc_deed_line : lcB n_deed_line 1 (C8.fnScope s_deed_line) = true := by decide +kernel
abbrev s_part_of : Stmt := top 74
abbrev n_part_of : List Str := ["word"]
theorem sc_part_of : C8.scC n_part_of ["word"] (C8.fnScope s_part_of) = true := by decide +kernel
theorem lc_part_of : lcB n_part_of 1 (C8.fnScope s_part_of) = true := by decide +kernel
abbrev s_scope_of : Stmt := top 75
abbrev n_scope_of : List Str := ["words", "word"]
theorem sc_scope_of : C8.scC n_scope_of ["words"] (C8.fnScope s_scope_of) = true := by decide +kernel
theorem lc_scope_of : lcB n_scope_of 1 (C8.fnScope s_scope_of) = true := by decide +kernel
abbrev s_deed_of : Stmt := top 76
abbrev n_deed_of : List Str := ["line", "words", "value", "word"]
theorem sc_deed_of : C8.scC n_deed_of ["line"] (C8.fnScope s_deed_of) = true := by decide +kernel
theorem lc_deed_of : lcB n_deed_of 3 (C8.fnScope s_deed_of) = true := by decide +kernel
abbrev s_read : Stmt := top 77
abbrev n_read : List Str := ["text", "found", "at", "line", "deed"]
theorem sc_read : C8.scC n_read ["text"] (C8.fnScope s_read) = true := by decide +kernel
theorem lc_read : lcB n_read 5 (C8.fnScope s_read) = true := by decide +kernel
abbrev s__law_begin : Stmt := top 79
abbrev n__law_begin : List Str := ["_law_script"]
theorem sc__law_begin : C8.scC n__law_begin ["_law_script"] (C8.fnScope s__law_begin) = true := by decide +kernel
theorem lc__law_begin : lcB n__law_begin 1 (C8.fnScope s__law_begin) = true := by decide +kernel
abbrev s__law_draw : Stmt := top 80
abbrev n__law_draw : List Str := ["_law_draws", "_law_many", "_law_cell", "_law_found"]
theorem sc__law_draw : C8.scC n__law_draw ["_law_draws", "_law_many"] (C8.fnScope s__law_draw) = true := by decide +kernel
theorem lc__law_draw : lcB n__law_draw 4 (C8.fnScope s__law_draw) = true := by decide +kernel
abbrev s__law_first : Stmt := top 81
abbrev n__law_first : List Str := ["_law_at", "_law_sheet"]
theorem sc__law_first : C8.scC n__law_first ["_law_at", "_law_sheet"] (C8.fnScope s__law_first) = true := by decide +kernel
theorem lc__law_first : lcB n__law_first 2 (C8.fnScope s__law_first) = true := by decide +kernel
abbrev s__law_second : Stmt := top 82
abbrev n__law_second : List Str := ["_law_at", "_law_sheet"]
theorem sc__law_second : C8.scC n__law_second ["_law_at", "_law_sheet"] (C8.fnScope s__law_second) = true := by decide +kernel
theorem lc__law_second : lcB n__law_second 2 (C8.fnScope s__law_second) = true := by decide +kernel
abbrev s__law_kinds : Stmt := top 83
abbrev n__law_kinds : List Str := ["_law_e", "_law_told"]
theorem sc__law_kinds : C8.scC n__law_kinds ["_law_e"] (C8.fnScope s__law_kinds) = true := by decide +kernel
theorem lc__law_kinds : lcB n__law_kinds 2 (C8.fnScope s__law_kinds) = true := by decide +kernel
abbrev s_law : Stmt := top 84
abbrev n_law : List Str := ["_law_script", "_law_draws", "_law_at", "_law_sheet", "_law_told", "_law_e", "_law_k"]
theorem sc_law : C8.scC n_law ["_law_script"] (C8.fnScope s_law) = true := by decide +kernel
theorem lc_law : lcB n_law 6 (C8.fnScope s_law) = true := by decide +kernel
/-- what the top has left -/
structure Txt (K : PySem.W.Frag) (mg : Str → Option Value) : Prop where
  fr_len : mg "len" = none
  fr_max : mg "max" = none
  fr_min : mg "min" = none
  fr_isinstance : mg "isinstance" = none
  fr_range : mg "range" = none
  fr_enumerate : mg "enumerate" = none
  fr_zip : mg "zip" = none
  fr_tuple : mg "tuple" = none
  fr_list : mg "list" = none
  fr_dict : mg "dict" = none
  fr_sorted : mg "sorted" = none
  fr_int : mg "int" = none
  fr_str : mg "str" = none
  fr_bool : mg "bool" = none
  fr_all : mg "all" = none
  fr_any : mg "any" = none
  fr_ValueError : mg "ValueError" = none
  gv_PLAIN : mg "PLAIN" = some (.ref (He.ga K "PLAIN"))
  im_PLAIN : ∀ H, Im K H (.ref (He.ga K "PLAIN")) (.tuple [.tuple [.int 0, .none]])
  gv_EMPTY : mg "EMPTY" = some (.ref (He.ga K "EMPTY"))
  im_EMPTY : ∀ H, Im K H (.ref (He.ga K "EMPTY")) (.tuple [.tuple [.int 0, .tuple [.tuple [.int 0, .none]]]])
  gv_KINDS : mg "KINDS" = some (.ref (He.ga K "KINDS"))
  im_KINDS : ∀ H, Im K H (.ref (He.ga K "KINDS")) (.tuple [.str "ink", .str "ground", .str "face"])
  gv_ORDERS : mg "ORDERS" = some (.ref (He.ga K "ORDERS"))
  im_ORDERS : ∀ H, Im K H (.ref (He.ga K "ORDERS")) (.tuple [.str "nearest", .str "newest"])
  gv_MOST_sheets : ∃ t, mg "MOST_sheets" = some (.int 999999 t)
  gv_MOST_deeds : ∃ t, mg "MOST_deeds" = some (.int 6 t)
  gv_WIDEST : ∃ t, mg "WIDEST" = some (.int 9 t)
  gv_FIGURES : ∃ t, mg "FIGURES" = some (.str "0123456789" t)
  ki : kindsB K ["BadOrder", "BadScope", "BadKind", "BadValue", "BadAxis", "BadPlace", "BadHow", "NothingToUndo", "NothingToRedo", "BadLink", "BadDeed", "BadLine"] = true
  gx_LookError : mg "LookError" = some (.ref (He.ga K "LookError"))
  xc_LookError : XcC K (He.ga K "LookError")
  gx_BadOrder : mg "BadOrder" = some (.ref (He.ga K "BadOrder"))
  xc_BadOrder : XcC K (He.ga K "BadOrder")
  gx_BadScope : mg "BadScope" = some (.ref (He.ga K "BadScope"))
  xc_BadScope : XcC K (He.ga K "BadScope")
  gx_BadKind : mg "BadKind" = some (.ref (He.ga K "BadKind"))
  xc_BadKind : XcC K (He.ga K "BadKind")
  gx_BadValue : mg "BadValue" = some (.ref (He.ga K "BadValue"))
  xc_BadValue : XcC K (He.ga K "BadValue")
  gx_BadAxis : mg "BadAxis" = some (.ref (He.ga K "BadAxis"))
  xc_BadAxis : XcC K (He.ga K "BadAxis")
  gx_BadPlace : mg "BadPlace" = some (.ref (He.ga K "BadPlace"))
  xc_BadPlace : XcC K (He.ga K "BadPlace")
  gx_BadHow : mg "BadHow" = some (.ref (He.ga K "BadHow"))
  xc_BadHow : XcC K (He.ga K "BadHow")
  gx_NothingToUndo : mg "NothingToUndo" = some (.ref (He.ga K "NothingToUndo"))
  xc_NothingToUndo : XcC K (He.ga K "NothingToUndo")
  gx_NothingToRedo : mg "NothingToRedo" = some (.ref (He.ga K "NothingToRedo"))
  xc_NothingToRedo : XcC K (He.ga K "NothingToRedo")
  gx_BadLink : mg "BadLink" = some (.ref (He.ga K "BadLink"))
  xo_BadLink : XfO K (He.ga K "BadLink") "index"
  d_BadLink_init : ∃ f fd, PySem.W.findIn K (.ref (He.ga K "BadLink")) "__init__" = some (some (.ref f)) ∧ PySem.W.typeIn K (.ref f) = some (.type "function") ∧ C8.Fun K "__init__" "BadLink.__init__" s_BadLink_init f fd ∧ Binds K fd ["self", "index"] []
  xf_BadLink : XfC K (He.ga K "BadLink")
  gx_BadDeed : mg "BadDeed" = some (.ref (He.ga K "BadDeed"))
  xo_BadDeed : XfO K (He.ga K "BadDeed") "index"
  d_BadDeed_init : ∃ f fd, PySem.W.findIn K (.ref (He.ga K "BadDeed")) "__init__" = some (some (.ref f)) ∧ PySem.W.typeIn K (.ref f) = some (.type "function") ∧ C8.Fun K "__init__" "BadDeed.__init__" s_BadDeed_init f fd ∧ Binds K fd ["self", "index"] []
  xf_BadDeed : XfC K (He.ga K "BadDeed")
  gx_BadLine : mg "BadLine" = some (.ref (He.ga K "BadLine"))
  xo_BadLine : XfO K (He.ga K "BadLine") "line"
  d_BadLine_init : ∃ f fd, PySem.W.findIn K (.ref (He.ga K "BadLine")) "__init__" = some (some (.ref f)) ∧ PySem.W.typeIn K (.ref f) = some (.type "function") ∧ C8.Fun K "__init__" "BadLine.__init__" s_BadLine_init f fd ∧ Binds K fd ["self", "line"] []
  xf_BadLine : XfC K (He.ga K "BadLine")
  xm_BadOrder_LookError : PySem.W.exmOne K (.ref (He.ga K "BadOrder")) (.ref (He.ga K "LookError")) = some true
  xm_BadScope_LookError : PySem.W.exmOne K (.ref (He.ga K "BadScope")) (.ref (He.ga K "LookError")) = some true
  xm_BadKind_LookError : PySem.W.exmOne K (.ref (He.ga K "BadKind")) (.ref (He.ga K "LookError")) = some true
  xm_BadValue_LookError : PySem.W.exmOne K (.ref (He.ga K "BadValue")) (.ref (He.ga K "LookError")) = some true
  xm_BadAxis_LookError : PySem.W.exmOne K (.ref (He.ga K "BadAxis")) (.ref (He.ga K "LookError")) = some true
  xm_BadPlace_LookError : PySem.W.exmOne K (.ref (He.ga K "BadPlace")) (.ref (He.ga K "LookError")) = some true
  xm_BadHow_LookError : PySem.W.exmOne K (.ref (He.ga K "BadHow")) (.ref (He.ga K "LookError")) = some true
  xm_NothingToUndo_LookError : PySem.W.exmOne K (.ref (He.ga K "NothingToUndo")) (.ref (He.ga K "LookError")) = some true
  xm_NothingToRedo_LookError : PySem.W.exmOne K (.ref (He.ga K "NothingToRedo")) (.ref (He.ga K "LookError")) = some true
  xm_BadLink_LookError : PySem.W.exmOne K (.ref (He.ga K "BadLink")) (.ref (He.ga K "LookError")) = some true
  xm_BadDeed_LookError : PySem.W.exmOne K (.ref (He.ga K "BadDeed")) (.ref (He.ga K "LookError")) = some true
  xm_BadLine_LookError : PySem.W.exmOne K (.ref (He.ga K "BadLine")) (.ref (He.ga K "LookError")) = some true
  cl_Levels : Cls K (He.ga K "Levels")
  ci_Levels : InsC K (He.ga K "Levels")
  na_Levels_whole : NoAttr K (He.ga K "Levels") "whole"
  na_Levels_lanes : NoAttr K (He.ga K "Levels") "lanes"
  na_Levels_files : NoAttr K (He.ga K "Levels") "files"
  na_Levels_spots : NoAttr K (He.ga K "Levels") "spots"
  cl_Sheet : Cls K (He.ga K "Sheet")
  ci_Sheet : InsC K (He.ga K "Sheet")
  na_Sheet_order : NoAttr K (He.ga K "Sheet") "order"
  na_Sheet_links : NoAttr K (He.ga K "Sheet") "links"
  na_Sheet_table : NoAttr K (He.ga K "Sheet") "table"
  na_Sheet_age : NoAttr K (He.ga K "Sheet") "age"
  na_Sheet_past : NoAttr K (He.ga K "Sheet") "past"
  na_Sheet_later : NoAttr K (He.ga K "Sheet") "later"
  cl_Deeds : Cls K (He.ga K "Deeds")
  ci_Deeds : InsC K (He.ga K "Deeds")
  na_Deeds_deeds : NoAttr K (He.ga K "Deeds") "deeds"
  d_strip_of : ∃ f fd, C8.Def K mg "strip_of" s_strip_of f fd ∧ Binds K fd ["pieces"] []
  d_thing_at : ∃ f fd, C8.Def K mg "thing_at" s_thing_at f fd ∧ Binds K fd ["strip", "place"] []
  d_pieces_of : ∃ f fd, C8.Def K mg "pieces_of" s_pieces_of f fd ∧ Binds K fd ["strip", "begin", "end"] []
  d_overlaid : ∃ f fd, C8.Def K mg "overlaid" s_overlaid f fd ∧ Binds K fd ["strip", "begin", "pieces"] []
  d_inserted : ∃ f fd, C8.Def K mg "inserted" s_inserted f fd ∧ Binds K fd ["strip", "at", "many", "thing"] []
  d_removed : ∃ f fd, C8.Def K mg "removed" s_removed f fd ∧ Binds K fd ["strip", "at", "many"] []
  d_moved : ∃ f fd, C8.Def K mg "moved" s_moved f fd ∧ Binds K fd ["strip", "at", "many", "to"] []
  d_starts_of : ∃ f fd, C8.Def K mg "starts_of" s_starts_of f fd ∧ Binds K fd ["strip"] []
  d_Levels_init : ∃ f fd, Mk K (He.ga K "Levels") f ∧ mg "Levels" = some (.ref (He.ga K "Levels")) ∧ C8.Fun K "__init__" "Levels.__init__" s_Levels_init f fd ∧ Binds K fd ["self", "whole", "lanes", "files", "spots"] []
  d_Levels_parts : ∃ f fd, Meth K (He.ga K "Levels") "parts" f ∧ C8.Fun K "parts" "Levels.parts" s_Levels_parts f fd ∧ Binds K fd ["self"] []
  d_Levels_tellings_at : ∃ f fd, Meth K (He.ga K "Levels") "tellings_at" f ∧ C8.Fun K "tellings_at" "Levels.tellings_at" s_Levels_tellings_at f fd ∧ Binds K fd ["self", "row", "column"] []
  d_empty_levels : ∃ f fd, C8.Def K mg "empty_levels" s_empty_levels f fd ∧ Binds K fd [] []
  d_size_of : ∃ f fd, C8.Def K mg "size_of" s_size_of f fd ∧ Binds K fd ["a", "b"] []
  d_with_told : ∃ f fd, C8.Def K mg "with_told" s_with_told f fd ∧ Binds K fd ["levels", "scope", "telling"] []
  d_laid : ∃ f fd, C8.Def K mg "laid" s_laid f fd ∧ Binds K fd ["spots", "row", "column", "pieces"] []
  d_block_of : ∃ f fd, C8.Def K mg "block_of" s_block_of f fd ∧ Binds K fd ["levels", "scope"] []
  d_on_strips : ∃ f fd, C8.Def K mg "on_strips" s_on_strips f fd ∧ Binds K fd ["spots", "change"] []
  d_with_inserted : ∃ f fd, C8.Def K mg "with_inserted" s_with_inserted f fd ∧ Binds K fd ["levels", "axis", "at", "many", "how"] []
  d_with_removed : ∃ f fd, C8.Def K mg "with_removed" s_with_removed f fd ∧ Binds K fd ["levels", "axis", "at", "many"] []
  d_with_moved : ∃ f fd, C8.Def K mg "with_moved" s_with_moved f fd ∧ Binds K fd ["levels", "axis", "at", "many", "to"] []
  d_is_number : ∃ f fd, C8.Def K mg "is_number" s_is_number f fd ∧ Binds K fd ["value", "least", "most"] []
  d_is_kind : ∃ f fd, C8.Def K mg "is_kind" s_is_kind f fd ∧ Binds K fd ["value"] []
  d_check_kind : ∃ f fd, C8.Def K mg "check_kind" s_check_kind f fd ∧ Binds K fd ["kind"] []
  d_check_order : ∃ f fd, C8.Def K mg "check_order" s_check_order f fd ∧ Binds K fd ["order"] []
  d_is_range : ∃ f fd, C8.Def K mg "is_range" s_is_range f fd ∧ Binds K fd ["a", "b"] []
  d_is_cells : ∃ f fd, C8.Def K mg "is_cells" s_is_cells f fd ∧ Binds K fd ["value"] []
  d_is_scope : ∃ f fd, C8.Def K mg "is_scope" s_is_scope f fd ∧ Binds K fd ["value"] []
  d_is_told_value : ∃ f fd, C8.Def K mg "is_told_value" s_is_told_value f fd ∧ Binds K fd ["value"] []
  d_is_axis : ∃ f fd, C8.Def K mg "is_axis" s_is_axis f fd ∧ Binds K fd ["value"] []
  d_link_fault : ∃ f fd, C8.Def K mg "link_fault" s_link_fault f fd ∧ Binds K fd ["links"] []
  d_telling_of : ∃ f fd, C8.Def K mg "telling_of" s_telling_of f fd ∧ Binds K fd ["order", "tellings"] []
  d_age_of : ∃ f fd, C8.Def K mg "age_of" s_age_of f fd ∧ Binds K fd ["telling"] []
  d_Sheet_init : ∃ f fd, Mk K (He.ga K "Sheet") f ∧ mg "Sheet" = some (.ref (He.ga K "Sheet")) ∧ C8.Fun K "__init__" "Sheet.__init__" s_Sheet_init f fd ∧ Binds K fd ["self", "order", "links"] []
  d_Sheet_shown : ∃ f fd, Meth K (He.ga K "Sheet") "shown" f ∧ C8.Fun K "shown" "Sheet.shown" s_Sheet_shown f fd ∧ Binds K fd ["self", "kind", "row", "column"] []
  d_Sheet_look : ∃ f fd, Meth K (He.ga K "Sheet") "look" f ∧ C8.Fun K "look" "Sheet.look" s_Sheet_look f fd ∧ Binds K fd ["self", "row", "column"] []
  d_Sheet_go_to : ∃ f fd, Meth K (He.ga K "Sheet") "go_to" f ∧ C8.Fun K "go_to" "Sheet.go_to" s_Sheet_go_to f fd ∧ Binds K fd ["self", "table"] []
  d_Sheet_tell : ∃ f fd, Meth K (He.ga K "Sheet") "tell" f ∧ C8.Fun K "tell" "Sheet.tell" s_Sheet_tell f fd ∧ Binds K fd ["self", "scope", "kind", "value"] []
  d_Sheet_insert : ∃ f fd, Meth K (He.ga K "Sheet") "insert" f ∧ C8.Fun K "insert" "Sheet.insert" s_Sheet_insert f fd ∧ Binds K fd ["self", "axis", "at", "many", "how"] []
  d_Sheet_remove : ∃ f fd, Meth K (He.ga K "Sheet") "remove" f ∧ C8.Fun K "remove" "Sheet.remove" s_Sheet_remove f fd ∧ Binds K fd ["self", "axis", "at", "many"] []
  d_Sheet_move : ∃ f fd, Meth K (He.ga K "Sheet") "move" f ∧ C8.Fun K "move" "Sheet.move" s_Sheet_move f fd ∧ Binds K fd ["self", "axis", "at", "many", "to"] []
  d_Sheet_copy : ∃ f fd, Meth K (He.ga K "Sheet") "copy" f ∧ C8.Fun K "copy" "Sheet.copy" s_Sheet_copy f fd ∧ Binds K fd ["self", "scope", "row", "column", "how"] []
  d_Sheet_shown_block : ∃ f fd, Meth K (He.ga K "Sheet") "shown_block" f ∧ C8.Fun K "shown_block" "Sheet.shown_block" s_Sheet_shown_block f fd ∧ Binds K fd ["self", "kind", "scope"] []
  d_Sheet_starts : ∃ f fd, Meth K (He.ga K "Sheet") "starts" f ∧ C8.Fun K "starts" "Sheet.starts" s_Sheet_starts f fd ∧ Binds K fd ["self", "axis"] []
  d_Sheet_undo : ∃ f fd, Meth K (He.ga K "Sheet") "undo" f ∧ C8.Fun K "undo" "Sheet.undo" s_Sheet_undo f fd ∧ Binds K fd ["self"] []
  d_Sheet_redo : ∃ f fd, Meth K (He.ga K "Sheet") "redo" f ∧ C8.Fun K "redo" "Sheet.redo" s_Sheet_redo f fd ∧ Binds K fd ["self"] []
  d_Sheet_twin : ∃ f fd, Meth K (He.ga K "Sheet") "twin" f ∧ C8.Fun K "twin" "Sheet.twin" s_Sheet_twin f fd ∧ Binds K fd ["self"] []
  d_Sheet_ranked : ∃ f fd, Meth K (He.ga K "Sheet") "ranked" f ∧ C8.Fun K "ranked" "Sheet.ranked" s_Sheet_ranked f fd ∧ Binds K fd ["self"] []
  d_Sheet_eq : ∃ f fd, Meth K (He.ga K "Sheet") "__eq__" f ∧ C8.Fun K "__eq__" "Sheet.__eq__" s_Sheet_eq f fd ∧ Binds K fd ["self", "other"] []
  d_Sheet_len : ∃ f fd, Meth K (He.ga K "Sheet") "__len__" f ∧ C8.Fun K "__len__" "Sheet.__len__" s_Sheet_len f fd ∧ Binds K fd ["self"] []
  d_check_shift : ∃ f fd, C8.Def K mg "check_shift" s_check_shift f fd ∧ Binds K fd ["axis", "places", "many"] []
  d_stretches : ∃ f fd, C8.Def K mg "stretches" s_stretches f fd ∧ Binds K fd ["starts", "begin", "end"] []
  d_with_rank : ∃ f fd, C8.Def K mg "with_rank" s_with_rank f fd ∧ Binds K fd ["telling", "ranks"] []
  d_ranked_strip : ∃ f fd, C8.Def K mg "ranked_strip" s_ranked_strip f fd ∧ Binds K fd ["strip", "ranks"] []
  d_ranked_levels : ∃ f fd, C8.Def K mg "ranked_levels" s_ranked_levels f fd ∧ Binds K fd ["levels", "ranks"] []
  d_note_age : ∃ f fd, C8.Def K mg "note_age" s_note_age f fd ∧ Binds K fd ["telling", "ages"] []
  d_gather_ages : ∃ f fd, C8.Def K mg "gather_ages" s_gather_ages f fd ∧ Binds K fd ["nests", "ages"] []
  d_is_small : ∃ f fd, C8.Def K mg "is_small" s_is_small f fd ∧ Binds K fd ["value"] []
  d_is_small_scope : ∃ f fd, C8.Def K mg "is_small_scope" s_is_small_scope f fd ∧ Binds K fd ["value"] []
  d_is_shift : ∃ f fd, C8.Def K mg "is_shift" s_is_shift f fd ∧ Binds K fd ["value"] []
  d_is_deed : ∃ f fd, C8.Def K mg "is_deed" s_is_deed f fd ∧ Binds K fd ["value"] []
  d_Deeds_init : ∃ f fd, Mk K (He.ga K "Deeds") f ∧ mg "Deeds" = some (.ref (He.ga K "Deeds")) ∧ C8.Fun K "__init__" "Deeds.__init__" s_Deeds_init f fd ∧ Binds K fd ["self", "deeds"] []
  d_word_of : ∃ f fd, C8.Def K mg "word_of" s_word_of f fd ∧ Binds K fd ["part"] []
  d_scope_words : ∃ f fd, C8.Def K mg "scope_words" s_scope_words f fd ∧ Binds K fd ["scope"] []
  d_deed_line : ∃ f fd, C8.Def K mg "deed_line" s_deed_line f fd ∧ Binds K fd ["deed"] []
  d_part_of : ∃ f fd, C8.Def K mg "part_of" s_part_of f fd ∧ Binds K fd ["word"] []
  d_scope_of : ∃ f fd, C8.Def K mg "scope_of" s_scope_of f fd ∧ Binds K fd ["words"] []
  d_deed_of : ∃ f fd, C8.Def K mg "deed_of" s_deed_of f fd ∧ Binds K fd ["line"] []
  d_read : ∃ f fd, C8.Def K mg "read" s_read f fd ∧ Binds K fd ["text"] []
  d__law_begin : ∃ f fd, C8.Def K mg "_law_begin" s__law_begin f fd ∧ Binds K fd ["_law_script"] []
  d__law_draw : ∃ f fd, C8.Def K mg "_law_draw" s__law_draw f fd ∧ Binds K fd ["_law_draws", "_law_many"] []
  d__law_first : ∃ f fd, C8.Def K mg "_law_first" s__law_first f fd ∧ Binds K fd ["_law_at", "_law_sheet"] []
  d__law_second : ∃ f fd, C8.Def K mg "_law_second" s__law_second f fd ∧ Binds K fd ["_law_at", "_law_sheet"] []
  d__law_kinds : ∃ f fd, C8.Def K mg "_law_kinds" s__law_kinds f fd ∧ Binds K fd ["_law_e"] []
  d_law : ∃ f fd, C8.Def K mg "law" s_law f fd ∧ Binds K fd ["_law_script"] []
section
variable {P : Program} {w : World} {K : PySem.W.Frag} {mg : Str → Option Value} {base : Heap}
theorem c_BadLink_init (T : Txt K mg) : ∃ fI fd, PySem.W.findIn K (.ref (He.ga K "BadLink")) "__init__" = some (some (.ref fI)) ∧ PySem.W.typeIn K (.ref fI) = some (.type "function") ∧ Binds K fd ["self", "index"] [] ∧ FnOk P w K mg base (L2N.CX P w) 1 fI fd ["self", "index"] (sp_exinit "index" (He.ga K "BadLink")) := by
  obtain ⟨f, fd, h1, h2, F, b⟩ := T.d_BadLink_init
  refine ⟨f, fd, h1, h2, b, fn_here (N := n_BadLink_init) F sc_BadLink_init (fun vs H Q E q => q.1) (fun X E h vs H Q q => ?_)⟩
  obtain ⟨hp, hw, hK, hm, hb, hN, hs, hcalm, hfn, hroom, hown, hstk, hfrm, htk⟩ := h
  subst hp hw hK hm hb
  have L := lcs_of hN hs hfn lc_BadLink_init
  have n0 : Lcc X "self" 0 := ⟨L 0 _ rfl (by decide)⟩
  have n1 : Lcc X "index" 1 := ⟨L 1 _ rfl (by decide)⟩
  exact exinit_body n0 n1 T.xo_BadLink q
theorem c_BadDeed_init (T : Txt K mg) : ∃ fI fd, PySem.W.findIn K (.ref (He.ga K "BadDeed")) "__init__" = some (some (.ref fI)) ∧ PySem.W.typeIn K (.ref fI) = some (.type "function") ∧ Binds K fd ["self", "index"] [] ∧ FnOk P w K mg base (L2N.CX P w) 1 fI fd ["self", "index"] (sp_exinit "index" (He.ga K "BadDeed")) := by
  obtain ⟨f, fd, h1, h2, F, b⟩ := T.d_BadDeed_init
  refine ⟨f, fd, h1, h2, b, fn_here (N := n_BadDeed_init) F sc_BadDeed_init (fun vs H Q E q => q.1) (fun X E h vs H Q q => ?_)⟩
  obtain ⟨hp, hw, hK, hm, hb, hN, hs, hcalm, hfn, hroom, hown, hstk, hfrm, htk⟩ := h
  subst hp hw hK hm hb
  have L := lcs_of hN hs hfn lc_BadDeed_init
  have n0 : Lcc X "self" 0 := ⟨L 0 _ rfl (by decide)⟩
  have n1 : Lcc X "index" 1 := ⟨L 1 _ rfl (by decide)⟩
  exact exinit_body n0 n1 T.xo_BadDeed q
theorem c_BadLine_init (T : Txt K mg) : ∃ fI fd, PySem.W.findIn K (.ref (He.ga K "BadLine")) "__init__" = some (some (.ref fI)) ∧ PySem.W.typeIn K (.ref fI) = some (.type "function") ∧ Binds K fd ["self", "line"] [] ∧ FnOk P w K mg base (L2N.CX P w) 1 fI fd ["self", "line"] (sp_exinit "line" (He.ga K "BadLine")) := by
  obtain ⟨f, fd, h1, h2, F, b⟩ := T.d_BadLine_init
  refine ⟨f, fd, h1, h2, b, fn_here (N := n_BadLine_init) F sc_BadLine_init (fun vs H Q E q => q.1) (fun X E h vs H Q q => ?_)⟩
  obtain ⟨hp, hw, hK, hm, hb, hN, hs, hcalm, hfn, hroom, hown, hstk, hfrm, htk⟩ := h
  subst hp hw hK hm hb
  have L := lcs_of hN hs hfn lc_BadLine_init
  have n0 : Lcc X "self" 0 := ⟨L 0 _ rfl (by decide)⟩
  have n1 : Lcc X "line" 1 := ⟨L 1 _ rfl (by decide)⟩
  exact exinit_body n0 n1 T.xo_BadLine q
end
end G

namespace G
open PySem PySem.Spec PyProof.Rows L2 Z
def d_BadLink_init : He.DefD := ⟨("BadLink", some "__init__"), "__init__", "BadLink.__init__", C8.fnArgs s_BadLink_init, C8.fnBody s_BadLink_init, C8.fnScope s_BadLink_init, [], []⟩
def d_BadDeed_init : He.DefD := ⟨("BadDeed", some "__init__"), "__init__", "BadDeed.__init__", C8.fnArgs s_BadDeed_init, C8.fnBody s_BadDeed_init, C8.fnScope s_BadDeed_init, [], []⟩
def d_BadLine_init : He.DefD := ⟨("BadLine", some "__init__"), "__init__", "BadLine.__init__", C8.fnArgs s_BadLine_init, C8.fnBody s_BadLine_init, C8.fnScope s_BadLine_init, [], []⟩
def d_strip_of : He.DefD := ⟨("strip_of", none), "strip_of", "strip_of", C8.fnArgs s_strip_of, C8.fnBody s_strip_of, C8.fnScope s_strip_of, [], []⟩
def d_thing_at : He.DefD := ⟨("thing_at", none), "thing_at", "thing_at", C8.fnArgs s_thing_at, C8.fnBody s_thing_at, C8.fnScope s_thing_at, [], []⟩
def d_pieces_of : He.DefD := ⟨("pieces_of", none), "pieces_of", "pieces_of", C8.fnArgs s_pieces_of, C8.fnBody s_pieces_of, C8.fnScope s_pieces_of, [], []⟩
def d_overlaid : He.DefD := ⟨("overlaid", none), "overlaid", "overlaid", C8.fnArgs s_overlaid, C8.fnBody s_overlaid, C8.fnScope s_overlaid, [], []⟩
def d_inserted : He.DefD := ⟨("inserted", none), "inserted", "inserted", C8.fnArgs s_inserted, C8.fnBody s_inserted, C8.fnScope s_inserted, [], []⟩
def d_removed : He.DefD := ⟨("removed", none), "removed", "removed", C8.fnArgs s_removed, C8.fnBody s_removed, C8.fnScope s_removed, [], []⟩
def d_moved : He.DefD := ⟨("moved", none), "moved", "moved", C8.fnArgs s_moved, C8.fnBody s_moved, C8.fnScope s_moved, [], []⟩
def d_starts_of : He.DefD := ⟨("starts_of", none), "starts_of", "starts_of", C8.fnArgs s_starts_of, C8.fnBody s_starts_of, C8.fnScope s_starts_of, [], []⟩
def d_Levels_init : He.DefD := ⟨("Levels", some "__init__"), "__init__", "Levels.__init__", C8.fnArgs s_Levels_init, C8.fnBody s_Levels_init, C8.fnScope s_Levels_init, [], []⟩
def d_Levels_parts : He.DefD := ⟨("Levels", some "parts"), "parts", "Levels.parts", C8.fnArgs s_Levels_parts, C8.fnBody s_Levels_parts, C8.fnScope s_Levels_parts, [], []⟩
def d_Levels_tellings_at : He.DefD := ⟨("Levels", some "tellings_at"), "tellings_at", "Levels.tellings_at", C8.fnArgs s_Levels_tellings_at, C8.fnBody s_Levels_tellings_at, C8.fnScope s_Levels_tellings_at, [], []⟩
def d_empty_levels : He.DefD := ⟨("empty_levels", none), "empty_levels", "empty_levels", C8.fnArgs s_empty_levels, C8.fnBody s_empty_levels, C8.fnScope s_empty_levels, [], []⟩
def d_size_of : He.DefD := ⟨("size_of", none), "size_of", "size_of", C8.fnArgs s_size_of, C8.fnBody s_size_of, C8.fnScope s_size_of, [], []⟩
def d_with_told : He.DefD := ⟨("with_told", none), "with_told", "with_told", C8.fnArgs s_with_told, C8.fnBody s_with_told, C8.fnScope s_with_told, [], []⟩
def d_laid : He.DefD := ⟨("laid", none), "laid", "laid", C8.fnArgs s_laid, C8.fnBody s_laid, C8.fnScope s_laid, [], []⟩
def d_block_of : He.DefD := ⟨("block_of", none), "block_of", "block_of", C8.fnArgs s_block_of, C8.fnBody s_block_of, C8.fnScope s_block_of, [], []⟩
def d_on_strips : He.DefD := ⟨("on_strips", none), "on_strips", "on_strips", C8.fnArgs s_on_strips, C8.fnBody s_on_strips, C8.fnScope s_on_strips, [], []⟩
def d_with_inserted : He.DefD := ⟨("with_inserted", none), "with_inserted", "with_inserted", C8.fnArgs s_with_inserted, C8.fnBody s_with_inserted, C8.fnScope s_with_inserted, [], []⟩
def d_with_removed : He.DefD := ⟨("with_removed", none), "with_removed", "with_removed", C8.fnArgs s_with_removed, C8.fnBody s_with_removed, C8.fnScope s_with_removed, [], []⟩
def d_with_moved : He.DefD := ⟨("with_moved", none), "with_moved", "with_moved", C8.fnArgs s_with_moved, C8.fnBody s_with_moved, C8.fnScope s_with_moved, [], []⟩
def d_is_number : He.DefD := ⟨("is_number", none), "is_number", "is_number", C8.fnArgs s_is_number, C8.fnBody s_is_number, C8.fnScope s_is_number, [], []⟩
def d_is_kind : He.DefD := ⟨("is_kind", none), "is_kind", "is_kind", C8.fnArgs s_is_kind, C8.fnBody s_is_kind, C8.fnScope s_is_kind, [], []⟩
def d_check_kind : He.DefD := ⟨("check_kind", none), "check_kind", "check_kind", C8.fnArgs s_check_kind, C8.fnBody s_check_kind, C8.fnScope s_check_kind, [], []⟩
def d_check_order : He.DefD := ⟨("check_order", none), "check_order", "check_order", C8.fnArgs s_check_order, C8.fnBody s_check_order, C8.fnScope s_check_order, [], []⟩
def d_is_range : He.DefD := ⟨("is_range", none), "is_range", "is_range", C8.fnArgs s_is_range, C8.fnBody s_is_range, C8.fnScope s_is_range, [], []⟩
def d_is_cells : He.DefD := ⟨("is_cells", none), "is_cells", "is_cells", C8.fnArgs s_is_cells, C8.fnBody s_is_cells, C8.fnScope s_is_cells, [], []⟩
def d_is_scope : He.DefD := ⟨("is_scope", none), "is_scope", "is_scope", C8.fnArgs s_is_scope, C8.fnBody s_is_scope, C8.fnScope s_is_scope, [], []⟩
def d_is_told_value : He.DefD := ⟨("is_told_value", none), "is_told_value", "is_told_value", C8.fnArgs s_is_told_value, C8.fnBody s_is_told_value, C8.fnScope s_is_told_value, [], []⟩
def d_is_axis : He.DefD := ⟨("is_axis", none), "is_axis", "is_axis", C8.fnArgs s_is_axis, C8.fnBody s_is_axis, C8.fnScope s_is_axis, [], []⟩
def d_link_fault : He.DefD := ⟨("link_fault", none), "link_fault", "link_fault", C8.fnArgs s_link_fault, C8.fnBody s_link_fault, C8.fnScope s_link_fault, [], []⟩
def d_telling_of : He.DefD := ⟨("telling_of", none), "telling_of", "telling_of", C8.fnArgs s_telling_of, C8.fnBody s_telling_of, C8.fnScope s_telling_of, [], []⟩
def d_age_of : He.DefD := ⟨("age_of", none), "age_of", "age_of", C8.fnArgs s_age_of, C8.fnBody s_age_of, C8.fnScope s_age_of, [], []⟩
def d_Sheet_init : He.DefD := ⟨("Sheet", some "__init__"), "__init__", "Sheet.__init__", C8.fnArgs s_Sheet_init, C8.fnBody s_Sheet_init, C8.fnScope s_Sheet_init, [], []⟩
def d_Sheet_shown : He.DefD := ⟨("Sheet", some "shown"), "shown", "Sheet.shown", C8.fnArgs s_Sheet_shown, C8.fnBody s_Sheet_shown, C8.fnScope s_Sheet_shown, [], []⟩
def d_Sheet_look : He.DefD := ⟨("Sheet", some "look"), "look", "Sheet.look", C8.fnArgs s_Sheet_look, C8.fnBody s_Sheet_look, C8.fnScope s_Sheet_look, [], []⟩
def d_Sheet_go_to : He.DefD := ⟨("Sheet", some "go_to"), "go_to", "Sheet.go_to", C8.fnArgs s_Sheet_go_to, C8.fnBody s_Sheet_go_to, C8.fnScope s_Sheet_go_to, [], []⟩
def d_Sheet_tell : He.DefD := ⟨("Sheet", some "tell"), "tell", "Sheet.tell", C8.fnArgs s_Sheet_tell, C8.fnBody s_Sheet_tell, C8.fnScope s_Sheet_tell, [], []⟩
def d_Sheet_insert : He.DefD := ⟨("Sheet", some "insert"), "insert", "Sheet.insert", C8.fnArgs s_Sheet_insert, C8.fnBody s_Sheet_insert, C8.fnScope s_Sheet_insert, [], []⟩
def d_Sheet_remove : He.DefD := ⟨("Sheet", some "remove"), "remove", "Sheet.remove", C8.fnArgs s_Sheet_remove, C8.fnBody s_Sheet_remove, C8.fnScope s_Sheet_remove, [], []⟩
def d_Sheet_move : He.DefD := ⟨("Sheet", some "move"), "move", "Sheet.move", C8.fnArgs s_Sheet_move, C8.fnBody s_Sheet_move, C8.fnScope s_Sheet_move, [], []⟩
def d_Sheet_copy : He.DefD := ⟨("Sheet", some "copy"), "copy", "Sheet.copy", C8.fnArgs s_Sheet_copy, C8.fnBody s_Sheet_copy, C8.fnScope s_Sheet_copy, [], []⟩
def d_Sheet_shown_block : He.DefD := ⟨("Sheet", some "shown_block"), "shown_block", "Sheet.shown_block", C8.fnArgs s_Sheet_shown_block, C8.fnBody s_Sheet_shown_block, C8.fnScope s_Sheet_shown_block, [], []⟩
def d_Sheet_starts : He.DefD := ⟨("Sheet", some "starts"), "starts", "Sheet.starts", C8.fnArgs s_Sheet_starts, C8.fnBody s_Sheet_starts, C8.fnScope s_Sheet_starts, [], []⟩
def d_Sheet_undo : He.DefD := ⟨("Sheet", some "undo"), "undo", "Sheet.undo", C8.fnArgs s_Sheet_undo, C8.fnBody s_Sheet_undo, C8.fnScope s_Sheet_undo, [], []⟩
def d_Sheet_redo : He.DefD := ⟨("Sheet", some "redo"), "redo", "Sheet.redo", C8.fnArgs s_Sheet_redo, C8.fnBody s_Sheet_redo, C8.fnScope s_Sheet_redo, [], []⟩
def d_Sheet_twin : He.DefD := ⟨("Sheet", some "twin"), "twin", "Sheet.twin", C8.fnArgs s_Sheet_twin, C8.fnBody s_Sheet_twin, C8.fnScope s_Sheet_twin, [], []⟩
def d_Sheet_ranked : He.DefD := ⟨("Sheet", some "ranked"), "ranked", "Sheet.ranked", C8.fnArgs s_Sheet_ranked, C8.fnBody s_Sheet_ranked, C8.fnScope s_Sheet_ranked, [], []⟩
def d_Sheet_eq : He.DefD := ⟨("Sheet", some "__eq__"), "__eq__", "Sheet.__eq__", C8.fnArgs s_Sheet_eq, C8.fnBody s_Sheet_eq, C8.fnScope s_Sheet_eq, [], []⟩
def d_Sheet_len : He.DefD := ⟨("Sheet", some "__len__"), "__len__", "Sheet.__len__", C8.fnArgs s_Sheet_len, C8.fnBody s_Sheet_len, C8.fnScope s_Sheet_len, [], []⟩
def d_check_shift : He.DefD := ⟨("check_shift", none), "check_shift", "check_shift", C8.fnArgs s_check_shift, C8.fnBody s_check_shift, C8.fnScope s_check_shift, [], []⟩
def d_stretches : He.DefD := ⟨("stretches", none), "stretches", "stretches", C8.fnArgs s_stretches, C8.fnBody s_stretches, C8.fnScope s_stretches, [], []⟩
def d_with_rank : He.DefD := ⟨("with_rank", none), "with_rank", "with_rank", C8.fnArgs s_with_rank, C8.fnBody s_with_rank, C8.fnScope s_with_rank, [], []⟩
def d_ranked_strip : He.DefD := ⟨("ranked_strip", none), "ranked_strip", "ranked_strip", C8.fnArgs s_ranked_strip, C8.fnBody s_ranked_strip, C8.fnScope s_ranked_strip, [], []⟩
def d_ranked_levels : He.DefD := ⟨("ranked_levels", none), "ranked_levels", "ranked_levels", C8.fnArgs s_ranked_levels, C8.fnBody s_ranked_levels, C8.fnScope s_ranked_levels, [], []⟩
def d_note_age : He.DefD := ⟨("note_age", none), "note_age", "note_age", C8.fnArgs s_note_age, C8.fnBody s_note_age, C8.fnScope s_note_age, [], []⟩
def d_gather_ages : He.DefD := ⟨("gather_ages", none), "gather_ages", "gather_ages", C8.fnArgs s_gather_ages, C8.fnBody s_gather_ages, C8.fnScope s_gather_ages, [], []⟩
def d_is_small : He.DefD := ⟨("is_small", none), "is_small", "is_small", C8.fnArgs s_is_small, C8.fnBody s_is_small, C8.fnScope s_is_small, [], []⟩
def d_is_small_scope : He.DefD := ⟨("is_small_scope", none), "is_small_scope", "is_small_scope", C8.fnArgs s_is_small_scope, C8.fnBody s_is_small_scope, C8.fnScope s_is_small_scope, [], []⟩
def d_is_shift : He.DefD := ⟨("is_shift", none), "is_shift", "is_shift", C8.fnArgs s_is_shift, C8.fnBody s_is_shift, C8.fnScope s_is_shift, [], []⟩
def d_is_deed : He.DefD := ⟨("is_deed", none), "is_deed", "is_deed", C8.fnArgs s_is_deed, C8.fnBody s_is_deed, C8.fnScope s_is_deed, [], []⟩
def d_Deeds_init : He.DefD := ⟨("Deeds", some "__init__"), "__init__", "Deeds.__init__", C8.fnArgs s_Deeds_init, C8.fnBody s_Deeds_init, C8.fnScope s_Deeds_init, [], []⟩
def d_word_of : He.DefD := ⟨("word_of", none), "word_of", "word_of", C8.fnArgs s_word_of, C8.fnBody s_word_of, C8.fnScope s_word_of, [], []⟩
def d_scope_words : He.DefD := ⟨("scope_words", none), "scope_words", "scope_words", C8.fnArgs s_scope_words, C8.fnBody s_scope_words, C8.fnScope s_scope_words, [], []⟩
def d_deed_line : He.DefD := ⟨("deed_line", none), "deed_line", "deed_line", C8.fnArgs s_deed_line, C8.fnBody s_deed_line, C8.fnScope s_deed_line, [], []⟩
def d_part_of : He.DefD := ⟨("part_of", none), "part_of", "part_of", C8.fnArgs s_part_of, C8.fnBody s_part_of, C8.fnScope s_part_of, [], []⟩
def d_scope_of : He.DefD := ⟨("scope_of", none), "scope_of", "scope_of", C8.fnArgs s_scope_of, C8.fnBody s_scope_of, C8.fnScope s_scope_of, [], []⟩
def d_deed_of : He.DefD := ⟨("deed_of", none), "deed_of", "deed_of", C8.fnArgs s_deed_of, C8.fnBody s_deed_of, C8.fnScope s_deed_of, [], []⟩
def d_read : He.DefD := ⟨("read", none), "read", "read", C8.fnArgs s_read, C8.fnBody s_read, C8.fnScope s_read, [], []⟩
def d__law_begin : He.DefD := ⟨("_law_begin", none), "_law_begin", "_law_begin", C8.fnArgs s__law_begin, C8.fnBody s__law_begin, C8.fnScope s__law_begin, [], []⟩
def d__law_draw : He.DefD := ⟨("_law_draw", none), "_law_draw", "_law_draw", C8.fnArgs s__law_draw, C8.fnBody s__law_draw, C8.fnScope s__law_draw, [], []⟩
def d__law_first : He.DefD := ⟨("_law_first", none), "_law_first", "_law_first", C8.fnArgs s__law_first, C8.fnBody s__law_first, C8.fnScope s__law_first, [], []⟩
def d__law_second : He.DefD := ⟨("_law_second", none), "_law_second", "_law_second", C8.fnArgs s__law_second, C8.fnBody s__law_second, C8.fnScope s__law_second, [], []⟩
def d__law_kinds : He.DefD := ⟨("_law_kinds", none), "_law_kinds", "_law_kinds", C8.fnArgs s__law_kinds, C8.fnBody s__law_kinds, C8.fnScope s__law_kinds, [], []⟩
def d_law : He.DefD := ⟨("law", none), "law", "law", C8.fnArgs s_law, C8.fnBody s_law, C8.fnScope s_law, [], []⟩
def fa0 : List He.Fa := [.free "len", .free "max", .free "min", .free "isinstance", .free "range", .free "enumerate", .free "zip", .free "tuple", .free "list", .free "dict", .free "sorted", .free "int", .free "str", .free "bool", .free "all", .free "any", .free "ValueError", .glo "PLAIN", .glo "EMPTY", .glo "KINDS", .glo "ORDERS", .int "MOST_sheets" 999999, .int "MOST_deeds" 6, .int "WIDEST" 9, .str "FIGURES" "0123456789", .glo "LookError", .exc "LookError", .glo "BadOrder", .exc "BadOrder", .glo "BadScope"]
def fa1 : List He.Fa := [.exc "BadScope", .glo "BadKind", .exc "BadKind", .glo "BadValue", .exc "BadValue", .glo "BadAxis", .exc "BadAxis", .glo "BadPlace", .exc "BadPlace", .glo "BadHow", .exc "BadHow", .glo "NothingToUndo", .exc "NothingToUndo", .glo "NothingToRedo", .exc "NothingToRedo", .glo "BadLink", .meth "BadLink" "__init__", .glo "BadDeed", .meth "BadDeed" "__init__", .glo "BadLine", .meth "BadLine" "__init__", .exm "BadOrder" "LookError" true, .exm "BadScope" "LookError" true, .exm "BadKind" "LookError" true, .exm "BadValue" "LookError" true, .exm "BadAxis" "LookError" true, .exm "BadPlace" "LookError" true, .exm "BadHow" "LookError" true, .exm "NothingToUndo" "LookError" true, .exm "NothingToRedo" "LookError" true]
def fa2 : List He.Fa := [.exm "BadLink" "LookError" true, .exm "BadDeed" "LookError" true, .exm "BadLine" "LookError" true, .glo "Levels", .cls "Levels", .mkr "Levels", .noat "Levels" "whole", .noat "Levels" "lanes", .noat "Levels" "files", .noat "Levels" "spots", .glo "Sheet", .cls "Sheet", .mkr "Sheet", .noat "Sheet" "order", .noat "Sheet" "links", .noat "Sheet" "table", .noat "Sheet" "age", .noat "Sheet" "past", .noat "Sheet" "later", .glo "Deeds", .cls "Deeds", .mkr "Deeds", .noat "Deeds" "deeds", .glo "strip_of", .glo "thing_at", .glo "pieces_of", .glo "overlaid", .glo "inserted", .glo "removed", .glo "moved"]
def fa3 : List He.Fa := [.glo "starts_of", .meth "Levels" "parts", .meth "Levels" "tellings_at", .glo "empty_levels", .glo "size_of", .glo "with_told", .glo "laid", .glo "block_of", .glo "on_strips", .glo "with_inserted", .glo "with_removed", .glo "with_moved", .glo "is_number", .glo "is_kind", .glo "check_kind", .glo "check_order", .glo "is_range", .glo "is_cells", .glo "is_scope", .glo "is_told_value", .glo "is_axis", .glo "link_fault", .glo "telling_of", .glo "age_of", .meth "Sheet" "shown", .meth "Sheet" "look", .meth "Sheet" "go_to", .meth "Sheet" "tell", .meth "Sheet" "insert", .meth "Sheet" "remove"]
def fa4 : List He.Fa := [.meth "Sheet" "move", .meth "Sheet" "copy", .meth "Sheet" "shown_block", .meth "Sheet" "starts", .meth "Sheet" "undo", .meth "Sheet" "redo", .meth "Sheet" "twin", .meth "Sheet" "ranked", .meth "Sheet" "__eq__", .meth "Sheet" "__len__", .glo "check_shift", .glo "stretches", .glo "with_rank", .glo "ranked_strip", .glo "ranked_levels", .glo "note_age", .glo "gather_ages", .glo "is_small", .glo "is_small_scope", .glo "is_shift", .glo "is_deed", .glo "word_of", .glo "scope_words", .glo "deed_line", .glo "part_of", .glo "scope_of", .glo "deed_of", .glo "read", .glo "_law_begin", .glo "_law_draw"]
def fa5 : List He.Fa := [.glo "_law_first", .glo "_law_second", .glo "_law_kinds", .glo "law"]
def fa : List He.Fa := fa0 ++ fa1 ++ fa2 ++ fa3 ++ fa4 ++ fa5
def fn0 : List He.DefD := [d_BadLink_init, d_BadDeed_init, d_BadLine_init, d_strip_of, d_thing_at, d_pieces_of, d_overlaid, d_inserted, d_removed, d_moved, d_starts_of, d_Levels_init, d_Levels_parts, d_Levels_tellings_at, d_empty_levels, d_size_of, d_with_told, d_laid, d_block_of, d_on_strips, d_with_inserted, d_with_removed, d_with_moved, d_is_number, d_is_kind, d_check_kind, d_check_order, d_is_range, d_is_cells, d_is_scope]
def fn1 : List He.DefD := [d_is_told_value, d_is_axis, d_link_fault, d_telling_of, d_age_of, d_Sheet_init, d_Sheet_shown, d_Sheet_look, d_Sheet_go_to, d_Sheet_tell, d_Sheet_insert, d_Sheet_remove, d_Sheet_move, d_Sheet_copy, d_Sheet_shown_block, d_Sheet_starts, d_Sheet_undo, d_Sheet_redo, d_Sheet_twin, d_Sheet_ranked, d_Sheet_eq, d_Sheet_len, d_check_shift, d_stretches, d_with_rank, d_ranked_strip, d_ranked_levels, d_note_age, d_gather_ages, d_is_small]
def fn2 : List He.DefD := [d_is_small_scope, d_is_shift, d_is_deed, d_Deeds_init, d_word_of, d_scope_words, d_deed_line, d_part_of, d_scope_of, d_deed_of, d_read, d__law_begin, d__law_draw, d__law_first, d__law_second, d__law_kinds, d_law]
def fn : List He.DefD := fn0 ++ fn1 ++ fn2
def ex (K : PySem.W.Frag) : Bool := kindsB K ["BadOrder", "BadScope", "BadKind", "BadValue", "BadAxis", "BadPlace", "BadHow", "NothingToUndo", "NothingToRedo", "BadLink", "BadDeed", "BadLine"] && (glB K "PLAIN" (.tuple [.tuple [.int 0, .none]]) && (glB K "EMPTY" (.tuple [.tuple [.int 0, .tuple [.tuple [.int 0, .none]]]]) && (glB K "KINDS" (.tuple [.str "ink", .str "ground", .str "face"]) && (glB K "ORDERS" (.tuple [.str "nearest", .str "newest"]) && (oexB K (He.ga K "BadLink") "index" && (xfB K (He.ga K "BadLink") && (oexB K (He.ga K "BadDeed") "index" && (xfB K (He.ga K "BadDeed") && (oexB K (He.ga K "BadLine") "line" && (xfB K (He.ga K "BadLine") && (insB K (He.ga K "Levels") && (insB K (He.ga K "Sheet") && (insB K (He.ga K "Deeds"))))))))))))))
def lo0 : List Str := ["_wall", "LookError", "BadOrder", "BadScope", "BadKind", "BadValue", "BadAxis", "BadPlace", "BadHow", "NothingToUndo", "NothingToRedo", "BadLink", "BadDeed", "BadLine", "strip_of", "thing_at", "pieces_of", "overlaid", "inserted", "removed", "moved", "starts_of", "PLAIN", "EMPTY", "Levels", "empty_levels", "size_of", "with_told", "laid", "block_of"]
def lo1 : List Str := ["on_strips", "with_inserted", "with_removed", "with_moved", "KINDS", "ORDERS", "MOST_sheets", "is_number", "is_kind", "check_kind", "check_order", "is_range", "is_cells", "is_scope", "is_told_value", "is_axis", "link_fault", "telling_of", "age_of", "Sheet", "check_shift", "stretches", "with_rank", "ranked_strip", "ranked_levels", "note_age", "gather_ages", "MOST_deeds", "WIDEST", "is_small"]
def lo2 : List Str := ["is_small_scope", "is_shift", "is_deed", "Deeds", "FIGURES", "word_of", "scope_words", "deed_line", "part_of", "scope_of", "deed_of", "read", "_law_begin", "_law_draw", "_law_first", "_law_second", "_law_kinds"]
def loose : List Str := lo0 ++ lo1 ++ lo2
abbrev R : PySem.W.OpenRow := PySem.W.OpenLaw.row PySem.Challenge.rw_gridlooks_k17_errors_are_apart
def tf : List He.Defn := [("with_inserted", none), ("with_removed", none), ("with_moved", none)]
abbrev hk : PySem.W.Hook := Z.hookQ 4 fa fn tf ex
abbrev ob : PySem.W.SharedT → He.AlX := Z.seeQ 4 fa fn tf ex
theorem ob_eq (s : PySem.W.SharedT) : ob s = hk.obs s.abs := Z.seeQ_eq s
theorem txt_of {w : World} {h : Heap} {K : PySem.W.Frag} {mg : Str → Option Value} (X : K.In h) (G : h.Ns mainGlobals mg) (c : He.SaysX fa fn [] tf ex w h K) : Txt K mg where
  fr_len := He.free_ok X G (c.t.d.fact 0 (f := .free "len") rfl)
  fr_max := He.free_ok X G (c.t.d.fact 1 (f := .free "max") rfl)
  fr_min := He.free_ok X G (c.t.d.fact 2 (f := .free "min") rfl)
  fr_isinstance := He.free_ok X G (c.t.d.fact 3 (f := .free "isinstance") rfl)
  fr_range := He.free_ok X G (c.t.d.fact 4 (f := .free "range") rfl)
  fr_enumerate := He.free_ok X G (c.t.d.fact 5 (f := .free "enumerate") rfl)
  fr_zip := He.free_ok X G (c.t.d.fact 6 (f := .free "zip") rfl)
  fr_tuple := He.free_ok X G (c.t.d.fact 7 (f := .free "tuple") rfl)
  fr_list := He.free_ok X G (c.t.d.fact 8 (f := .free "list") rfl)
  fr_dict := He.free_ok X G (c.t.d.fact 9 (f := .free "dict") rfl)
  fr_sorted := He.free_ok X G (c.t.d.fact 10 (f := .free "sorted") rfl)
  fr_int := He.free_ok X G (c.t.d.fact 11 (f := .free "int") rfl)
  fr_str := He.free_ok X G (c.t.d.fact 12 (f := .free "str") rfl)
  fr_bool := He.free_ok X G (c.t.d.fact 13 (f := .free "bool") rfl)
  fr_all := He.free_ok X G (c.t.d.fact 14 (f := .free "all") rfl)
  fr_any := He.free_ok X G (c.t.d.fact 15 (f := .free "any") rfl)
  fr_ValueError := He.free_ok X G (c.t.d.fact 16 (f := .free "ValueError") rfl)
  ki := (He.ba c.more).1
  gv_PLAIN := He.glo_ok X G (c.t.d.fact 17 (f := .glo "PLAIN") rfl)
  im_PLAIN := glB_ok ((He.ba (He.ba c.more).2).1)
  gv_EMPTY := He.glo_ok X G (c.t.d.fact 18 (f := .glo "EMPTY") rfl)
  im_EMPTY := glB_ok ((He.ba (He.ba (He.ba c.more).2).2).1)
  gv_KINDS := He.glo_ok X G (c.t.d.fact 19 (f := .glo "KINDS") rfl)
  im_KINDS := glB_ok ((He.ba (He.ba (He.ba (He.ba c.more).2).2).2).1)
  gv_ORDERS := He.glo_ok X G (c.t.d.fact 20 (f := .glo "ORDERS") rfl)
  im_ORDERS := glB_ok ((He.ba (He.ba (He.ba (He.ba (He.ba c.more).2).2).2).2).1)
  gv_MOST_sheets := He.int_ok X G (c.t.d.fact 21 (f := .int "MOST_sheets" 999999) rfl)
  gv_MOST_deeds := He.int_ok X G (c.t.d.fact 22 (f := .int "MOST_deeds" 6) rfl)
  gv_WIDEST := He.int_ok X G (c.t.d.fact 23 (f := .int "WIDEST" 9) rfl)
  gv_FIGURES := He.str_ok X G (c.t.d.fact 24 (f := .str "FIGURES" "0123456789") rfl)
  gx_LookError := He.glo_ok X G (c.t.d.fact 25 (f := .glo "LookError") rfl)
  xc_LookError := (have q := He.exc_ok (c.t.d.fact 26 (f := .exc "LookError") rfl); ⟨q.1, q.2.1, q.2.2.1, q.2.2.2⟩)
  gx_BadOrder := He.glo_ok X G (c.t.d.fact 27 (f := .glo "BadOrder") rfl)
  xc_BadOrder := (have q := He.exc_ok (c.t.d.fact 28 (f := .exc "BadOrder") rfl); ⟨q.1, q.2.1, q.2.2.1, q.2.2.2⟩)
  gx_BadScope := He.glo_ok X G (c.t.d.fact 29 (f := .glo "BadScope") rfl)
  xc_BadScope := (have q := He.exc_ok (c.t.d.fact 30 (f := .exc "BadScope") rfl); ⟨q.1, q.2.1, q.2.2.1, q.2.2.2⟩)
  gx_BadKind := He.glo_ok X G (c.t.d.fact 31 (f := .glo "BadKind") rfl)
  xc_BadKind := (have q := He.exc_ok (c.t.d.fact 32 (f := .exc "BadKind") rfl); ⟨q.1, q.2.1, q.2.2.1, q.2.2.2⟩)
  gx_BadValue := He.glo_ok X G (c.t.d.fact 33 (f := .glo "BadValue") rfl)
  xc_BadValue := (have q := He.exc_ok (c.t.d.fact 34 (f := .exc "BadValue") rfl); ⟨q.1, q.2.1, q.2.2.1, q.2.2.2⟩)
  gx_BadAxis := He.glo_ok X G (c.t.d.fact 35 (f := .glo "BadAxis") rfl)
  xc_BadAxis := (have q := He.exc_ok (c.t.d.fact 36 (f := .exc "BadAxis") rfl); ⟨q.1, q.2.1, q.2.2.1, q.2.2.2⟩)
  gx_BadPlace := He.glo_ok X G (c.t.d.fact 37 (f := .glo "BadPlace") rfl)
  xc_BadPlace := (have q := He.exc_ok (c.t.d.fact 38 (f := .exc "BadPlace") rfl); ⟨q.1, q.2.1, q.2.2.1, q.2.2.2⟩)
  gx_BadHow := He.glo_ok X G (c.t.d.fact 39 (f := .glo "BadHow") rfl)
  xc_BadHow := (have q := He.exc_ok (c.t.d.fact 40 (f := .exc "BadHow") rfl); ⟨q.1, q.2.1, q.2.2.1, q.2.2.2⟩)
  gx_NothingToUndo := He.glo_ok X G (c.t.d.fact 41 (f := .glo "NothingToUndo") rfl)
  xc_NothingToUndo := (have q := He.exc_ok (c.t.d.fact 42 (f := .exc "NothingToUndo") rfl); ⟨q.1, q.2.1, q.2.2.1, q.2.2.2⟩)
  gx_NothingToRedo := He.glo_ok X G (c.t.d.fact 43 (f := .glo "NothingToRedo") rfl)
  xc_NothingToRedo := (have q := He.exc_ok (c.t.d.fact 44 (f := .exc "NothingToRedo") rfl); ⟨q.1, q.2.1, q.2.2.1, q.2.2.2⟩)
  gx_BadLink := He.glo_ok X G (c.t.d.fact 45 (f := .glo "BadLink") rfl)
  xo_BadLink := oexB_ok ((He.ba (He.ba (He.ba (He.ba (He.ba (He.ba c.more).2).2).2).2).2).1)
  d_BadLink_init := (by
    obtain ⟨fd, F⟩ := c.t.d.def_ 0 (d := d_BadLink_init) rfl
    have M := He.meth_ok (c.t.d.fact 46 (f := .meth "BadLink" "__init__") rfl)
    exact ⟨_, fd, M.at_, beq_iff_eq.mp M.fn, fun_of F, F.bindsN fun _ _ _ _ _ _ us hl => match us, hl with | [_, _], _ => rfl⟩)
  xf_BadLink := xfB_ok ((He.ba (He.ba (He.ba (He.ba (He.ba (He.ba (He.ba c.more).2).2).2).2).2).2).1)
  gx_BadDeed := He.glo_ok X G (c.t.d.fact 47 (f := .glo "BadDeed") rfl)
  xo_BadDeed := oexB_ok ((He.ba (He.ba (He.ba (He.ba (He.ba (He.ba (He.ba (He.ba c.more).2).2).2).2).2).2).2).1)
  d_BadDeed_init := (by
    obtain ⟨fd, F⟩ := c.t.d.def_ 1 (d := d_BadDeed_init) rfl
    have M := He.meth_ok (c.t.d.fact 48 (f := .meth "BadDeed" "__init__") rfl)
    exact ⟨_, fd, M.at_, beq_iff_eq.mp M.fn, fun_of F, F.bindsN fun _ _ _ _ _ _ us hl => match us, hl with | [_, _], _ => rfl⟩)
  xf_BadDeed := xfB_ok ((He.ba (He.ba (He.ba (He.ba (He.ba (He.ba (He.ba (He.ba (He.ba c.more).2).2).2).2).2).2).2).2).1)
  gx_BadLine := He.glo_ok X G (c.t.d.fact 49 (f := .glo "BadLine") rfl)
  xo_BadLine := oexB_ok ((He.ba (He.ba (He.ba (He.ba (He.ba (He.ba (He.ba (He.ba (He.ba (He.ba c.more).2).2).2).2).2).2).2).2).2).1)
  d_BadLine_init := (by
    obtain ⟨fd, F⟩ := c.t.d.def_ 2 (d := d_BadLine_init) rfl
    have M := He.meth_ok (c.t.d.fact 50 (f := .meth "BadLine" "__init__") rfl)
    exact ⟨_, fd, M.at_, beq_iff_eq.mp M.fn, fun_of F, F.bindsN fun _ _ _ _ _ _ us hl => match us, hl with | [_, _], _ => rfl⟩)
  xf_BadLine := xfB_ok ((He.ba (He.ba (He.ba (He.ba (He.ba (He.ba (He.ba (He.ba (He.ba (He.ba (He.ba c.more).2).2).2).2).2).2).2).2).2).2).1)
  xm_BadOrder_LookError := He.exm_ok (c.t.d.fact 51 (f := .exm "BadOrder" "LookError" true) rfl)
  xm_BadScope_LookError := He.exm_ok (c.t.d.fact 52 (f := .exm "BadScope" "LookError" true) rfl)
  xm_BadKind_LookError := He.exm_ok (c.t.d.fact 53 (f := .exm "BadKind" "LookError" true) rfl)
  xm_BadValue_LookError := He.exm_ok (c.t.d.fact 54 (f := .exm "BadValue" "LookError" true) rfl)
  xm_BadAxis_LookError := He.exm_ok (c.t.d.fact 55 (f := .exm "BadAxis" "LookError" true) rfl)
  xm_BadPlace_LookError := He.exm_ok (c.t.d.fact 56 (f := .exm "BadPlace" "LookError" true) rfl)
  xm_BadHow_LookError := He.exm_ok (c.t.d.fact 57 (f := .exm "BadHow" "LookError" true) rfl)
  xm_NothingToUndo_LookError := He.exm_ok (c.t.d.fact 58 (f := .exm "NothingToUndo" "LookError" true) rfl)
  xm_NothingToRedo_LookError := He.exm_ok (c.t.d.fact 59 (f := .exm "NothingToRedo" "LookError" true) rfl)
  xm_BadLink_LookError := He.exm_ok (c.t.d.fact 60 (f := .exm "BadLink" "LookError" true) rfl)
  xm_BadDeed_LookError := He.exm_ok (c.t.d.fact 61 (f := .exm "BadDeed" "LookError" true) rfl)
  xm_BadLine_LookError := He.exm_ok (c.t.d.fact 62 (f := .exm "BadLine" "LookError" true) rfl)
  cl_Levels := He.cls_ok (c.t.d.fact 64 (f := .cls "Levels") rfl)
  ci_Levels := insB_ok ((He.ba (He.ba (He.ba (He.ba (He.ba (He.ba (He.ba (He.ba (He.ba (He.ba (He.ba (He.ba c.more).2).2).2).2).2).2).2).2).2).2).2).1)
  na_Levels_whole := He.noat_ok (c.t.d.fact 66 (f := .noat "Levels" "whole") rfl)
  na_Levels_lanes := He.noat_ok (c.t.d.fact 67 (f := .noat "Levels" "lanes") rfl)
  na_Levels_files := He.noat_ok (c.t.d.fact 68 (f := .noat "Levels" "files") rfl)
  na_Levels_spots := He.noat_ok (c.t.d.fact 69 (f := .noat "Levels" "spots") rfl)
  cl_Sheet := He.cls_ok (c.t.d.fact 71 (f := .cls "Sheet") rfl)
  ci_Sheet := insB_ok ((He.ba (He.ba (He.ba (He.ba (He.ba (He.ba (He.ba (He.ba (He.ba (He.ba (He.ba (He.ba (He.ba c.more).2).2).2).2).2).2).2).2).2).2).2).2).1)
  na_Sheet_order := He.noat_ok (c.t.d.fact 73 (f := .noat "Sheet" "order") rfl)
  na_Sheet_links := He.noat_ok (c.t.d.fact 74 (f := .noat "Sheet" "links") rfl)
  na_Sheet_table := He.noat_ok (c.t.d.fact 75 (f := .noat "Sheet" "table") rfl)
  na_Sheet_age := He.noat_ok (c.t.d.fact 76 (f := .noat "Sheet" "age") rfl)
  na_Sheet_past := He.noat_ok (c.t.d.fact 77 (f := .noat "Sheet" "past") rfl)
  na_Sheet_later := He.noat_ok (c.t.d.fact 78 (f := .noat "Sheet" "later") rfl)
  cl_Deeds := He.cls_ok (c.t.d.fact 80 (f := .cls "Deeds") rfl)
  ci_Deeds := insB_ok ((He.ba (He.ba (He.ba (He.ba (He.ba (He.ba (He.ba (He.ba (He.ba (He.ba (He.ba (He.ba (He.ba c.more).2).2).2).2).2).2).2).2).2).2).2).2).2)
  na_Deeds_deeds := He.noat_ok (c.t.d.fact 82 (f := .noat "Deeds" "deeds") rfl)
  d_strip_of := (by
    obtain ⟨fd, F⟩ := c.t.d.def_ 3 (d := d_strip_of) rfl
    exact ⟨_, fd, ⟨fun_of F, He.glo_ok X G (c.t.d.fact 83 (f := .glo "strip_of") rfl), F.kp⟩, F.bindsN fun _ _ _ _ _ _ us hl => match us, hl with | [_], _ => rfl⟩)
  d_thing_at := (by
    obtain ⟨fd, F⟩ := c.t.d.def_ 4 (d := d_thing_at) rfl
    exact ⟨_, fd, ⟨fun_of F, He.glo_ok X G (c.t.d.fact 84 (f := .glo "thing_at") rfl), F.kp⟩, F.bindsN fun _ _ _ _ _ _ us hl => match us, hl with | [_, _], _ => rfl⟩)
  d_pieces_of := (by
    obtain ⟨fd, F⟩ := c.t.d.def_ 5 (d := d_pieces_of) rfl
    exact ⟨_, fd, ⟨fun_of F, He.glo_ok X G (c.t.d.fact 85 (f := .glo "pieces_of") rfl), F.kp⟩, F.bindsN fun _ _ _ _ _ _ us hl => match us, hl with | [_, _, _], _ => rfl⟩)
  d_overlaid := (by
    obtain ⟨fd, F⟩ := c.t.d.def_ 6 (d := d_overlaid) rfl
    exact ⟨_, fd, ⟨fun_of F, He.glo_ok X G (c.t.d.fact 86 (f := .glo "overlaid") rfl), F.kp⟩, F.bindsN fun _ _ _ _ _ _ us hl => match us, hl with | [_, _, _], _ => rfl⟩)
  d_inserted := (by
    obtain ⟨fd, F⟩ := c.t.d.def_ 7 (d := d_inserted) rfl
    exact ⟨_, fd, ⟨fun_of F, He.glo_ok X G (c.t.d.fact 87 (f := .glo "inserted") rfl), F.kp⟩, F.bindsN fun _ _ _ _ _ _ us hl => match us, hl with | [_, _, _, _], _ => rfl⟩)
  d_removed := (by
    obtain ⟨fd, F⟩ := c.t.d.def_ 8 (d := d_removed) rfl
    exact ⟨_, fd, ⟨fun_of F, He.glo_ok X G (c.t.d.fact 88 (f := .glo "removed") rfl), F.kp⟩, F.bindsN fun _ _ _ _ _ _ us hl => match us, hl with | [_, _, _], _ => rfl⟩)
  d_moved := (by
    obtain ⟨fd, F⟩ := c.t.d.def_ 9 (d := d_moved) rfl
    exact ⟨_, fd, ⟨fun_of F, He.glo_ok X G (c.t.d.fact 89 (f := .glo "moved") rfl), F.kp⟩, F.bindsN fun _ _ _ _ _ _ us hl => match us, hl with | [_, _, _, _], _ => rfl⟩)
  d_starts_of := (by
    obtain ⟨fd, F⟩ := c.t.d.def_ 10 (d := d_starts_of) rfl
    exact ⟨_, fd, ⟨fun_of F, He.glo_ok X G (c.t.d.fact 90 (f := .glo "starts_of") rfl), F.kp⟩, F.bindsN fun _ _ _ _ _ _ us hl => match us, hl with | [_], _ => rfl⟩)
  d_Levels_init := (by
    obtain ⟨fd, F⟩ := c.t.d.def_ 11 (d := d_Levels_init) rfl
    exact ⟨_, fd, He.mkr_ok (c.t.d.fact 65 (f := .mkr "Levels") rfl), He.glo_ok X G (c.t.d.fact 63 (f := .glo "Levels") rfl), fun_of F, F.bindsN fun _ _ _ _ _ _ us hl => match us, hl with | [_, _, _, _, _], _ => rfl⟩)
  d_Levels_parts := (by
    obtain ⟨fd, F⟩ := c.t.d.def_ 12 (d := d_Levels_parts) rfl
    exact ⟨_, fd, He.meth_ok (c.t.d.fact 91 (f := .meth "Levels" "parts") rfl), fun_of F, F.bindsN fun _ _ _ _ _ _ us hl => match us, hl with | [_], _ => rfl⟩)
  d_Levels_tellings_at := (by
    obtain ⟨fd, F⟩ := c.t.d.def_ 13 (d := d_Levels_tellings_at) rfl
    exact ⟨_, fd, He.meth_ok (c.t.d.fact 92 (f := .meth "Levels" "tellings_at") rfl), fun_of F, F.bindsN fun _ _ _ _ _ _ us hl => match us, hl with | [_, _, _], _ => rfl⟩)
  d_empty_levels := (by
    obtain ⟨fd, F⟩ := c.t.d.def_ 14 (d := d_empty_levels) rfl
    exact ⟨_, fd, ⟨fun_of F, He.glo_ok X G (c.t.d.fact 93 (f := .glo "empty_levels") rfl), F.kp⟩, F.bindsN fun _ _ _ _ _ _ us hl => match us, hl with | [], _ => rfl⟩)
  d_size_of := (by
    obtain ⟨fd, F⟩ := c.t.d.def_ 15 (d := d_size_of) rfl
    exact ⟨_, fd, ⟨fun_of F, He.glo_ok X G (c.t.d.fact 94 (f := .glo "size_of") rfl), F.kp⟩, F.bindsN fun _ _ _ _ _ _ us hl => match us, hl with | [_, _], _ => rfl⟩)
  d_with_told := (by
    obtain ⟨fd, F⟩ := c.t.d.def_ 16 (d := d_with_told) rfl
    exact ⟨_, fd, ⟨fun_of F, He.glo_ok X G (c.t.d.fact 95 (f := .glo "with_told") rfl), F.kp⟩, F.bindsN fun _ _ _ _ _ _ us hl => match us, hl with | [_, _, _], _ => rfl⟩)
  d_laid := (by
    obtain ⟨fd, F⟩ := c.t.d.def_ 17 (d := d_laid) rfl
    exact ⟨_, fd, ⟨fun_of F, He.glo_ok X G (c.t.d.fact 96 (f := .glo "laid") rfl), F.kp⟩, F.bindsN fun _ _ _ _ _ _ us hl => match us, hl with | [_, _, _, _], _ => rfl⟩)
  d_block_of := (by
    obtain ⟨fd, F⟩ := c.t.d.def_ 18 (d := d_block_of) rfl
    exact ⟨_, fd, ⟨fun_of F, He.glo_ok X G (c.t.d.fact 97 (f := .glo "block_of") rfl), F.kp⟩, F.bindsN fun _ _ _ _ _ _ us hl => match us, hl with | [_, _], _ => rfl⟩)
  d_on_strips := (by
    obtain ⟨fd, F⟩ := c.t.d.def_ 19 (d := d_on_strips) rfl
    exact ⟨_, fd, ⟨fun_of F, He.glo_ok X G (c.t.d.fact 98 (f := .glo "on_strips") rfl), F.kp⟩, F.bindsN fun _ _ _ _ _ _ us hl => match us, hl with | [_, _], _ => rfl⟩)
  d_with_inserted := (by
    obtain ⟨fd, F⟩ := c.t.d.def_ 20 (d := d_with_inserted) rfl
    exact ⟨_, fd, ⟨fun_of F, He.glo_ok X G (c.t.d.fact 99 (f := .glo "with_inserted") rfl), F.kp⟩, F.bindsN fun _ _ _ _ _ _ us hl => match us, hl with | [_, _, _, _, _], _ => rfl⟩)
  d_with_removed := (by
    obtain ⟨fd, F⟩ := c.t.d.def_ 21 (d := d_with_removed) rfl
    exact ⟨_, fd, ⟨fun_of F, He.glo_ok X G (c.t.d.fact 100 (f := .glo "with_removed") rfl), F.kp⟩, F.bindsN fun _ _ _ _ _ _ us hl => match us, hl with | [_, _, _, _], _ => rfl⟩)
  d_with_moved := (by
    obtain ⟨fd, F⟩ := c.t.d.def_ 22 (d := d_with_moved) rfl
    exact ⟨_, fd, ⟨fun_of F, He.glo_ok X G (c.t.d.fact 101 (f := .glo "with_moved") rfl), F.kp⟩, F.bindsN fun _ _ _ _ _ _ us hl => match us, hl with | [_, _, _, _, _], _ => rfl⟩)
  d_is_number := (by
    obtain ⟨fd, F⟩ := c.t.d.def_ 23 (d := d_is_number) rfl
    exact ⟨_, fd, ⟨fun_of F, He.glo_ok X G (c.t.d.fact 102 (f := .glo "is_number") rfl), F.kp⟩, F.bindsN fun _ _ _ _ _ _ us hl => match us, hl with | [_, _, _], _ => rfl⟩)
  d_is_kind := (by
    obtain ⟨fd, F⟩ := c.t.d.def_ 24 (d := d_is_kind) rfl
    exact ⟨_, fd, ⟨fun_of F, He.glo_ok X G (c.t.d.fact 103 (f := .glo "is_kind") rfl), F.kp⟩, F.bindsN fun _ _ _ _ _ _ us hl => match us, hl with | [_], _ => rfl⟩)
  d_check_kind := (by
    obtain ⟨fd, F⟩ := c.t.d.def_ 25 (d := d_check_kind) rfl
    exact ⟨_, fd, ⟨fun_of F, He.glo_ok X G (c.t.d.fact 104 (f := .glo "check_kind") rfl), F.kp⟩, F.bindsN fun _ _ _ _ _ _ us hl => match us, hl with | [_], _ => rfl⟩)
  d_check_order := (by
    obtain ⟨fd, F⟩ := c.t.d.def_ 26 (d := d_check_order) rfl
    exact ⟨_, fd, ⟨fun_of F, He.glo_ok X G (c.t.d.fact 105 (f := .glo "check_order") rfl), F.kp⟩, F.bindsN fun _ _ _ _ _ _ us hl => match us, hl with | [_], _ => rfl⟩)
  d_is_range := (by
    obtain ⟨fd, F⟩ := c.t.d.def_ 27 (d := d_is_range) rfl
    exact ⟨_, fd, ⟨fun_of F, He.glo_ok X G (c.t.d.fact 106 (f := .glo "is_range") rfl), F.kp⟩, F.bindsN fun _ _ _ _ _ _ us hl => match us, hl with | [_, _], _ => rfl⟩)
  d_is_cells := (by
    obtain ⟨fd, F⟩ := c.t.d.def_ 28 (d := d_is_cells) rfl
    exact ⟨_, fd, ⟨fun_of F, He.glo_ok X G (c.t.d.fact 107 (f := .glo "is_cells") rfl), F.kp⟩, F.bindsN fun _ _ _ _ _ _ us hl => match us, hl with | [_], _ => rfl⟩)
  d_is_scope := (by
    obtain ⟨fd, F⟩ := c.t.d.def_ 29 (d := d_is_scope) rfl
    exact ⟨_, fd, ⟨fun_of F, He.glo_ok X G (c.t.d.fact 108 (f := .glo "is_scope") rfl), F.kp⟩, F.bindsN fun _ _ _ _ _ _ us hl => match us, hl with | [_], _ => rfl⟩)
  d_is_told_value := (by
    obtain ⟨fd, F⟩ := c.t.d.def_ 30 (d := d_is_told_value) rfl
    exact ⟨_, fd, ⟨fun_of F, He.glo_ok X G (c.t.d.fact 109 (f := .glo "is_told_value") rfl), F.kp⟩, F.bindsN fun _ _ _ _ _ _ us hl => match us, hl with | [_], _ => rfl⟩)
  d_is_axis := (by
    obtain ⟨fd, F⟩ := c.t.d.def_ 31 (d := d_is_axis) rfl
    exact ⟨_, fd, ⟨fun_of F, He.glo_ok X G (c.t.d.fact 110 (f := .glo "is_axis") rfl), F.kp⟩, F.bindsN fun _ _ _ _ _ _ us hl => match us, hl with | [_], _ => rfl⟩)
  d_link_fault := (by
    obtain ⟨fd, F⟩ := c.t.d.def_ 32 (d := d_link_fault) rfl
    exact ⟨_, fd, ⟨fun_of F, He.glo_ok X G (c.t.d.fact 111 (f := .glo "link_fault") rfl), F.kp⟩, F.bindsN fun _ _ _ _ _ _ us hl => match us, hl with | [_], _ => rfl⟩)
  d_telling_of := (by
    obtain ⟨fd, F⟩ := c.t.d.def_ 33 (d := d_telling_of) rfl
    exact ⟨_, fd, ⟨fun_of F, He.glo_ok X G (c.t.d.fact 112 (f := .glo "telling_of") rfl), F.kp⟩, F.bindsN fun _ _ _ _ _ _ us hl => match us, hl with | [_, _], _ => rfl⟩)
  d_age_of := (by
    obtain ⟨fd, F⟩ := c.t.d.def_ 34 (d := d_age_of) rfl
    exact ⟨_, fd, ⟨fun_of F, He.glo_ok X G (c.t.d.fact 113 (f := .glo "age_of") rfl), F.kp⟩, F.bindsN fun _ _ _ _ _ _ us hl => match us, hl with | [_], _ => rfl⟩)
  d_Sheet_init := (by
    obtain ⟨fd, F⟩ := c.t.d.def_ 35 (d := d_Sheet_init) rfl
    exact ⟨_, fd, He.mkr_ok (c.t.d.fact 72 (f := .mkr "Sheet") rfl), He.glo_ok X G (c.t.d.fact 70 (f := .glo "Sheet") rfl), fun_of F, F.bindsN fun _ _ _ _ _ _ us hl => match us, hl with | [_, _, _], _ => rfl⟩)
  d_Sheet_shown := (by
    obtain ⟨fd, F⟩ := c.t.d.def_ 36 (d := d_Sheet_shown) rfl
    exact ⟨_, fd, He.meth_ok (c.t.d.fact 114 (f := .meth "Sheet" "shown") rfl), fun_of F, F.bindsN fun _ _ _ _ _ _ us hl => match us, hl with | [_, _, _, _], _ => rfl⟩)
  d_Sheet_look := (by
    obtain ⟨fd, F⟩ := c.t.d.def_ 37 (d := d_Sheet_look) rfl
    exact ⟨_, fd, He.meth_ok (c.t.d.fact 115 (f := .meth "Sheet" "look") rfl), fun_of F, F.bindsN fun _ _ _ _ _ _ us hl => match us, hl with | [_, _, _], _ => rfl⟩)
  d_Sheet_go_to := (by
    obtain ⟨fd, F⟩ := c.t.d.def_ 38 (d := d_Sheet_go_to) rfl
    exact ⟨_, fd, He.meth_ok (c.t.d.fact 116 (f := .meth "Sheet" "go_to") rfl), fun_of F, F.bindsN fun _ _ _ _ _ _ us hl => match us, hl with | [_, _], _ => rfl⟩)
  d_Sheet_tell := (by
    obtain ⟨fd, F⟩ := c.t.d.def_ 39 (d := d_Sheet_tell) rfl
    exact ⟨_, fd, He.meth_ok (c.t.d.fact 117 (f := .meth "Sheet" "tell") rfl), fun_of F, F.bindsN fun _ _ _ _ _ _ us hl => match us, hl with | [_, _, _, _], _ => rfl⟩)
  d_Sheet_insert := (by
    obtain ⟨fd, F⟩ := c.t.d.def_ 40 (d := d_Sheet_insert) rfl
    exact ⟨_, fd, He.meth_ok (c.t.d.fact 118 (f := .meth "Sheet" "insert") rfl), fun_of F, F.bindsN fun _ _ _ _ _ _ us hl => match us, hl with | [_, _, _, _, _], _ => rfl⟩)
  d_Sheet_remove := (by
    obtain ⟨fd, F⟩ := c.t.d.def_ 41 (d := d_Sheet_remove) rfl
    exact ⟨_, fd, He.meth_ok (c.t.d.fact 119 (f := .meth "Sheet" "remove") rfl), fun_of F, F.bindsN fun _ _ _ _ _ _ us hl => match us, hl with | [_, _, _, _], _ => rfl⟩)
  d_Sheet_move := (by
    obtain ⟨fd, F⟩ := c.t.d.def_ 42 (d := d_Sheet_move) rfl
    exact ⟨_, fd, He.meth_ok (c.t.d.fact 120 (f := .meth "Sheet" "move") rfl), fun_of F, F.bindsN fun _ _ _ _ _ _ us hl => match us, hl with | [_, _, _, _, _], _ => rfl⟩)
  d_Sheet_copy := (by
    obtain ⟨fd, F⟩ := c.t.d.def_ 43 (d := d_Sheet_copy) rfl
    exact ⟨_, fd, He.meth_ok (c.t.d.fact 121 (f := .meth "Sheet" "copy") rfl), fun_of F, F.bindsN fun _ _ _ _ _ _ us hl => match us, hl with | [_, _, _, _, _], _ => rfl⟩)
  d_Sheet_shown_block := (by
    obtain ⟨fd, F⟩ := c.t.d.def_ 44 (d := d_Sheet_shown_block) rfl
    exact ⟨_, fd, He.meth_ok (c.t.d.fact 122 (f := .meth "Sheet" "shown_block") rfl), fun_of F, F.bindsN fun _ _ _ _ _ _ us hl => match us, hl with | [_, _, _], _ => rfl⟩)
  d_Sheet_starts := (by
    obtain ⟨fd, F⟩ := c.t.d.def_ 45 (d := d_Sheet_starts) rfl
    exact ⟨_, fd, He.meth_ok (c.t.d.fact 123 (f := .meth "Sheet" "starts") rfl), fun_of F, F.bindsN fun _ _ _ _ _ _ us hl => match us, hl with | [_, _], _ => rfl⟩)
  d_Sheet_undo := (by
    obtain ⟨fd, F⟩ := c.t.d.def_ 46 (d := d_Sheet_undo) rfl
    exact ⟨_, fd, He.meth_ok (c.t.d.fact 124 (f := .meth "Sheet" "undo") rfl), fun_of F, F.bindsN fun _ _ _ _ _ _ us hl => match us, hl with | [_], _ => rfl⟩)
  d_Sheet_redo := (by
    obtain ⟨fd, F⟩ := c.t.d.def_ 47 (d := d_Sheet_redo) rfl
    exact ⟨_, fd, He.meth_ok (c.t.d.fact 125 (f := .meth "Sheet" "redo") rfl), fun_of F, F.bindsN fun _ _ _ _ _ _ us hl => match us, hl with | [_], _ => rfl⟩)
  d_Sheet_twin := (by
    obtain ⟨fd, F⟩ := c.t.d.def_ 48 (d := d_Sheet_twin) rfl
    exact ⟨_, fd, He.meth_ok (c.t.d.fact 126 (f := .meth "Sheet" "twin") rfl), fun_of F, F.bindsN fun _ _ _ _ _ _ us hl => match us, hl with | [_], _ => rfl⟩)
  d_Sheet_ranked := (by
    obtain ⟨fd, F⟩ := c.t.d.def_ 49 (d := d_Sheet_ranked) rfl
    exact ⟨_, fd, He.meth_ok (c.t.d.fact 127 (f := .meth "Sheet" "ranked") rfl), fun_of F, F.bindsN fun _ _ _ _ _ _ us hl => match us, hl with | [_], _ => rfl⟩)
  d_Sheet_eq := (by
    obtain ⟨fd, F⟩ := c.t.d.def_ 50 (d := d_Sheet_eq) rfl
    exact ⟨_, fd, He.meth_ok (c.t.d.fact 128 (f := .meth "Sheet" "__eq__") rfl), fun_of F, F.bindsN fun _ _ _ _ _ _ us hl => match us, hl with | [_, _], _ => rfl⟩)
  d_Sheet_len := (by
    obtain ⟨fd, F⟩ := c.t.d.def_ 51 (d := d_Sheet_len) rfl
    exact ⟨_, fd, He.meth_ok (c.t.d.fact 129 (f := .meth "Sheet" "__len__") rfl), fun_of F, F.bindsN fun _ _ _ _ _ _ us hl => match us, hl with | [_], _ => rfl⟩)
  d_check_shift := (by
    obtain ⟨fd, F⟩ := c.t.d.def_ 52 (d := d_check_shift) rfl
    exact ⟨_, fd, ⟨fun_of F, He.glo_ok X G (c.t.d.fact 130 (f := .glo "check_shift") rfl), F.kp⟩, F.bindsN fun _ _ _ _ _ _ us hl => match us, hl with | [_, _, _], _ => rfl⟩)
  d_stretches := (by
    obtain ⟨fd, F⟩ := c.t.d.def_ 53 (d := d_stretches) rfl
    exact ⟨_, fd, ⟨fun_of F, He.glo_ok X G (c.t.d.fact 131 (f := .glo "stretches") rfl), F.kp⟩, F.bindsN fun _ _ _ _ _ _ us hl => match us, hl with | [_, _, _], _ => rfl⟩)
  d_with_rank := (by
    obtain ⟨fd, F⟩ := c.t.d.def_ 54 (d := d_with_rank) rfl
    exact ⟨_, fd, ⟨fun_of F, He.glo_ok X G (c.t.d.fact 132 (f := .glo "with_rank") rfl), F.kp⟩, F.bindsN fun _ _ _ _ _ _ us hl => match us, hl with | [_, _], _ => rfl⟩)
  d_ranked_strip := (by
    obtain ⟨fd, F⟩ := c.t.d.def_ 55 (d := d_ranked_strip) rfl
    exact ⟨_, fd, ⟨fun_of F, He.glo_ok X G (c.t.d.fact 133 (f := .glo "ranked_strip") rfl), F.kp⟩, F.bindsN fun _ _ _ _ _ _ us hl => match us, hl with | [_, _], _ => rfl⟩)
  d_ranked_levels := (by
    obtain ⟨fd, F⟩ := c.t.d.def_ 56 (d := d_ranked_levels) rfl
    exact ⟨_, fd, ⟨fun_of F, He.glo_ok X G (c.t.d.fact 134 (f := .glo "ranked_levels") rfl), F.kp⟩, F.bindsN fun _ _ _ _ _ _ us hl => match us, hl with | [_, _], _ => rfl⟩)
  d_note_age := (by
    obtain ⟨fd, F⟩ := c.t.d.def_ 57 (d := d_note_age) rfl
    exact ⟨_, fd, ⟨fun_of F, He.glo_ok X G (c.t.d.fact 135 (f := .glo "note_age") rfl), F.kp⟩, F.bindsN fun _ _ _ _ _ _ us hl => match us, hl with | [_, _], _ => rfl⟩)
  d_gather_ages := (by
    obtain ⟨fd, F⟩ := c.t.d.def_ 58 (d := d_gather_ages) rfl
    exact ⟨_, fd, ⟨fun_of F, He.glo_ok X G (c.t.d.fact 136 (f := .glo "gather_ages") rfl), F.kp⟩, F.bindsN fun _ _ _ _ _ _ us hl => match us, hl with | [_, _], _ => rfl⟩)
  d_is_small := (by
    obtain ⟨fd, F⟩ := c.t.d.def_ 59 (d := d_is_small) rfl
    exact ⟨_, fd, ⟨fun_of F, He.glo_ok X G (c.t.d.fact 137 (f := .glo "is_small") rfl), F.kp⟩, F.bindsN fun _ _ _ _ _ _ us hl => match us, hl with | [_], _ => rfl⟩)
  d_is_small_scope := (by
    obtain ⟨fd, F⟩ := c.t.d.def_ 60 (d := d_is_small_scope) rfl
    exact ⟨_, fd, ⟨fun_of F, He.glo_ok X G (c.t.d.fact 138 (f := .glo "is_small_scope") rfl), F.kp⟩, F.bindsN fun _ _ _ _ _ _ us hl => match us, hl with | [_], _ => rfl⟩)
  d_is_shift := (by
    obtain ⟨fd, F⟩ := c.t.d.def_ 61 (d := d_is_shift) rfl
    exact ⟨_, fd, ⟨fun_of F, He.glo_ok X G (c.t.d.fact 139 (f := .glo "is_shift") rfl), F.kp⟩, F.bindsN fun _ _ _ _ _ _ us hl => match us, hl with | [_], _ => rfl⟩)
  d_is_deed := (by
    obtain ⟨fd, F⟩ := c.t.d.def_ 62 (d := d_is_deed) rfl
    exact ⟨_, fd, ⟨fun_of F, He.glo_ok X G (c.t.d.fact 140 (f := .glo "is_deed") rfl), F.kp⟩, F.bindsN fun _ _ _ _ _ _ us hl => match us, hl with | [_], _ => rfl⟩)
  d_Deeds_init := (by
    obtain ⟨fd, F⟩ := c.t.d.def_ 63 (d := d_Deeds_init) rfl
    exact ⟨_, fd, He.mkr_ok (c.t.d.fact 81 (f := .mkr "Deeds") rfl), He.glo_ok X G (c.t.d.fact 79 (f := .glo "Deeds") rfl), fun_of F, F.bindsN fun _ _ _ _ _ _ us hl => match us, hl with | [_, _], _ => rfl⟩)
  d_word_of := (by
    obtain ⟨fd, F⟩ := c.t.d.def_ 64 (d := d_word_of) rfl
    exact ⟨_, fd, ⟨fun_of F, He.glo_ok X G (c.t.d.fact 141 (f := .glo "word_of") rfl), F.kp⟩, F.bindsN fun _ _ _ _ _ _ us hl => match us, hl with | [_], _ => rfl⟩)
  d_scope_words := (by
    obtain ⟨fd, F⟩ := c.t.d.def_ 65 (d := d_scope_words) rfl
    exact ⟨_, fd, ⟨fun_of F, He.glo_ok X G (c.t.d.fact 142 (f := .glo "scope_words") rfl), F.kp⟩, F.bindsN fun _ _ _ _ _ _ us hl => match us, hl with | [_], _ => rfl⟩)
  d_deed_line := (by
    obtain ⟨fd, F⟩ := c.t.d.def_ 66 (d := d_deed_line) rfl
    exact ⟨_, fd, ⟨fun_of F, He.glo_ok X G (c.t.d.fact 143 (f := .glo "deed_line") rfl), F.kp⟩, F.bindsN fun _ _ _ _ _ _ us hl => match us, hl with | [_], _ => rfl⟩)
  d_part_of := (by
    obtain ⟨fd, F⟩ := c.t.d.def_ 67 (d := d_part_of) rfl
    exact ⟨_, fd, ⟨fun_of F, He.glo_ok X G (c.t.d.fact 144 (f := .glo "part_of") rfl), F.kp⟩, F.bindsN fun _ _ _ _ _ _ us hl => match us, hl with | [_], _ => rfl⟩)
  d_scope_of := (by
    obtain ⟨fd, F⟩ := c.t.d.def_ 68 (d := d_scope_of) rfl
    exact ⟨_, fd, ⟨fun_of F, He.glo_ok X G (c.t.d.fact 145 (f := .glo "scope_of") rfl), F.kp⟩, F.bindsN fun _ _ _ _ _ _ us hl => match us, hl with | [_], _ => rfl⟩)
  d_deed_of := (by
    obtain ⟨fd, F⟩ := c.t.d.def_ 69 (d := d_deed_of) rfl
    exact ⟨_, fd, ⟨fun_of F, He.glo_ok X G (c.t.d.fact 146 (f := .glo "deed_of") rfl), F.kp⟩, F.bindsN fun _ _ _ _ _ _ us hl => match us, hl with | [_], _ => rfl⟩)
  d_read := (by
    obtain ⟨fd, F⟩ := c.t.d.def_ 70 (d := d_read) rfl
    exact ⟨_, fd, ⟨fun_of F, He.glo_ok X G (c.t.d.fact 147 (f := .glo "read") rfl), F.kp⟩, F.bindsN fun _ _ _ _ _ _ us hl => match us, hl with | [_], _ => rfl⟩)
  d__law_begin := (by
    obtain ⟨fd, F⟩ := c.t.d.def_ 71 (d := d__law_begin) rfl
    exact ⟨_, fd, ⟨fun_of F, He.glo_ok X G (c.t.d.fact 148 (f := .glo "_law_begin") rfl), F.kp⟩, F.bindsN fun _ _ _ _ _ _ us hl => match us, hl with | [_], _ => rfl⟩)
  d__law_draw := (by
    obtain ⟨fd, F⟩ := c.t.d.def_ 72 (d := d__law_draw) rfl
    exact ⟨_, fd, ⟨fun_of F, He.glo_ok X G (c.t.d.fact 149 (f := .glo "_law_draw") rfl), F.kp⟩, F.bindsN fun _ _ _ _ _ _ us hl => match us, hl with | [_, _], _ => rfl⟩)
  d__law_first := (by
    obtain ⟨fd, F⟩ := c.t.d.def_ 73 (d := d__law_first) rfl
    exact ⟨_, fd, ⟨fun_of F, He.glo_ok X G (c.t.d.fact 150 (f := .glo "_law_first") rfl), F.kp⟩, F.bindsN fun _ _ _ _ _ _ us hl => match us, hl with | [_, _], _ => rfl⟩)
  d__law_second := (by
    obtain ⟨fd, F⟩ := c.t.d.def_ 74 (d := d__law_second) rfl
    exact ⟨_, fd, ⟨fun_of F, He.glo_ok X G (c.t.d.fact 151 (f := .glo "_law_second") rfl), F.kp⟩, F.bindsN fun _ _ _ _ _ _ us hl => match us, hl with | [_, _], _ => rfl⟩)
  d__law_kinds := (by
    obtain ⟨fd, F⟩ := c.t.d.def_ 75 (d := d__law_kinds) rfl
    exact ⟨_, fd, ⟨fun_of F, He.glo_ok X G (c.t.d.fact 152 (f := .glo "_law_kinds") rfl), F.kp⟩, F.bindsN fun _ _ _ _ _ _ us hl => match us, hl with | [_], _ => rfl⟩)
  d_law := (by
    obtain ⟨fd, F⟩ := c.t.d.def_ 76 (d := d_law) rfl
    exact ⟨_, fd, ⟨fun_of F, He.glo_ok X G (c.t.d.fact 153 (f := .glo "law") rfl), F.kp⟩, F.bindsN fun _ _ _ _ _ _ us hl => match us, hl with | [_], _ => rfl⟩)
theorem run (w : World) : HandSHeadRun.RunEq R (PySem.W.view R.prog [84]) hk ob 6000 loose w := by
  intro os
  kernel_rfl
end G

/-! deeds in plain Lean -/
namespace M
open PySem PySem.Spec
inductive Scp
  | table
  | rows (a : Int) (b : Option Int)
  | columns (a : Int) (b : Option Int)
  | cells (t b l r : Int)
inductive Deed
  | tell (s : Scp) (k : Str) (v : Option Int)
  | insert (ax : Str) (at_ many : Int) (how : Str)
  | remove (ax : Str) (at_ many : Int)
  | move (ax : Str) (at_ many to : Int)
  | copy (t b l r : Int) (row col : Int) (how : Str)
def encI : Option Int → PyData
  | none => .none
  | some k => .int k
def encC : Scp → PyData
  | .table => .tuple [.str "table"]
  | .rows a b => .tuple [.str "rows", .int a, encI b]
  | .columns a b => .tuple [.str "columns", .int a, encI b]
  | .cells t b l r => .tuple [.str "cells", .int t, .int b, .int l, .int r]
def encDeed : Deed → PyData
  | .tell s k v => .tuple [.str "tell", encC s, .str k, encI v]
  | .insert ax a m h => .tuple [.str "insert", .str ax, .int a, .int m, .str h]
  | .remove ax a m => .tuple [.str "remove", .str ax, .int a, .int m]
  | .move ax a m t => .tuple [.str "move", .str ax, .int a, .int m, .int t]
  | .copy t b l r row col how => .tuple [.str "copy", .tuple [.str "cells", .int t, .int b, .int l, .int r], .int row, .int col, .str how]
def okEnd (n a : Int) : Option Int → Prop
  | none => True
  | some b => a ≤ b ∧ b ≤ n
/-- a scope with numbers at most n -/
def okS (n : Int) : Scp → Prop
  | .table => True
  | .rows a b => 0 ≤ a ∧ a ≤ n ∧ okEnd n a b
  | .columns a b => 0 ≤ a ∧ a ≤ n ∧ okEnd n a b
  | .cells t b l r => 0 ≤ t ∧ t ≤ b ∧ b ≤ n ∧ 0 ≤ l ∧ l ≤ r ∧ r ≤ n
def isAx (x : Str) : Prop := x = "row" ∨ x = "column"
def okV : Option Int → Prop
  | none => True
  | some v => 0 ≤ v ∧ v ≤ 9
/-- a deed of the laws: numbers at most 9, at most 3 put in or taken out -/
def okD : Deed → Prop
  | .tell s k v => okS 9 s ∧ kinds.contains k = true ∧ okV v
  | .insert ax a m h => isAx ax ∧ 0 ≤ a ∧ a ≤ 9 ∧ 1 ≤ m ∧ m ≤ 3 ∧ (h = "plain" ∨ (h = "like" ∧ 0 < a))
  | .remove ax a m => isAx ax ∧ 0 ≤ a ∧ a ≤ 9 ∧ 1 ≤ m ∧ m ≤ 3
  | .move ax a m t => isAx ax ∧ 0 ≤ a ∧ a ≤ 9 ∧ 1 ≤ m ∧ m ≤ 3 ∧ 0 ≤ t ∧ t ≤ 9
  | .copy t b l r row col how => okS 9 (.cells t b l r) ∧ 0 ≤ row ∧ row ≤ 9 ∧ 0 ≤ col ∧ col ≤ 9 ∧ how = "tellings"
end M

/-! == of data -/
namespace Z
open PySem PySem.Spec PyProof.Rows L2
mutual
/-- none, ints, texts, tuples and lists of such -/
def nb : PyData → Bool
  | .none => true
  | .int _ => true
  | .str _ => true
  | .tuple xs => nbAll xs
  | .list xs => nbAll xs
  | .bool _ => false
  | .dict _ => false
def nbAll : List PyData → Bool
  | [] => true
  | x :: xs => nb x && nbAll xs
end
mutual
theorem eqv_nb : ∀ (d e : PyData), nb d = true → nb e = true → (PyData.eqv d e = true ↔ d = e)
  | .none, .none, _, _ => by simp [PyData.eqv]
  | .none, .int _, _, _ => by simp [PyData.eqv]
  | .none, .str _, _, _ => by simp [PyData.eqv]
  | .none, .tuple _, _, _ => by simp [PyData.eqv]
  | .none, .list _, _, _ => by simp [PyData.eqv]
  | .int _, .none, _, _ => by simp [PyData.eqv]
  | .int _, .int _, _, _ => by simp [PyData.eqv]
  | .int _, .str _, _, _ => by simp [PyData.eqv]
  | .int _, .tuple _, _, _ => by simp [PyData.eqv]
  | .int _, .list _, _, _ => by simp [PyData.eqv]
  | .str _, .none, _, _ => by simp [PyData.eqv]
  | .str _, .int _, _, _ => by simp [PyData.eqv]
  | .str _, .str _, _, _ => by simp [PyData.eqv]
  | .str _, .tuple _, _, _ => by simp [PyData.eqv]
  | .str _, .list _, _, _ => by simp [PyData.eqv]
  | .tuple _, .none, _, _ => by simp [PyData.eqv]
  | .tuple _, .int _, _, _ => by simp [PyData.eqv]
  | .tuple _, .str _, _, _ => by simp [PyData.eqv]
  | .tuple xs, .tuple ys, h, k => by
    simp only [nb] at h k
    simp only [PyData.eqv, PyData.tuple.injEq]
    exact eqv_nbAll xs ys h k
  | .tuple _, .list _, _, _ => by simp [PyData.eqv]
  | .list _, .none, _, _ => by simp [PyData.eqv]
  | .list _, .int _, _, _ => by simp [PyData.eqv]
  | .list _, .str _, _, _ => by simp [PyData.eqv]
  | .list _, .tuple _, _, _ => by simp [PyData.eqv]
  | .list xs, .list ys, h, k => by
    simp only [nb] at h k
    simp only [PyData.eqv, PyData.list.injEq]
    exact eqv_nbAll xs ys h k
  | .bool _, _, h, _ => by simp [nb] at h
  | .dict _, _, h, _ => by simp [nb] at h
  | _, .bool _, _, h => by simp [nb] at h
  | _, .dict _, _, h => by simp [nb] at h
theorem eqv_nbAll : ∀ (xs ys : List PyData), nbAll xs = true → nbAll ys = true → (PyData.eqvAll xs ys = true ↔ xs = ys)
  | [], [], _, _ => by simp [PyData.eqvAll]
  | [], _ :: _, _, _ => by simp [PyData.eqvAll]
  | _ :: _, [], _, _ => by simp [PyData.eqvAll]
  | x :: xs, y :: ys, h, k => by
    simp only [nbAll, Bool.and_eq_true] at h k
    simp only [PyData.eqvAll, Bool.and_eq_true, List.cons.injEq]
    exact and_congr (eqv_nb x y h.1 k.1) (eqv_nbAll xs ys h.2 k.2)
end
section
variable {X : Cx} {K : PySem.W.Frag} {H : Hp} {Q : VK} {x y : V} {d e : PyData}
/-- x == y of such data -/
theorem eq_nb (hx : Dp X.K H x d) (hy : Dp X.K H y e) (sd : SeqAt.shaped d = true) (se : SeqAt.shaped e = true) (nd : nb d = true) (ne : nb e = true) (q1 : d = e → Q (.bl true) H) (q2 : d ≠ e → Q (.bl false) H) : rEqA X x y H Q := by
  refine eq_dat hx hy sd se ?_
  cases z : PyData.eqv d e
  · exact q2 fun h => by rw [(eqv_nb d e nd ne).mpr h] at z; cases z
  · exact q1 ((eqv_nb d e nd ne).mp z)
theorem ne_nb (hx : Dp K H x d) (hy : Dp K H y e) (sd : SeqAt.shaped d = true) (se : SeqAt.shaped e = true) (nd : nb d = true) (ne : nb e = true) (q1 : d = e → Q (.bl false) H) (q2 : d ≠ e → Q (.bl true) H) : rNeA K x y H Q := by
  refine ne_dat hx hy sd se ?_
  cases z : PyData.eqv d e
  · exact q2 fun h => by rw [(eqv_nb d e nd ne).mpr h] at z; cases z
  · exact q1 ((eqv_nb d e nd ne).mp z)
/-- equal data -/
theorem eq_rfl (hx : Dp X.K H x d) (hy : Dp X.K H y d) (sd : SeqAt.shaped d = true) (q1 : Q (.bl true) H) : rEqA X x y H Q := by
  refine eq_dat hx hy sd sd ?_
  rw [SeqAt.eqv_refl d (SeqAt.canLay_of_shaped sd)]
  exact q1
theorem ne_rfl (hx : Dp K H x d) (hy : Dp K H y d) (sd : SeqAt.shaped d = true) (q1 : Q (.bl false) H) : rNeA K x y H Q := by
  refine ne_dat hx hy sd sd ?_
  rw [SeqAt.eqv_refl d (SeqAt.canLay_of_shaped sd)]
  exact q1
end
/-! shapes -/
def shp (n : Nat) (d : PyData) : Prop := d.canLay0 = true ∧ d.depth ≤ n
def shpAll (n : Nat) (ds : List PyData) : Prop := PyData.canLayAll0 ds = true ∧ PyData.depthAll ds ≤ n
theorem shp.ok {n : Nat} {d : PyData} (h : shp n d) (hn : n ≤ 64) : SeqAt.shaped d = true := by
  unfold SeqAt.shaped
  rw [Bool.and_eq_true, decide_eq_true_eq]
  exact ⟨h.1, Nat.le_trans h.2 hn⟩
theorem shp.mono {n m : Nat} {d : PyData} (h : shp n d) (hn : n ≤ m) : shp m d := ⟨h.1, Nat.le_trans h.2 hn⟩
theorem shp_non {n : Nat} : shp n .none := ⟨by simp [PyData.canLay0], by simp [PyData.depth]⟩
theorem shp_int {n : Nat} {i : Int} : shp n (.int i) := ⟨by simp [PyData.canLay0], by simp [PyData.depth]⟩
theorem shp_bool {n : Nat} {i : Bool} : shp n (.bool i) := ⟨by simp [PyData.canLay0], by simp [PyData.depth]⟩
theorem shp_str {n : Nat} {x : Str} (h : PyData.strOk x = true) : shp n (.str x) := ⟨by simpa [PyData.canLay0] using h, by simp [PyData.depth]⟩
theorem shp_nil {n : Nat} : shpAll n [] := ⟨by simp [PyData.canLayAll0], by simp [PyData.depthAll]⟩
theorem shp_cons {n : Nat} {d : PyData} {ds : List PyData} (h : shp n d) (k : shpAll n ds) : shpAll n (d :: ds) := ⟨by simp [PyData.canLayAll0, h.1, k.1], by simpa [PyData.depthAll] using Nat.max_le.mpr ⟨h.2, k.2⟩⟩
theorem shp_tup {n : Nat} {ds : List PyData} (h : shpAll n ds) : shp (n + 1) (.tuple ds) := ⟨by simpa [PyData.canLay0] using h.1, by simpa [PyData.depth] using h.2⟩
theorem shp_lst {n : Nat} {ds : List PyData} (h : shpAll n ds) : shp (n + 1) (.list ds) := ⟨by simpa [PyData.canLay0] using h.1, by simpa [PyData.depth] using h.2⟩
theorem shp_all {n : Nat} : ∀ {ds : List PyData}, (∀ d ∈ ds, shp n d) → shpAll n ds
  | [], _ => shp_nil
  | d :: ds, h => shp_cons (h d (by simp)) (shp_all fun e he => h e (by simp [he]))
theorem nb_all : ∀ {ds : List PyData}, (∀ d ∈ ds, nb d = true) → nbAll ds = true
  | [], _ => by simp [nbAll]
  | d :: ds, h => by simp [nbAll, h d (by simp), nb_all (ds := ds) fun e he => h e (by simp [he])]
end Z

/-! what is a deed, in plain Lean -/
namespace M
open PySem PySem.Spec
def smallPart (p : PyData) : Bool := isNone p || isNum p 0 9
def isSmallScope (d : PyData) : Bool := isScope d && (match d with
  | .tuple (_ :: r) => r.all smallPart
  | _ => false)
def isStr1 : PyData → Str → Bool
  | .str w, x => decide (w = x)
  | _, _ => false
def pos0 : PyData → Bool
  | .int n => decide (0 < n)
  | _ => false
def isShift (a b c : PyData) : Bool := isAxis a && (isNum b 0 9 && isNum c 1 3)
def isDeed4 (w : Str) (a b c : PyData) : Bool := if w = "tell" then isSmallScope a && (isKind b && isTold c) else if w = "remove" then isShift a b c else false
def isDeed5 (w : Str) (a b c e : PyData) : Bool := if w = "insert" then isShift a b c && (isStr1 e "plain" || (isStr1 e "like" && pos0 b)) else if w = "move" then isShift a b c && isNum e 0 9
  else if w = "copy" then (isCells a && isSmallScope a) && (isNum b 0 9 && (isNum c 0 9 && isStr1 e "tellings")) else false
def isDeedW (w : Str) : List PyData → Bool
  | [a, b, c] => isDeed4 w a b c
  | [a, b, c, e] => isDeed5 w a b c e
  | _ => false
def isDeed : PyData → Bool
  | .tuple (.str w :: r) => isDeedW w r
  | _ => false
theorem isDeedW_len {w : Str} {r : List PyData} (h3 : r.length ≠ 3) (h4 : r.length ≠ 4) : isDeedW w r = false := by
  unfold isDeedW
  split
  · exact absurd rfl h3
  · exact absurd rfl h4
  · rfl
theorem isDeedW_other {w : Str} {r : List PyData} (h1 : w ≠ "tell") (h2 : w ≠ "insert") (h3 : w ≠ "remove") (h4 : w ≠ "move") (h5 : w ≠ "copy") : isDeedW w r = false := by
  unfold isDeedW isDeed4 isDeed5
  split
  · rw [if_neg h1, if_neg h3]
  · rw [if_neg h2, if_neg h4, if_neg h5]
  · rfl
theorem deedW4 {w : Str} (h1 : w = "tell" ∨ w = "remove") {r : List PyData} (h : r.length ≠ 3) : isDeedW w r = false := by
  unfold isDeedW isDeed5
  split
  · exact absurd rfl h
  · rcases h1 with rfl | rfl
    · rw [if_neg (by decide +kernel), if_neg (by decide +kernel), if_neg (by decide +kernel)]
    · rw [if_neg (by decide +kernel), if_neg (by decide +kernel), if_neg (by decide +kernel)]
  · rfl
theorem deedW5 {w : Str} (h1 : w = "insert" ∨ w = "move" ∨ w = "copy") {r : List PyData} (h : r.length ≠ 4) : isDeedW w r = false := by
  unfold isDeedW isDeed4
  split
  · rcases h1 with rfl | rfl | rfl
    · rw [if_neg (by decide +kernel), if_neg (by decide +kernel)]
    · rw [if_neg (by decide +kernel), if_neg (by decide +kernel)]
    · rw [if_neg (by decide +kernel), if_neg (by decide +kernel)]
  · exact absurd rfl h
  · rfl
theorem deed_tell {a b c : PyData} : isDeedW "tell" [a, b, c] = (isSmallScope a && (isKind b && isTold c)) := by
  simp only [isDeedW, isDeed4]
  rw [if_pos True.intro]
theorem deed_remove {a b c : PyData} : isDeedW "remove" [a, b, c] = isShift a b c := by
  simp only [isDeedW, isDeed4]
  rw [if_neg (by decide +kernel), if_pos True.intro]
theorem deed_insert {a b c e : PyData} : isDeedW "insert" [a, b, c, e] = (isShift a b c && (isStr1 e "plain" || (isStr1 e "like" && pos0 b))) := by
  simp only [isDeedW, isDeed5]
  rw [if_pos True.intro]
theorem deed_move {a b c e : PyData} : isDeedW "move" [a, b, c, e] = (isShift a b c && isNum e 0 9) := by
  simp only [isDeedW, isDeed5]
  rw [if_neg (by decide +kernel), if_pos True.intro]
theorem deed_copy {a b c e : PyData} : isDeedW "copy" [a, b, c, e] = ((isCells a && isSmallScope a) && (isNum b 0 9 && (isNum c 0 9 && isStr1 e "tellings"))) := by
  simp only [isDeedW, isDeed5]
  rw [if_neg (by decide +kernel), if_neg (by decide +kernel), if_pos True.intro]
theorem num_inv {d : PyData} {lo hi : Int} (h : isNum d lo hi = true) : ∃ n, d = .int n ∧ lo ≤ n ∧ n ≤ hi := by
  unfold isNum at h
  split at h
  · rw [Bool.and_eq_true, decide_eq_true_eq, decide_eq_true_eq] at h
    exact ⟨_, rfl, h⟩
  · cases h
theorem shift_inv {a b c : PyData} (h : isShift a b c = true) : isAxis a = true ∧ isNum b 0 9 = true ∧ isNum c 1 3 = true := by
  unfold isShift at h
  rw [Bool.and_eq_true, Bool.and_eq_true] at h
  exact h
theorem scope_inv {d : PyData} (h : isScope d = true) : ∃ w r, d = .tuple (.str w :: r) := by
  unfold isScope at h
  split at h
  · exact ⟨_, _, rfl⟩
  · cases h
end M
namespace Z
open PySem PySem.Spec PyProof.Rows L2 M
theorem cut_tail {x : V} {xs : List V} : cutV (x :: xs) (some 1) none = xs := by
  unfold cutV
  have h1 : HT.sIx (x :: xs).length 0 (some 1) = 1 := by
    unfold HT.sIx
    simp [List.length_cons]
  have h2 : HT.sIx (x :: xs).length (x :: xs).length none = (x :: xs).length := rfl
  rw [h1, h2]
  simp
end Z

/-! texts of deeds, in plain Lean -/
namespace M
open PySem PySem.Spec TL
def num (i : Int) : Str := Str.ofString (toString i)
def wordI : Option Int → Str
  | none => "none"
  | some k => num k
def endI : Option Int → Str
  | none => "-"
  | some k => num k
def scopeWords : Scp → List Str
  | .table => ["table"]
  | .rows a b => ["rows", num a, endI b]
  | .columns a b => ["columns", num a, endI b]
  | .cells t b l r => ["cells", num t, num b, num l, num r]
def lineWords : Deed → List Str
  | .tell s k v => (("tell" : Str) :: scopeWords s) ++ [k, wordI v]
  | .insert ax a m h => ["insert", ax, num a, num m, h]
  | .remove ax a m => ["remove", ax, num a, num m]
  | .move ax a m t => ["move", ax, num a, num m, num t]
  | .copy t b l r row col how => ["copy", num t, num b, num l, num r, num row, num col, how]
def line (d : Deed) : Str := Txt.join " " (lineWords d)
/-- the number of a word of one figure, else the word -/
def fig (w : Str) : Option Nat := match tl w with
  | [c] => if 48 ≤ c ∧ c ≤ 57 then some (c - 48) else none
  | _ => none
def partOf (w : Str) : PyData := match fig w with
  | some k => .int (k : Int)
  | none => .str w
def scpEnd (w : Str) : PyData := if w = "-" then .none else partOf w
def valOf (w : Str) : PyData := if w = "none" then .none else partOf w
def scopeOf : List Str → PyData
  | [] => .none
  | w :: r => .tuple (.str w :: r.map scpEnd)
def deedOf (ws : List Str) : PyData :=
  if ws.head? = some ("tell" : Str) ∧ 3 < ws.length then .tuple [.str "tell", scopeOf ((ws.drop 1).take (ws.length - 3)), .str (ws.getD (ws.length - 2) ""), valOf (ws.getD (ws.length - 1) "")]
  else if ws.head? = some ("copy" : Str) ∧ ws.length = 8 then .tuple [.str "copy", scopeOf ("cells" :: (ws.drop 1).take 4), partOf (ws.getD 5 ""), partOf (ws.getD 6 ""), .str (ws.getD 7 "")]
  else .tuple (ws.map partOf)
theorem num_tl {n : Nat} (h : n < 10) : tl (num (n : Int)) = [48 + n] := by
  unfold num
  rw [tl_num, numL_lt h]
theorem num_small {i : Int} (h0 : 0 ≤ i) (h1 : i ≤ 9) : tl (num i) = [48 + i.toNat] := by
  obtain ⟨n, rfl⟩ : ∃ n : Nat, i = (n : Int) := ⟨i.toNat, by omega⟩
  rw [num_tl (by omega)]
  rfl
theorem partOf_num {i : Int} (h0 : 0 ≤ i) (h1 : i ≤ 9) : partOf (num i) = .int i := by
  have e : fig (num i) = some i.toNat := by
    unfold fig
    rw [num_small h0 h1]
    show (if 48 ≤ 48 + i.toNat ∧ 48 + i.toNat ≤ 57 then _ else _) = _
    rw [if_pos (by omega)]
    congr 1
    omega
  unfold partOf
  rw [e]
  show PyData.int (i.toNat : Int) = _
  rw [Int.toNat_of_nonneg h0]
theorem partOf_lit {w : Str} (h : fig w = none) : partOf w = .str w := by
  unfold partOf
  rw [h]
theorem num_ne {i : Int} {x : Str} (h0 : 0 ≤ i) (h1 : i ≤ 9) (hx : ∀ c, 48 ≤ c → c ≤ 57 → tl x ≠ [c]) : num i ≠ x := fun e => by
  have h := num_small h0 h1
  rw [e] at h
  exact hx _ (by omega) (by omega) h
/-- a word of the texts: short, without blank and new line -/
def Word (w : Str) : Prop := 32 ∉ tl w ∧ 10 ∉ tl w ∧ w.length ≤ 10
theorem word_num {i : Int} (h0 : 0 ≤ i) (h1 : i ≤ 9) : Word (num i) := by
  refine ⟨?_, ?_, ?_⟩
  · rw [num_small h0 h1]; simp; omega
  · rw [num_small h0 h1]; simp; omega
  · rw [len_tl, num_small h0 h1]; simp
theorem word_lit {w : Str} (h : (!(tl w).contains 32 && !(tl w).contains 10 && decide (w.length ≤ 10)) = true) : Word w := by
  simp only [Bool.and_eq_true, Bool.not_eq_true', decide_eq_true_eq] at h
  obtain ⟨⟨h1, h2⟩, h3⟩ := h
  exact ⟨by simpa [List.contains_iff_mem] using h1, by simpa [List.contains_iff_mem] using h2, h3⟩
theorem word_kind {k : Str} (h : kinds.contains k = true) : Word k := by
  rcases kind3 h with rfl | rfl | rfl <;> exact word_lit (by decide +kernel)
theorem word_end {n a : Int} {b : Option Int} (hn : n ≤ 9) (h0 : 0 ≤ a) (h : okEnd n a b) : Word (endI b) := by
  cases b with
  | none => exact word_lit (by decide +kernel)
  | some k => exact word_num (Int.le_trans h0 h.1) (Int.le_trans h.2 hn)
theorem scope_words {s : Scp} (h : okS 9 s) : ∀ w ∈ scopeWords s, Word w := by
  cases s with
  | table =>
    intro w hw
    obtain rfl := List.mem_singleton.mp hw
    exact word_lit (by decide +kernel)
  | rows a b =>
    obtain ⟨h0, h1, h2⟩ := h
    intro w hw
    simp only [scopeWords, List.mem_cons, List.not_mem_nil, or_false] at hw
    rcases hw with rfl | rfl | rfl
    · exact word_lit (by decide +kernel)
    · exact word_num h0 h1
    · exact word_end (by decide) h0 h2
  | columns a b =>
    obtain ⟨h0, h1, h2⟩ := h
    intro w hw
    simp only [scopeWords, List.mem_cons, List.not_mem_nil, or_false] at hw
    rcases hw with rfl | rfl | rfl
    · exact word_lit (by decide +kernel)
    · exact word_num h0 h1
    · exact word_end (by decide) h0 h2
  | cells t b l r =>
    obtain ⟨h0, h1, h2, h3, h4, h5⟩ := h
    intro w hw
    simp only [scopeWords, List.mem_cons, List.not_mem_nil, or_false] at hw
    rcases hw with rfl | rfl | rfl | rfl | rfl
    · exact word_lit (by decide +kernel)
    · exact word_num h0 (by omega)
    · exact word_num (by omega) h2
    · exact word_num h3 (by omega)
    · exact word_num (by omega) h5
theorem word_ax {ax : Str} (h : isAx ax) : Word ax := by
  rcases h with rfl | rfl <;> exact word_lit (by decide +kernel)
theorem line_words {d : Deed} (h : okD d) : ∀ w ∈ lineWords d, Word w := by
  cases d with
  | tell s k v =>
    obtain ⟨h1, h2, h3⟩ := h
    intro w hw
    simp only [lineWords, List.cons_append, List.mem_cons, List.mem_append, List.not_mem_nil, or_false] at hw
    rcases hw with rfl | hw | rfl | rfl
    · exact word_lit (by decide +kernel)
    · exact scope_words h1 w hw
    · exact word_kind h2
    · cases v with
      | none => exact word_lit (by decide +kernel)
      | some k => exact word_num h3.1 h3.2
  | insert ax a m hh =>
    obtain ⟨h1, h2, h3, h4, h5, h6⟩ := h
    intro w hw
    simp only [lineWords, List.mem_cons, List.not_mem_nil, or_false] at hw
    rcases hw with rfl | rfl | rfl | rfl | rfl
    · exact word_lit (by decide +kernel)
    · exact word_ax h1
    · exact word_num h2 h3
    · exact word_num (by omega) (by omega)
    · rcases h6 with rfl | ⟨rfl, _⟩ <;> exact word_lit (by decide +kernel)
  | remove ax a m =>
    obtain ⟨h1, h2, h3, h4, h5⟩ := h
    intro w hw
    simp only [lineWords, List.mem_cons, List.not_mem_nil, or_false] at hw
    rcases hw with rfl | rfl | rfl | rfl
    · exact word_lit (by decide +kernel)
    · exact word_ax h1
    · exact word_num h2 h3
    · exact word_num (by omega) (by omega)
  | move ax a m t =>
    obtain ⟨h1, h2, h3, h4, h5, h6, h7⟩ := h
    intro w hw
    simp only [lineWords, List.mem_cons, List.not_mem_nil, or_false] at hw
    rcases hw with rfl | rfl | rfl | rfl | rfl
    · exact word_lit (by decide +kernel)
    · exact word_ax h1
    · exact word_num h2 h3
    · exact word_num (by omega) (by omega)
    · exact word_num h6 h7
  | copy t b l r row col how =>
    obtain ⟨⟨g0, g1, g2, g3, g4, g5⟩, h1, h2, h3, h4, rfl⟩ := h
    intro w hw
    simp only [lineWords, List.mem_cons, List.not_mem_nil, or_false] at hw
    rcases hw with rfl | rfl | rfl | rfl | rfl | rfl | rfl | rfl
    · exact word_lit (by decide +kernel)
    · exact word_num g0 (by omega)
    · exact word_num (by omega) g2
    · exact word_num g3 (by omega)
    · exact word_num (by omega) g5
    · exact word_num h1 h2
    · exact word_num h3 h4
    · exact word_lit (by decide +kernel)
theorem line_count (d : Deed) : 0 < (lineWords d).length ∧ (lineWords d).length ≤ 8 := by
  cases d with
  | tell s k v => cases s <;> simp [lineWords, scopeWords]
  | _ => simp [lineWords]
/-- the words of a deed's line are its words again -/
theorem line_split {d : Deed} (h : okD d) : Txt.split (line d) " " = lineWords d :=
  split_join (s := 32) (S := []) (by decide +kernel) (by decide +kernel) (fun e => by have := (line_count d).1; rw [e] at this; exact absurd this (by decide)) fun w hw => (line_words h w hw).1
theorem sum_le {k : Nat} : ∀ {ws : List Str}, (∀ w ∈ ws, w.length ≤ k) → (ws.map (·.length)).sum ≤ ws.length * k
  | [], _ => by simp
  | w :: ws, h => by
    have h1 := h w (by simp)
    have h2 := sum_le (ws := ws) fun x hx => h x (by simp [hx])
    simp only [List.map_cons, List.sum_cons, List.length_cons]
    rw [Nat.add_mul]
    omega
theorem join_len (sep : Str) (ws : List Str) : (Txt.join sep ws).length ≤ (ws.map (·.length)).sum + ws.length * sep.length := by
  rw [join_eq]
  exact StrLaws.join_length_le sep ws
theorem line_len {d : Deed} (h : okD d) : (line d).length ≤ 88 := by
  have h1 := join_len " " (lineWords d)
  have h2 := sum_le fun w hw => (line_words h w hw).2.2
  have h3 := (line_count d).2
  have h4 : (" " : Str).length = 1 := by decide +kernel
  rw [h4] at h1
  unfold line
  omega
end M

/-! a deed's data, a deed's words -/
namespace M
open PySem PySem.Spec TL
theorem and_t {a b : Bool} (h : (a && b) = true) : a = true ∧ b = true := Bool.and_eq_true_iff.mp h
theorem range_inv {d e : PyData} (h : isRange d e = true) : ∃ a b, d = .int a ∧ e = .int b ∧ 0 ≤ a ∧ a ≤ b ∧ b ≤ 999999 := by
  unfold isRange at h
  split at h
  · obtain ⟨h1, h2⟩ := and_t h
    obtain ⟨x, e1, h3, h4⟩ := num_inv h1
    obtain ⟨y, e2, h5, h6⟩ := num_inv h2
    cases e1
    exact ⟨_, _, rfl, e2, h3, h5, h6⟩
  · cases h
theorem cells_inv {d : PyData} (h : isCells d = true) : ∃ t b l r, d = encC (.cells t b l r) ∧ 0 ≤ t ∧ t ≤ b ∧ b ≤ 999999 ∧ 0 ≤ l ∧ l ≤ r ∧ r ≤ 999999 := by
  unfold isCells at h
  split at h
  · obtain ⟨h1, h2⟩ := and_t h
    obtain ⟨h2, h3⟩ := and_t h2
    obtain ⟨t, b, rfl, rfl, g1, g2, g3⟩ := range_inv h2
    obtain ⟨l, r, rfl, rfl, g4, g5, g6⟩ := range_inv h3
    rw [beq_iff_eq.mp h1]
    exact ⟨t, b, l, r, rfl, g1, g2, g3, g4, g5, g6⟩
  · cases h
def okS' : Scp → Prop := okS 999999
theorem scope_form {d : PyData} (h : isScope d = true) : ∃ s, d = encC s ∧ okS 999999 s := by
  obtain ⟨w, r, rfl⟩ := scope_inv h
  by_cases hw : w = "table"
  · subst hw
    rw [Z.isScope_table] at h
    cases r with
    | nil => exact ⟨.table, rfl, trivial⟩
    | cons _ _ => cases h
  · by_cases h2 : (["rows", "columns"] : List Str).contains w = true ∧ r.length = 2
    · obtain ⟨h2, h3⟩ := h2
      match r, h3 with
      | [a, b], _ =>
        rw [Z.isScope_line hw h2] at h
        obtain ⟨h4, h5⟩ := and_t h
        obtain ⟨n, rfl, g1, g2⟩ := num_inv h4
        have hw2 : w = "rows" ∨ w = "columns" := by simpa [List.contains_iff_mem] using h2
        rcases Bool.or_eq_true_iff.mp h5 with h6 | h6
        · have hb : b = .none := by
            unfold isNone at h6
            split at h6
            · rfl
            · cases h6
          subst hb
          rcases hw2 with rfl | rfl
          · exact ⟨.rows n none, rfl, g1, g2, trivial⟩
          · exact ⟨.columns n none, rfl, g1, g2, trivial⟩
        · obtain ⟨x, y, e1, rfl, k1, k2, k3⟩ := range_inv h6
          cases e1
          rcases hw2 with rfl | rfl
          · exact ⟨.rows n (some y), rfl, g1, g2, k2, k3⟩
          · exact ⟨.columns n (some y), rfl, g1, g2, k2, k3⟩
    · rw [Z.isScope_other hw h2] at h
      obtain ⟨t, b, l, r', e, g⟩ := cells_inv h
      exact ⟨.cells t b l r', e, g⟩
theorem small_int {n : Int} (h : smallPart (.int n) = true) : 0 ≤ n ∧ n ≤ 9 := by
  unfold smallPart at h
  rcases Bool.or_eq_true_iff.mp h with h | h
  · cases h
  · obtain ⟨m, e, h1, h2⟩ := num_inv h
    cases e
    exact ⟨h1, h2⟩
theorem small_form {d : PyData} (h : isSmallScope d = true) : ∃ s, d = encC s ∧ okS 9 s := by
  unfold isSmallScope at h
  obtain ⟨h1, h2⟩ := and_t h
  obtain ⟨s, rfl, ok⟩ := scope_form h1
  refine ⟨s, rfl, ?_⟩
  cases s with
  | table => trivial
  | rows a b =>
    have h2 : ([.int a, encI b] : List PyData).all smallPart = true := h2
    simp only [List.all_cons, List.all_nil, Bool.and_true, Bool.and_eq_true] at h2
    obtain ⟨g1, g2⟩ := small_int h2.1
    refine ⟨ok.1, g2, ?_⟩
    cases b with
    | none => trivial
    | some k => exact ⟨ok.2.2.1, (small_int h2.2).2⟩
  | columns a b =>
    have h2 : ([.int a, encI b] : List PyData).all smallPart = true := h2
    simp only [List.all_cons, List.all_nil, Bool.and_true, Bool.and_eq_true] at h2
    obtain ⟨g1, g2⟩ := small_int h2.1
    refine ⟨ok.1, g2, ?_⟩
    cases b with
    | none => trivial
    | some k => exact ⟨ok.2.2.1, (small_int h2.2).2⟩
  | cells t b l r =>
    have h2 : ([.int t, .int b, .int l, .int r] : List PyData).all smallPart = true := h2
    simp only [List.all_cons, List.all_nil, Bool.and_true, Bool.and_eq_true] at h2
    obtain ⟨k1, k2, k3, k4, k5, k6⟩ := ok
    exact ⟨k1, k2, (small_int h2.2.1).2, k4, k5, (small_int h2.2.2.2).2⟩
theorem kind_form {d : PyData} (h : isKind d = true) : ∃ k, d = .str k ∧ kinds.contains k = true := by
  obtain ⟨w, h1, h2⟩ := kind_inv h
  exact ⟨w, h1, h2⟩
theorem told_form {d : PyData} (h : isTold d = true) : ∃ v, d = encI v ∧ okV v := by
  unfold isTold at h
  rcases Bool.or_eq_true_iff.mp h with h | h
  · refine ⟨none, ?_, trivial⟩
    unfold isNone at h
    split at h
    · rfl
    · cases h
  · obtain ⟨n, rfl, h1, h2⟩ := num_inv h
    exact ⟨some n, rfl, h1, h2⟩
theorem axis_form {d : PyData} (h : isAxis d = true) : ∃ x, d = .str x ∧ isAx x := by
  unfold isAxis at h
  split at h
  · exact ⟨_, rfl, by simpa [isAx, List.contains_iff_mem] using h⟩
  · cases h
theorem str1_inv {d : PyData} {x : Str} (h : isStr1 d x = true) : d = .str x := by
  unfold isStr1 at h
  split at h
  · rw [of_decide_eq_true h]
  · cases h
/-- what is_deed lets through is a deed -/
theorem deed_form {p : PyData} (h : isDeed p = true) : ∃ d, p = encDeed d ∧ okD d := by
  unfold isDeed at h
  split at h
  · rename_i w r
    by_cases h1 : w = "tell"
    · subst h1
      by_cases hl : r.length = 3
      · match r, hl with
        | [a, b, c], _ =>
          rw [deed_tell] at h
          obtain ⟨g1, g2⟩ := and_t h
          obtain ⟨g2, g3⟩ := and_t g2
          obtain ⟨s, rfl, o1⟩ := small_form g1
          obtain ⟨k, rfl, o2⟩ := kind_form g2
          obtain ⟨v, rfl, o3⟩ := told_form g3
          exact ⟨.tell s k v, rfl, o1, o2, o3⟩
      · rw [deedW4 (.inl rfl) hl] at h; cases h
    · by_cases h2 : w = "insert"
      · subst h2
        by_cases hl : r.length = 4
        · match r, hl with
          | [a, b, c, e], _ =>
            rw [deed_insert] at h
            obtain ⟨g1, g2⟩ := and_t h
            obtain ⟨s1, s2, s3⟩ := shift_inv g1
            obtain ⟨ax, rfl, o1⟩ := axis_form s1
            obtain ⟨n, rfl, o2, o3⟩ := num_inv s2
            obtain ⟨m, rfl, o4, o5⟩ := num_inv s3
            rcases Bool.or_eq_true_iff.mp g2 with g2 | g2
            · rw [str1_inv g2]
              exact ⟨.insert ax n m "plain", rfl, o1, o2, o3, o4, o5, .inl rfl⟩
            · obtain ⟨g2, g3⟩ := and_t g2
              rw [str1_inv g2]
              exact ⟨.insert ax n m "like", rfl, o1, o2, o3, o4, o5, .inr ⟨rfl, of_decide_eq_true g3⟩⟩
        · rw [deedW5 (.inl rfl) hl] at h; cases h
      · by_cases h3 : w = "remove"
        · subst h3
          by_cases hl : r.length = 3
          · match r, hl with
            | [a, b, c], _ =>
              rw [deed_remove] at h
              obtain ⟨s1, s2, s3⟩ := shift_inv h
              obtain ⟨ax, rfl, o1⟩ := axis_form s1
              obtain ⟨n, rfl, o2, o3⟩ := num_inv s2
              obtain ⟨m, rfl, o4, o5⟩ := num_inv s3
              exact ⟨.remove ax n m, rfl, o1, o2, o3, o4, o5⟩
          · rw [deedW4 (.inr rfl) hl] at h; cases h
        · by_cases h4 : w = "move"
          · subst h4
            by_cases hl : r.length = 4
            · match r, hl with
              | [a, b, c, e], _ =>
                rw [deed_move] at h
                obtain ⟨g1, g2⟩ := and_t h
                obtain ⟨s1, s2, s3⟩ := shift_inv g1
                obtain ⟨ax, rfl, o1⟩ := axis_form s1
                obtain ⟨n, rfl, o2, o3⟩ := num_inv s2
                obtain ⟨m, rfl, o4, o5⟩ := num_inv s3
                obtain ⟨t, rfl, o6, o7⟩ := num_inv g2
                exact ⟨.move ax n m t, rfl, o1, o2, o3, o4, o5, o6, o7⟩
            · rw [deedW5 (.inr (.inl rfl)) hl] at h; cases h
          · by_cases h5 : w = "copy"
            · subst h5
              by_cases hl : r.length = 4
              · match r, hl with
                | [a, b, c, e], _ =>
                  rw [deed_copy] at h
                  obtain ⟨g1, g2⟩ := and_t h
                  obtain ⟨g0, g1⟩ := and_t g1
                  obtain ⟨g2, g3⟩ := and_t g2
                  obtain ⟨g3, g4⟩ := and_t g3
                  obtain ⟨t, b', l, r', rfl, _⟩ := cells_inv g0
                  obtain ⟨s, e1, o1⟩ := small_form g1
                  obtain ⟨n, rfl, o2, o3⟩ := num_inv g2
                  obtain ⟨m, rfl, o4, o5⟩ := num_inv g3
                  rw [str1_inv g4]
                  cases s with
                  | cells t2 b2 l2 r2 =>
                    cases e1
                    exact ⟨.copy t b' l r' n m "tellings", rfl, o1, o2, o3, o4, o5, rfl⟩
                  | table => cases e1
                  | rows _ _ => cases e1
                  | columns _ _ => cases e1
              · rw [deedW5 (.inr (.inr rfl)) hl] at h; cases h
            · rw [isDeedW_other h1 h2 h3 h4 h5] at h; cases h
  · cases h
theorem num_le {n lo hi : Int} (h1 : lo ≤ n) (h2 : n ≤ hi) : isNum (.int n) lo hi = true := by
  simp [isNum, h1, h2]
theorem range_le {a b : Int} (h0 : 0 ≤ a) (h1 : a ≤ b) (h2 : b ≤ 999999) : isRange (.int a) (.int b) = true := by
  rw [Z.isRange_yes (num_le h0 (by omega))]
  exact num_le h1 h2
theorem axis_ok {x : Str} (h : isAx x) : isAxis (.str x) = true := by
  rcases h with rfl | rfl <;> decide +kernel
theorem small_num {n : Int} (h0 : 0 ≤ n) (h1 : n ≤ 9) : smallPart (.int n) = true := by
  unfold smallPart
  rw [num_le h0 h1, Bool.or_true]
theorem small_end {n a : Int} {b : Option Int} (h0 : 0 ≤ a) (h : okEnd 9 a b) : smallPart (encI b) = true := by
  cases b with
  | none => rfl
  | some k => exact small_num (Int.le_trans h0 h.1) h.2
theorem cells_ok {t b l r : Int} (h : okS 999999 (.cells t b l r)) : isCells (encC (.cells t b l r)) = true := by
  obtain ⟨h0, h1, h2, h3, h4, h5⟩ := h
  show isCells (.tuple [.str "cells", .int t, .int b, .int l, .int r]) = true
  rw [Z.isCells_eq, range_le h0 h1 h2, range_le h3 h4 h5]
  rfl
theorem scope_ok {s : Scp} (h : okS 999999 s) : isScope (encC s) = true := by
  cases s with
  | table => rfl
  | rows a b =>
    obtain ⟨h0, h1, h2⟩ := h
    show isScope (.tuple [.str "rows", .int a, encI b]) = true
    rw [Z.isScope_line (by decide +kernel) (by decide +kernel), num_le h0 h1]
    cases b with
    | none => rfl
    | some k => rw [show encI (some k) = .int k from rfl, range_le h0 h2.1 h2.2]; rfl
  | columns a b =>
    obtain ⟨h0, h1, h2⟩ := h
    show isScope (.tuple [.str "columns", .int a, encI b]) = true
    rw [Z.isScope_line (by decide +kernel) (by decide +kernel), num_le h0 h1]
    cases b with
    | none => rfl
    | some k => rw [show encI (some k) = .int k from rfl, range_le h0 h2.1 h2.2]; rfl
  | cells t b l r =>
    show isScope (.tuple [.str "cells", .int t, .int b, .int l, .int r]) = true
    rw [Z.isScope_other (by decide +kernel) (by simp)]
    exact cells_ok h
theorem okS_mono {s : Scp} (h : okS 9 s) : okS 999999 s := by
  cases s with
  | table => trivial
  | rows a b =>
    obtain ⟨h0, h1, h2⟩ := h
    refine ⟨h0, by omega, ?_⟩
    cases b with
    | none => trivial
    | some k => exact ⟨h2.1, by have := h2.2; omega⟩
  | columns a b =>
    obtain ⟨h0, h1, h2⟩ := h
    refine ⟨h0, by omega, ?_⟩
    cases b with
    | none => trivial
    | some k => exact ⟨h2.1, by have := h2.2; omega⟩
  | cells t b l r =>
    obtain ⟨h0, h1, h2, h3, h4, h5⟩ := h
    exact ⟨h0, h1, by omega, h3, h4, by omega⟩
theorem small_ok {s : Scp} (h : okS 9 s) : isSmallScope (encC s) = true := by
  unfold isSmallScope
  rw [scope_ok (okS_mono h), Bool.true_and]
  cases s with
  | table => rfl
  | rows a b =>
    obtain ⟨h0, h1, h2⟩ := h
    show ([.int a, encI b] : List PyData).all smallPart = true
    simp [small_num h0 h1, small_end (n := a) h0 h2]
  | columns a b =>
    obtain ⟨h0, h1, h2⟩ := h
    show ([.int a, encI b] : List PyData).all smallPart = true
    simp [small_num h0 h1, small_end (n := a) h0 h2]
  | cells t b l r =>
    obtain ⟨h0, h1, h2, h3, h4, h5⟩ := h
    show ([.int t, .int b, .int l, .int r] : List PyData).all smallPart = true
    simp [small_num h0 (show t ≤ 9 by omega), small_num (show 0 ≤ b by omega) h2, small_num h3 (show l ≤ 9 by omega), small_num (show 0 ≤ r by omega) h5]
theorem told_ok {v : Option Int} (h : okV v) : isTold (encI v) = true := by
  cases v with
  | none => rfl
  | some k => show (isNone (.int k) || isNum (.int k) 0 9) = true; rw [num_le h.1 h.2]; rfl
/-- a deed is let through -/
theorem deed_ok {d : Deed} (h : okD d) : isDeed (encDeed d) = true := by
  cases d with
  | tell s k v =>
    show isDeedW "tell" [encC s, .str k, encI v] = true
    rw [deed_tell, small_ok h.1, told_ok h.2.2, show isKind (.str k) = true from h.2.1]
    rfl
  | insert ax a m hh =>
    obtain ⟨h1, h2, h3, h4, h5, h6⟩ := h
    show isDeedW "insert" [.str ax, .int a, .int m, .str hh] = true
    rw [deed_insert, isShift, axis_ok h1, num_le h2 h3, num_le h4 h5]
    rcases h6 with rfl | ⟨rfl, h6⟩
    · simp [isStr1]
    · simp [isStr1, pos0, h6]
  | remove ax a m =>
    obtain ⟨h1, h2, h3, h4, h5⟩ := h
    show isDeedW "remove" [.str ax, .int a, .int m] = true
    rw [deed_remove, isShift, axis_ok h1, num_le h2 h3, num_le h4 h5]
    rfl
  | move ax a m t =>
    obtain ⟨h1, h2, h3, h4, h5, h6, h7⟩ := h
    show isDeedW "move" [.str ax, .int a, .int m, .int t] = true
    rw [deed_move, isShift, axis_ok h1, num_le h2 h3, num_le h4 h5, num_le h6 h7]
    rfl
  | copy t b l r row col how =>
    obtain ⟨h1, h2, h3, h4, h5, rfl⟩ := h
    show isDeedW "copy" [encC (.cells t b l r), .int row, .int col, .str "tellings"] = true
    rw [deed_copy, cells_ok (okS_mono h1), small_ok h1, num_le h2 h3, num_le h4 h5]
    decide +kernel
end M
namespace M
open PySem PySem.Spec TL
theorem end_num {i : Int} (h0 : 0 ≤ i) (h1 : i ≤ 9) : scpEnd (num i) = .int i := by
  unfold scpEnd
  rw [if_neg (num_ne h0 h1 fun c h2 h3 e => by
    have e : [45] = [c] := e
    cases e
    omega), partOf_num h0 h1]
theorem val_num {i : Int} (h0 : 0 ≤ i) (h1 : i ≤ 9) : valOf (num i) = .int i := by
  unfold valOf
  rw [if_neg (num_ne h0 h1 fun c h2 h3 e => by
    have e : (tl ("none" : Str)).length = 1 := by rw [e]; rfl
    exact absurd e (by decide +kernel)), partOf_num h0 h1]
theorem end_end {a : Int} {b : Option Int} (h0 : 0 ≤ a) (h : okEnd 9 a b) : scpEnd (endI b) = encI b := by
  cases b with
  | none => rfl
  | some k => exact end_num (Int.le_trans h0 h.1) h.2
theorem scope_back {s : Scp} (h : okS 9 s) : scopeOf (scopeWords s) = encC s := by
  cases s with
  | table => rfl
  | rows a b =>
    obtain ⟨h0, h1, h2⟩ := h
    show PyData.tuple (.str "rows" :: [num a, endI b].map scpEnd) = _
    rw [List.map_cons, List.map_cons, end_num h0 h1, end_end h0 h2]
    rfl
  | columns a b =>
    obtain ⟨h0, h1, h2⟩ := h
    show PyData.tuple (.str "columns" :: [num a, endI b].map scpEnd) = _
    rw [List.map_cons, List.map_cons, end_num h0 h1, end_end h0 h2]
    rfl
  | cells t b l r =>
    obtain ⟨h0, h1, h2, h3, h4, h5⟩ := h
    show PyData.tuple (.str "cells" :: [num t, num b, num l, num r].map scpEnd) = _
    rw [List.map_cons, List.map_cons, List.map_cons, List.map_cons, end_num h0 (by omega), end_num (by omega) h2, end_num h3 (by omega), end_num (by omega) h5]
    rfl
theorem val_back {v : Option Int} (h : okV v) : valOf (wordI v) = encI v := by
  cases v with
  | none => exact if_pos rfl
  | some k => exact val_num h.1 h.2
theorem part_ax {ax : Str} (h : isAx ax) : partOf ax = .str ax := by
  rcases h with rfl | rfl <;> exact partOf_lit (by decide +kernel)
theorem deedOf_tell {k v : Str} {sw : List Str} (h : 0 < sw.length) : deedOf (("tell" : Str) :: sw ++ [k, v]) = .tuple [.str "tell", scopeOf sw, .str k, valOf v] := by
  unfold deedOf
  have hl : (("tell" : Str) :: sw ++ [k, v]).length = sw.length + 3 := by simp
  rw [if_pos ⟨rfl, by omega⟩, hl]
  have e1 : ((("tell" : Str) :: sw ++ [k, v]).drop 1).take (sw.length + 3 - 3) = sw := by simp
  have e2 : (("tell" : Str) :: sw ++ [k, v]).getD (sw.length + 3 - 2) "" = k := by
    rw [show sw.length + 3 - 2 = sw.length + 1 by omega]
    simp [List.getD]
  have e3 : (("tell" : Str) :: sw ++ [k, v]).getD (sw.length + 3 - 1) "" = v := by
    rw [show sw.length + 3 - 1 = sw.length + 1 + 1 by omega]
    simp [List.getD]
  rw [e1, e2, e3]
theorem head_ne {a b : Str} {r : List Str} (h : a ≠ b) : (a :: r).head? ≠ some b := fun z => h (Option.some.inj z)
theorem deedOf_other {ws : List Str} (h1 : ws.head? ≠ some ("tell" : Str)) (h2 : ws.head? ≠ some ("copy" : Str)) : deedOf ws = .tuple (ws.map partOf) := by
  unfold deedOf
  rw [if_neg fun z => h1 z.1, if_neg fun z => h2 z.1]
/-- a deed's words tell the deed -/
theorem deed_back {d : Deed} (h : okD d) : deedOf (lineWords d) = encDeed d := by
  cases d with
  | tell s k v =>
    show deedOf (("tell" : Str) :: scopeWords s ++ [k, wordI v]) = _
    rw [deedOf_tell (by cases s <;> simp [scopeWords]), scope_back h.1, val_back h.2.2]
    rfl
  | insert ax a m hh =>
    obtain ⟨h1, h2, h3, h4, h5, h6⟩ := h
    show deedOf ["insert", ax, num a, num m, hh] = _
    rw [deedOf_other (head_ne (by decide +kernel)) (head_ne (by decide +kernel))]
    have hp : partOf hh = .str hh := by
      rcases h6 with rfl | ⟨rfl, _⟩ <;> exact partOf_lit (by decide +kernel)
    simp only [List.map_cons, List.map_nil]
    rw [partOf_lit (w := "insert") (by decide +kernel), part_ax h1, partOf_num h2 h3, partOf_num (by omega) (by omega), hp]
    rfl
  | remove ax a m =>
    obtain ⟨h1, h2, h3, h4, h5⟩ := h
    show deedOf ["remove", ax, num a, num m] = _
    rw [deedOf_other (head_ne (by decide +kernel)) (head_ne (by decide +kernel))]
    simp only [List.map_cons, List.map_nil]
    rw [partOf_lit (w := "remove") (by decide +kernel), part_ax h1, partOf_num h2 h3, partOf_num (by omega) (by omega)]
    rfl
  | move ax a m t =>
    obtain ⟨h1, h2, h3, h4, h5, h6, h7⟩ := h
    show deedOf ["move", ax, num a, num m, num t] = _
    rw [deedOf_other (head_ne (by decide +kernel)) (head_ne (by decide +kernel))]
    simp only [List.map_cons, List.map_nil]
    rw [partOf_lit (w := "move") (by decide +kernel), part_ax h1, partOf_num h2 h3, partOf_num (by omega) (by omega), partOf_num h6 h7]
    rfl
  | copy t b l r row col how =>
    obtain ⟨h1, h2, h3, h4, h5, rfl⟩ := h
    show deedOf ["copy", num t, num b, num l, num r, num row, num col, "tellings"] = _
    unfold deedOf
    rw [if_neg (fun z => head_ne (by decide +kernel) z.1), if_pos ⟨rfl, rfl⟩]
    show PyData.tuple [.str "copy", scopeOf (scopeWords (.cells t b l r)), partOf (num row), partOf (num col), .str "tellings"] = _
    rw [scope_back h1, partOf_num h2 h3, partOf_num h4 h5]
    rfl
end M

/-! a text's words, lines -/
namespace M
open PySem PySem.Spec TL
theorem split_glued (x y : Str) : Builtin.Str.glued y (Txt.split x y) = x := by
  have h := StrLaws.join_split x y
  rw [← StrLaws.glued_eq_join] at h
  exact h
theorem split_ne (x : Str) {c : Nat} : Txt.split x ⟨#[c]⟩ ≠ [] := fun e => by
  have h := split_glued x ⟨#[c]⟩
  rw [e] at h
  have hx : x = "" := h.symm.trans (show (⟨#[]⟩ : Str) = "" by decide +kernel)
  subst hx
  have e2 : Txt.split "" ⟨#[c]⟩ = [("" : Str)] := by
    unfold Txt.split
    have h0 : ("" : Str).length = 0 := by decide +kernel
    rw [if_pos (by rw [h0]; rfl)]
  rw [e2] at e
  cases e
theorem split_size (x : Str) {c : Nat} : ((Txt.split x ⟨#[c]⟩).map (·.length)).sum ≤ x.length ∧ (Txt.split x ⟨#[c]⟩).length ≤ x.length + 1 := by
  have h := size_glued ⟨#[c]⟩ (Txt.split x ⟨#[c]⟩)
  rw [split_glued] at h
  have h1 : (⟨#[c]⟩ : Str).length = 1 := rfl
  rw [h1] at h
  have h2 : 0 < (Txt.split x ⟨#[c]⟩).length := List.length_pos_iff.mpr (split_ne x)
  omega
theorem part_le : ∀ {ws : List Str} {n : Nat}, (ws.map (·.length)).sum ≤ n → ∀ w ∈ ws, w.length ≤ n
  | [], _, _, _, h => by cases h
  | x :: ws, n, h, w, hw => by
    simp only [List.map_cons, List.sum_cons] at h
    rcases List.mem_cons.mp hw with rfl | hw
    · omega
    · exact part_le (ws := ws) (by omega) w hw
theorem tell_form {ws : List Str} (h1 : ws.head? = some ("tell" : Str)) (h2 : 3 < ws.length) : ∃ sw k v, ws = ("tell" : Str) :: sw ++ [k, v] ∧ 0 < sw.length := by
  cases ws with
  | nil => cases h1
  | cons w r =>
    obtain rfl : w = "tell" := Option.some.inj h1
    rcases List.eq_nil_or_concat r with rfl | ⟨r1, v, rfl⟩
    · simp at h2
    · rcases List.eq_nil_or_concat r1 with rfl | ⟨sw, k, rfl⟩
      · simp at h2
      · refine ⟨sw, k, v, by simp, ?_⟩
        simp at h2
        omega
theorem deedOf_copy {a b c d e f g : Str} : deedOf ["copy", a, b, c, d, e, f, g] = .tuple [.str "copy", scopeOf ["cells", a, b, c, d], partOf e, partOf f, .str g] := by
  unfold deedOf
  rw [if_neg (fun z => head_ne (by decide +kernel) z.1), if_pos ⟨rfl, rfl⟩]
  rfl
theorem deedOf_rest {ws : List Str} (h1 : ¬ (ws.head? = some ("tell" : Str) ∧ 3 < ws.length)) (h2 : ¬ (ws.head? = some ("copy" : Str) ∧ ws.length = 8)) : deedOf ws = .tuple (ws.map partOf) := by
  unfold deedOf
  rw [if_neg h1, if_neg h2]
end M
namespace Z
open PySem PySem.Spec PyProof.Rows L2 M
theorem cut_mid {x y z : V} {xs : List V} : cutV (x :: xs ++ [y, z]) (some 1) (some (-2)) = xs := by
  unfold cutV
  have hl : (x :: xs ++ [y, z]).length = xs.length + 3 := by simp
  have h1 : HT.sIx (x :: xs ++ [y, z]).length 0 (some 1) = 1 := by
    rw [hl]
    unfold HT.sIx
    show (if (1 : Int) < 0 then _ else _) = _
    rw [if_neg (by decide)]
    show min 1 (xs.length + 3) = 1
    omega
  have h2 : HT.sIx (x :: xs ++ [y, z]).length (x :: xs ++ [y, z]).length (some (-2)) = xs.length + 1 := by
    rw [hl]
    unfold HT.sIx
    show (if (-2 : Int) < 0 then _ else _) = _
    rw [if_pos (by decide)]
    omega
  rw [h1, h2]
  simp
theorem atI_m1 {x : V} {xs : List V} {y z : V} : atI (x :: xs ++ [y, z]) (-1) = some z := by
  have := atI_last (x :: xs ++ [y]) z
  rw [List.append_assoc] at this
  exact this
theorem atI_m2 {x : V} {xs : List V} {y z : V} : atI (x :: xs ++ [y, z]) (-2) = some y := by
  have hl : (x :: xs ++ [y, z]).length = xs.length + 3 := by simp
  have e : ixN (x :: xs ++ [y, z]).length (-2) = some (xs.length + 1) := by
    unfold ixN
    rw [hl, if_neg (by decide), if_pos (by omega)]
    congr 1
    omega
  unfold atI
  rw [e]
  show (x :: xs ++ [y, z])[xs.length + 1]? = some y
  simp
end Z

/-! words of good lines, in plain Lean -/
namespace M
open PySem PySem.Spec TL
def NumIn (w : Str) (lo hi : Int) : Prop := ∃ i, lo ≤ i ∧ i ≤ hi ∧ w = num i
def EndsW (a b : Str) : Prop := ∃ i j, 0 ≤ i ∧ i ≤ j ∧ j ≤ 9 ∧ a = num i ∧ b = num j
def ScopeW (ws : List Str) : Prop := ∃ s, okS 9 s ∧ scopeWords s = ws
def GoodW (ws : List Str) : Prop := ∃ d, okD d ∧ lineWords d = ws
theorem num_inj {i j : Int} (i0 : 0 ≤ i) (i1 : i ≤ 9) (j0 : 0 ≤ j) (j1 : j ≤ 9) (h : num i = num j) : i = j := by
  have e := num_small i0 i1
  rw [h, num_small j0 j1] at e
  simp only [List.cons.injEq, and_true] at e
  omega
theorem endsW_iff {a b : Str} {i j : Int} (i0 : 0 ≤ i) (i1 : i ≤ 9) (j0 : 0 ≤ j) (j1 : j ≤ 9) (ha : a = num i) (hb : b = num j) : EndsW a b ↔ i ≤ j := by
  constructor
  · rintro ⟨i', j', h0, h1, h2, ea, eb⟩
    have := num_inj i0 i1 h0 (by omega) (ha.symm.trans ea)
    have := num_inj j0 j1 (by omega) (by omega) (hb.symm.trans eb)
    omega
  · exact fun h => ⟨i, j, i0, h, j1, ha, hb⟩
theorem endsW_in {a b : Str} (h : EndsW a b) : NumIn a 0 9 ∧ NumIn b 0 9 := by
  obtain ⟨i, j, h0, h1, h2, ea, eb⟩ := h
  exact ⟨⟨i, h0, by omega, ea⟩, ⟨j, by omega, h2, eb⟩⟩
theorem scopeW_iff {ws : List Str} : ScopeW ws ↔ ws = (["table"] : List Str) ∨ (∃ a b c, ws = ([a, b, c] : List Str) ∧ (a = "rows" ∨ a = "columns") ∧ (EndsW b c ∨ (NumIn b 0 9 ∧ c = "-"))) ∨ (∃ a b c d, ws = (["cells", a, b, c, d] : List Str) ∧ EndsW a b ∧ EndsW c d) := by
  constructor
  · rintro ⟨s, ok, rfl⟩
    cases s with
    | table => exact .inl rfl
    | rows a b =>
      obtain ⟨h0, h1, h2⟩ := ok
      refine .inr (.inl ⟨_, _, _, rfl, .inl rfl, ?_⟩)
      cases b with
      | none => exact .inr ⟨⟨a, h0, h1, rfl⟩, rfl⟩
      | some k => exact .inl ⟨a, k, h0, h2.1, h2.2, rfl, rfl⟩
    | columns a b =>
      obtain ⟨h0, h1, h2⟩ := ok
      refine .inr (.inl ⟨_, _, _, rfl, .inr rfl, ?_⟩)
      cases b with
      | none => exact .inr ⟨⟨a, h0, h1, rfl⟩, rfl⟩
      | some k => exact .inl ⟨a, k, h0, h2.1, h2.2, rfl, rfl⟩
    | cells t b l r =>
      obtain ⟨h0, h1, h2, h3, h4, h5⟩ := ok
      exact .inr (.inr ⟨_, _, _, _, rfl, ⟨_, _, h0, h1, h2, rfl, rfl⟩, ⟨_, _, h3, h4, h5, rfl, rfl⟩⟩)
  · rintro (rfl | ⟨a, b, c, rfl, h1, h2⟩ | ⟨a, b, c, d, rfl, ⟨i, j, h0, h1, h2, rfl, rfl⟩, ⟨i', j', h3, h4, h5, rfl, rfl⟩⟩)
    · exact ⟨.table, trivial, rfl⟩
    · rcases h2 with ⟨i, j, h3, h4, h5, rfl, rfl⟩ | ⟨⟨i, h3, h4, rfl⟩, rfl⟩
      · rcases h1 with rfl | rfl
        · exact ⟨.rows i (some j), ⟨h3, by omega, h4, h5⟩, rfl⟩
        · exact ⟨.columns i (some j), ⟨h3, by omega, h4, h5⟩, rfl⟩
      · rcases h1 with rfl | rfl
        · exact ⟨.rows i none, ⟨h3, h4, trivial⟩, rfl⟩
        · exact ⟨.columns i none, ⟨h3, h4, trivial⟩, rfl⟩
    · exact ⟨.cells i j i' j', ⟨h0, h1, h2, h3, h4, h5⟩, rfl⟩
theorem scope3 {a b c : Str} : ScopeW [a, b, c] ↔ (a = "rows" ∨ a = "columns") ∧ (EndsW b c ∨ (NumIn b 0 9 ∧ c = "-")) := by
  rw [scopeW_iff]
  constructor
  · rintro (h | ⟨_, _, _, h, h1, h2⟩ | ⟨_, _, _, _, h, _⟩)
    · simp at h
    · simp only [List.cons.injEq, and_true] at h
      obtain ⟨rfl, rfl, rfl⟩ := h
      exact ⟨h1, h2⟩
    · simp at h
  · rintro ⟨h1, h2⟩
    exact .inr (.inl ⟨_, _, _, rfl, h1, h2⟩)
theorem scope5 {a b c d e : Str} : ScopeW [a, b, c, d, e] ↔ a = "cells" ∧ EndsW b c ∧ EndsW d e := by
  rw [scopeW_iff]
  constructor
  · rintro (h | ⟨_, _, _, h, h1, h2⟩ | ⟨_, _, _, _, h, h1, h2⟩)
    · simp at h
    · simp at h
    · simp only [List.cons.injEq, and_true] at h
      obtain ⟨rfl, rfl, rfl, rfl, rfl⟩ := h
      exact ⟨rfl, h1, h2⟩
  · rintro ⟨rfl, h1, h2⟩
    exact .inr (.inr ⟨_, _, _, _, rfl, h1, h2⟩)
theorem scope_len {ws : List Str} (h : ScopeW ws) : ws = (["table"] : List Str) ∨ ws.length = 3 ∨ ws.length = 5 := by
  rcases scopeW_iff.mp h with h | ⟨_, _, _, rfl, _⟩ | ⟨_, _, _, _, rfl, _⟩
  · exact .inl h
  · exact .inr (.inl rfl)
  · exact .inr (.inr rfl)
theorem two_t {a x y : Str} : ([x, y] : List Str).contains a = true ↔ a = x ∨ a = y := by simp [List.contains_iff_mem]
def TellW (ws : List Str) : Prop := ∃ sw k v, ws = ("tell" : Str) :: sw ++ [k, v] ∧ ScopeW sw ∧ kinds.contains k = true ∧ (v = "none" ∨ NumIn v 0 9)
def CopyW (ws : List Str) : Prop := ∃ a b c d e f, ws = (["copy", a, b, c, d, e, f, "tellings"] : List Str) ∧ EndsW a b ∧ EndsW c d ∧ NumIn e 0 9 ∧ NumIn f 0 9
def RemoveW (ws : List Str) : Prop := ∃ ax a m, ws = (["remove", ax, a, m] : List Str) ∧ isAx ax ∧ NumIn a 0 9 ∧ NumIn m 1 3
def MoveW (ws : List Str) : Prop := ∃ ax a m t, ws = (["move", ax, a, m, t] : List Str) ∧ isAx ax ∧ NumIn a 0 9 ∧ NumIn m 1 3 ∧ NumIn t 0 9
def InsertW (ws : List Str) : Prop := ∃ ax a m h, ws = (["insert", ax, a, m, h] : List Str) ∧ isAx ax ∧ NumIn a 0 9 ∧ NumIn m 1 3 ∧ (h = "plain" ∨ (h = "like" ∧ a ≠ "0"))
theorem num_zero {i : Int} (h0 : 0 ≤ i) (h1 : i ≤ 9) : num i = "0" ↔ i = 0 := by
  have e : num 0 = "0" := by decide +kernel
  constructor
  · intro h
    rw [← e] at h
    exact num_inj h0 h1 (by decide) (by decide) h
  · rintro rfl
    exact e
theorem goodW_iff {ws : List Str} : GoodW ws ↔ TellW ws ∨ CopyW ws ∨ RemoveW ws ∨ MoveW ws ∨ InsertW ws := by
  constructor
  · rintro ⟨d, ok, rfl⟩
    cases d with
    | tell s k v =>
      obtain ⟨h1, h2, h3⟩ := ok
      refine .inl ⟨_, _, _, rfl, ⟨s, h1, rfl⟩, h2, ?_⟩
      cases v with
      | none => exact .inl rfl
      | some z => exact .inr ⟨z, h3.1, h3.2, rfl⟩
    | insert ax a m hh =>
      obtain ⟨h1, h2, h3, h4, h5, h6⟩ := ok
      refine .inr (.inr (.inr (.inr ⟨_, _, _, _, rfl, h1, ⟨_, h2, h3, rfl⟩, ⟨_, h4, h5, rfl⟩, ?_⟩)))
      rcases h6 with rfl | ⟨rfl, h6⟩
      · exact .inl rfl
      · exact .inr ⟨rfl, fun e => by have := (num_zero h2 h3).mp e; omega⟩
    | remove ax a m =>
      obtain ⟨h1, h2, h3, h4, h5⟩ := ok
      exact .inr (.inr (.inl ⟨_, _, _, rfl, h1, ⟨_, h2, h3, rfl⟩, ⟨_, h4, h5, rfl⟩⟩))
    | move ax a m t =>
      obtain ⟨h1, h2, h3, h4, h5, h6, h7⟩ := ok
      exact .inr (.inr (.inr (.inl ⟨_, _, _, _, rfl, h1, ⟨_, h2, h3, rfl⟩, ⟨_, h4, h5, rfl⟩, ⟨_, h6, h7, rfl⟩⟩)))
    | copy t b l r row col how =>
      obtain ⟨⟨g0, g1, g2, g3, g4, g5⟩, h1, h2, h3, h4, rfl⟩ := ok
      exact .inr (.inl ⟨_, _, _, _, _, _, rfl, ⟨_, _, g0, g1, g2, rfl, rfl⟩, ⟨_, _, g3, g4, g5, rfl, rfl⟩, ⟨_, h1, h2, rfl⟩, ⟨_, h3, h4, rfl⟩⟩)
  · rintro (⟨sw, k, v, rfl, ⟨s, h1, rfl⟩, h2, h3⟩ | ⟨a, b, c, d, e, f, rfl, ⟨i, j, g0, g1, g2, rfl, rfl⟩, ⟨i', j', g3, g4, g5, rfl, rfl⟩, ⟨x, h1, h2, rfl⟩, ⟨y, h3, h4, rfl⟩⟩ | ⟨ax, a, m, rfl, h1, ⟨i, h2, h3, rfl⟩, ⟨j, h4, h5, rfl⟩⟩ | ⟨ax, a, m, t, rfl, h1, ⟨i, h2, h3, rfl⟩, ⟨j, h4, h5, rfl⟩, ⟨k, h6, h7, rfl⟩⟩ | ⟨ax, a, m, hh, rfl, h1, ⟨i, h2, h3, rfl⟩, ⟨j, h4, h5, rfl⟩, h6⟩)
    · rcases h3 with rfl | ⟨z, h3, h4, rfl⟩
      · exact ⟨.tell s k none, ⟨h1, h2, trivial⟩, rfl⟩
      · exact ⟨.tell s k (some z), ⟨h1, h2, h3, h4⟩, rfl⟩
    · exact ⟨.copy i j i' j' x y "tellings", ⟨⟨g0, g1, g2, g3, g4, g5⟩, h1, h2, h3, h4, rfl⟩, rfl⟩
    · exact ⟨.remove ax i j, ⟨h1, h2, h3, h4, h5⟩, rfl⟩
    · exact ⟨.move ax i j k, ⟨h1, h2, h3, h4, h5, h6, h7⟩, rfl⟩
    · refine ⟨.insert ax i j hh, ⟨h1, h2, h3, h4, h5, ?_⟩, rfl⟩
      rcases h6 with rfl | ⟨rfl, h6⟩
      · exact .inl rfl
      · refine .inr ⟨rfl, ?_⟩
        rcases Int.lt_or_le 0 i with z | z
        · exact z
        · exact absurd ((num_zero h2 h3).mpr (by omega)) h6
theorem good_tell {r : List Str} : GoodW (("tell" : Str) :: r) ↔ ∃ sw k v, r = sw ++ [k, v] ∧ ScopeW sw ∧ kinds.contains k = true ∧ (v = "none" ∨ NumIn v 0 9) := by
  rw [goodW_iff]
  constructor
  · rintro (⟨sw, k, v, h, h1, h2, h3⟩ | ⟨_, _, _, _, _, _, h, _⟩ | ⟨_, _, _, h, _⟩ | ⟨_, _, _, _, h, _⟩ | ⟨_, _, _, _, h, _⟩)
    · exact ⟨sw, k, v, (List.cons.inj h).2, h1, h2, h3⟩
    · exact absurd (List.cons.inj h).1 (by decide +kernel)
    · exact absurd (List.cons.inj h).1 (by decide +kernel)
    · exact absurd (List.cons.inj h).1 (by decide +kernel)
    · exact absurd (List.cons.inj h).1 (by decide +kernel)
  · rintro ⟨sw, k, v, rfl, h1, h2, h3⟩
    exact .inl ⟨sw, k, v, rfl, h1, h2, h3⟩
theorem good_tell' {sw : List Str} {k v : Str} : GoodW (("tell" : Str) :: sw ++ [k, v]) ↔ ScopeW sw ∧ kinds.contains k = true ∧ (v = "none" ∨ NumIn v 0 9) := by
  rw [List.cons_append, good_tell]
  constructor
  · rintro ⟨sw', k', v', h, h1, h2, h3⟩
    have h4 : sw ++ [k] = sw' ++ [k'] ∧ v = v' := by
      have : (sw ++ [k]) ++ [v] = (sw' ++ [k']) ++ [v'] := by simpa using h
      have := List.append_inj' this rfl
      exact ⟨this.1, by simpa using this.2⟩
    have h5 := List.append_inj' h4.1 rfl
    obtain rfl := h5.1
    obtain rfl : k = k' := by simpa using h5.2
    obtain rfl := h4.2
    exact ⟨h1, h2, h3⟩
  · rintro ⟨h1, h2, h3⟩
    exact ⟨sw, k, v, rfl, h1, h2, h3⟩
theorem good_copy {r : List Str} : GoodW (("copy" : Str) :: r) ↔ ∃ a b c d e f, r = ([a, b, c, d, e, f, "tellings"] : List Str) ∧ EndsW a b ∧ EndsW c d ∧ NumIn e 0 9 ∧ NumIn f 0 9 := by
  rw [goodW_iff]
  constructor
  · rintro (⟨sw, k, v, h, h1, h2, h3⟩ | ⟨a, b, c, d, e, f, h, h1⟩ | ⟨_, _, _, h, _⟩ | ⟨_, _, _, _, h, _⟩ | ⟨_, _, _, _, h, _⟩)
    · exact absurd (List.cons.inj h).1 (by decide +kernel)
    · exact ⟨a, b, c, d, e, f, (List.cons.inj h).2, h1⟩
    · exact absurd (List.cons.inj h).1 (by decide +kernel)
    · exact absurd (List.cons.inj h).1 (by decide +kernel)
    · exact absurd (List.cons.inj h).1 (by decide +kernel)
  · rintro ⟨a, b, c, d, e, f, rfl, h1⟩
    exact .inr (.inl ⟨a, b, c, d, e, f, rfl, h1⟩)
theorem good_rest {w : Str} {r : List Str} (n1 : w ≠ "tell") (n2 : w ≠ "copy") : GoodW (w :: r) ↔ ∃ ax a m t, r = ax :: a :: m :: t ∧ isAx ax ∧ NumIn a 0 9 ∧ NumIn m 1 3 ∧
    ((w = "remove" ∧ t = []) ∨ ∃ h, t = [h] ∧ ((w = "move" ∧ NumIn h 0 9) ∨ (w = "insert" ∧ (h = "plain" ∨ (h = "like" ∧ a ≠ "0"))))) := by
  rw [goodW_iff]
  constructor
  · rintro (⟨sw, k, v, h, h1, h2, h3⟩ | ⟨a, b, c, d, e, f, h, h1⟩ | ⟨ax, a, m, h, h1, h2, h3⟩ | ⟨ax, a, m, t, h, h1, h2, h3, h4⟩ | ⟨ax, a, m, t, h, h1, h2, h3, h4⟩)
    · exact absurd (List.cons.inj h).1 n1
    · exact absurd (List.cons.inj h).1 n2
    · obtain ⟨rfl, rfl⟩ := List.cons.inj h
      exact ⟨ax, a, m, [], rfl, h1, h2, h3, .inl ⟨rfl, rfl⟩⟩
    · obtain ⟨rfl, rfl⟩ := List.cons.inj h
      exact ⟨ax, a, m, [t], rfl, h1, h2, h3, .inr ⟨t, rfl, .inl ⟨rfl, h4⟩⟩⟩
    · obtain ⟨rfl, rfl⟩ := List.cons.inj h
      exact ⟨ax, a, m, [t], rfl, h1, h2, h3, .inr ⟨t, rfl, .inr ⟨rfl, h4⟩⟩⟩
  · rintro ⟨ax, a, m, t, rfl, h1, h2, h3, ⟨rfl, rfl⟩ | ⟨h, rfl, ⟨rfl, h4⟩ | ⟨rfl, h4⟩⟩⟩
    · exact .inr (.inr (.inl ⟨ax, a, m, rfl, h1, h2, h3⟩))
    · exact .inr (.inr (.inr (.inl ⟨ax, a, m, h, rfl, h1, h2, h3, h4⟩)))
    · exact .inr (.inr (.inr (.inr ⟨ax, a, m, h, rfl, h1, h2, h3, h4⟩)))
/-- plain signs only, no new line -/
def Asc (w : Str) : Prop := ∀ c ∈ tl w, c < 128 ∧ c ≠ 10
theorem Asc.ok {w : Str} (h : Asc w) : PyData.strOk w = true := by
  unfold PyData.strOk
  rw [Array.all_eq_true']
  intro c hc
  rw [decide_eq_true_eq]
  have := (h c (Array.mem_toList_iff.mpr hc)).1
  omega
theorem Asc.nl {w : Str} (h : Asc w) : 10 ∉ tl w := fun z => (h 10 z).2 rfl
theorem joinL_all {P : Nat → Prop} {S : List Nat} (hS : ∀ c ∈ S, P c) : ∀ {ps : List (List Nat)}, (∀ p ∈ ps, ∀ c ∈ p, P c) → ∀ c ∈ joinL S ps, P c
  | [], _, c, h => by cases h
  | [p], h, c, hc => h p (by simp) c hc
  | p :: q :: r, h, c, hc => by
    simp only [joinL, List.mem_append] at hc
    rcases hc with hc | hc | hc
    · exact h p (by simp) c hc
    · exact hS c hc
    · exact joinL_all hS (ps := q :: r) (fun z hz => h z (by simp at hz ⊢; exact .inr hz)) c hc
theorem joinL_sub {S : List Nat} : ∀ {ps : List (List Nat)}, ∀ p ∈ ps, ∀ c ∈ p, c ∈ joinL S ps
  | [], p, h, _, _ => by cases h
  | [q], p, h, c, hc => by obtain rfl := List.mem_singleton.mp h; exact hc
  | q :: x :: r, p, h, c, hc => by
    simp only [joinL, List.mem_append]
    rcases List.mem_cons.mp h with rfl | h
    · exact .inl hc
    · exact .inr (.inr (joinL_sub (ps := x :: r) p h c hc))
theorem Asc.join {ws : List Str} (h : ∀ w ∈ ws, Asc w) : Asc (Txt.join " " ws) := by
  unfold Asc
  rw [join_eq, tl_join]
  refine joinL_all (P := fun c => c < 128 ∧ c ≠ 10) (by decide +kernel) fun p hp => ?_
  obtain ⟨w, hw, rfl⟩ := List.mem_map.mp hp
  exact h w hw
theorem split_back (ln : Str) : Txt.join " " (Txt.split ln " ") = ln := by
  have h := StrLaws.join_split ln " "
  rw [← join_eq] at h
  exact h
theorem Asc.split {ln : Str} (h : Asc ln) : ∀ w ∈ Txt.split ln " ", Asc w := by
  intro w hw c hc
  refine h c ?_
  rw [← split_back ln, join_eq, tl_join]
  exact joinL_sub _ (List.mem_map.mpr ⟨w, hw, rfl⟩) c hc
theorem asc_lit {w : Str} (h : ((tl w).all fun c => decide (c < 128) && decide (c ≠ 10)) = true) : Asc w := fun c hc => by
  have := List.all_eq_true.mp h c hc
  simpa using this
end M

namespace G
open PySem PySem.Spec PyProof.Rows L2 Z
/-! the steps -/
local macro_rules | `(tactic| ktf_call "rf") => `(tactic| first
  | rfl
  | with_unfolding_all rfl
  | (intros; with_unfolding_all rfl)
  | with_unfolding_all decide)
-- tuples, lists, data at the heap at hand
local macro_rules | `(tactic| ktf_call "same") => `(tactic| first
  | with_reducible assumption
  | with_reducible exact Same.refl _
  | ((with_reducible refine Same.trans ?_ (by with_reducible assumption)); ktf_call "same")
  | ((with_reducible refine same_bt ?_ (by with_reducible assumption) (by ktf_call "off")); ktf_call "same"))
local macro_rules | `(tactic| ktf_call "off") => `(tactic| exact off1 (by with_reducible assumption))
local macro_rules | `(tactic| ktf_call "im") => `(tactic| first
  | with_reducible assumption
  | with_reducible exact Im.non
  | with_reducible exact Im.int _
  | with_reducible exact Im.str _
  | with_reducible exact Im.bl _
  | with_reducible exact ImAll.nil
  | ((with_reducible apply im_tx); (with_reducible assumption); (ktf_call "im"))
  | ((with_reducible apply im_same); (with_reducible assumption); (ktf_call "im"))
  | ((with_reducible apply ims_tx); (with_reducible assumption); (ktf_call "im"))
  | ((with_reducible apply ims_same); (with_reducible assumption); (ktf_call "im")))
local macro_rules | `(tactic| ktf_call "sq") => `(tactic| first
  | with_reducible assumption
  | with_reducible exact Kt.sq _
  | ((with_reducible apply sqt_new); (with_reducible assumption))
  | ((with_reducible apply sql_new); (with_reducible assumption))
  | ((with_reducible apply sq_tx); (with_reducible assumption); (ktf_call "sq"))
  | ((with_reducible apply sq_same); (with_reducible assumption); (ktf_call "sq"))
  | ((with_reducible apply Same.seq); (with_reducible assumption); (ktf_call "sq"))
  | ((with_reducible apply sq_bt); (with_reducible assumption); (ktf_call "noff"); (ktf_call "sq")))
local macro_rules | `(tactic| ktf_call "ob") => `(tactic| first
  | with_reducible assumption
  | ((with_reducible apply same_get); (with_reducible assumption); (ktf_call "ob"))
  | ((with_reducible apply ob_bt); (with_reducible assumption); (ktf_call "noff"); (ktf_call "ob")))
local macro_rules | `(tactic| ktf_call "ne1") => `(tactic| first
  | with_reducible assumption
  | ((with_reducible apply Off.l); (with_reducible assumption))
  | ((with_reducible apply dr_ne); (with_reducible assumption); (ktf_call "dr"))
  | ((with_reducible apply fresh_ne); (with_reducible assumption); (with_reducible assumption))
  | ((with_reducible apply fresh_ne); (with_reducible assumption); (ktf_call "ob")))
local macro_rules | `(tactic| ktf_call "ne") => `(tactic| first | ktf_call "ne1" | (refine Ne.symm ?_; ktf_call "ne1"))
local macro_rules | `(tactic| ktf_call "noff") => `(tactic| first
  | with_reducible exact off_nil
  | ((with_reducible apply off_cons); (ktf_call "ne"); (ktf_call "noff")))
local macro_rules | `(tactic| ktf_call "dr") => `(tactic| first
  | with_reducible assumption
  | ((with_reducible apply dr_same); (with_reducible assumption); (ktf_call "dr"))
  | ((with_reducible apply dr_chg); (with_reducible assumption); (with_reducible assumption); (ktf_call "dr")))
local macro_rules | `(tactic| ktf_call "sz") => `(tactic| with_unfolding_all exact Nat.le_of_ble_eq_true rfl)
local macro_rules | `(tactic| ktf_call "sz1") => `(tactic| first | with_unfolding_all decide | with_unfolding_all exact Nat.le_of_ble_eq_true rfl)
local macro_rules | `(tactic| ktf_call "sdc") => `(tactic| first
  | exact rfl
  | exact ⟨rfl, rfl⟩
  | exact ⟨rfl, rfl, rfl⟩
  | exact ⟨rfl, rfl, rfl, rfl, rfl⟩
  | exact ⟨_, rfl⟩
  | ktf_call "rf")
local macro_rules | `(tactic| ktf_call "pos") => `(tactic| first | with_reducible assumption | exact (by decide) | omega)
local macro_rules | `(tactic| ktf_call "lev") => `(tactic| first | exact Nat.le_of_ble_eq_true rfl | with_reducible assumption | with_reducible exact Nat.le_refl _ | omega)
-- one piece of the text
local macro_rules | `(tactic| ktf_call "ge1") => `(tactic| first
  | with_reducible apply stp
  | ((with_reducible apply sl_i); (exact rfl))
  | ((with_reducible apply sd); (ktf_call "sdc"))
  | ((with_reducible apply le_n); (ktf_call "lev"))
  | ((with_reducible apply sz_l); (exact rfl))
  | ((with_reducible apply all_b); intro _ _ _ _ _)
  | ((with_reducible apply new_at); intro _ _ _ _ _)
  | ((with_reducible apply new_ins); intro _ _ _ _ _ _)
  | ((with_reducible apply sub_t); intro _ _ _ _)
  | ((with_reducible apply dr_go); (ktf_call "dr"); (ktf_call "pos"); (ktf_call "pos"); intro _ _ _ _ _ _ _)
  | ((with_reducible apply tg_t); (ktf_call "sq"))
  | ((with_reducible apply tg_l); (ktf_call "sq"))
  | ((with_reducible apply is_l); (ktf_call "sq"))
  | ((with_reducible apply app_to); (ktf_call "ob"); (first | exact lt_size (by omega) | rotate_left); intro _ _ _ _)
  | ((with_reducible apply join_l); (ktf_call "sq"); (ktf_call "lev"))
  | ((with_reducible apply spl_s); (ktf_call "rf"); (ktf_call "lev"))
  | ((with_reducible apply str_i); (ktf_call "lev"))
  | ((with_reducible apply add_gl); (ktf_call "ob"); (ktf_call "ob"); (first | (exact Nat.le_of_ble_eq_true rfl) | (simp only [List.length_map, List.length_cons, List.length_nil, List.length_append]; omega)))
  | ((with_reducible apply tupof_l); (ktf_call "sq"))
  | ((with_reducible apply lstof_l); (ktf_call "sq"))
  | ((with_reducible apply len_l); (ktf_call "sq"))
  | ((with_reducible apply len_t); (ktf_call "sq"))
  | ((with_reducible apply tupof_t); (ktf_call "sq"))
  | ((with_reducible apply lstof_t); (ktf_call "sq"))
  | ((with_reducible apply isi_t); (ktf_call "sq"); (exact inferInstance))
  | ((with_reducible apply isi_l); (ktf_call "sq"); (exact inferInstance))
  | ((with_reducible apply in_t); (ktf_call "sq"); (ktf_call "rf"); (ktf_call "rf"))
  | ((with_reducible apply in_l); (ktf_call "sq"); (ktf_call "rf"); (ktf_call "rf"))
  | ((with_reducible apply nin_t); (ktf_call "sq"); (ktf_call "rf"); (ktf_call "rf"))
  | ((with_reducible apply nin_l); (ktf_call "sq"); (ktf_call "rf"); (ktf_call "rf"))
  | ((with_reducible apply in_ks); (ktf_call "ob"))
  | ((with_reducible apply in_ki); (ktf_call "ob"))
  | ((with_reducible apply fld_g); (ktf_call "ob"); (exact inferInstance); (exact inferInstance); (ktf_call "rf"))
  | ((with_reducible apply put_g); (ktf_call "ob"); (exact inferInstance); (exact inferInstance); (ktf_call "sz1"); intro _ _ _ _)
  | ((with_reducible apply aug_f); (ktf_call "ob"); (exact inferInstance); (exact inferInstance); (ktf_call "rf"))
  | ((with_reducible apply aug_p); (ktf_call "ob"); (ktf_call "sz1"); intro _ _ _ _)
  | ((with_reducible apply ins_m); (ktf_call "ob"); (ktf_call "rf"))
  | ((with_reducible apply sl_l); (ktf_call "sq"))
  | ((with_reducible apply sl_t); (ktf_call "sq"))
  | ((with_reducible apply mul_r); (exact (by decide +kernel)))
  | ((with_reducible apply mod_i); (ktf_call "pos"))
  | ((with_reducible apply div_i); (ktf_call "pos"); (ktf_call "pos"))
  | ((with_reducible apply pow_i); (exact (by decide +kernel)))
  | ((with_reducible apply all_l); (ktf_call "sq"))
  | ((with_reducible apply tru_l); (ktf_call "sq"))
  | ((with_reducible apply tru_t); (ktf_call "sq"))
  | ((with_reducible apply ix_t0); (ktf_call "sq"))
  | ((with_reducible apply ix_t); (ktf_call "sq"); (ktf_call "rf"))
  | ((with_reducible apply ix_l); (ktf_call "sq"); (ktf_call "rf"))
  | ((with_reducible apply ix_tn); (ktf_call "sq"); (exact (by decide)); (exact rfl))
  | ((with_reducible apply ix_ln); (ktf_call "sq"); (exact (by decide)); (exact rfl))
  | ((with_reducible apply if_t); (exact (by decide +kernel)))
  | ((with_reducible apply if_f); (exact (by decide +kernel))))
local macro_rules | `(tactic| ktf_call "ge") => `(tactic| repeat (ktf_call "ge1"))
local macro_rules | `(tactic| ktf_call "gi") => `(tactic| repeat (first | ktf_call "ge1" | with_reducible apply b_cons))
local macro_rules | `(tactic| ktf_call "go") => `(tactic| repeat (first | ktf_call "ge1" | with_reducible apply b_cons | with_reducible apply s_if))
open M
def sp_is_number (K : PySem.W.Frag) : Sp := fun vs H Q _ => vs.length = 3 ∧ ∃ v d lo hi, vs = [v, .int lo, .int hi] ∧ An K H v d ∧ Q (.bl (isNum d lo hi)) H
theorem c_is_number {P : Program} {w : World} {K : PySem.W.Frag} {mg : Str → Option Value} {base : Heap} (T : Txt K mg)   : Cal P w K mg base 1 "is_number" (sp_is_number K) := by
  obtain ⟨f, fd, F, b⟩ := T.d_is_number
  refine cal_of (N := n_is_number) F b sc_is_number (fun vs H Q E q => q.1) (fun X E h vs H Q q => ?_)
  obtain ⟨hp, hw, hK, hm, hb, hN, hs, hcalm, hfn, hroom, hown, hstk, hfrm, htk⟩ := h
  subst hp hw hK hm hb
  have L := lcs_of hN hs hfn lc_is_number
  have n0 : Lcc X "value" 0 := ⟨L 0 _ rfl (by decide)⟩
  have n1 : Lcc X "least" 1 := ⟨L 1 _ rfl (by decide)⟩
  have n2 : Lcc X "most" 2 := ⟨L 2 _ rfl (by decide)⟩
  clear L
  have nd : X.N.Nodup := by rw [hN]; decide +kernel
  have hc : Hc X := hc_of hcalm hroom hown
  have rm : Rm X 0 := ⟨hroom⟩
  have tk : Tk X (fun cls d _ H => E cls d H) := ⟨htk⟩
  have fr : Fr X := ⟨hstk, hfrm⟩
  have b_isinstance : Bnc X "isinstance" := ⟨bn_of hs T.fr_isinstance (by decide +kernel)⟩
  have b_int : Bnc X "int" := ⟨bn_of hs T.fr_int (by decide +kernel)⟩
  have b_bool : Bnc X "bool" := ⟨bn_of hs T.fr_bool (by decide +kernel)⟩
  show WB X (_ :: _) _ _ _ _ _ _
  obtain ⟨_, v, d, lo, hi, rfl, hv, q⟩ := q
  rcases hv.forms with ⟨rfl, rfl⟩ | ⟨b, rfl, rfl⟩ | ⟨n, rfl, rfl⟩ | ⟨x, rfl, rfl⟩ | ⟨a, xs, ds, rfl, rfl, h1, h2⟩ | ⟨a, xs, ds, rfl, rfl, h1⟩
  · ktf_call "go"
    exact q
  · ktf_call "go"
    exact q
  · ktf_call "go"
    refine if_d (fun h => ?_) (fun h => ?_)
    · ktf_call "go"
      simpa [isNum, h] using q
    · ktf_call "go"
      simpa [isNum, h] using q
  · ktf_call "go"
    exact q
  · ktf_call "go"
    exact q
  · ktf_call "go"
    exact q
def sp_is_kind (K : PySem.W.Frag) : Sp := fun vs H Q _ => vs.length = 1 ∧ ∃ v d, vs = [v] ∧ An K H v d ∧ Q (.bl (isKind d)) H
theorem c_is_kind {P : Program} {w : World} {K : PySem.W.Frag} {mg : Str → Option Value} {base : Heap} (T : Txt K mg)   : Cal P w K mg base 1 "is_kind" (sp_is_kind K) := by
  obtain ⟨f, fd, F, b⟩ := T.d_is_kind
  refine cal_of (N := n_is_kind) F b sc_is_kind (fun vs H Q E q => q.1) (fun X E h vs H Q q => ?_)
  obtain ⟨hp, hw, hK, hm, hb, hN, hs, hcalm, hfn, hroom, hown, hstk, hfrm, htk⟩ := h
  subst hp hw hK hm hb
  have L := lcs_of hN hs hfn lc_is_kind
  have n0 : Lcc X "value" 0 := ⟨L 0 _ rfl (by decide)⟩
  clear L
  have nd : X.N.Nodup := by rw [hN]; decide +kernel
  have hc : Hc X := hc_of hcalm hroom hown
  have rm : Rm X 0 := ⟨hroom⟩
  have tk : Tk X (fun cls d _ H => E cls d H) := ⟨htk⟩
  have fr : Fr X := ⟨hstk, hfrm⟩
  have b_isinstance : Bnc X "isinstance" := ⟨bn_of hs T.fr_isinstance (by decide +kernel)⟩
  have b_str : Bnc X "str" := ⟨bn_of hs T.fr_str (by decide +kernel)⟩
  have g_KINDS : Gvc X "KINDS" (.ref (He.ga X.K "KINDS")) := ⟨gn_of hs (by decide +kernel), _, T.gv_KINDS, rfl⟩
  have i_KINDS := T.im_KINDS
  have q_KINDS : Kt X.K (He.ga X.K "KINDS") [.str "ink", .str "ground", .str "face"] := ⟨fun H => im_strs (xs := ["ink", "ground", "face"]) (T.im_KINDS H)⟩
  show WB X (_ :: _) _ _ _ _ _ _
  obtain ⟨_, v, d, rfl, hv, q⟩ := q
  rcases hv.forms with ⟨rfl, rfl⟩ | ⟨b, rfl, rfl⟩ | ⟨n, rfl, rfl⟩ | ⟨x, rfl, rfl⟩ | ⟨a, xs, ds, rfl, rfl, h1, h2⟩ | ⟨a, xs, ds, rfl, rfl, h1⟩
  · ktf_call "go"
    exact q
  · ktf_call "go"
    exact q
  · ktf_call "go"
    exact q
  · ktf_call "go"
    rw [in3]
    exact q
  · ktf_call "go"
    exact q
  · ktf_call "go"
    exact q
def sp_check_kind (K : PySem.W.Frag) : Sp := fun vs H Q E => vs.length = 1 ∧ ∃ v d, vs = [v] ∧ An K H v d ∧ (isKind d = true → Q .non H) ∧ (isKind d = false → E (.ref (He.ga K "BadKind")) none H)
theorem c_check_kind {P : Program} {w : World} {K : PySem.W.Frag} {mg : Str → Option Value} {base : Heap} (T : Txt K mg) (h_is_kind : Cal P w K mg base 1 "is_kind" (sp_is_kind K))  : Cal P w K mg base 2 "check_kind" (sp_check_kind K) := by
  obtain ⟨f, fd, F, b⟩ := T.d_check_kind
  refine cal_of (N := n_check_kind) F b sc_check_kind (fun vs H Q E q => q.1) (fun X E h vs H Q q => ?_)
  obtain ⟨hp, hw, hK, hm, hb, hN, hs, hcalm, hfn, hroom, hown, hstk, hfrm, htk⟩ := h
  subst hp hw hK hm hb
  have L := lcs_of hN hs hfn lc_check_kind
  have n0 : Lcc X "kind" 0 := ⟨L 0 _ rfl (by decide)⟩
  clear L
  have nd : X.N.Nodup := by rw [hN]; decide +kernel
  have hc : Hc X := hc_of hcalm hroom hown
  have rm : Rm X 1 := ⟨hroom⟩
  have tk : Tk X (fun cls d _ H => E cls d H) := ⟨htk⟩
  have fr : Fr X := ⟨hstk, hfrm⟩
  have f_is_kind : Fn X "is_kind" 1 (sp_is_kind X.K) := ⟨h_is_kind, gn_of hs (by decide +kernel)⟩
  have x_BadKind : Xc X "BadKind" (He.ga X.K "BadKind") := ⟨gn_of hs (by decide +kernel), T.gx_BadKind, T.xc_BadKind⟩
  show WB X (_ :: _) _ _ _ _ _ _
  obtain ⟨_, v, d, rfl, hv, q1, q2⟩ := q
  ktf_call "go"
  refine ⟨rfl, v, d, rfl, hv, ?_⟩
  ktf_call "go"
  cases e : isKind d
  · ktf_call "go"
    exact q2 e
  · ktf_call "go"
    exact q1 e
def sp_check_order (K : PySem.W.Frag) : Sp := fun vs H Q E => vs.length = 1 ∧ ∃ v d, vs = [v] ∧ An K H v d ∧ (isOrder d = true → Q .non H) ∧ (isOrder d = false → E (.ref (He.ga K "BadOrder")) none H)
theorem c_check_order {P : Program} {w : World} {K : PySem.W.Frag} {mg : Str → Option Value} {base : Heap} (T : Txt K mg)   : Cal P w K mg base 1 "check_order" (sp_check_order K) := by
  obtain ⟨f, fd, F, b⟩ := T.d_check_order
  refine cal_of (N := n_check_order) F b sc_check_order (fun vs H Q E q => q.1) (fun X E h vs H Q q => ?_)
  obtain ⟨hp, hw, hK, hm, hb, hN, hs, hcalm, hfn, hroom, hown, hstk, hfrm, htk⟩ := h
  subst hp hw hK hm hb
  have L := lcs_of hN hs hfn lc_check_order
  have n0 : Lcc X "order" 0 := ⟨L 0 _ rfl (by decide)⟩
  clear L
  have nd : X.N.Nodup := by rw [hN]; decide +kernel
  have hc : Hc X := hc_of hcalm hroom hown
  have rm : Rm X 0 := ⟨hroom⟩
  have tk : Tk X (fun cls d _ H => E cls d H) := ⟨htk⟩
  have fr : Fr X := ⟨hstk, hfrm⟩
  have b_isinstance : Bnc X "isinstance" := ⟨bn_of hs T.fr_isinstance (by decide +kernel)⟩
  have b_str : Bnc X "str" := ⟨bn_of hs T.fr_str (by decide +kernel)⟩
  have g_ORDERS : Gvc X "ORDERS" (.ref (He.ga X.K "ORDERS")) := ⟨gn_of hs (by decide +kernel), _, T.gv_ORDERS, rfl⟩
  have i_ORDERS := T.im_ORDERS
  have q_ORDERS : Kt X.K (He.ga X.K "ORDERS") [.str "nearest", .str "newest"] := ⟨fun H => im_strs (xs := ["nearest", "newest"]) (T.im_ORDERS H)⟩
  have x_BadOrder : Xc X "BadOrder" (He.ga X.K "BadOrder") := ⟨gn_of hs (by decide +kernel), T.gx_BadOrder, T.xc_BadOrder⟩
  show WB X (_ :: _) _ _ _ _ _ _
  obtain ⟨_, v, d, rfl, hv, q1, q2⟩ := q
  rcases hv.forms with ⟨rfl, rfl⟩ | ⟨b, rfl, rfl⟩ | ⟨n, rfl, rfl⟩ | ⟨x, rfl, rfl⟩ | ⟨a, xs, ds, rfl, rfl, h1, h2⟩ | ⟨a, xs, ds, rfl, rfl, h1⟩
  · ktf_call "go"
    exact q2 rfl
  · ktf_call "go"
    exact q2 rfl
  · ktf_call "go"
    exact q2 rfl
  · ktf_call "go"
    rw [in2]
    cases e : (["nearest", "newest"] : List Str).contains x
    · ktf_call "go"
      exact q2 e
    · ktf_call "go"
      exact q1 e
  · ktf_call "go"
    exact q2 rfl
  · ktf_call "go"
    exact q2 rfl
def sp_is_axis (K : PySem.W.Frag) : Sp := fun vs H Q _ => vs.length = 1 ∧ ∃ v d, vs = [v] ∧ An K H v d ∧ ∀ H', Same H H' → Q (.bl (isAxis d)) H'
theorem c_is_axis {P : Program} {w : World} {K : PySem.W.Frag} {mg : Str → Option Value} {base : Heap} (T : Txt K mg)   : Cal P w K mg base 1 "is_axis" (sp_is_axis K) := by
  obtain ⟨f, fd, F, b⟩ := T.d_is_axis
  refine cal_of (N := n_is_axis) F b sc_is_axis (fun vs H Q E q => q.1) (fun X E h vs H Q q => ?_)
  obtain ⟨hp, hw, hK, hm, hb, hN, hs, hcalm, hfn, hroom, hown, hstk, hfrm, htk⟩ := h
  subst hp hw hK hm hb
  have L := lcs_of hN hs hfn lc_is_axis
  have n0 : Lcc X "value" 0 := ⟨L 0 _ rfl (by decide)⟩
  clear L
  have nd : X.N.Nodup := by rw [hN]; decide +kernel
  have hc : Hc X := hc_of hcalm hroom hown
  have rm : Rm X 0 := ⟨hroom⟩
  have tk : Tk X (fun cls d _ H => E cls d H) := ⟨htk⟩
  have fr : Fr X := ⟨hstk, hfrm⟩
  have b_isinstance : Bnc X "isinstance" := ⟨bn_of hs T.fr_isinstance (by decide +kernel)⟩
  have b_str : Bnc X "str" := ⟨bn_of hs T.fr_str (by decide +kernel)⟩
  show WB X (_ :: _) _ _ _ _ _ _
  obtain ⟨_, v, d, rfl, hv, q⟩ := q
  rcases hv.forms with ⟨rfl, rfl⟩ | ⟨b, rfl, rfl⟩ | ⟨n, rfl, rfl⟩ | ⟨x, rfl, rfl⟩ | ⟨a, xs, ds, rfl, rfl, h1, h2⟩ | ⟨a, xs, ds, rfl, rfl, h1⟩
  · ktf_call "go"
    exact q _ (.refl H)
  · ktf_call "go"
    exact q _ (.refl H)
  · ktf_call "go"
    exact q _ (.refl H)
  · ktf_call "go"
    rw [in2]
    rename_i e1 h1
    exact q _ e1
  · ktf_call "go"
    exact q _ (.refl H)
  · ktf_call "go"
    exact q _ (.refl H)
def sp_is_range (K : PySem.W.Frag) : Sp := fun vs H Q _ => vs.length = 2 ∧ ∃ v d w e, vs = [v, w] ∧ An K H v d ∧ An K H w e ∧ Q (.bl (isRange d e)) H
theorem c_is_range {P : Program} {w : World} {K : PySem.W.Frag} {mg : Str → Option Value} {base : Heap} (T : Txt K mg) (h_is_number : Cal P w K mg base 1 "is_number" (sp_is_number K))  : Cal P w K mg base 2 "is_range" (sp_is_range K) := by
  obtain ⟨f, fd, F, b⟩ := T.d_is_range
  refine cal_of (N := n_is_range) F b sc_is_range (fun vs H Q E q => q.1) (fun X E h vs H Q q => ?_)
  obtain ⟨hp, hw, hK, hm, hb, hN, hs, hcalm, hfn, hroom, hown, hstk, hfrm, htk⟩ := h
  subst hp hw hK hm hb
  have L := lcs_of hN hs hfn lc_is_range
  have n0 : Lcc X "a" 0 := ⟨L 0 _ rfl (by decide)⟩
  have n1 : Lcc X "b" 1 := ⟨L 1 _ rfl (by decide)⟩
  clear L
  have nd : X.N.Nodup := by rw [hN]; decide +kernel
  have hc : Hc X := hc_of hcalm hroom hown
  have rm : Rm X 1 := ⟨hroom⟩
  have tk : Tk X (fun cls d _ H => E cls d H) := ⟨htk⟩
  have fr : Fr X := ⟨hstk, hfrm⟩
  have f_is_number : Fn X "is_number" 1 (sp_is_number X.K) := ⟨h_is_number, gn_of hs (by decide +kernel)⟩
  have g_MOST : Gvc X "MOST_sheets" (.int 999999) := ⟨gn_of hs (by decide +kernel), gvi T.gv_MOST_sheets⟩
  show WB X (_ :: _) _ _ _ _ _ _
  obtain ⟨_, v, d, w, e, rfl, hv, hw, q⟩ := q
  ktf_call "go"
  refine ⟨rfl, v, d, 0, 999999, rfl, hv, ?_⟩
  ktf_call "go"
  cases h : isNum d 0 999999
  · ktf_call "go"
    rw [isRange_no h] at q
    exact q
  · ktf_call "go"
    rcases hv.forms with ⟨rfl, rfl⟩ | ⟨b, rfl, rfl⟩ | ⟨n, rfl, rfl⟩ | ⟨x, rfl, rfl⟩ | ⟨a, xs, ds, rfl, rfl, h1, h2⟩ | ⟨a, xs, ds, rfl, rfl, h1⟩
    · cases h
    · cases h
    · refine ⟨rfl, w, e, n, 999999, rfl, hw, ?_⟩
      rw [isRange_yes h] at q
      exact q
    · cases h
    · cases h
    · cases h
def sp_is_told_value (K : PySem.W.Frag) : Sp := fun vs H Q _ => vs.length = 1 ∧ ∃ v d, vs = [v] ∧ An K H v d ∧ Q (.bl (isTold d)) H
theorem c_is_told_value {P : Program} {w : World} {K : PySem.W.Frag} {mg : Str → Option Value} {base : Heap} (T : Txt K mg) (h_is_number : Cal P w K mg base 1 "is_number" (sp_is_number K))  : Cal P w K mg base 2 "is_told_value" (sp_is_told_value K) := by
  obtain ⟨f, fd, F, b⟩ := T.d_is_told_value
  refine cal_of (N := n_is_told_value) F b sc_is_told_value (fun vs H Q E q => q.1) (fun X E h vs H Q q => ?_)
  obtain ⟨hp, hw, hK, hm, hb, hN, hs, hcalm, hfn, hroom, hown, hstk, hfrm, htk⟩ := h
  subst hp hw hK hm hb
  have L := lcs_of hN hs hfn lc_is_told_value
  have n0 : Lcc X "value" 0 := ⟨L 0 _ rfl (by decide)⟩
  clear L
  have nd : X.N.Nodup := by rw [hN]; decide +kernel
  have hc : Hc X := hc_of hcalm hroom hown
  have rm : Rm X 1 := ⟨hroom⟩
  have tk : Tk X (fun cls d _ H => E cls d H) := ⟨htk⟩
  have fr : Fr X := ⟨hstk, hfrm⟩
  have f_is_number : Fn X "is_number" 1 (sp_is_number X.K) := ⟨h_is_number, gn_of hs (by decide +kernel)⟩
  show WB X (_ :: _) _ _ _ _ _ _
  obtain ⟨_, v, d, rfl, hv, q⟩ := q
  rcases hv.forms with ⟨rfl, rfl⟩ | ⟨b, rfl, rfl⟩ | ⟨n, rfl, rfl⟩ | ⟨x, rfl, rfl⟩ | ⟨a, xs, ds, rfl, rfl, h1, h2⟩ | ⟨a, xs, ds, rfl, rfl, h1⟩
  · ktf_call "go"
    exact q
  all_goals
    ktf_call "go"
    exact ⟨rfl, _, _, 0, 9, rfl, hv, q⟩
def sp_is_cells (K : PySem.W.Frag) : Sp := fun vs H Q _ => vs.length = 1 ∧ ∃ v d, vs = [v] ∧ An K H v d ∧ Q (.bl (isCells d)) H
theorem c_is_cells {P : Program} {w : World} {K : PySem.W.Frag} {mg : Str → Option Value} {base : Heap} (T : Txt K mg) (h_is_range : Cal P w K mg base 2 "is_range" (sp_is_range K))  : Cal P w K mg base 3 "is_cells" (sp_is_cells K) := by
  obtain ⟨f, fd, F, b⟩ := T.d_is_cells
  refine cal_of (N := n_is_cells) F b sc_is_cells (fun vs H Q E q => q.1) (fun X E h vs H Q q => ?_)
  obtain ⟨hp, hw, hK, hm, hb, hN, hs, hcalm, hfn, hroom, hown, hstk, hfrm, htk⟩ := h
  subst hp hw hK hm hb
  have L := lcs_of hN hs hfn lc_is_cells
  have n0 : Lcc X "value" 0 := ⟨L 0 _ rfl (by decide)⟩
  clear L
  have nd : X.N.Nodup := by rw [hN]; decide +kernel
  have hc : Hc X := hc_of hcalm hroom hown
  have rm : Rm X 2 := ⟨hroom⟩
  have tk : Tk X (fun cls d _ H => E cls d H) := ⟨htk⟩
  have fr : Fr X := ⟨hstk, hfrm⟩
  have f_is_range : Fn X "is_range" 2 (sp_is_range X.K) := ⟨h_is_range, gn_of hs (by decide +kernel)⟩
  have b_isinstance : Bnc X "isinstance" := ⟨bn_of hs T.fr_isinstance (by decide +kernel)⟩
  have b_tuple : Bnc X "tuple" := ⟨bn_of hs T.fr_tuple (by decide +kernel)⟩
  have b_str : Bnc X "str" := ⟨bn_of hs T.fr_str (by decide +kernel)⟩
  have b_len : Bnc X "len" := ⟨bn_of hs T.fr_len (by decide +kernel)⟩
  show WB X (_ :: _) _ _ _ _ _ _
  obtain ⟨_, v, d, rfl, hv, q⟩ := q
  rcases hv.forms with ⟨rfl, rfl⟩ | ⟨b, rfl, rfl⟩ | ⟨n, rfl, rfl⟩ | ⟨x, rfl, rfl⟩ | ⟨a, xs, ds, rfl, rfl, h1, h2⟩ | ⟨a, xs, ds, rfl, rfl, h1⟩
  · ktf_call "go"
    exact q
  · ktf_call "go"
    exact q
  · ktf_call "go"
    exact q
  · ktf_call "go"
    exact q
  · ktf_call "go"
    have hl := h2.length
    refine if_n (fun hn => ?_) (fun hn => ?_)
    · ktf_call "go"
      have e : isCells (.tuple ds) = false := isCells_len (by omega)
      rw [e] at q
      exact q
    · have hn : ds.length = 5 := by omega
      match ds, hn with
      | [d0, d1, d2, d3, d4], _ =>
        obtain ⟨x0, _, rfl, g0, h2⟩ := h2.cons_inv
        obtain ⟨x1, _, rfl, g1, h2⟩ := h2.cons_inv
        obtain ⟨x2, _, rfl, g2, h2⟩ := h2.cons_inv
        obtain ⟨x3, _, rfl, g3, h2⟩ := h2.cons_inv
        obtain ⟨x4, _, rfl, g4, h2⟩ := h2.cons_inv
        obtain rfl := h2.nil_inv
        rcases g0.forms with ⟨rfl, rfl⟩ | ⟨b, rfl, rfl⟩ | ⟨n, rfl, rfl⟩ | ⟨x, rfl, rfl⟩ | ⟨a2, xs2, ds2, rfl, rfl, g5, g6⟩
        · ktf_call "go"
          exact q
        · ktf_call "go"
          exact q
        · ktf_call "go"
          exact q
        · ktf_call "go"
          refine if_n (fun hx => ?_) (fun hx => ?_)
          · ktf_call "go"
            rw [isCells_ne hx] at q
            exact q
          · subst hx
            rw [isCells_eq] at q
            ktf_call "go"
            refine ⟨rfl, x1, d1, x2, d2, rfl, .im g1, .im g2, ?_⟩
            ktf_call "go"
            cases h : isRange d1 d2
            · ktf_call "go"
              rw [h] at q
              exact q
            · ktf_call "go"
              refine ⟨rfl, x3, d3, x4, d4, rfl, .im g3, .im g4, ?_⟩
              rw [h] at q
              exact q
        · ktf_call "go"
          exact q
  · ktf_call "go"
    exact q
def sp_is_scope (K : PySem.W.Frag) : Sp := fun vs H Q _ => vs.length = 1 ∧ ∃ v d, vs = [v] ∧ An K H v d ∧ ∀ H', Same H H' → Q (.bl (isScope d)) H'
theorem c_is_scope {P : Program} {w : World} {K : PySem.W.Frag} {mg : Str → Option Value} {base : Heap} (T : Txt K mg) (h_is_number : Cal P w K mg base 1 "is_number" (sp_is_number K)) (h_is_range : Cal P w K mg base 2 "is_range" (sp_is_range K)) (h_is_cells : Cal P w K mg base 3 "is_cells" (sp_is_cells K))  : Cal P w K mg base 4 "is_scope" (sp_is_scope K) := by
  obtain ⟨f, fd, F, b⟩ := T.d_is_scope
  refine cal_of (N := n_is_scope) F b sc_is_scope (fun vs H Q E q => q.1) (fun X E h vs H Q q => ?_)
  obtain ⟨hp, hw, hK, hm, hb, hN, hs, hcalm, hfn, hroom, hown, hstk, hfrm, htk⟩ := h
  subst hp hw hK hm hb
  have L := lcs_of hN hs hfn lc_is_scope
  have n0 : Lcc X "value" 0 := ⟨L 0 _ rfl (by decide)⟩
  clear L
  have nd : X.N.Nodup := by rw [hN]; decide +kernel
  have hc : Hc X := hc_of hcalm hroom hown
  have rm : Rm X 3 := ⟨hroom⟩
  have tk : Tk X (fun cls d _ H => E cls d H) := ⟨htk⟩
  have fr : Fr X := ⟨hstk, hfrm⟩
  have f_is_number : Fn X "is_number" 1 (sp_is_number X.K) := ⟨h_is_number, gn_of hs (by decide +kernel)⟩
  have f_is_range : Fn X "is_range" 2 (sp_is_range X.K) := ⟨h_is_range, gn_of hs (by decide +kernel)⟩
  have f_is_cells : Fn X "is_cells" 3 (sp_is_cells X.K) := ⟨h_is_cells, gn_of hs (by decide +kernel)⟩
  have b_isinstance : Bnc X "isinstance" := ⟨bn_of hs T.fr_isinstance (by decide +kernel)⟩
  have b_tuple : Bnc X "tuple" := ⟨bn_of hs T.fr_tuple (by decide +kernel)⟩
  have b_str : Bnc X "str" := ⟨bn_of hs T.fr_str (by decide +kernel)⟩
  have b_len : Bnc X "len" := ⟨bn_of hs T.fr_len (by decide +kernel)⟩
  have g_MOST : Gvc X "MOST_sheets" (.int 999999) := ⟨gn_of hs (by decide +kernel), gvi T.gv_MOST_sheets⟩
  show WB X (_ :: _) _ _ _ _ _ _
  obtain ⟨_, v, d, rfl, hv, q⟩ := q
  have q0 := q H (.refl H)
  rcases hv.forms with ⟨rfl, rfl⟩ | ⟨b, rfl, rfl⟩ | ⟨n, rfl, rfl⟩ | ⟨x, rfl, rfl⟩ | ⟨a, xs, ds, rfl, rfl, h1, h2⟩ | ⟨a, xs, ds, rfl, rfl, h1⟩
  · ktf_call "go"
    exact q0
  · ktf_call "go"
    exact q0
  · ktf_call "go"
    exact q0
  · ktf_call "go"
    exact q0
  · cases ds with
    | nil =>
      obtain rfl := h2.nil_inv
      ktf_call "go"
      exact q0
    | cons d0 r =>
      obtain ⟨x0, xr, rfl, g0, g1⟩ := h2.cons_inv
      rcases g0.forms with ⟨rfl, rfl⟩ | ⟨b, rfl, rfl⟩ | ⟨n, rfl, rfl⟩ | ⟨w, rfl, rfl⟩ | ⟨a2, xs2, ds2, rfl, rfl, g5, g6⟩
      · ktf_call "go"
        exact q0
      · ktf_call "go"
        exact q0
      · ktf_call "go"
        exact q0
      · ktf_call "go"
        refine if_d (fun hw => ?_) (fun hw => ?_)
        · subst hw
          ktf_call "go"
          rw [isScope_table] at q0
          have e : decide (((V.str ("table" : Str) :: xr).length : Int) = 1) = r.isEmpty := by
            have := g1.length
            cases r with
            | nil => obtain rfl := g1.nil_inv; rfl
            | cons _ _ =>
              rw [List.length_cons] at this
              have hne : ¬ (((V.str ("table" : Str) :: xr).length : Int) = 1) := by rw [List.length_cons]; omega
              rw [decide_eq_false hne] <;> rfl
          rw [e]
          exact q0
        · ktf_call "go"
          rw [in2]
          rename_i T H1 hT e1 hT1
          have hv1 := hv.same e1
          have h11 := e1.tq h1
          cases hc2 : (["rows", "columns"] : List Str).contains w
          · ktf_call "go"
            rw [isScope_other hw (by rw [hc2]; simp)] at q
            exact ⟨rfl, _, _, rfl, hv1, q _ e1⟩
          · ktf_call "go"
            refine if_d (fun hn => ?_) (fun hn => ?_)
            · have hr : r.length = 2 := by
                have := g1.length
                rw [List.length_cons] at hn
                omega
              match r, hr with
              | [d1, d2], _ =>
                obtain ⟨x1, _, rfl, f1, g1⟩ := g1.cons_inv
                obtain ⟨x2, _, rfl, f2, g1⟩ := g1.cons_inv
                obtain rfl := g1.nil_inv
                rw [isScope_line hw hc2] at q
                have q := q _ e1
                have f1 := f1.same e1
                have f2 := f2.same e1
                ktf_call "go"
                refine ⟨rfl, x1, d1, 0, 999999, rfl, .im f1, ?_⟩
                ktf_call "go"
                cases h : isNum d1 0 999999
                · ktf_call "go"
                  rw [h] at q
                  exact q
                · rw [h] at q
                  ktf_call "go"
                  rcases f2.forms with ⟨rfl, rfl⟩ | ⟨b, rfl, rfl⟩ | ⟨n, rfl, rfl⟩ | ⟨x, rfl, rfl⟩ | ⟨a2, xs2, ds2, rfl, rfl, g5, g6⟩
                  · ktf_call "go"
                    exact q
                  all_goals
                    ktf_call "go"
                    exact ⟨rfl, _, _, _, _, rfl, .im f1, .im f2, q⟩
            · ktf_call "go"
              rw [isScope_other hw (by
                rintro ⟨_, z⟩
                have := g1.length
                rw [List.length_cons] at hn
                omega)] at q
              exact ⟨rfl, _, _, rfl, hv1, q _ e1⟩
      · ktf_call "go"
        exact q0
  · ktf_call "go"
    exact q0
end G

namespace G
open PySem PySem.Spec PyProof.Rows L2 Z
/-! the steps -/
local macro_rules | `(tactic| ktf_call "rf") => `(tactic| first
  | rfl
  | with_unfolding_all rfl
  | (intros; with_unfolding_all rfl)
  | with_unfolding_all decide)
-- tuples, lists, data at the heap at hand
local macro_rules | `(tactic| ktf_call "same") => `(tactic| first
  | with_reducible assumption
  | with_reducible exact Same.refl _
  | ((with_reducible refine Same.trans ?_ (by with_reducible assumption)); ktf_call "same")
  | ((with_reducible refine same_bt ?_ (by with_reducible assumption) (by ktf_call "off")); ktf_call "same"))
local macro_rules | `(tactic| ktf_call "off") => `(tactic| exact off1 (by with_reducible assumption))
local macro_rules | `(tactic| ktf_call "im") => `(tactic| first
  | with_reducible assumption
  | with_reducible exact Im.non
  | with_reducible exact Im.int _
  | with_reducible exact Im.str _
  | with_reducible exact Im.bl _
  | with_reducible exact ImAll.nil
  | ((with_reducible apply im_tx); (with_reducible assumption); (ktf_call "im"))
  | ((with_reducible apply im_same); (with_reducible assumption); (ktf_call "im"))
  | ((with_reducible apply ims_tx); (with_reducible assumption); (ktf_call "im"))
  | ((with_reducible apply ims_same); (with_reducible assumption); (ktf_call "im")))
local macro_rules | `(tactic| ktf_call "sq") => `(tactic| first
  | with_reducible assumption
  | with_reducible exact Kt.sq _
  | ((with_reducible apply sqt_new); (with_reducible assumption))
  | ((with_reducible apply sql_new); (with_reducible assumption))
  | ((with_reducible apply sq_tx); (with_reducible assumption); (ktf_call "sq"))
  | ((with_reducible apply sq_same); (with_reducible assumption); (ktf_call "sq"))
  | ((with_reducible apply Same.seq); (with_reducible assumption); (ktf_call "sq"))
  | ((with_reducible apply sq_bt); (with_reducible assumption); (ktf_call "noff"); (ktf_call "sq")))
local macro_rules | `(tactic| ktf_call "ob") => `(tactic| first
  | with_reducible assumption
  | ((with_reducible apply same_get); (with_reducible assumption); (ktf_call "ob"))
  | ((with_reducible apply ob_bt); (with_reducible assumption); (ktf_call "noff"); (ktf_call "ob")))
local macro_rules | `(tactic| ktf_call "ne1") => `(tactic| first
  | with_reducible assumption
  | ((with_reducible apply Off.l); (with_reducible assumption))
  | ((with_reducible apply dr_ne); (with_reducible assumption); (ktf_call "dr"))
  | ((with_reducible apply fresh_ne); (with_reducible assumption); (with_reducible assumption))
  | ((with_reducible apply fresh_ne); (with_reducible assumption); (ktf_call "ob")))
local macro_rules | `(tactic| ktf_call "ne") => `(tactic| first | ktf_call "ne1" | (refine Ne.symm ?_; ktf_call "ne1"))
local macro_rules | `(tactic| ktf_call "noff") => `(tactic| first
  | with_reducible exact off_nil
  | ((with_reducible apply off_cons); (ktf_call "ne"); (ktf_call "noff")))
local macro_rules | `(tactic| ktf_call "dr") => `(tactic| first
  | with_reducible assumption
  | ((with_reducible apply dr_same); (with_reducible assumption); (ktf_call "dr"))
  | ((with_reducible apply dr_chg); (with_reducible assumption); (with_reducible assumption); (ktf_call "dr")))
local macro_rules | `(tactic| ktf_call "sz") => `(tactic| with_unfolding_all exact Nat.le_of_ble_eq_true rfl)
local macro_rules | `(tactic| ktf_call "sz1") => `(tactic| first | with_unfolding_all decide | with_unfolding_all exact Nat.le_of_ble_eq_true rfl)
local macro_rules | `(tactic| ktf_call "sdc") => `(tactic| first
  | exact rfl
  | exact ⟨rfl, rfl⟩
  | exact ⟨rfl, rfl, rfl⟩
  | exact ⟨rfl, rfl, rfl, rfl, rfl⟩
  | exact ⟨_, rfl⟩
  | ktf_call "rf")
local macro_rules | `(tactic| ktf_call "pos") => `(tactic| first | with_reducible assumption | exact (by decide) | omega)
local macro_rules | `(tactic| ktf_call "lev") => `(tactic| first | exact Nat.le_of_ble_eq_true rfl | with_reducible assumption | with_reducible exact Nat.le_refl _ | omega)
-- one piece of the text
local macro_rules | `(tactic| ktf_call "ge1") => `(tactic| first
  | with_reducible apply stp
  | ((with_reducible apply sl_i); (exact rfl))
  | ((with_reducible apply sd); (ktf_call "sdc"))
  | ((with_reducible apply le_n); (ktf_call "lev"))
  | ((with_reducible apply sz_l); (exact rfl))
  | ((with_reducible apply all_b); intro _ _ _ _ _)
  | ((with_reducible apply new_at); intro _ _ _ _ _)
  | ((with_reducible apply new_ins); intro _ _ _ _ _ _)
  | ((with_reducible apply sub_t); intro _ _ _ _)
  | ((with_reducible apply dr_go); (ktf_call "dr"); (ktf_call "pos"); (ktf_call "pos"); intro _ _ _ _ _ _ _)
  | ((with_reducible apply tg_t); (ktf_call "sq"))
  | ((with_reducible apply tg_l); (ktf_call "sq"))
  | ((with_reducible apply is_l); (ktf_call "sq"))
  | ((with_reducible apply app_to); (ktf_call "ob"); (first | exact lt_size (by omega) | rotate_left); intro _ _ _ _)
  | ((with_reducible apply join_l); (ktf_call "sq"); (ktf_call "lev"))
  | ((with_reducible apply spl_s); (ktf_call "rf"); (ktf_call "lev"))
  | ((with_reducible apply str_i); (ktf_call "lev"))
  | ((with_reducible apply add_gl); (ktf_call "ob"); (ktf_call "ob"); (first | (exact Nat.le_of_ble_eq_true rfl) | (simp only [List.length_map, List.length_cons, List.length_nil, List.length_append]; omega)))
  | ((with_reducible apply tupof_l); (ktf_call "sq"))
  | ((with_reducible apply lstof_l); (ktf_call "sq"))
  | ((with_reducible apply len_l); (ktf_call "sq"))
  | ((with_reducible apply len_t); (ktf_call "sq"))
  | ((with_reducible apply tupof_t); (ktf_call "sq"))
  | ((with_reducible apply lstof_t); (ktf_call "sq"))
  | ((with_reducible apply isi_t); (ktf_call "sq"); (exact inferInstance))
  | ((with_reducible apply isi_l); (ktf_call "sq"); (exact inferInstance))
  | ((with_reducible apply in_t); (ktf_call "sq"); (ktf_call "rf"); (ktf_call "rf"))
  | ((with_reducible apply in_l); (ktf_call "sq"); (ktf_call "rf"); (ktf_call "rf"))
  | ((with_reducible apply nin_t); (ktf_call "sq"); (ktf_call "rf"); (ktf_call "rf"))
  | ((with_reducible apply nin_l); (ktf_call "sq"); (ktf_call "rf"); (ktf_call "rf"))
  | ((with_reducible apply in_ks); (ktf_call "ob"))
  | ((with_reducible apply in_ki); (ktf_call "ob"))
  | ((with_reducible apply fld_g); (ktf_call "ob"); (exact inferInstance); (exact inferInstance); (ktf_call "rf"))
  | ((with_reducible apply put_g); (ktf_call "ob"); (exact inferInstance); (exact inferInstance); (ktf_call "sz1"); intro _ _ _ _)
  | ((with_reducible apply aug_f); (ktf_call "ob"); (exact inferInstance); (exact inferInstance); (ktf_call "rf"))
  | ((with_reducible apply aug_p); (ktf_call "ob"); (ktf_call "sz1"); intro _ _ _ _)
  | ((with_reducible apply ins_m); (ktf_call "ob"); (ktf_call "rf"))
  | ((with_reducible apply sl_l); (ktf_call "sq"))
  | ((with_reducible apply sl_t); (ktf_call "sq"))
  | ((with_reducible apply mul_r); (exact (by decide +kernel)))
  | ((with_reducible apply mod_i); (ktf_call "pos"))
  | ((with_reducible apply div_i); (ktf_call "pos"); (ktf_call "pos"))
  | ((with_reducible apply pow_i); (exact (by decide +kernel)))
  | ((with_reducible apply all_l); (ktf_call "sq"))
  | ((with_reducible apply tru_l); (ktf_call "sq"))
  | ((with_reducible apply tru_t); (ktf_call "sq"))
  | ((with_reducible apply ix_t0); (ktf_call "sq"))
  | ((with_reducible apply ix_t); (ktf_call "sq"); (ktf_call "rf"))
  | ((with_reducible apply ix_l); (ktf_call "sq"); (ktf_call "rf"))
  | ((with_reducible apply ix_tn); (ktf_call "sq"); (exact (by decide)); (exact rfl))
  | ((with_reducible apply ix_ln); (ktf_call "sq"); (exact (by decide)); (exact rfl))
  | ((with_reducible apply if_t); (exact (by decide +kernel)))
  | ((with_reducible apply if_f); (exact (by decide +kernel))))
local macro_rules | `(tactic| ktf_call "ge") => `(tactic| repeat (ktf_call "ge1"))
local macro_rules | `(tactic| ktf_call "gi") => `(tactic| repeat (first | ktf_call "ge1" | with_reducible apply b_cons))
local macro_rules | `(tactic| ktf_call "go") => `(tactic| repeat (first | ktf_call "ge1" | with_reducible apply b_cons | with_reducible apply s_if))
open M
def sp_check_shift (K : PySem.W.Frag) : Sp := fun vs H Q E => vs.length = 3 ∧ ∃ v d l xs ds w e, vs = [v, .ref l, w] ∧ An K H v d ∧ H l = some (.lst xs) ∧ AnAll K H xs ds ∧ An K H w e ∧ xs.length < 1000 ∧ ∀ H', Same H H' →
  (isAxis d = false → E (.ref (He.ga K "BadAxis")) none H') ∧ (isAxis d = true → (ds.all (fun p => isNum p 0 most) && isNum e 1 most) = false → E (.ref (He.ga K "BadPlace")) none H') ∧ (isAxis d = true → (ds.all (fun p => isNum p 0 most) && isNum e 1 most) = true → Q .non H')
theorem c_check_shift {P : Program} {w : World} {K : PySem.W.Frag} {mg : Str → Option Value} {base : Heap} (T : Txt K mg) (h_is_axis : Cal P w K mg base 1 "is_axis" (sp_is_axis K)) (h_is_number : Cal P w K mg base 1 "is_number" (sp_is_number K))  : Cal P w K mg base 2 "check_shift" (sp_check_shift K) := by
  obtain ⟨f, fd, F, b⟩ := T.d_check_shift
  refine cal_of (N := n_check_shift) F b sc_check_shift (fun vs H Q E q => q.1) (fun X E h vs H Q q => ?_)
  obtain ⟨hp, hw, hK, hm, hb, hN, hs, hcalm, hfn, hroom, hown, hstk, hfrm, htk⟩ := h
  subst hp hw hK hm hb
  have L := lcs_of hN hs hfn lc_check_shift
  have n0 : Lcc X "axis" 0 := ⟨L 0 _ rfl (by decide)⟩
  have n1 : Lcc X "places" 1 := ⟨L 1 _ rfl (by decide)⟩
  have n2 : Lcc X "many" 2 := ⟨L 2 _ rfl (by decide)⟩
  clear L
  have nd : X.N.Nodup := by rw [hN]; decide +kernel
  have hc : Hc X := hc_of hcalm hroom hown
  have rm : Rm X 1 := ⟨hroom⟩
  have tk : Tk X (fun cls d _ H => E cls d H) := ⟨htk⟩
  have fr : Fr X := ⟨hstk, hfrm⟩
  have f_is_axis : Fn X "is_axis" 1 (sp_is_axis X.K) := ⟨h_is_axis, gn_of hs (by decide +kernel)⟩
  have f_is_number : Fn X "is_number" 1 (sp_is_number X.K) := ⟨h_is_number, gn_of hs (by decide +kernel)⟩
  have b_all : Bnc X "all" := ⟨bn_of hs T.fr_all (by decide +kernel)⟩
  have g_MOST : Gvc X "MOST_sheets" (.int 999999) := ⟨gn_of hs (by decide +kernel), gvi T.gv_MOST_sheets⟩
  have x_BadAxis : Xc X "BadAxis" (He.ga X.K "BadAxis") := ⟨gn_of hs (by decide +kernel), T.gx_BadAxis, T.xc_BadAxis⟩
  have x_BadPlace : Xc X "BadPlace" (He.ga X.K "BadPlace") := ⟨gn_of hs (by decide +kernel), T.gx_BadPlace, T.xc_BadPlace⟩
  show WB X (_ :: _) _ _ _ _ _ _
  obtain ⟨_, v, d, l, xs, ds, w, e, rfl, hv, hl, hI, hw, hz, q⟩ := q
  ktf_call "go"
  refine ⟨rfl, v, d, rfl, hv, fun H1 e1 => ?_⟩
  ktf_call "go"
  cases ha : isAxis d
  · ktf_call "go"
    exact (q _ e1).1 ha
  · ktf_call "go"
    refine w_lcI [("place", 3)] (fun sc => (∀ s0 H0 C0 cl fp, Lcc (blkX X sc s0 H0 C0 cl fp) "place" 3) ∧ (∀ s0 H0 C0 cl fp, Fn (blkX X sc s0 H0 C0 cl fp) "is_number" _ (sp_is_number X.K)) ∧ (∀ s0 H0 C0 cl fp, Gvc (blkX X sc s0 H0 C0 cl fp) "MOST_sheets" _) ∧ True) ⟨fun _ _ _ _ _ => ⟨lc_blk hN hs (by decide +kernel)⟩, fun _ _ _ _ _ => ⟨h_is_number, gn_blk hs (by decide +kernel)⟩, fun _ _ _ _ _ => ⟨gn_blk hs (by decide +kernel), g_MOST.val⟩, trivial⟩ hc nd (by rw [hN, hs]; exact blkOk_by (by decide +kernel)) (fun _ => rfl) ?_
    rintro sc ⟨o_place, bf_is_number, bg_MOST, _⟩
    refine wi_list ?_
    ktf_call "go"
    refine ⟨l, xs, rfl, sql_new (e1 _ _ hl), _, _, _, walk_list (xs := xs), fun D H2 hD e2 hD2 => ⟨fun i H' => Wd (Same H1 H' ∧ H' D = some (.lst (((ds.take i).map fun p => isNum p 0 most).map V.bl))), ⟨e2, hD2⟩, ?_, ?_, ?_⟩⟩
    · rintro i H' _ ⟨es, _⟩
      exact sql_new (es _ _ (e1 _ _ hl))
    · rintro i x H' H3 hi ⟨es, hD3⟩ ⟨rfl, hx⟩
      obtain ⟨d1, g1, g2⟩ := hI.get hx
      ktf_call "go"
      refine ⟨rfl, x, d1, 0, 999999, rfl, g2.same (e1.trans es), ?_⟩
      refine lst_ap hD3 (lt_size (by simp; omega)) fun H5 b5 t5 h5 => ⟨same_bt es b5 (off1 hD), ?_⟩
      rw [h5, take_at g1, List.map_append, List.map_append]
      rfl
    · rintro H' ⟨es, hD3⟩
      rw [take_end (by rw [hI.length]; exact Nat.le_refl _)] at hD3
      refine all_l (sql_new hD3) ?_
      have q := q _ (e1.trans es)
      have eb : (List.map (fun p => isNum p 0 most) ds).all (fun z => z) = ds.all (fun p => isNum p 0 most) := by rw [List.all_map] <;> rfl
      rw [eb]
      cases hb : ds.all (fun p => isNum p 0 most)
      · ktf_call "go"
        exact q.2.1 ha (by rw [hb] <;> rfl)
      · ktf_call "go"
        refine ⟨rfl, w, e, 1, 999999, rfl, hw.same (e1.trans es), ?_⟩
        cases hn : isNum e 1 999999
        · ktf_call "go"
          exact q.2.1 ha (by rw [hb, hn] <;> rfl)
        · ktf_call "go"
          exact q.2.2 ha (by rw [hb, hn] <;> rfl)
def sp_link_fault (K : PySem.W.Frag) : Sp := fun vs H Q E => vs.length = 1 ∧ ∃ l xs ds, vs = [.ref l] ∧ (SqL K H l xs ∨ SqT K H l xs) ∧ AnAll K H xs ds ∧ xs.length < 1000 ∧ ∀ H', Same H H' →
  Q (match linkFault ds with | none => .non | some i => .int (i : Nat)) H'
theorem c_link_fault {P : Program} {w : World} {K : PySem.W.Frag} {mg : Str → Option Value} {base : Heap} (T : Txt K mg) (h_is_kind : Cal P w K mg base 1 "is_kind" (sp_is_kind K))  : Cal P w K mg base 2 "link_fault" (sp_link_fault K) := by
  obtain ⟨f, fd, F, b⟩ := T.d_link_fault
  refine cal_of (N := n_link_fault) F b sc_link_fault (fun vs H Q E q => q.1) (fun X E h vs H Q q => ?_)
  obtain ⟨hp, hw, hK, hm, hb, hN, hs, hcalm, hfn, hroom, hown, hstk, hfrm, htk⟩ := h
  subst hp hw hK hm hb
  have L := lcs_of hN hs hfn lc_link_fault
  have n0 : Lcc X "links" 0 := ⟨L 0 _ rfl (by decide)⟩
  have n1 : Lcc X "table" 1 := ⟨L 1 _ rfl (by decide)⟩
  have n2 : Lcc X "index" 2 := ⟨L 2 _ rfl (by decide)⟩
  have n3 : Lcc X "link" 3 := ⟨L 3 _ rfl (by decide)⟩
  have n4 : Lcc X "here" 4 := ⟨L 4 _ rfl (by decide)⟩
  clear L
  have nd : X.N.Nodup := by rw [hN]; decide +kernel
  have hc : Hc X := hc_of hcalm hroom hown
  have rm : Rm X 1 := ⟨hroom⟩
  have tk : Tk X (fun cls d _ H => E cls d H) := ⟨htk⟩
  have fr : Fr X := ⟨hstk, hfrm⟩
  have f_is_kind : Fn X "is_kind" 1 (sp_is_kind X.K) := ⟨h_is_kind, gn_of hs (by decide +kernel)⟩
  have b_isinstance : Bnc X "isinstance" := ⟨bn_of hs T.fr_isinstance (by decide +kernel)⟩
  have b_tuple : Bnc X "tuple" := ⟨bn_of hs T.fr_tuple (by decide +kernel)⟩
  have b_len : Bnc X "len" := ⟨bn_of hs T.fr_len (by decide +kernel)⟩
  have b_enumerate : Bnc X "enumerate" := ⟨bn_of hs T.fr_enumerate (by decide +kernel)⟩
  show WB X (_ :: _) _ _ _ _ _ _
  obtain ⟨_, l, xs, ds, rfl, hl, hI, hz, q⟩ := q
  ktf_call "go"
  rename_i D H1 hD e1 hD1
  have hlen := hI.length
  have start : links [] 0 ds = links [] 0 (ds.drop 0) := rfl
  have fin : ∀ tab H' i d r j, Same H H' → ds.drop i = d :: r → links [] 0 ds = links tab i (ds.drop i) → linkOf tab d = none → j = (i : Int) → Q (.int j) H' := by
    rintro tab H' i d r j es hd hk hn rfl
    have q := q _ es
    unfold linkFault at q
    rw [hk, hd] at q
    unfold links at q
    rw [hn] at q
    exact q
  rcases hl with hl | hl
  · refine s_for hc (fun _ => rfl) (wi_enum b_enumerate.bn rfl ?_)
    ktf_call "go"
    refine ⟨l, xs, rfl, e1.seq hl, _, _, _, walk_enum (xs := xs), fun i σ H' => Wd (∃ tab o2 o3 o4, σ = [some (.ref l), some (.ref D), o2, o3, o4] ∧ Same H H' ∧ H' D = some (.dK (encT tab)) ∧ tab.length ≤ i ∧ (∀ x, Dn tab (dep tab.length) x) ∧ links [] 0 ds = links tab i (ds.drop i)),
      ⟨[], none, none, none, rfl, e1, hD1, Nat.le_refl _, fun x => rfl, rfl⟩, ?_, ?_, ?_⟩
    · rintro i σ H' _ ⟨tab, o2, o3, o4, _, es, _⟩
      exact es.seq hl
    · rintro i x σ H' H2 hi ⟨tab, o2, o3, o4, rfl, es, hD2, hti, hdn, hlk⟩ ⟨T, w1, w2, rfl, hT, rfl, hw1, hw2⟩
      cases hw1
      obtain ⟨d, g1, g2⟩ := hI.get hw2
      have e2 : Same H' (upd H' T (.tup [.int (i : Nat), w2])) := same_new hT
      have hT2 : (upd H' T (.tup [.int (i : Nat), w2])) T = some (.tup [.int (i : Nat), w2]) := upd_same
      have es2 := es.trans e2
      have hD3 := e2 _ _ hD2
      have g3 := g2.same es2
      have hd := drop_at g1
      have fin := fun H' (e : Same H H') (hn : linkOf tab d = none) => fin tab H' i d _ _ e hd hlk hn rfl
      generalize upd H' T (.tup [.int (i : Nat), w2]) = H2 at *
      rcases g3.forms with ⟨rfl, rfl⟩ | ⟨b, rfl, rfl⟩ | ⟨n, rfl, rfl⟩ | ⟨x, rfl, rfl⟩ | ⟨a, ys, es', rfl, rfl, h1, h2⟩ | ⟨a, ys, es', rfl, rfl, h1⟩
      · ktf_call "go"
        exact fin _ es2 rfl
      · ktf_call "go"
        exact fin _ es2 rfl
      · ktf_call "go"
        exact fin _ es2 rfl
      · ktf_call "go"
        exact fin _ es2 rfl
      · ktf_call "go"
        have hl2 := h2.length
        refine if_n (fun hn => ?_) (fun hn => ?_)
        · ktf_call "go"
          exact fin _ es2 (linkOf_len (by omega))
        · have hn : es'.length = 2 := by omega
          match es', hn with
          | [d0, d1], _ =>
            obtain ⟨x0, _, rfl, f0, h2⟩ := h2.cons_inv
            obtain ⟨x1, _, rfl, f1, h2⟩ := h2.cons_inv
            obtain rfl := h2.nil_inv
            ktf_call "go"
            refine ⟨rfl, x0, d0, rfl, .im f0, ?_⟩
            cases hk0 : isKind d0
            · ktf_call "go"
              exact fin _ es2 (linkOf_k0 hk0)
            · ktf_call "go"
              refine ⟨rfl, x1, d1, rfl, .im f1, ?_⟩
              cases hk1 : isKind d1
              · ktf_call "go"
                exact fin _ es2 (linkOf_k1 hk1)
              · ktf_call "go"
                obtain ⟨ka, rfl, hka⟩ := kind_inv hk0
                obtain ⟨kb, rfl, hkb⟩ := kind_inv hk1
                obtain rfl := f0.str_inv
                obtain rfl := f1.str_inv
                refine s_whileW hc (fun m σ H3 => Wd (H3 = H2 ∧ ∃ h, σ = [some (.ref l), some (.ref D), some (.int (i : Nat)), some (.ref a), some (.str h)] ∧ Dn tab m h ∧ goes tab ka (dep tab.length) kb = goes tab ka m h)) (dep tab.length) ⟨rfl, kb, rfl, hdn kb, rfl⟩ ?_
                rintro m σ H3 ⟨rfl, h, rfl, hm, hg⟩
                ktf_call "go"
                rw [valV_tab]
                cases hlook : tab.lookup h with
                | none =>
                  have hg : goes tab ka (dep tab.length) kb = h := hg.trans (goes_end hlook)
                  ktf_call "go"
                  rw [valV_tab]
                  cases hla : tab.lookup ka with
                  | some z =>
                    ktf_call "go"
                    exact fin _ es2 (linkOf_in (by rw [hla] <;> rfl))
                  | none =>
                    ktf_call "go"
                    refine if_d (fun hh => ?_) (fun hh => ?_)
                    · ktf_call "go"
                      exact fin _ es2 (linkOf_ring (by rw [hg, hh]))
                    · ktf_call "go"
                      refine set_ds hD3 (lt_size (by simp [encT]; omega)) fun H4 b4 t4 h4 => ?_
                      ktf_call "go"
                      refine ⟨tab ++ [(ka, kb)], _, _, _, rfl, same_bt es2 b4 (off1 hD), by rw [h4, putK_tab hla], by simp; omega, Dn.link hdn hla (by rw [hg]; exact hh), ?_⟩
                      rw [hlk, hd]
                      exact links_step (linkOf_ok hka hkb hla (by rw [hg]; exact hh))
                | some y =>
                  ktf_call "go"
                  refine if_n (fun hh => ?_) (fun hh => ?_)
                  · ktf_call "go"
                    refine ix_ks (.inl hD3) (v := .str y) (by rw [valV_tab, hlook] <;> rfl) ?_
                    ktf_call "go"
                    cases m with
                    | zero => rw [show tab.lookup h = none from hm] at hlook; cases hlook
                    | succ m => exact ⟨m, Nat.lt_succ_self m, rfl, y, rfl, hm y hlook, by rw [hg, goes_go hlook hh]⟩
                  · have hg : goes tab ka (dep tab.length) kb = ka := by
                      rw [hg]
                      cases m with
                      | zero => exact hh
                      | succ m => rw [goes_stop hlook hh]; exact hh
                    ktf_call "go"
                    rw [valV_tab]
                    cases hla : tab.lookup ka with
                    | some z =>
                      ktf_call "go"
                      exact fin _ es2 (linkOf_in (by rw [hla] <;> rfl))
                    | none =>
                      ktf_call "go"
                      refine if_t (by simp [hh]) ?_
                      ktf_call "go"
                      exact fin _ es2 (linkOf_ring hg)
      · ktf_call "go"
        exact fin _ es2 rfl
    · rintro σ H' ⟨tab, o2, o3, o4, rfl, es, hD2, hti, hdn, hlk⟩
      ktf_call "go"
      have q := q _ es
      unfold linkFault at q
      rw [hlk, drop_end (by omega)] at q
      exact q
  · refine s_for hc (fun _ => rfl) (wi_enumT b_enumerate.bn rfl ?_)
    ktf_call "go"
    refine ⟨l, xs, rfl, e1.tq hl, _, _, _, walk_enumT (xs := xs), fun i σ H' => Wd (∃ tab o2 o3 o4, σ = [some (.ref l), some (.ref D), o2, o3, o4] ∧ Same H H' ∧ H' D = some (.dK (encT tab)) ∧ tab.length ≤ i ∧ (∀ x, Dn tab (dep tab.length) x) ∧ links [] 0 ds = links tab i (ds.drop i)),
      ⟨[], none, none, none, rfl, e1, hD1, Nat.le_refl _, fun x => rfl, rfl⟩, ?_, ?_, ?_⟩
    · rintro i σ H' _ ⟨tab, o2, o3, o4, _, es, _⟩
      exact es.tq hl
    · rintro i x σ H' H2 hi ⟨tab, o2, o3, o4, rfl, es, hD2, hti, hdn, hlk⟩ ⟨T, w1, w2, rfl, hT, rfl, hw1, hw2⟩
      cases hw1
      obtain ⟨d, g1, g2⟩ := hI.get hw2
      have e2 : Same H' (upd H' T (.tup [.int (i : Nat), w2])) := same_new hT
      have hT2 : (upd H' T (.tup [.int (i : Nat), w2])) T = some (.tup [.int (i : Nat), w2]) := upd_same
      have es2 := es.trans e2
      have hD3 := e2 _ _ hD2
      have g3 := g2.same es2
      have hd := drop_at g1
      have fin := fun H' (e : Same H H') (hn : linkOf tab d = none) => fin tab H' i d _ _ e hd hlk hn rfl
      generalize upd H' T (.tup [.int (i : Nat), w2]) = H2 at *
      rcases g3.forms with ⟨rfl, rfl⟩ | ⟨b, rfl, rfl⟩ | ⟨n, rfl, rfl⟩ | ⟨x, rfl, rfl⟩ | ⟨a, ys, es', rfl, rfl, h1, h2⟩ | ⟨a, ys, es', rfl, rfl, h1⟩
      · ktf_call "go"
        exact fin _ es2 rfl
      · ktf_call "go"
        exact fin _ es2 rfl
      · ktf_call "go"
        exact fin _ es2 rfl
      · ktf_call "go"
        exact fin _ es2 rfl
      · ktf_call "go"
        have hl2 := h2.length
        refine if_n (fun hn => ?_) (fun hn => ?_)
        · ktf_call "go"
          exact fin _ es2 (linkOf_len (by omega))
        · have hn : es'.length = 2 := by omega
          match es', hn with
          | [d0, d1], _ =>
            obtain ⟨x0, _, rfl, f0, h2⟩ := h2.cons_inv
            obtain ⟨x1, _, rfl, f1, h2⟩ := h2.cons_inv
            obtain rfl := h2.nil_inv
            ktf_call "go"
            refine ⟨rfl, x0, d0, rfl, .im f0, ?_⟩
            cases hk0 : isKind d0
            · ktf_call "go"
              exact fin _ es2 (linkOf_k0 hk0)
            · ktf_call "go"
              refine ⟨rfl, x1, d1, rfl, .im f1, ?_⟩
              cases hk1 : isKind d1
              · ktf_call "go"
                exact fin _ es2 (linkOf_k1 hk1)
              · ktf_call "go"
                obtain ⟨ka, rfl, hka⟩ := kind_inv hk0
                obtain ⟨kb, rfl, hkb⟩ := kind_inv hk1
                obtain rfl := f0.str_inv
                obtain rfl := f1.str_inv
                refine s_whileW hc (fun m σ H3 => Wd (H3 = H2 ∧ ∃ h, σ = [some (.ref l), some (.ref D), some (.int (i : Nat)), some (.ref a), some (.str h)] ∧ Dn tab m h ∧ goes tab ka (dep tab.length) kb = goes tab ka m h)) (dep tab.length) ⟨rfl, kb, rfl, hdn kb, rfl⟩ ?_
                rintro m σ H3 ⟨rfl, h, rfl, hm, hg⟩
                ktf_call "go"
                rw [valV_tab]
                cases hlook : tab.lookup h with
                | none =>
                  have hg : goes tab ka (dep tab.length) kb = h := hg.trans (goes_end hlook)
                  ktf_call "go"
                  rw [valV_tab]
                  cases hla : tab.lookup ka with
                  | some z =>
                    ktf_call "go"
                    exact fin _ es2 (linkOf_in (by rw [hla] <;> rfl))
                  | none =>
                    ktf_call "go"
                    refine if_d (fun hh => ?_) (fun hh => ?_)
                    · ktf_call "go"
                      exact fin _ es2 (linkOf_ring (by rw [hg, hh]))
                    · ktf_call "go"
                      refine set_ds hD3 (lt_size (by simp [encT]; omega)) fun H4 b4 t4 h4 => ?_
                      ktf_call "go"
                      refine ⟨tab ++ [(ka, kb)], _, _, _, rfl, same_bt es2 b4 (off1 hD), by rw [h4, putK_tab hla], by simp; omega, Dn.link hdn hla (by rw [hg]; exact hh), ?_⟩
                      rw [hlk, hd]
                      exact links_step (linkOf_ok hka hkb hla (by rw [hg]; exact hh))
                | some y =>
                  ktf_call "go"
                  refine if_n (fun hh => ?_) (fun hh => ?_)
                  · ktf_call "go"
                    refine ix_ks (.inl hD3) (v := .str y) (by rw [valV_tab, hlook] <;> rfl) ?_
                    ktf_call "go"
                    cases m with
                    | zero => rw [show tab.lookup h = none from hm] at hlook; cases hlook
                    | succ m => exact ⟨m, Nat.lt_succ_self m, rfl, y, rfl, hm y hlook, by rw [hg, goes_go hlook hh]⟩
                  · have hg : goes tab ka (dep tab.length) kb = ka := by
                      rw [hg]
                      cases m with
                      | zero => exact hh
                      | succ m => rw [goes_stop hlook hh]; exact hh
                    ktf_call "go"
                    rw [valV_tab]
                    cases hla : tab.lookup ka with
                    | some z =>
                      ktf_call "go"
                      exact fin _ es2 (linkOf_in (by rw [hla] <;> rfl))
                    | none =>
                      ktf_call "go"
                      refine if_t (by simp [hh]) ?_
                      ktf_call "go"
                      exact fin _ es2 (linkOf_ring hg)
      · ktf_call "go"
        exact fin _ es2 rfl
    · rintro σ H' ⟨tab, o2, o3, o4, rfl, es, hD2, hti, hdn, hlk⟩
      ktf_call "go"
      have q := q _ es
      unfold linkFault at q
      rw [hlk, drop_end (by omega)] at q
      exact q
end G

namespace G
open PySem PySem.Spec PyProof.Rows L2 Z
/-! the steps -/
local macro_rules | `(tactic| ktf_call "rf") => `(tactic| first
  | rfl
  | with_unfolding_all rfl
  | (intros; with_unfolding_all rfl)
  | with_unfolding_all decide)
-- tuples, lists, data at the heap at hand
local macro_rules | `(tactic| ktf_call "same") => `(tactic| first
  | with_reducible assumption
  | with_reducible exact Same.refl _
  | ((with_reducible refine Same.trans ?_ (by with_reducible assumption)); ktf_call "same")
  | ((with_reducible refine same_bt ?_ (by with_reducible assumption) (by ktf_call "off")); ktf_call "same"))
local macro_rules | `(tactic| ktf_call "off") => `(tactic| exact off1 (by with_reducible assumption))
local macro_rules | `(tactic| ktf_call "im") => `(tactic| first
  | with_reducible assumption
  | with_reducible exact Im.non
  | with_reducible exact Im.int _
  | with_reducible exact Im.str _
  | with_reducible exact Im.bl _
  | with_reducible exact ImAll.nil
  | ((with_reducible apply im_tx); (with_reducible assumption); (ktf_call "im"))
  | ((with_reducible apply im_same); (with_reducible assumption); (ktf_call "im"))
  | ((with_reducible apply ims_tx); (with_reducible assumption); (ktf_call "im"))
  | ((with_reducible apply ims_same); (with_reducible assumption); (ktf_call "im")))
local macro_rules | `(tactic| ktf_call "sq") => `(tactic| first
  | with_reducible assumption
  | with_reducible exact Kt.sq _
  | ((with_reducible apply sqt_new); (with_reducible assumption))
  | ((with_reducible apply sql_new); (with_reducible assumption))
  | ((with_reducible apply sq_tx); (with_reducible assumption); (ktf_call "sq"))
  | ((with_reducible apply sq_same); (with_reducible assumption); (ktf_call "sq"))
  | ((with_reducible apply Same.seq); (with_reducible assumption); (ktf_call "sq"))
  | ((with_reducible apply sq_bt); (with_reducible assumption); (ktf_call "noff"); (ktf_call "sq")))
local macro_rules | `(tactic| ktf_call "ob") => `(tactic| first
  | with_reducible assumption
  | ((with_reducible apply same_get); (with_reducible assumption); (ktf_call "ob"))
  | ((with_reducible apply ob_bt); (with_reducible assumption); (ktf_call "noff"); (ktf_call "ob")))
local macro_rules | `(tactic| ktf_call "ne1") => `(tactic| first
  | with_reducible assumption
  | ((with_reducible apply Off.l); (with_reducible assumption))
  | ((with_reducible apply dr_ne); (with_reducible assumption); (ktf_call "dr"))
  | ((with_reducible apply fresh_ne); (with_reducible assumption); (with_reducible assumption))
  | ((with_reducible apply fresh_ne); (with_reducible assumption); (ktf_call "ob")))
local macro_rules | `(tactic| ktf_call "ne") => `(tactic| first | ktf_call "ne1" | (refine Ne.symm ?_; ktf_call "ne1"))
local macro_rules | `(tactic| ktf_call "noff") => `(tactic| first
  | with_reducible exact off_nil
  | ((with_reducible apply off_cons); (ktf_call "ne"); (ktf_call "noff")))
local macro_rules | `(tactic| ktf_call "dr") => `(tactic| first
  | with_reducible assumption
  | ((with_reducible apply dr_same); (with_reducible assumption); (ktf_call "dr"))
  | ((with_reducible apply dr_chg); (with_reducible assumption); (with_reducible assumption); (ktf_call "dr")))
local macro_rules | `(tactic| ktf_call "sz") => `(tactic| with_unfolding_all exact Nat.le_of_ble_eq_true rfl)
local macro_rules | `(tactic| ktf_call "sz1") => `(tactic| first | with_unfolding_all decide | with_unfolding_all exact Nat.le_of_ble_eq_true rfl)
local macro_rules | `(tactic| ktf_call "sdc") => `(tactic| first
  | exact rfl
  | exact ⟨rfl, rfl⟩
  | exact ⟨rfl, rfl, rfl⟩
  | exact ⟨rfl, rfl, rfl, rfl, rfl⟩
  | exact ⟨_, rfl⟩
  | ktf_call "rf")
local macro_rules | `(tactic| ktf_call "pos") => `(tactic| first | with_reducible assumption | exact (by decide) | omega)
local macro_rules | `(tactic| ktf_call "lev") => `(tactic| first | exact Nat.le_of_ble_eq_true rfl | with_reducible assumption | with_reducible exact Nat.le_refl _ | omega)
-- one piece of the text
local macro_rules | `(tactic| ktf_call "ge1") => `(tactic| first
  | with_reducible apply stp
  | ((with_reducible apply sl_i); (exact rfl))
  | ((with_reducible apply sd); (ktf_call "sdc"))
  | ((with_reducible apply le_n); (ktf_call "lev"))
  | ((with_reducible apply sz_l); (exact rfl))
  | ((with_reducible apply all_b); intro _ _ _ _ _)
  | ((with_reducible apply new_at); intro _ _ _ _ _)
  | ((with_reducible apply new_ins); intro _ _ _ _ _ _)
  | ((with_reducible apply sub_t); intro _ _ _ _)
  | ((with_reducible apply dr_go); (ktf_call "dr"); (ktf_call "pos"); (ktf_call "pos"); intro _ _ _ _ _ _ _)
  | ((with_reducible apply tg_t); (ktf_call "sq"))
  | ((with_reducible apply tg_l); (ktf_call "sq"))
  | ((with_reducible apply is_l); (ktf_call "sq"))
  | ((with_reducible apply app_to); (ktf_call "ob"); (first | exact lt_size (by omega) | rotate_left); intro _ _ _ _)
  | ((with_reducible apply join_l); (ktf_call "sq"); (ktf_call "lev"))
  | ((with_reducible apply spl_s); (ktf_call "rf"); (ktf_call "lev"))
  | ((with_reducible apply str_i); (ktf_call "lev"))
  | ((with_reducible apply add_gl); (ktf_call "ob"); (ktf_call "ob"); (first | (exact Nat.le_of_ble_eq_true rfl) | (simp only [List.length_map, List.length_cons, List.length_nil, List.length_append]; omega)))
  | ((with_reducible apply tupof_l); (ktf_call "sq"))
  | ((with_reducible apply lstof_l); (ktf_call "sq"))
  | ((with_reducible apply len_l); (ktf_call "sq"))
  | ((with_reducible apply len_t); (ktf_call "sq"))
  | ((with_reducible apply tupof_t); (ktf_call "sq"))
  | ((with_reducible apply lstof_t); (ktf_call "sq"))
  | ((with_reducible apply isi_t); (ktf_call "sq"); (exact inferInstance))
  | ((with_reducible apply isi_l); (ktf_call "sq"); (exact inferInstance))
  | ((with_reducible apply in_t); (ktf_call "sq"); (ktf_call "rf"); (ktf_call "rf"))
  | ((with_reducible apply in_l); (ktf_call "sq"); (ktf_call "rf"); (ktf_call "rf"))
  | ((with_reducible apply nin_t); (ktf_call "sq"); (ktf_call "rf"); (ktf_call "rf"))
  | ((with_reducible apply nin_l); (ktf_call "sq"); (ktf_call "rf"); (ktf_call "rf"))
  | ((with_reducible apply in_ks); (ktf_call "ob"))
  | ((with_reducible apply in_ki); (ktf_call "ob"))
  | ((with_reducible apply fld_g); (ktf_call "ob"); (exact inferInstance); (exact inferInstance); (ktf_call "rf"))
  | ((with_reducible apply put_g); (ktf_call "ob"); (exact inferInstance); (exact inferInstance); (ktf_call "sz1"); intro _ _ _ _)
  | ((with_reducible apply aug_f); (ktf_call "ob"); (exact inferInstance); (exact inferInstance); (ktf_call "rf"))
  | ((with_reducible apply aug_p); (ktf_call "ob"); (ktf_call "sz1"); intro _ _ _ _)
  | ((with_reducible apply ins_m); (ktf_call "ob"); (ktf_call "rf"))
  | ((with_reducible apply sl_l); (ktf_call "sq"))
  | ((with_reducible apply sl_t); (ktf_call "sq"))
  | ((with_reducible apply mul_r); (exact (by decide +kernel)))
  | ((with_reducible apply mod_i); (ktf_call "pos"))
  | ((with_reducible apply div_i); (ktf_call "pos"); (ktf_call "pos"))
  | ((with_reducible apply pow_i); (exact (by decide +kernel)))
  | ((with_reducible apply all_l); (ktf_call "sq"))
  | ((with_reducible apply tru_l); (ktf_call "sq"))
  | ((with_reducible apply tru_t); (ktf_call "sq"))
  | ((with_reducible apply ix_t0); (ktf_call "sq"))
  | ((with_reducible apply ix_t); (ktf_call "sq"); (ktf_call "rf"))
  | ((with_reducible apply ix_l); (ktf_call "sq"); (ktf_call "rf"))
  | ((with_reducible apply ix_tn); (ktf_call "sq"); (exact (by decide)); (exact rfl))
  | ((with_reducible apply ix_ln); (ktf_call "sq"); (exact (by decide)); (exact rfl))
  | ((with_reducible apply if_t); (exact (by decide +kernel)))
  | ((with_reducible apply if_f); (exact (by decide +kernel))))
local macro_rules | `(tactic| ktf_call "ge") => `(tactic| repeat (ktf_call "ge1"))
local macro_rules | `(tactic| ktf_call "gi") => `(tactic| repeat (first | ktf_call "ge1" | with_reducible apply b_cons))
local macro_rules | `(tactic| ktf_call "go") => `(tactic| repeat (first | ktf_call "ge1" | with_reducible apply b_cons | with_reducible apply s_if))
open M
def sp_thing_at (K : PySem.W.Frag) : Sp := fun vs H Q _ => vs.length = 2 ∧ ∃ (α : Type) (f : α → PyData) (l : List (Int × α)) (v : V) (n : Int), vs = [v, .int n] ∧ Im K H v (encS f l) ∧
  ∃ t, thingAt l n none = some t ∧ ∀ u, Im K H u (f t) → Q u H
theorem c_thing_at {P : Program} {w : World} {K : PySem.W.Frag} {mg : Str → Option Value} {base : Heap} (T : Txt K mg)   : Cal P w K mg base 2 "thing_at" (sp_thing_at K) := by
  obtain ⟨f, fd, F, b⟩ := T.d_thing_at
  refine cal_of (N := n_thing_at) F b sc_thing_at (fun vs H Q E q => q.1) (fun X E h vs H Q q => ?_)
  obtain ⟨hp, hw, hK, hm, hb, hN, hs, hcalm, hfn, hroom, hown, hstk, hfrm, htk⟩ := h
  subst hp hw hK hm hb
  have L := lcs_of hN hs hfn lc_thing_at
  have n0 : Lcc X "strip" 0 := ⟨L 0 _ rfl (by decide)⟩
  have n1 : Lcc X "place" 1 := ⟨L 1 _ rfl (by decide)⟩
  have n2 : Lcc X "found" 2 := ⟨L 2 _ rfl (by decide)⟩
  have n3 : Lcc X "start" 3 := ⟨L 3 _ rfl (by decide)⟩
  have n4 : Lcc X "thing" 4 := ⟨L 4 _ rfl (by decide)⟩
  clear L
  have nd : X.N.Nodup := by rw [hN]; decide +kernel
  have hc : Hc X := hc_of hcalm hroom hown
  have rm : Rm X 1 := ⟨hroom⟩
  have tk : Tk X (fun cls d _ H => E cls d H) := ⟨htk⟩
  have fr : Fr X := ⟨hstk, hfrm⟩
  show WB X (_ :: _) _ _ _ _ _ _
  obtain ⟨_, α, f, l, v, n, rfl, hv, t, ht, q⟩ := q
  ktf_call "go"
  obtain ⟨a, xs, rfl, h1, h2⟩ := hv.tup_inv
  refine s_for hc (fun _ => rfl) (wi_tup ?_)
  ktf_call "go"
  refine ⟨a, xs, rfl, h1, _, _, _, walk_tup (xs := xs), fun i σ H' => Wd (H' = H ∧ ∃ o3 o4 u d, σ = [some (.ref a), some (.int n), some u, o3, o4] ∧ thingAt l n none = thingAt (l.drop i) n d ∧ (match d with | none => u = .non | some t => Im X.K H u (f t))), ⟨rfl, _, _, _, none, rfl, rfl, rfl⟩, ?_, ?_, ?_⟩
  · rintro i σ H' _ ⟨rfl, _⟩
    exact h1
  · rintro i x σ H' H2 hi ⟨rfl, o3, o4, u, d, rfl, hd, hu⟩ ⟨rfl, hx⟩
    obtain ⟨s, t', a2, y, e3, rfl, h3, h5⟩ := strip_get h2 hx
    ktf_call "go"
    rw [drop_at e3] at hd
    refine ite2 (fun hc => ?_) (fun hc => ?_)
    · ktf_call "go"
      have hlt : s > n := by simpa using hc
      rw [thingAt, if_pos hlt, ht] at hd
      subst hd
      exact q _ hu
    · ktf_call "go"
      have hlt : ¬ s > n := by simpa using hc
      rw [thingAt, if_neg hlt] at hd
      exact ⟨rfl, _, _, _, some t', rfl, hd, h5⟩
  · rintro σ H' ⟨rfl, o3, o4, u, d, rfl, hd, hu⟩
    ktf_call "go"
    rw [drop_end (by rw [h2.length, List.length_map]; exact Nat.le_refl _), thingAt, ht] at hd
    subst hd
    exact q _ hu
def sp_strip_of (K : PySem.W.Frag) : Sp := fun vs H Q _ => vs.length = 1 ∧ ∃ (α : Type) (_ : DecidableEq α) (f : α → PyData) (ps : List (Option Int × α)) (a : Addr), vs = [.ref a] ∧ En f ∧ PcAt K H a f ps ∧ ps.length < 16777216 ∧
  ∀ u H', Same H H' → Im K H' u (encS f (stripOf ps)) → Q u H'
theorem c_strip_of {P : Program} {w : World} {K : PySem.W.Frag} {mg : Str → Option Value} {base : Heap} (T : Txt K mg)   : Cal P w K mg base 2 "strip_of" (sp_strip_of K) := by
  obtain ⟨f, fd, F, b⟩ := T.d_strip_of
  refine cal_of (N := n_strip_of) F b sc_strip_of (fun vs H Q E q => q.1) (fun X E h vs H Q q => ?_)
  obtain ⟨hp, hw, hK, hm, hb, hN, hs, hcalm, hfn, hroom, hown, hstk, hfrm, htk⟩ := h
  subst hp hw hK hm hb
  have L := lcs_of hN hs hfn lc_strip_of
  have n0 : Lcc X "pieces" 0 := ⟨L 0 _ rfl (by decide)⟩
  have n1 : Lcc X "found" 1 := ⟨L 1 _ rfl (by decide)⟩
  have n2 : Lcc X "start" 2 := ⟨L 2 _ rfl (by decide)⟩
  have n3 : Lcc X "size" 3 := ⟨L 3 _ rfl (by decide)⟩
  have n4 : Lcc X "thing" 4 := ⟨L 4 _ rfl (by decide)⟩
  clear L
  have nd : X.N.Nodup := by rw [hN]; decide +kernel
  have hc : Hc X := hc_of hcalm hroom hown
  have rm : Rm X 1 := ⟨hroom⟩
  have tk : Tk X (fun cls d _ H => E cls d H) := ⟨htk⟩
  have fr : Fr X := ⟨hstk, hfrm⟩
  have b_tuple : Bnc X "tuple" := ⟨bn_of hs T.fr_tuple (by decide +kernel)⟩
  show WB X (_ :: _) _ _ _ _ _ _
  obtain ⟨_, α, dec, f, ps, a, rfl, en, ⟨xs, h1, h2⟩, hz, q⟩ := q
  ktf_call "go"
  rename_i l H1 hl0 e1 hl1
  ktf_call "go"
  refine s_for hc (fun _ => rfl) (wi_list ?_)
  ktf_call "go"
  refine ⟨a, xs, rfl, sql_new (e1 _ _ h1), _, _, _, walk_list (xs := xs), fun i σ H' => Wd (∃ ys s3 s4, σ = [some (.ref a), some (.ref l), some (.int ((ps.take i).foldl stripStep ([], 0)).2), s3, s4] ∧ Same H H' ∧ H' l = some (.lst ys) ∧
    ImAll X.K H' ys (((ps.take i).foldl stripStep ([], 0)).1.map fun p => .tuple [.int p.1, f p.2])), ⟨[], _, _, rfl, e1, hl1, .nil⟩, ?_, ?_, ?_⟩
  · rintro i σ H' _ ⟨ys, s3, s4, rfl, es, _, _⟩
    exact sql_new (es _ _ h1)
  · rintro i x σ H' H2 hi ⟨ys, s3, s4, rfl, es, hy, hI⟩ ⟨rfl, hx⟩
    obtain ⟨o, t, b, u, e3, rfl, h3, h5⟩ := piece_get h2 hx
    have h3 := (Tx.of es).sqt h3
    have h5 := h5.same es
    ktf_call "go"
    have step : ((ps.take (i + 1)).foldl stripStep ([], 0)) = stripStep ((ps.take i).foldl stripStep ([], 0)) (o, t) := by rw [take_at e3, List.foldl_append]; rfl
    have hb : ((ps.take i).foldl stripStep ([], 0)).1.length ≤ ps.length := Nat.le_trans (fold_length _ _) (by simp; omega)
    generalize (ps.take i).foldl stripStep ([], 0) = st at *
    have hlen : ys.length = st.1.length := by rw [hI.length, List.length_map]
    by_cases ho : o = some 0
    · subst ho
      ktf_call "go"
      refine ne_sc (y := .int 0) rfl ⟨_, rfl, if_f (by decide) ?_⟩
      ktf_call "go"
      exact ⟨ys, _, _, by rw [step]; rfl, es, hy, by rw [step]; exact hI⟩
    · ktf_call "go"
      refine ne_sc (by cases o <;> rfl) ⟨_, rfl, if_t (by cases o <;> simp_all [optV]) ?_⟩
      ktf_call "gi"
      refine s_mid (fun σ' H' => ∃ ys', σ' = [some (.ref a), some (.ref l), some (.int st.2), some (optV o), some u] ∧ Same H H' ∧ H' l = some (.lst ys') ∧
        ImAll X.K H' ys' ((stripStep st (o, t)).1.map fun p => .tuple [.int p.1, f p.2])) ?_ ?_
      · have same : (st.1.getLast?.map (·.2)) = some t → stripStep st (o, t) = (st.1, addO st.2 o) := fun e => by unfold stripStep; rw [if_neg ho, if_pos e]
        have more : ¬ (st.1.getLast?.map (·.2)) = some t → stripStep st (o, t) = (st.1 ++ [(st.2, t)], addO st.2 o) := fun e => by unfold stripStep; rw [if_neg ho, if_neg e]
        ktf_call "go"
        rcases snoc_cases ys with hys | ⟨zs, y, hys⟩
        · subst hys
          have hn : st.1 = [] := List.length_eq_zero_iff.mp hlen.symm
          refine if_t rfl (if_tt ?_)
          ktf_call "go"
          · rename_i T1 H3 hT1 e3' hT1' H4 b4 t4 h4
            refine ⟨_, rfl, same_bt (es.trans e3') b4 (by ktf_call "off"), h4, ?_⟩
            rw [more (by rw [hn]; simp), hn]
            exact .one (.pair (t4.sqt (sqt_new hT1')) (.int _) (by ktf_call "im"))
        · subst hys
          obtain ⟨init, sl, tl, bl, ul, e5, rfl, h6, h7⟩ := strip_last hI
          refine if_f (by simp) ?_
          ktf_call "go"
          refine ix_l (sql_new hy) (atI_last _ _) ?_
          ktf_call "go"
          refine ne_dat h7.dp h5.dp (en.sh _) (en.sh _) ?_
          rw [en.eq]
          refine ⟨_, rfl, if_n (fun hd => ?_) (fun hd => ?_)⟩
          · ktf_call "go"
            · rename_i T1 H3 hT1 e3' hT1' H4 b4 t4 h4
              refine ⟨_, rfl, same_bt (es.trans e3') b4 (by ktf_call "off"), h4, ?_⟩
              rw [more (by rw [e5]; simp [hd]), List.map_append]
              exact (hI.tx (.trans (.of e3') t4)).snoc (.pair (t4.sqt (sqt_new hT1')) (.int _) (by ktf_call "im"))
          · ktf_call "go"
            refine ⟨_, rfl, es, hy, ?_⟩
            rw [same (by rw [e5]; simp [hd])]
            exact hI
      · rintro σ' H' ⟨ys', rfl, es', hy', hI'⟩
        ktf_call "go"
        cases o with
        | none =>
          dsimp only [optV]
          ktf_call "go"
          show Wd _
          rw [step]
          exact ⟨ys', _, _, by rw [show (stripStep st (none, t)).2 = st.2 from by unfold stripStep; rw [if_neg ho]; rfl], es', hy', hI'⟩
        | some k =>
          dsimp only [optV]
          ktf_call "go"
          show Wd _
          rw [step]
          exact ⟨ys', _, _, by rw [show (stripStep st (some k, t)).2 = st.2 + k from by unfold stripStep; rw [if_neg ho]; rfl]; rfl, es', hy', hI'⟩
  · rintro σ H' ⟨ys, s3, s4, rfl, es, hy, hI⟩
    rw [take_end (by rw [h2.length, List.length_map]; exact Nat.le_refl _)] at *
    ktf_call "go"
    rename_i p H3 hp e3 h3
    refine q _ _ (es.trans e3) (.tup (sqt_new h3) (hI.same e3))
end G

namespace G
open PySem PySem.Spec PyProof.Rows L2 Z
/-! the steps -/
local macro_rules | `(tactic| ktf_call "rf") => `(tactic| first
  | rfl
  | with_unfolding_all rfl
  | (intros; with_unfolding_all rfl)
  | with_unfolding_all decide)
-- tuples, lists, data at the heap at hand
local macro_rules | `(tactic| ktf_call "same") => `(tactic| first
  | with_reducible assumption
  | with_reducible exact Same.refl _
  | ((with_reducible refine Same.trans ?_ (by with_reducible assumption)); ktf_call "same")
  | ((with_reducible refine same_bt ?_ (by with_reducible assumption) (by ktf_call "off")); ktf_call "same"))
local macro_rules | `(tactic| ktf_call "off") => `(tactic| exact off1 (by with_reducible assumption))
local macro_rules | `(tactic| ktf_call "im") => `(tactic| first
  | with_reducible assumption
  | with_reducible exact Im.non
  | with_reducible exact Im.int _
  | with_reducible exact Im.str _
  | with_reducible exact Im.bl _
  | with_reducible exact ImAll.nil
  | ((with_reducible apply im_tx); (with_reducible assumption); (ktf_call "im"))
  | ((with_reducible apply im_same); (with_reducible assumption); (ktf_call "im"))
  | ((with_reducible apply ims_tx); (with_reducible assumption); (ktf_call "im"))
  | ((with_reducible apply ims_same); (with_reducible assumption); (ktf_call "im")))
local macro_rules | `(tactic| ktf_call "sq") => `(tactic| first
  | with_reducible assumption
  | with_reducible exact Kt.sq _
  | ((with_reducible apply sqt_new); (with_reducible assumption))
  | ((with_reducible apply sql_new); (with_reducible assumption))
  | ((with_reducible apply sq_tx); (with_reducible assumption); (ktf_call "sq"))
  | ((with_reducible apply sq_same); (with_reducible assumption); (ktf_call "sq"))
  | ((with_reducible apply Same.seq); (with_reducible assumption); (ktf_call "sq"))
  | ((with_reducible apply sq_bt); (with_reducible assumption); (ktf_call "noff"); (ktf_call "sq")))
local macro_rules | `(tactic| ktf_call "ob") => `(tactic| first
  | with_reducible assumption
  | ((with_reducible apply same_get); (with_reducible assumption); (ktf_call "ob"))
  | ((with_reducible apply ob_bt); (with_reducible assumption); (ktf_call "noff"); (ktf_call "ob")))
local macro_rules | `(tactic| ktf_call "ne1") => `(tactic| first
  | with_reducible assumption
  | ((with_reducible apply Off.l); (with_reducible assumption))
  | ((with_reducible apply dr_ne); (with_reducible assumption); (ktf_call "dr"))
  | ((with_reducible apply fresh_ne); (with_reducible assumption); (with_reducible assumption))
  | ((with_reducible apply fresh_ne); (with_reducible assumption); (ktf_call "ob")))
local macro_rules | `(tactic| ktf_call "ne") => `(tactic| first | ktf_call "ne1" | (refine Ne.symm ?_; ktf_call "ne1"))
local macro_rules | `(tactic| ktf_call "noff") => `(tactic| first
  | with_reducible exact off_nil
  | ((with_reducible apply off_cons); (ktf_call "ne"); (ktf_call "noff")))
local macro_rules | `(tactic| ktf_call "dr") => `(tactic| first
  | with_reducible assumption
  | ((with_reducible apply dr_same); (with_reducible assumption); (ktf_call "dr"))
  | ((with_reducible apply dr_chg); (with_reducible assumption); (with_reducible assumption); (ktf_call "dr")))
local macro_rules | `(tactic| ktf_call "sz") => `(tactic| with_unfolding_all exact Nat.le_of_ble_eq_true rfl)
local macro_rules | `(tactic| ktf_call "sz1") => `(tactic| first | with_unfolding_all decide | with_unfolding_all exact Nat.le_of_ble_eq_true rfl)
local macro_rules | `(tactic| ktf_call "sdc") => `(tactic| first
  | exact rfl
  | exact ⟨rfl, rfl⟩
  | exact ⟨rfl, rfl, rfl⟩
  | exact ⟨rfl, rfl, rfl, rfl, rfl⟩
  | exact ⟨_, rfl⟩
  | ktf_call "rf")
local macro_rules | `(tactic| ktf_call "pos") => `(tactic| first | with_reducible assumption | exact (by decide) | omega)
local macro_rules | `(tactic| ktf_call "lev") => `(tactic| first | exact Nat.le_of_ble_eq_true rfl | with_reducible assumption | with_reducible exact Nat.le_refl _ | omega)
-- one piece of the text
local macro_rules | `(tactic| ktf_call "ge1") => `(tactic| first
  | with_reducible apply stp
  | ((with_reducible apply sl_i); (exact rfl))
  | ((with_reducible apply sd); (ktf_call "sdc"))
  | ((with_reducible apply le_n); (ktf_call "lev"))
  | ((with_reducible apply sz_l); (exact rfl))
  | ((with_reducible apply all_b); intro _ _ _ _ _)
  | ((with_reducible apply new_at); intro _ _ _ _ _)
  | ((with_reducible apply new_ins); intro _ _ _ _ _ _)
  | ((with_reducible apply sub_t); intro _ _ _ _)
  | ((with_reducible apply dr_go); (ktf_call "dr"); (ktf_call "pos"); (ktf_call "pos"); intro _ _ _ _ _ _ _)
  | ((with_reducible apply tg_t); (ktf_call "sq"))
  | ((with_reducible apply tg_l); (ktf_call "sq"))
  | ((with_reducible apply is_l); (ktf_call "sq"))
  | ((with_reducible apply app_to); (ktf_call "ob"); (first | exact lt_size (by omega) | rotate_left); intro _ _ _ _)
  | ((with_reducible apply join_l); (ktf_call "sq"); (ktf_call "lev"))
  | ((with_reducible apply spl_s); (ktf_call "rf"); (ktf_call "lev"))
  | ((with_reducible apply str_i); (ktf_call "lev"))
  | ((with_reducible apply add_gl); (ktf_call "ob"); (ktf_call "ob"); (first | (exact Nat.le_of_ble_eq_true rfl) | (simp only [List.length_map, List.length_cons, List.length_nil, List.length_append]; omega)))
  | ((with_reducible apply tupof_l); (ktf_call "sq"))
  | ((with_reducible apply lstof_l); (ktf_call "sq"))
  | ((with_reducible apply len_l); (ktf_call "sq"))
  | ((with_reducible apply len_t); (ktf_call "sq"))
  | ((with_reducible apply tupof_t); (ktf_call "sq"))
  | ((with_reducible apply lstof_t); (ktf_call "sq"))
  | ((with_reducible apply isi_t); (ktf_call "sq"); (exact inferInstance))
  | ((with_reducible apply isi_l); (ktf_call "sq"); (exact inferInstance))
  | ((with_reducible apply in_t); (ktf_call "sq"); (ktf_call "rf"); (ktf_call "rf"))
  | ((with_reducible apply in_l); (ktf_call "sq"); (ktf_call "rf"); (ktf_call "rf"))
  | ((with_reducible apply nin_t); (ktf_call "sq"); (ktf_call "rf"); (ktf_call "rf"))
  | ((with_reducible apply nin_l); (ktf_call "sq"); (ktf_call "rf"); (ktf_call "rf"))
  | ((with_reducible apply in_ks); (ktf_call "ob"))
  | ((with_reducible apply in_ki); (ktf_call "ob"))
  | ((with_reducible apply fld_g); (ktf_call "ob"); (exact inferInstance); (exact inferInstance); (ktf_call "rf"))
  | ((with_reducible apply put_g); (ktf_call "ob"); (exact inferInstance); (exact inferInstance); (ktf_call "sz1"); intro _ _ _ _)
  | ((with_reducible apply aug_f); (ktf_call "ob"); (exact inferInstance); (exact inferInstance); (ktf_call "rf"))
  | ((with_reducible apply aug_p); (ktf_call "ob"); (ktf_call "sz1"); intro _ _ _ _)
  | ((with_reducible apply ins_m); (ktf_call "ob"); (ktf_call "rf"))
  | ((with_reducible apply sl_l); (ktf_call "sq"))
  | ((with_reducible apply sl_t); (ktf_call "sq"))
  | ((with_reducible apply mul_r); (exact (by decide +kernel)))
  | ((with_reducible apply mod_i); (ktf_call "pos"))
  | ((with_reducible apply div_i); (ktf_call "pos"); (ktf_call "pos"))
  | ((with_reducible apply pow_i); (exact (by decide +kernel)))
  | ((with_reducible apply all_l); (ktf_call "sq"))
  | ((with_reducible apply tru_l); (ktf_call "sq"))
  | ((with_reducible apply tru_t); (ktf_call "sq"))
  | ((with_reducible apply ix_t0); (ktf_call "sq"))
  | ((with_reducible apply ix_t); (ktf_call "sq"); (ktf_call "rf"))
  | ((with_reducible apply ix_l); (ktf_call "sq"); (ktf_call "rf"))
  | ((with_reducible apply ix_tn); (ktf_call "sq"); (exact (by decide)); (exact rfl))
  | ((with_reducible apply ix_ln); (ktf_call "sq"); (exact (by decide)); (exact rfl))
  | ((with_reducible apply if_t); (exact (by decide +kernel)))
  | ((with_reducible apply if_f); (exact (by decide +kernel))))
local macro_rules | `(tactic| ktf_call "ge") => `(tactic| repeat (ktf_call "ge1"))
local macro_rules | `(tactic| ktf_call "gi") => `(tactic| repeat (first | ktf_call "ge1" | with_reducible apply b_cons))
local macro_rules | `(tactic| ktf_call "go") => `(tactic| repeat (first | ktf_call "ge1" | with_reducible apply b_cons | with_reducible apply s_if))
open M
def sp_pieces_of (K : PySem.W.Frag) : Sp := fun vs H Q _ => vs.length = 3 ∧ ∃ (α : Type) (f : α → PyData) (l : List (Int × α)) (v : V) (b : Int) (e : Option Int), vs = [v, .int b, optV e] ∧ Im K H v (encS f l) ∧ l.length < 16777216 ∧
  ∀ p H', H p = none → Same H H' → PcAt K H' p f (piecesOf l b e) → Q (.ref p) H'
theorem c_pieces_of {P : Program} {w : World} {K : PySem.W.Frag} {mg : Str → Option Value} {base : Heap} (T : Txt K mg)   : Cal P w K mg base 2 "pieces_of" (sp_pieces_of K) := by
  obtain ⟨f, fd, F, b⟩ := T.d_pieces_of
  refine cal_of (N := n_pieces_of) F b sc_pieces_of (fun vs H Q E q => q.1) (fun X E h vs H Q q => ?_)
  obtain ⟨hp, hw, hK, hm, hb, hN, hs, hcalm, hfn, hroom, hown, hstk, hfrm, htk⟩ := h
  subst hp hw hK hm hb
  have L := lcs_of hN hs hfn lc_pieces_of
  have n0 : Lcc X "strip" 0 := ⟨L 0 _ rfl (by decide)⟩
  have n1 : Lcc X "begin" 1 := ⟨L 1 _ rfl (by decide)⟩
  have n2 : Lcc X "end" 2 := ⟨L 2 _ rfl (by decide)⟩
  have n3 : Lcc X "found" 3 := ⟨L 3 _ rfl (by decide)⟩
  have n4 : Lcc X "at" 4 := ⟨L 4 _ rfl (by decide)⟩
  have n5 : Lcc X "start" 5 := ⟨L 5 _ rfl (by decide)⟩
  have n6 : Lcc X "thing" 6 := ⟨L 6 _ rfl (by decide)⟩
  have n7 : Lcc X "after" 7 := ⟨L 7 _ rfl (by decide)⟩
  have n8 : Lcc X "first" 8 := ⟨L 8 _ rfl (by decide)⟩
  clear L
  have nd : X.N.Nodup := by rw [hN]; decide +kernel
  have hc : Hc X := hc_of hcalm hroom hown
  have rm : Rm X 1 := ⟨hroom⟩
  have tk : Tk X (fun cls d _ H => E cls d H) := ⟨htk⟩
  have fr : Fr X := ⟨hstk, hfrm⟩
  have b_enumerate : Bnc X "enumerate" := ⟨bn_of hs T.fr_enumerate (by decide +kernel)⟩
  have b_len : Bnc X "len" := ⟨bn_of hs T.fr_len (by decide +kernel)⟩
  have b_max : Bnc X "max" := ⟨bn_of hs T.fr_max (by decide +kernel)⟩
  show WB X (_ :: _) _ _ _ _ _ _
  obtain ⟨_, α, f, l, v, b, e, rfl, hv, hz, q⟩ := q
  ktf_call "go"
  rename_i F H1 hF e1 hF1
  obtain ⟨a, xs, rfl, h1, h2⟩ := hv.tup_inv
  have hlen : xs.length = l.length := by rw [h2.length, List.length_map]
  refine s_for hc (fun _ => rfl) (wi_enumT b_enumerate.bn rfl ?_)
  ktf_call "go"
  refine ⟨a, xs, rfl, e1.tq h1, _, _, _, walk_enumT (xs := xs), fun i σ H' => Wd (∃ ys acc o4 o5 o6 o7 o8, σ = [some (.ref a), some (.int b), some (optV e), some (.ref F), o4, o5, o6, o7, o8] ∧ Same H H' ∧ H' F = some (.lst ys) ∧
    ImAll X.K H' ys (acc.map (encP f)) ∧ acc ++ piecesOf (l.drop i) b e = piecesOf l b e), ⟨[], [], _, _, _, _, _, rfl, e1, hF1, .nil, rfl⟩, ?_, ?_, ?_⟩
  · rintro i σ H' _ ⟨ys, acc, o4, o5, o6, o7, o8, rfl, es, _⟩
    exact es.tq h1
  · rintro i x σ H' H2 hi ⟨ys, acc, o4, o5, o6, o7, o8, rfl, es, hy, hI, hp⟩ ⟨T, w1, w2, rfl, hT, rfl, hw1, hw2⟩
    cases hw1
    obtain ⟨s, t, a2, u, e3, rfl, h3, h5⟩ := strip_get h2 hw2
    have e2 : Same H' (upd H' T (.tup [.int (i : Nat), .ref a2])) := same_new hT
    have hT2 : (upd H' T (.tup [.int (i : Nat), .ref a2])) T = some (.tup [.int (i : Nat), .ref a2]) := upd_same
    have hF2 := e2 _ _ hy
    have h1' := (es.trans e2).tq h1
    have h3' := (es.trans e2).tq h3
    generalize upd H' T (.tup [.int (i : Nat), .ref a2]) = H2 at *
    have hpa : (acc ++ pieceAt b e s (l[i + 1]?.map (·.1)) t) ++ piecesOf (l.drop (i + 1)) b e = piecesOf l b e := by
      rw [← hp, drop_at e3, piecesOf, head_drop, List.append_assoc]
    have es2 := es.trans e2
    have hI2 := hI.same e2
    have h5' := h5.same es2
    have add : ∀ (pc : Option Int × α) (o7 o8 : Option V) (H4 : Hp) (w : V), pieceAt b e s (l[i + 1]?.map (·.1)) t = [pc] → Same H H4 → H4 F = some (.lst (ys ++ [w])) → Im X.K H4 w (encP f pc) → Tx H2 H4 →
        Wd (∃ ys acc o4' o5' o6' o7' o8', [some (.ref a), some (.int b), some (optV e), some (.ref F), some (.int (i : Int)), some (.int s), some u, o7, o8] = [some (.ref a), some (.int b), some (optV e), some (.ref F), o4', o5', o6', o7', o8'] ∧ Same H H4 ∧ H4 F = some (.lst ys) ∧
          ImAll X.K H4 ys (acc.map (encP f)) ∧ acc ++ piecesOf (l.drop (i + 1)) b e = piecesOf l b e) := fun pc o7 o8 H4 w hpc h1 h2 h3 h4 =>
      ⟨_, acc ++ [pc], _, _, _, _, _, rfl, h1, h2, by rw [List.map_append]; exact (hI2.tx h4).snoc h3, by rw [← hpc]; exact hpa⟩
    have non : ∀ (o7 o8 : Option V), pieceAt b e s (l[i + 1]?.map (·.1)) t = [] →
        Wd (∃ ys acc o4' o5' o6' o7' o8', [some (.ref a), some (.int b), some (optV e), some (.ref F), some (.int (i : Int)), some (.int s), some u, o7, o8] = [some (.ref a), some (.int b), some (optV e), some (.ref F), o4', o5', o6', o7', o8'] ∧ Same H H2 ∧ H2 F = some (.lst ys) ∧
          ImAll X.K H2 ys (acc.map (encP f)) ∧ acc ++ piecesOf (l.drop (i + 1)) b e = piecesOf l b e) := fun o7 o8 hpc =>
      ⟨_, acc, _, _, _, _, _, rfl, es2, hF2, hI2, by rw [hpc, List.append_nil] at hpa; exact hpa⟩
    have hys : ys.length < sizeLine := lt_size (by
      have h1 := hI.length
      have h2 := congrArg List.length hp
      have h3 := piecesOf_length b e l
      rw [List.length_map] at h1
      rw [List.length_append] at h2
      omega)
    generalize hnx : l[i + 1]?.map (·.1) = nx at *
    clear hpa hp hI hI2 es e2 hy hT
    ktf_call "go"
    -- the last stretch, or there is one behind it
    have key : ∀ nx' : Option Int, nx = nx' → (nx' = none ∧ ¬ (i : Int) + 1 < xs.length) ∨ (∃ s' a3 u', nx' = some s' ∧ (i : Int) + 1 < xs.length ∧ xs[i + 1]? = some (.ref a3) ∧ SqT X.K H2 a3 [.int s', u']) := by
      rintro nx' rfl
      cases h : l[i + 1]? with
      | none =>
        rw [h] at hnx
        have := List.getElem?_eq_none_iff.mp h
        exact .inl ⟨hnx.symm, by omega⟩
      | some p =>
        obtain ⟨s', t'⟩ := p
        rw [h] at hnx
        obtain ⟨a3, u', g1, g2, g3⟩ := strip_at h2 h
        have := (List.getElem?_eq_some_iff.mp g1).1
        exact .inr ⟨s', a3, u', hnx.symm, by omega, g1, es2.tq g2⟩
    replace key := key nx rfl
    rcases key with ⟨rfl, hi1⟩ | ⟨s', a3, u', rfl, hi1, g1, g2⟩
    · refine if_f (by simpa using hi1) ?_
      cases e with
      | none =>
        dsimp only [optV]
        ktf_call "go"
        · rename_i T1 H3 hT1 e3' hT1' H4 b4 t4 h4
          exact add (none, t) _ _ _ _ rfl (same_bt (es2.trans e3') b4 (by ktf_call "off")) h4 (.pair (t4.sqt (sqt_new hT1')) .non (by ktf_call "im")) (.trans (.of e3') t4)
        · exact hys
      | some k =>
        dsimp only [optV]
        ktf_call "go"
        refine if_d (fun hc2 => ?_) (fun hc2 => ?_)
        · ktf_call "go"
          · rename_i T1 H3 hT1 e3' hT1' H4 b4 t4 h4
            exact add (some (k - max s b), t) _ _ _ _ (by simp [pieceAt, hc2]) (same_bt (es2.trans e3') b4 (by ktf_call "off")) h4 (.pair (t4.sqt (sqt_new hT1')) (.int _) (by ktf_call "im")) (.trans (.of e3') t4)
          · exact hys
        · ktf_call "go"
          exact non _ _ (by simp [pieceAt, hc2])
    · refine if_t (by simpa using hi1) ?_
      ktf_call "go"
      refine ix_t h1' (atI_succ g1) ?_
      cases e with
      | none =>
        dsimp only [optV]
        ktf_call "go"
        refine if_d (fun hc2 => ?_) (fun hc2 => ?_)
        · ktf_call "go"
          · rename_i T1 H3 hT1 e3' hT1' H4 b4 t4 h4
            exact add (some (s' - max s b), t) _ _ _ _ (by simp [pieceAt, hc2]) (same_bt (es2.trans e3') b4 (by ktf_call "off")) h4 (.pair (t4.sqt (sqt_new hT1')) (.int _) (by ktf_call "im")) (.trans (.of e3') t4)
          · exact hys
        · ktf_call "go"
          exact non _ _ (by simp [pieceAt, hc2])
      | some k =>
        dsimp only [optV]
        ktf_call "go"
        refine if_d (fun hk => ?_) (fun hk => ?_)
        · ktf_call "go"
          refine if_d (fun hc2 => ?_) (fun hc2 => ?_)
          · ktf_call "go"
            · rename_i T1 H3 hT1 e3' hT1' H4 b4 t4 h4
              exact add (some (k - max s b), t) _ _ _ _ (by simp [pieceAt, hc2, hk]) (same_bt (es2.trans e3') b4 (by ktf_call "off")) h4 (.pair (t4.sqt (sqt_new hT1')) (.int _) (by ktf_call "im")) (.trans (.of e3') t4)
            · exact hys
          · ktf_call "go"
            exact non _ _ (by simp [pieceAt, hc2, hk])
        · ktf_call "go"
          refine if_d (fun hc2 => ?_) (fun hc2 => ?_)
          · ktf_call "go"
            · rename_i T1 H3 hT1 e3' hT1' H4 b4 t4 h4
              exact add (some (s' - max s b), t) _ _ _ _ (by simp [pieceAt, hc2, hk]) (same_bt (es2.trans e3') b4 (by ktf_call "off")) h4 (.pair (t4.sqt (sqt_new hT1')) (.int _) (by ktf_call "im")) (.trans (.of e3') t4)
            · exact hys
          · ktf_call "go"
            exact non _ _ (by simp [pieceAt, hc2, hk])
  · rintro σ H' ⟨ys, acc, o4, o5, o6, o7, o8, rfl, es, hy, hI, hp⟩
    ktf_call "go"
    rw [drop_end (Nat.le_of_eq hlen.symm), piecesOf, List.append_nil] at hp
    subst hp
    exact q F H' hF es ⟨ys, hy, hI⟩
end G

namespace G
open PySem PySem.Spec PyProof.Rows L2 Z
/-! the steps -/
local macro_rules | `(tactic| ktf_call "rf") => `(tactic| first
  | rfl
  | with_unfolding_all rfl
  | (intros; with_unfolding_all rfl)
  | with_unfolding_all decide)
-- tuples, lists, data at the heap at hand
local macro_rules | `(tactic| ktf_call "same") => `(tactic| first
  | with_reducible assumption
  | with_reducible exact Same.refl _
  | ((with_reducible refine Same.trans ?_ (by with_reducible assumption)); ktf_call "same")
  | ((with_reducible refine same_bt ?_ (by with_reducible assumption) (by ktf_call "off")); ktf_call "same"))
local macro_rules | `(tactic| ktf_call "off") => `(tactic| exact off1 (by with_reducible assumption))
local macro_rules | `(tactic| ktf_call "im") => `(tactic| first
  | with_reducible assumption
  | with_reducible exact Im.non
  | with_reducible exact Im.int _
  | with_reducible exact Im.str _
  | with_reducible exact Im.bl _
  | with_reducible exact ImAll.nil
  | ((with_reducible apply im_tx); (with_reducible assumption); (ktf_call "im"))
  | ((with_reducible apply im_same); (with_reducible assumption); (ktf_call "im"))
  | ((with_reducible apply ims_tx); (with_reducible assumption); (ktf_call "im"))
  | ((with_reducible apply ims_same); (with_reducible assumption); (ktf_call "im")))
local macro_rules | `(tactic| ktf_call "sq") => `(tactic| first
  | with_reducible assumption
  | with_reducible exact Kt.sq _
  | ((with_reducible apply sqt_new); (with_reducible assumption))
  | ((with_reducible apply sql_new); (with_reducible assumption))
  | ((with_reducible apply sq_tx); (with_reducible assumption); (ktf_call "sq"))
  | ((with_reducible apply sq_same); (with_reducible assumption); (ktf_call "sq"))
  | ((with_reducible apply Same.seq); (with_reducible assumption); (ktf_call "sq"))
  | ((with_reducible apply sq_bt); (with_reducible assumption); (ktf_call "noff"); (ktf_call "sq")))
local macro_rules | `(tactic| ktf_call "ob") => `(tactic| first
  | with_reducible assumption
  | ((with_reducible apply same_get); (with_reducible assumption); (ktf_call "ob"))
  | ((with_reducible apply ob_bt); (with_reducible assumption); (ktf_call "noff"); (ktf_call "ob")))
local macro_rules | `(tactic| ktf_call "ne1") => `(tactic| first
  | with_reducible assumption
  | ((with_reducible apply Off.l); (with_reducible assumption))
  | ((with_reducible apply dr_ne); (with_reducible assumption); (ktf_call "dr"))
  | ((with_reducible apply fresh_ne); (with_reducible assumption); (with_reducible assumption))
  | ((with_reducible apply fresh_ne); (with_reducible assumption); (ktf_call "ob")))
local macro_rules | `(tactic| ktf_call "ne") => `(tactic| first | ktf_call "ne1" | (refine Ne.symm ?_; ktf_call "ne1"))
local macro_rules | `(tactic| ktf_call "noff") => `(tactic| first
  | with_reducible exact off_nil
  | ((with_reducible apply off_cons); (ktf_call "ne"); (ktf_call "noff")))
local macro_rules | `(tactic| ktf_call "dr") => `(tactic| first
  | with_reducible assumption
  | ((with_reducible apply dr_same); (with_reducible assumption); (ktf_call "dr"))
  | ((with_reducible apply dr_chg); (with_reducible assumption); (with_reducible assumption); (ktf_call "dr")))
local macro_rules | `(tactic| ktf_call "sz") => `(tactic| with_unfolding_all exact Nat.le_of_ble_eq_true rfl)
local macro_rules | `(tactic| ktf_call "sz1") => `(tactic| first | with_unfolding_all decide | with_unfolding_all exact Nat.le_of_ble_eq_true rfl)
local macro_rules | `(tactic| ktf_call "sdc") => `(tactic| first
  | exact rfl
  | exact ⟨rfl, rfl⟩
  | exact ⟨rfl, rfl, rfl⟩
  | exact ⟨rfl, rfl, rfl, rfl, rfl⟩
  | exact ⟨_, rfl⟩
  | ktf_call "rf")
local macro_rules | `(tactic| ktf_call "pos") => `(tactic| first | with_reducible assumption | exact (by decide) | omega)
local macro_rules | `(tactic| ktf_call "lev") => `(tactic| first | exact Nat.le_of_ble_eq_true rfl | with_reducible assumption | with_reducible exact Nat.le_refl _ | omega)
-- one piece of the text
local macro_rules | `(tactic| ktf_call "ge1") => `(tactic| first
  | with_reducible apply stp
  | ((with_reducible apply sl_i); (exact rfl))
  | ((with_reducible apply sd); (ktf_call "sdc"))
  | ((with_reducible apply le_n); (ktf_call "lev"))
  | ((with_reducible apply sz_l); (exact rfl))
  | ((with_reducible apply all_b); intro _ _ _ _ _)
  | ((with_reducible apply new_at); intro _ _ _ _ _)
  | ((with_reducible apply new_ins); intro _ _ _ _ _ _)
  | ((with_reducible apply sub_t); intro _ _ _ _)
  | ((with_reducible apply dr_go); (ktf_call "dr"); (ktf_call "pos"); (ktf_call "pos"); intro _ _ _ _ _ _ _)
  | ((with_reducible apply tg_t); (ktf_call "sq"))
  | ((with_reducible apply tg_l); (ktf_call "sq"))
  | ((with_reducible apply is_l); (ktf_call "sq"))
  | ((with_reducible apply app_to); (ktf_call "ob"); (first | exact lt_size (by omega) | rotate_left); intro _ _ _ _)
  | ((with_reducible apply join_l); (ktf_call "sq"); (ktf_call "lev"))
  | ((with_reducible apply spl_s); (ktf_call "rf"); (ktf_call "lev"))
  | ((with_reducible apply str_i); (ktf_call "lev"))
  | ((with_reducible apply add_gl); (ktf_call "ob"); (ktf_call "ob"); (first | (exact Nat.le_of_ble_eq_true rfl) | (simp only [List.length_map, List.length_cons, List.length_nil, List.length_append]; omega)))
  | ((with_reducible apply tupof_l); (ktf_call "sq"))
  | ((with_reducible apply lstof_l); (ktf_call "sq"))
  | ((with_reducible apply len_l); (ktf_call "sq"))
  | ((with_reducible apply len_t); (ktf_call "sq"))
  | ((with_reducible apply tupof_t); (ktf_call "sq"))
  | ((with_reducible apply lstof_t); (ktf_call "sq"))
  | ((with_reducible apply isi_t); (ktf_call "sq"); (exact inferInstance))
  | ((with_reducible apply isi_l); (ktf_call "sq"); (exact inferInstance))
  | ((with_reducible apply in_t); (ktf_call "sq"); (ktf_call "rf"); (ktf_call "rf"))
  | ((with_reducible apply in_l); (ktf_call "sq"); (ktf_call "rf"); (ktf_call "rf"))
  | ((with_reducible apply nin_t); (ktf_call "sq"); (ktf_call "rf"); (ktf_call "rf"))
  | ((with_reducible apply nin_l); (ktf_call "sq"); (ktf_call "rf"); (ktf_call "rf"))
  | ((with_reducible apply in_ks); (ktf_call "ob"))
  | ((with_reducible apply in_ki); (ktf_call "ob"))
  | ((with_reducible apply fld_g); (ktf_call "ob"); (exact inferInstance); (exact inferInstance); (ktf_call "rf"))
  | ((with_reducible apply put_g); (ktf_call "ob"); (exact inferInstance); (exact inferInstance); (ktf_call "sz1"); intro _ _ _ _)
  | ((with_reducible apply aug_f); (ktf_call "ob"); (exact inferInstance); (exact inferInstance); (ktf_call "rf"))
  | ((with_reducible apply aug_p); (ktf_call "ob"); (ktf_call "sz1"); intro _ _ _ _)
  | ((with_reducible apply ins_m); (ktf_call "ob"); (ktf_call "rf"))
  | ((with_reducible apply sl_l); (ktf_call "sq"))
  | ((with_reducible apply sl_t); (ktf_call "sq"))
  | ((with_reducible apply mul_r); (exact (by decide +kernel)))
  | ((with_reducible apply mod_i); (ktf_call "pos"))
  | ((with_reducible apply div_i); (ktf_call "pos"); (ktf_call "pos"))
  | ((with_reducible apply pow_i); (exact (by decide +kernel)))
  | ((with_reducible apply all_l); (ktf_call "sq"))
  | ((with_reducible apply tru_l); (ktf_call "sq"))
  | ((with_reducible apply tru_t); (ktf_call "sq"))
  | ((with_reducible apply ix_t0); (ktf_call "sq"))
  | ((with_reducible apply ix_t); (ktf_call "sq"); (ktf_call "rf"))
  | ((with_reducible apply ix_l); (ktf_call "sq"); (ktf_call "rf"))
  | ((with_reducible apply ix_tn); (ktf_call "sq"); (exact (by decide)); (exact rfl))
  | ((with_reducible apply ix_ln); (ktf_call "sq"); (exact (by decide)); (exact rfl))
  | ((with_reducible apply if_t); (exact (by decide +kernel)))
  | ((with_reducible apply if_f); (exact (by decide +kernel))))
local macro_rules | `(tactic| ktf_call "ge") => `(tactic| repeat (ktf_call "ge1"))
local macro_rules | `(tactic| ktf_call "gi") => `(tactic| repeat (first | ktf_call "ge1" | with_reducible apply b_cons))
local macro_rules | `(tactic| ktf_call "go") => `(tactic| repeat (first | ktf_call "ge1" | with_reducible apply b_cons | with_reducible apply s_if))
open M
def sp_overlaid (K : PySem.W.Frag) : Sp := fun vs H Q _ => vs.length = 3 ∧ ∃ (α : Type) (_ : DecidableEq α) (f : α → PyData) (l : List (Int × α)) (v : V) (b : Int) (a : Addr) (ps : List (Option Int × α)), vs = [v, .int b, .ref a] ∧ En f ∧ Im K H v (encS f l) ∧ PcAt K H a f ps ∧ 2 * l.length + ps.length < 16777216 ∧
  ∀ u H', Same H H' → Im K H' u (encS f (overlaid l b ps)) → Q u H'
theorem c_overlaid {P : Program} {w : World} {K : PySem.W.Frag} {mg : Str → Option Value} {base : Heap} (T : Txt K mg) (h_pieces_of : Cal P w K mg base 2 "pieces_of" (sp_pieces_of K)) (h_strip_of : Cal P w K mg base 2 "strip_of" (sp_strip_of K))  : Cal P w K mg base 3 "overlaid" (sp_overlaid K) := by
  obtain ⟨f, fd, F, b⟩ := T.d_overlaid
  refine cal_of (N := n_overlaid) F b sc_overlaid (fun vs H Q E q => q.1) (fun X E h vs H Q q => ?_)
  obtain ⟨hp, hw, hK, hm, hb, hN, hs, hcalm, hfn, hroom, hown, hstk, hfrm, htk⟩ := h
  subst hp hw hK hm hb
  have L := lcs_of hN hs hfn lc_overlaid
  have n0 : Lcc X "strip" 0 := ⟨L 0 _ rfl (by decide)⟩
  have n1 : Lcc X "begin" 1 := ⟨L 1 _ rfl (by decide)⟩
  have n2 : Lcc X "pieces" 2 := ⟨L 2 _ rfl (by decide)⟩
  have n3 : Lcc X "end" 3 := ⟨L 3 _ rfl (by decide)⟩
  have n4 : Lcc X "size" 4 := ⟨L 4 _ rfl (by decide)⟩
  have n5 : Lcc X "thing" 5 := ⟨L 5 _ rfl (by decide)⟩
  have n6 : Lcc X "rest" 6 := ⟨L 6 _ rfl (by decide)⟩
  clear L
  have nd : X.N.Nodup := by rw [hN]; decide +kernel
  have hc : Hc X := hc_of hcalm hroom hown
  have rm : Rm X 2 := ⟨hroom⟩
  have tk : Tk X (fun cls d _ H => E cls d H) := ⟨htk⟩
  have fr : Fr X := ⟨hstk, hfrm⟩
  have f_pieces_of : Fn X "pieces_of" 2 (sp_pieces_of X.K) := ⟨h_pieces_of, gn_of hs (by decide +kernel)⟩
  have f_strip_of : Fn X "strip_of" 2 (sp_strip_of X.K) := ⟨h_strip_of, gn_of hs (by decide +kernel)⟩
  show WB X (_ :: _) _ _ _ _ _ _
  obtain ⟨_, α, dec, f, l, v, b, a, ps, rfl, en, hv, ⟨xs, h1, h2⟩, hz, q⟩ := q
  ktf_call "go"
  refine s_for hc (fun _ => rfl) (wi_list ?_)
  ktf_call "go"
  refine ⟨a, xs, rfl, sql_new h1, _, _, _, walk_list (xs := xs), fun i σ H' => Wd (H' = H ∧ ∃ s4 s5, σ = [some v, some (.int b), some (.ref a), some (optV (endOf b (ps.take i))), s4, s5, none]), ⟨rfl, _, _, rfl⟩, ?_, ?_, ?_⟩
  · rintro i σ H' _ ⟨rfl, _⟩
    exact sql_new h1
  · rintro i x σ H' H2 hi ⟨rfl, s4, s5, rfl⟩ ⟨rfl, hx⟩
    obtain ⟨o, t, b2, u, e3, rfl, h3, h5⟩ := piece_get h2 hx
    have step : endOf b (ps.take (i + 1)) = endStep (endOf b (ps.take i)) o := by rw [take_at e3]; unfold endOf; rw [List.foldl_append]; rfl
    generalize endOf b (ps.take i) = en0 at *
    cases o with
    | none =>
      dsimp only [optV] at h3 ⊢
      ktf_call "go"
      show Wd _
      rw [step]
      cases en0 <;> exact ⟨rfl, _, _, rfl⟩
    | some k =>
      cases en0 with
      | none =>
        dsimp only [optV] at h3 ⊢
        ktf_call "go"
        show Wd _
        rw [step]
        exact ⟨rfl, _, _, rfl⟩
      | some m =>
        dsimp only [optV] at h3 ⊢
        ktf_call "go"
        show Wd _
        rw [step]
        exact ⟨rfl, _, _, rfl⟩
  · rintro σ H' ⟨rfl, s4, s5, rfl⟩
    rw [take_end (by rw [h2.length, List.length_map]; exact Nat.le_refl _)] at *
    refine b_cons (s_mid (fun σ' H2 => Wd (∃ r, σ' = [some v, some (.int b), some (.ref a), some (optV (endOf b ps)), s4, s5, some (.ref r)] ∧ Same H' H2 ∧ PcAt X.K H2 r f (restOf l (endOf b ps)))) ?_ ?_)
    · cases endOf b ps with
      | none =>
        dsimp only [optV]
        ktf_call "go"
        rename_i r H3 hr e3 h3
        exact ⟨r, rfl, e3, [], h3, .nil⟩
      | some k =>
        dsimp only [optV]
        ktf_call "go"
        refine ⟨rfl, α, f, l, v, k, none, rfl, hv, by omega, fun r H3 hr e3 h3 => ?_⟩
        exact ⟨r, rfl, e3, h3⟩
    · rintro σ' H2 ⟨r, rfl, e2, hr⟩
      ktf_call "go"
      refine ⟨rfl, α, f, l, v, 0, some b, rfl, hv.same e2, by omega, fun P H3 hP e3 hp => ?_⟩
      ktf_call "go"
      have ha := (PcAt.same ⟨xs, h1, h2⟩ (e2.trans e3))
      refine pc_add hp ha ?_ (fun P2 H4 hP2 e4 hp2 => ?_)
      · have := piecesOf_length 0 (some b) l
        omega
      ktf_call "go"
      refine pc_add hp2 (hr.same (e3.trans e4)) ?_ (fun P3 H5 hP3 e5 hp3 => ?_)
      · have h1 := piecesOf_length 0 (some b) l
        have h2 : (restOf l (endOf b ps)).length ≤ l.length := rest_length l _
        rw [List.length_append]
        omega
      ktf_call "go"
      refine ⟨rfl, α, dec, f, _, P3, rfl, en, hp3, ?_, fun u H6 e6 hu => ?_⟩
      · have h1 := piecesOf_length 0 (some b) l
        have h2 : (restOf l (endOf b ps)).length ≤ l.length := rest_length l _
        simp only [List.length_append]
        omega
      exact q u H6 ((((e2.trans e3).trans e4).trans e5).trans e6) hu
def sp_inserted (K : PySem.W.Frag) : Sp := fun vs H Q _ => vs.length = 4 ∧ ∃ (α : Type) (_ : DecidableEq α) (f : α → PyData) (l : List (Int × α)) (v : V) (b m : Int) (w : V) (t : α), vs = [v, .int b, .int m, w] ∧ En f ∧ Im K H v (encS f l) ∧ Im K H w (f t) ∧ 2 * l.length + 1 < 16777216 ∧
  ∀ u H', Same H H' → Im K H' u (encS f (inserted l b m t)) → Q u H'
theorem c_inserted {P : Program} {w : World} {K : PySem.W.Frag} {mg : Str → Option Value} {base : Heap} (T : Txt K mg) (h_pieces_of : Cal P w K mg base 2 "pieces_of" (sp_pieces_of K)) (h_strip_of : Cal P w K mg base 2 "strip_of" (sp_strip_of K))  : Cal P w K mg base 3 "inserted" (sp_inserted K) := by
  obtain ⟨f, fd, F, b⟩ := T.d_inserted
  refine cal_of (N := n_inserted) F b sc_inserted (fun vs H Q E q => q.1) (fun X E h vs H Q q => ?_)
  obtain ⟨hp, hw, hK, hm, hb, hN, hs, hcalm, hfn, hroom, hown, hstk, hfrm, htk⟩ := h
  subst hp hw hK hm hb
  have L := lcs_of hN hs hfn lc_inserted
  have n0 : Lcc X "strip" 0 := ⟨L 0 _ rfl (by decide)⟩
  have n1 : Lcc X "at" 1 := ⟨L 1 _ rfl (by decide)⟩
  have n2 : Lcc X "many" 2 := ⟨L 2 _ rfl (by decide)⟩
  have n3 : Lcc X "thing" 3 := ⟨L 3 _ rfl (by decide)⟩
  clear L
  have nd : X.N.Nodup := by rw [hN]; decide +kernel
  have hc : Hc X := hc_of hcalm hroom hown
  have rm : Rm X 2 := ⟨hroom⟩
  have tk : Tk X (fun cls d _ H => E cls d H) := ⟨htk⟩
  have fr : Fr X := ⟨hstk, hfrm⟩
  have f_pieces_of : Fn X "pieces_of" 2 (sp_pieces_of X.K) := ⟨h_pieces_of, gn_of hs (by decide +kernel)⟩
  have f_strip_of : Fn X "strip_of" 2 (sp_strip_of X.K) := ⟨h_strip_of, gn_of hs (by decide +kernel)⟩
  show WB X (_ :: _) _ _ _ _ _ _
  obtain ⟨_, α, dec, f, l, v, b, m, w, t, rfl, en, hv, hw, hz, q⟩ := q
  ktf_call "go"
  refine ⟨rfl, α, f, l, v, 0, some b, rfl, hv, by omega, fun P H1 hP e1 hp => ?_⟩
  ktf_call "go"
  rename_i T H2 hT e2 hT1 L H3 hL e3 hL1
  have z1 := piecesOf_length 0 (some b) l
  have z2 := piecesOf_length b none l
  have e02 := e1.trans (e2.trans e3)
  refine pc_add (hp.same (e2.trans e3)) (pc_one (o := some m) (e3.tq (sqt_new hT1)) (hw.same e02) hL1) (by simp; omega) (fun P2 H4 hP2 e4 hp2 => ?_)
  ktf_call "go"
  refine ⟨rfl, α, f, l, v, b, none, rfl, hv.same (e02.trans e4), by omega, fun P5 H5 hP5 e5 hp5 => ?_⟩
  refine pc_add (hp2.same e5) hp5 (by simp; omega) (fun P3 H6 hP3 e6 hp6 => ?_)
  ktf_call "go"
  refine ⟨rfl, α, dec, f, _, P3, rfl, en, hp6, by simp; omega, fun u H7 e7 hu => ?_⟩
  exact q u H7 ((e02.trans e4).trans ((e5.trans e6).trans e7)) hu
def sp_removed (K : PySem.W.Frag) : Sp := fun vs H Q _ => vs.length = 3 ∧ ∃ (α : Type) (_ : DecidableEq α) (f : α → PyData) (l : List (Int × α)) (v : V) (b m : Int), vs = [v, .int b, .int m] ∧ En f ∧ Im K H v (encS f l) ∧ 2 * l.length < 16777216 ∧
  ∀ u H', Same H H' → Im K H' u (encS f (removed l b m)) → Q u H'
theorem c_removed {P : Program} {w : World} {K : PySem.W.Frag} {mg : Str → Option Value} {base : Heap} (T : Txt K mg) (h_pieces_of : Cal P w K mg base 2 "pieces_of" (sp_pieces_of K)) (h_strip_of : Cal P w K mg base 2 "strip_of" (sp_strip_of K))  : Cal P w K mg base 3 "removed" (sp_removed K) := by
  obtain ⟨f, fd, F, b⟩ := T.d_removed
  refine cal_of (N := n_removed) F b sc_removed (fun vs H Q E q => q.1) (fun X E h vs H Q q => ?_)
  obtain ⟨hp, hw, hK, hm, hb, hN, hs, hcalm, hfn, hroom, hown, hstk, hfrm, htk⟩ := h
  subst hp hw hK hm hb
  have L := lcs_of hN hs hfn lc_removed
  have n0 : Lcc X "strip" 0 := ⟨L 0 _ rfl (by decide)⟩
  have n1 : Lcc X "at" 1 := ⟨L 1 _ rfl (by decide)⟩
  have n2 : Lcc X "many" 2 := ⟨L 2 _ rfl (by decide)⟩
  clear L
  have nd : X.N.Nodup := by rw [hN]; decide +kernel
  have hc : Hc X := hc_of hcalm hroom hown
  have rm : Rm X 2 := ⟨hroom⟩
  have tk : Tk X (fun cls d _ H => E cls d H) := ⟨htk⟩
  have fr : Fr X := ⟨hstk, hfrm⟩
  have f_pieces_of : Fn X "pieces_of" 2 (sp_pieces_of X.K) := ⟨h_pieces_of, gn_of hs (by decide +kernel)⟩
  have f_strip_of : Fn X "strip_of" 2 (sp_strip_of X.K) := ⟨h_strip_of, gn_of hs (by decide +kernel)⟩
  show WB X (_ :: _) _ _ _ _ _ _
  obtain ⟨_, α, dec, f, l, v, b, m, rfl, en, hv, hz, q⟩ := q
  ktf_call "go"
  refine ⟨rfl, α, f, l, v, 0, some b, rfl, hv, by omega, fun P H1 hP e1 hp => ?_⟩
  ktf_call "go"
  have z1 := piecesOf_length 0 (some b) l
  have z2 := piecesOf_length (b + m) none l
  refine ⟨rfl, α, f, l, v, b + m, none, rfl, hv.same e1, by omega, fun P5 H5 hP5 e5 hp5 => ?_⟩
  refine pc_add (hp.same e5) hp5 (by omega) (fun P3 H6 hP3 e6 hp6 => ?_)
  ktf_call "go"
  refine ⟨rfl, α, dec, f, _, P3, rfl, en, hp6, by simp; omega, fun u H7 e7 hu => ?_⟩
  exact q u H7 ((e1.trans e5).trans (e6.trans e7)) hu
def sp_moved (K : PySem.W.Frag) : Sp := fun vs H Q _ => vs.length = 4 ∧ ∃ (α : Type) (_ : DecidableEq α) (f : α → PyData) (l : List (Int × α)) (v : V) (b m t : Int), vs = [v, .int b, .int m, .int t] ∧ En f ∧ Im K H v (encS f l) ∧ 5 * l.length < 16777216 ∧
  ∀ u H', Same H H' → Im K H' u (encS f (moved l b m t)) → Q u H'
theorem c_moved {P : Program} {w : World} {K : PySem.W.Frag} {mg : Str → Option Value} {base : Heap} (T : Txt K mg) (h_pieces_of : Cal P w K mg base 2 "pieces_of" (sp_pieces_of K)) (h_strip_of : Cal P w K mg base 2 "strip_of" (sp_strip_of K)) (h_removed : Cal P w K mg base 3 "removed" (sp_removed K))  : Cal P w K mg base 4 "moved" (sp_moved K) := by
  obtain ⟨f, fd, F, b⟩ := T.d_moved
  refine cal_of (N := n_moved) F b sc_moved (fun vs H Q E q => q.1) (fun X E h vs H Q q => ?_)
  obtain ⟨hp, hw, hK, hm, hb, hN, hs, hcalm, hfn, hroom, hown, hstk, hfrm, htk⟩ := h
  subst hp hw hK hm hb
  have L := lcs_of hN hs hfn lc_moved
  have n0 : Lcc X "strip" 0 := ⟨L 0 _ rfl (by decide)⟩
  have n1 : Lcc X "at" 1 := ⟨L 1 _ rfl (by decide)⟩
  have n2 : Lcc X "many" 2 := ⟨L 2 _ rfl (by decide)⟩
  have n3 : Lcc X "to" 3 := ⟨L 3 _ rfl (by decide)⟩
  have n4 : Lcc X "held" 4 := ⟨L 4 _ rfl (by decide)⟩
  have n5 : Lcc X "left" 5 := ⟨L 5 _ rfl (by decide)⟩
  clear L
  have nd : X.N.Nodup := by rw [hN]; decide +kernel
  have hc : Hc X := hc_of hcalm hroom hown
  have rm : Rm X 3 := ⟨hroom⟩
  have tk : Tk X (fun cls d _ H => E cls d H) := ⟨htk⟩
  have fr : Fr X := ⟨hstk, hfrm⟩
  have f_pieces_of : Fn X "pieces_of" 2 (sp_pieces_of X.K) := ⟨h_pieces_of, gn_of hs (by decide +kernel)⟩
  have f_strip_of : Fn X "strip_of" 2 (sp_strip_of X.K) := ⟨h_strip_of, gn_of hs (by decide +kernel)⟩
  have f_removed : Fn X "removed" 3 (sp_removed X.K) := ⟨h_removed, gn_of hs (by decide +kernel)⟩
  show WB X (_ :: _) _ _ _ _ _ _
  obtain ⟨_, α, dec, f, l, v, b, m, t, rfl, en, hv, hz, q⟩ := q
  ktf_call "go"
  refine ⟨rfl, α, f, l, v, b, some (b + m), rfl, hv, by omega, fun P H1 hP e1 hp => ?_⟩
  ktf_call "go"
  refine ⟨rfl, α, dec, f, l, v, b, m, rfl, en, hv.same e1, by omega, fun R H2 e2 hR => ?_⟩
  ktf_call "go"
  have z0 := removed_length l b m
  have z1 := piecesOf_length 0 (some t) (removed l b m)
  have z2 := piecesOf_length t none (removed l b m)
  have z3 := piecesOf_length b (some (b + m)) l
  refine ⟨rfl, α, f, _, R, 0, some t, rfl, hR, by omega, fun P3 H3 hP3 e3 hp3 => ?_⟩
  ktf_call "go"
  refine pc_add hp3 (hp.same (e2.trans e3)) (by omega) (fun P4 H4 hP4 e4 hp4 => ?_)
  ktf_call "go"
  refine ⟨rfl, α, f, _, R, t, none, rfl, hR.same (e3.trans e4), by omega, fun P5 H5 hP5 e5 hp5 => ?_⟩
  refine pc_add (hp4.same e5) hp5 (by simp; omega) (fun P6 H6 hP6 e6 hp6 => ?_)
  ktf_call "go"
  refine ⟨rfl, α, dec, f, _, P6, rfl, en, hp6, by simp; omega, fun u H7 e7 hu => ?_⟩
  exact q u H7 ((e1.trans e2).trans ((e3.trans e4).trans ((e5.trans e6).trans e7))) hu
def sp_starts_of (K : PySem.W.Frag) : Sp := fun vs H Q _ => vs.length = 1 ∧ ∃ (α : Type) (f : α → PyData) (l : List (Int × α)) (v : V), vs = [v] ∧ Im K H v (encS f l) ∧ l.length < 16777216 ∧
  ∀ p H', H p = none → Same H H' → H' p = some (.lst (l.map fun p => .int p.1)) → Q (.ref p) H'
theorem c_starts_of {P : Program} {w : World} {K : PySem.W.Frag} {mg : Str → Option Value} {base : Heap} (T : Txt K mg)   : Cal P w K mg base 1 "starts_of" (sp_starts_of K) := by
  obtain ⟨f, fd, F, b⟩ := T.d_starts_of
  refine cal_of (N := n_starts_of) F b sc_starts_of (fun vs H Q E q => q.1) (fun X E h vs H Q q => ?_)
  obtain ⟨hp, hw, hK, hm, hb, hN, hs, hcalm, hfn, hroom, hown, hstk, hfrm, htk⟩ := h
  subst hp hw hK hm hb
  have L := lcs_of hN hs hfn lc_starts_of
  have n0 : Lcc X "strip" 0 := ⟨L 0 _ rfl (by decide)⟩
  clear L
  have nd : X.N.Nodup := by rw [hN]; decide +kernel
  have hc : Hc X := hc_of hcalm hroom hown
  have rm : Rm X 0 := ⟨hroom⟩
  have tk : Tk X (fun cls d _ H => E cls d H) := ⟨htk⟩
  have fr : Fr X := ⟨hstk, hfrm⟩
  show WB X (_ :: _) _ _ _ _ _ _
  obtain ⟨_, α, f, l, v, rfl, hv, hz, q⟩ := q
  ktf_call "go"
  obtain ⟨a, xs, rfl, h1, h2⟩ := hv.tup_inv
  refine w_lcI [("start", 1), ("thing", 2)] (fun sc => (∀ s0 H0 C0 cl fp, Lcc (blkX X sc s0 H0 C0 cl fp) "start" 1) ∧ (∀ s0 H0 C0 cl fp, Lcc (blkX X sc s0 H0 C0 cl fp) "thing" 2) ∧ True) ⟨fun _ _ _ _ _ => ⟨lc_blk hN hs (by decide +kernel)⟩, fun _ _ _ _ _ => ⟨lc_blk hN hs (by decide +kernel)⟩, trivial⟩ hc nd (by rw [hN, hs]; exact blkOk_by (by decide +kernel)) (fun _ => rfl) ?_
  rintro sc ⟨o_start, o_thing, _⟩
  refine wi_tup ?_
  ktf_call "go"
  refine ⟨a, xs, rfl, h1, _, _, _, walk_tup (xs := xs), fun D H2 hD e2 hD2 => ⟨fun i H' => Wd (Same H H' ∧ H' D = some (.lst ((l.take i).map fun p => .int p.1))), ⟨e2, hD2⟩, ?_, ?_, ?_⟩⟩
  · rintro i H' _ ⟨es, _⟩
    exact es.tq h1
  · rintro i x H' H3 hi ⟨es, hl⟩ ⟨rfl, hx⟩
    obtain ⟨s, t, a2, u, e3, rfl, h3, h5⟩ := strip_get h2 hx
    have h3 := es.tq h3
    ktf_call "go"
    refine lst_ap hl (lt_size (by simp; omega)) fun H5 b5 t5 h5 => ⟨same_bt es b5 (off1 hD), ?_⟩
    rw [h5, take_at e3, List.map_append]
    rfl
  · rintro H' ⟨es, hl⟩
    rw [take_end (by rw [h2.length, List.length_map]; exact Nat.le_refl _)] at hl
    exact q D H' hD es hl
end G

namespace G
open PySem PySem.Spec PyProof.Rows L2 Z
/-! the steps -/
local macro_rules | `(tactic| ktf_call "rf") => `(tactic| first
  | rfl
  | with_unfolding_all rfl
  | (intros; with_unfolding_all rfl)
  | with_unfolding_all decide)
-- tuples, lists, data at the heap at hand
local macro_rules | `(tactic| ktf_call "same") => `(tactic| first
  | with_reducible assumption
  | with_reducible exact Same.refl _
  | ((with_reducible refine Same.trans ?_ (by with_reducible assumption)); ktf_call "same")
  | ((with_reducible refine same_bt ?_ (by with_reducible assumption) (by ktf_call "off")); ktf_call "same"))
local macro_rules | `(tactic| ktf_call "off") => `(tactic| exact off1 (by with_reducible assumption))
local macro_rules | `(tactic| ktf_call "im") => `(tactic| first
  | with_reducible assumption
  | with_reducible exact Im.non
  | with_reducible exact Im.int _
  | with_reducible exact Im.str _
  | with_reducible exact Im.bl _
  | with_reducible exact ImAll.nil
  | ((with_reducible apply im_tx); (with_reducible assumption); (ktf_call "im"))
  | ((with_reducible apply im_same); (with_reducible assumption); (ktf_call "im"))
  | ((with_reducible apply ims_tx); (with_reducible assumption); (ktf_call "im"))
  | ((with_reducible apply ims_same); (with_reducible assumption); (ktf_call "im")))
local macro_rules | `(tactic| ktf_call "sq") => `(tactic| first
  | with_reducible assumption
  | with_reducible exact Kt.sq _
  | ((with_reducible apply sqt_new); (with_reducible assumption))
  | ((with_reducible apply sql_new); (with_reducible assumption))
  | ((with_reducible apply sq_tx); (with_reducible assumption); (ktf_call "sq"))
  | ((with_reducible apply sq_same); (with_reducible assumption); (ktf_call "sq"))
  | ((with_reducible apply Same.seq); (with_reducible assumption); (ktf_call "sq"))
  | ((with_reducible apply sq_bt); (with_reducible assumption); (ktf_call "noff"); (ktf_call "sq")))
local macro_rules | `(tactic| ktf_call "ob") => `(tactic| first
  | with_reducible assumption
  | ((with_reducible apply same_get); (with_reducible assumption); (ktf_call "ob"))
  | ((with_reducible apply ob_bt); (with_reducible assumption); (ktf_call "noff"); (ktf_call "ob")))
local macro_rules | `(tactic| ktf_call "ne1") => `(tactic| first
  | with_reducible assumption
  | ((with_reducible apply Off.l); (with_reducible assumption))
  | ((with_reducible apply dr_ne); (with_reducible assumption); (ktf_call "dr"))
  | ((with_reducible apply fresh_ne); (with_reducible assumption); (with_reducible assumption))
  | ((with_reducible apply fresh_ne); (with_reducible assumption); (ktf_call "ob")))
local macro_rules | `(tactic| ktf_call "ne") => `(tactic| first | ktf_call "ne1" | (refine Ne.symm ?_; ktf_call "ne1"))
local macro_rules | `(tactic| ktf_call "noff") => `(tactic| first
  | with_reducible exact off_nil
  | ((with_reducible apply off_cons); (ktf_call "ne"); (ktf_call "noff")))
local macro_rules | `(tactic| ktf_call "dr") => `(tactic| first
  | with_reducible assumption
  | ((with_reducible apply dr_same); (with_reducible assumption); (ktf_call "dr"))
  | ((with_reducible apply dr_chg); (with_reducible assumption); (with_reducible assumption); (ktf_call "dr")))
local macro_rules | `(tactic| ktf_call "sz") => `(tactic| with_unfolding_all exact Nat.le_of_ble_eq_true rfl)
local macro_rules | `(tactic| ktf_call "sz1") => `(tactic| first | with_unfolding_all decide | with_unfolding_all exact Nat.le_of_ble_eq_true rfl)
local macro_rules | `(tactic| ktf_call "sdc") => `(tactic| first
  | exact rfl
  | exact ⟨rfl, rfl⟩
  | exact ⟨rfl, rfl, rfl⟩
  | exact ⟨rfl, rfl, rfl, rfl, rfl⟩
  | exact ⟨_, rfl⟩
  | ktf_call "rf")
local macro_rules | `(tactic| ktf_call "pos") => `(tactic| first | with_reducible assumption | exact (by decide) | omega)
local macro_rules | `(tactic| ktf_call "lev") => `(tactic| first | exact Nat.le_of_ble_eq_true rfl | with_reducible assumption | with_reducible exact Nat.le_refl _ | omega)
-- one piece of the text
local macro_rules | `(tactic| ktf_call "ge1") => `(tactic| first
  | with_reducible apply stp
  | ((with_reducible apply sl_i); (exact rfl))
  | ((with_reducible apply sd); (ktf_call "sdc"))
  | ((with_reducible apply le_n); (ktf_call "lev"))
  | ((with_reducible apply sz_l); (exact rfl))
  | ((with_reducible apply all_b); intro _ _ _ _ _)
  | ((with_reducible apply new_at); intro _ _ _ _ _)
  | ((with_reducible apply new_ins); intro _ _ _ _ _ _)
  | ((with_reducible apply sub_t); intro _ _ _ _)
  | ((with_reducible apply dr_go); (ktf_call "dr"); (ktf_call "pos"); (ktf_call "pos"); intro _ _ _ _ _ _ _)
  | ((with_reducible apply tg_t); (ktf_call "sq"))
  | ((with_reducible apply tg_l); (ktf_call "sq"))
  | ((with_reducible apply is_l); (ktf_call "sq"))
  | ((with_reducible apply app_to); (ktf_call "ob"); (first | exact lt_size (by omega) | rotate_left); intro _ _ _ _)
  | ((with_reducible apply join_l); (ktf_call "sq"); (ktf_call "lev"))
  | ((with_reducible apply spl_s); (ktf_call "rf"); (ktf_call "lev"))
  | ((with_reducible apply str_i); (ktf_call "lev"))
  | ((with_reducible apply add_gl); (ktf_call "ob"); (ktf_call "ob"); (first | (exact Nat.le_of_ble_eq_true rfl) | (simp only [List.length_map, List.length_cons, List.length_nil, List.length_append]; omega)))
  | ((with_reducible apply tupof_l); (ktf_call "sq"))
  | ((with_reducible apply lstof_l); (ktf_call "sq"))
  | ((with_reducible apply len_l); (ktf_call "sq"))
  | ((with_reducible apply len_t); (ktf_call "sq"))
  | ((with_reducible apply tupof_t); (ktf_call "sq"))
  | ((with_reducible apply lstof_t); (ktf_call "sq"))
  | ((with_reducible apply isi_t); (ktf_call "sq"); (exact inferInstance))
  | ((with_reducible apply isi_l); (ktf_call "sq"); (exact inferInstance))
  | ((with_reducible apply in_t); (ktf_call "sq"); (ktf_call "rf"); (ktf_call "rf"))
  | ((with_reducible apply in_l); (ktf_call "sq"); (ktf_call "rf"); (ktf_call "rf"))
  | ((with_reducible apply nin_t); (ktf_call "sq"); (ktf_call "rf"); (ktf_call "rf"))
  | ((with_reducible apply nin_l); (ktf_call "sq"); (ktf_call "rf"); (ktf_call "rf"))
  | ((with_reducible apply in_ks); (ktf_call "ob"))
  | ((with_reducible apply in_ki); (ktf_call "ob"))
  | ((with_reducible apply fld_g); (ktf_call "ob"); (exact inferInstance); (exact inferInstance); (ktf_call "rf"))
  | ((with_reducible apply put_g); (ktf_call "ob"); (exact inferInstance); (exact inferInstance); (ktf_call "sz1"); intro _ _ _ _)
  | ((with_reducible apply aug_f); (ktf_call "ob"); (exact inferInstance); (exact inferInstance); (ktf_call "rf"))
  | ((with_reducible apply aug_p); (ktf_call "ob"); (ktf_call "sz1"); intro _ _ _ _)
  | ((with_reducible apply ins_m); (ktf_call "ob"); (ktf_call "rf"))
  | ((with_reducible apply sl_l); (ktf_call "sq"))
  | ((with_reducible apply sl_t); (ktf_call "sq"))
  | ((with_reducible apply mul_r); (exact (by decide +kernel)))
  | ((with_reducible apply mod_i); (ktf_call "pos"))
  | ((with_reducible apply div_i); (ktf_call "pos"); (ktf_call "pos"))
  | ((with_reducible apply pow_i); (exact (by decide +kernel)))
  | ((with_reducible apply all_l); (ktf_call "sq"))
  | ((with_reducible apply tru_l); (ktf_call "sq"))
  | ((with_reducible apply tru_t); (ktf_call "sq"))
  | ((with_reducible apply ix_t0); (ktf_call "sq"))
  | ((with_reducible apply ix_t); (ktf_call "sq"); (ktf_call "rf"))
  | ((with_reducible apply ix_l); (ktf_call "sq"); (ktf_call "rf"))
  | ((with_reducible apply ix_tn); (ktf_call "sq"); (exact (by decide)); (exact rfl))
  | ((with_reducible apply ix_ln); (ktf_call "sq"); (exact (by decide)); (exact rfl))
  | ((with_reducible apply if_t); (exact (by decide +kernel)))
  | ((with_reducible apply if_f); (exact (by decide +kernel))))
local macro_rules | `(tactic| ktf_call "ge") => `(tactic| repeat (ktf_call "ge1"))
local macro_rules | `(tactic| ktf_call "gi") => `(tactic| repeat (first | ktf_call "ge1" | with_reducible apply b_cons))
local macro_rules | `(tactic| ktf_call "go") => `(tactic| repeat (first | ktf_call "ge1" | with_reducible apply b_cons | with_reducible apply s_if))
open M
def sp_Levels_init (K : PySem.W.Frag) : Sp := fun vs H Q _ => vs.length = 5 ∧ ∃ a dx w l f s, vs = [.ref a, w, l, f, s] ∧ H a = some (.ins (He.ga K "Levels") dx []) ∧ ∀ H2, Bt [a] H H2 → Tx H H2 → H2 a = some (.ins (He.ga K "Levels") dx [("whole", w), ("lanes", l), ("files", f), ("spots", s)]) → Q .non H2
theorem c_Levels_init {P : Program} {w : World} {K : PySem.W.Frag} {mg : Str → Option Value} {base : Heap} (T : Txt K mg)   : Mak P w K mg base 1 "Levels" (He.ga K "Levels") (sp_Levels_init K) := by
  obtain ⟨f, fd, M, hmC, F, b⟩ := T.d_Levels_init
  refine mak_of (N := n_Levels_init) M hmC F b sc_Levels_init (fun vs H Q E q => q.1) (fun X E h vs H Q q => ?_)
  obtain ⟨hp, hw, hK, hm, hb, hN, hs, hcalm, hfn, hroom, hown, hstk, hfrm, htk⟩ := h
  subst hp hw hK hm hb
  have L := lcs_of hN hs hfn lc_Levels_init
  have n0 : Lcc X "self" 0 := ⟨L 0 _ rfl (by decide)⟩
  have n1 : Lcc X "whole" 1 := ⟨L 1 _ rfl (by decide)⟩
  have n2 : Lcc X "lanes" 2 := ⟨L 2 _ rfl (by decide)⟩
  have n3 : Lcc X "files" 3 := ⟨L 3 _ rfl (by decide)⟩
  have n4 : Lcc X "spots" 4 := ⟨L 4 _ rfl (by decide)⟩
  clear L
  have nd : X.N.Nodup := by rw [hN]; decide +kernel
  have hc : Hc X := hc_of hcalm hroom hown
  have rm : Rm X 0 := ⟨hroom⟩
  have tk : Tk X (fun cls d _ H => E cls d H) := ⟨htk⟩
  have fr : Fr X := ⟨hstk, hfrm⟩
  have k_Levels : Clc X.K (He.ga X.K "Levels") := ⟨T.cl_Levels⟩
  have k_Levels_whole : Nac X.K (He.ga X.K "Levels") "whole" := ⟨T.na_Levels_whole⟩
  have k_Levels_lanes : Nac X.K (He.ga X.K "Levels") "lanes" := ⟨T.na_Levels_lanes⟩
  have k_Levels_files : Nac X.K (He.ga X.K "Levels") "files" := ⟨T.na_Levels_files⟩
  have k_Levels_spots : Nac X.K (He.ga X.K "Levels") "spots" := ⟨T.na_Levels_spots⟩
  show WB X (_ :: _) _ _ _ _ _ _
  obtain ⟨_, a, dx, w, l, f, s, rfl, ha, q⟩ := q
  ktf_call "go"
  rename_i H1 b1 t1 h1 H2 b2 t2 h2 H3 b3 t3 h3 H4 b4 t4 h4
  exact q _ (((b1.trans b2).trans b3).trans b4) (((t1.trans t2).trans t3).trans t4) h4
end G

namespace G
open PySem PySem.Spec PyProof.Rows L2 Z
/-! the steps -/
local macro_rules | `(tactic| ktf_call "rf") => `(tactic| first
  | rfl
  | with_unfolding_all rfl
  | (intros; with_unfolding_all rfl)
  | with_unfolding_all decide)
-- tuples, lists, data at the heap at hand
local macro_rules | `(tactic| ktf_call "same") => `(tactic| first
  | with_reducible assumption
  | with_reducible exact Same.refl _
  | ((with_reducible refine Same.trans ?_ (by with_reducible assumption)); ktf_call "same")
  | ((with_reducible refine same_bt ?_ (by with_reducible assumption) (by ktf_call "off")); ktf_call "same"))
local macro_rules | `(tactic| ktf_call "off") => `(tactic| exact off1 (by with_reducible assumption))
local macro_rules | `(tactic| ktf_call "im") => `(tactic| first
  | with_reducible assumption
  | with_reducible exact Im.non
  | with_reducible exact Im.int _
  | with_reducible exact Im.str _
  | with_reducible exact Im.bl _
  | with_reducible exact ImAll.nil
  | ((with_reducible apply im_tx); (with_reducible assumption); (ktf_call "im"))
  | ((with_reducible apply im_same); (with_reducible assumption); (ktf_call "im"))
  | ((with_reducible apply ims_tx); (with_reducible assumption); (ktf_call "im"))
  | ((with_reducible apply ims_same); (with_reducible assumption); (ktf_call "im")))
local macro_rules | `(tactic| ktf_call "sq") => `(tactic| first
  | with_reducible assumption
  | with_reducible exact Kt.sq _
  | ((with_reducible apply sqt_new); (with_reducible assumption))
  | ((with_reducible apply sql_new); (with_reducible assumption))
  | ((with_reducible apply sq_tx); (with_reducible assumption); (ktf_call "sq"))
  | ((with_reducible apply sq_same); (with_reducible assumption); (ktf_call "sq"))
  | ((with_reducible apply Same.seq); (with_reducible assumption); (ktf_call "sq"))
  | ((with_reducible apply sq_bt); (with_reducible assumption); (ktf_call "noff"); (ktf_call "sq")))
local macro_rules | `(tactic| ktf_call "ob") => `(tactic| first
  | with_reducible assumption
  | ((with_reducible apply same_get); (with_reducible assumption); (ktf_call "ob"))
  | ((with_reducible apply ob_bt); (with_reducible assumption); (ktf_call "noff"); (ktf_call "ob")))
local macro_rules | `(tactic| ktf_call "ne1") => `(tactic| first
  | with_reducible assumption
  | ((with_reducible apply Off.l); (with_reducible assumption))
  | ((with_reducible apply dr_ne); (with_reducible assumption); (ktf_call "dr"))
  | ((with_reducible apply fresh_ne); (with_reducible assumption); (with_reducible assumption))
  | ((with_reducible apply fresh_ne); (with_reducible assumption); (ktf_call "ob")))
local macro_rules | `(tactic| ktf_call "ne") => `(tactic| first | ktf_call "ne1" | (refine Ne.symm ?_; ktf_call "ne1"))
local macro_rules | `(tactic| ktf_call "noff") => `(tactic| first
  | with_reducible exact off_nil
  | ((with_reducible apply off_cons); (ktf_call "ne"); (ktf_call "noff")))
local macro_rules | `(tactic| ktf_call "dr") => `(tactic| first
  | with_reducible assumption
  | ((with_reducible apply dr_same); (with_reducible assumption); (ktf_call "dr"))
  | ((with_reducible apply dr_chg); (with_reducible assumption); (with_reducible assumption); (ktf_call "dr")))
local macro_rules | `(tactic| ktf_call "sz") => `(tactic| with_unfolding_all exact Nat.le_of_ble_eq_true rfl)
local macro_rules | `(tactic| ktf_call "sz1") => `(tactic| first | with_unfolding_all decide | with_unfolding_all exact Nat.le_of_ble_eq_true rfl)
local macro_rules | `(tactic| ktf_call "sdc") => `(tactic| first
  | exact rfl
  | exact ⟨rfl, rfl⟩
  | exact ⟨rfl, rfl, rfl⟩
  | exact ⟨rfl, rfl, rfl, rfl, rfl⟩
  | exact ⟨_, rfl⟩
  | ktf_call "rf")
local macro_rules | `(tactic| ktf_call "pos") => `(tactic| first | with_reducible assumption | exact (by decide) | omega)
local macro_rules | `(tactic| ktf_call "lev") => `(tactic| first | exact Nat.le_of_ble_eq_true rfl | with_reducible assumption | with_reducible exact Nat.le_refl _ | omega)
-- one piece of the text
local macro_rules | `(tactic| ktf_call "ge1") => `(tactic| first
  | with_reducible apply stp
  | ((with_reducible apply sl_i); (exact rfl))
  | ((with_reducible apply sd); (ktf_call "sdc"))
  | ((with_reducible apply le_n); (ktf_call "lev"))
  | ((with_reducible apply sz_l); (exact rfl))
  | ((with_reducible apply all_b); intro _ _ _ _ _)
  | ((with_reducible apply new_at); intro _ _ _ _ _)
  | ((with_reducible apply new_ins); intro _ _ _ _ _ _)
  | ((with_reducible apply sub_t); intro _ _ _ _)
  | ((with_reducible apply dr_go); (ktf_call "dr"); (ktf_call "pos"); (ktf_call "pos"); intro _ _ _ _ _ _ _)
  | ((with_reducible apply tg_t); (ktf_call "sq"))
  | ((with_reducible apply tg_l); (ktf_call "sq"))
  | ((with_reducible apply is_l); (ktf_call "sq"))
  | ((with_reducible apply app_to); (ktf_call "ob"); (first | exact lt_size (by omega) | rotate_left); intro _ _ _ _)
  | ((with_reducible apply join_l); (ktf_call "sq"); (ktf_call "lev"))
  | ((with_reducible apply spl_s); (ktf_call "rf"); (ktf_call "lev"))
  | ((with_reducible apply str_i); (ktf_call "lev"))
  | ((with_reducible apply add_gl); (ktf_call "ob"); (ktf_call "ob"); (first | (exact Nat.le_of_ble_eq_true rfl) | (simp only [List.length_map, List.length_cons, List.length_nil, List.length_append]; omega)))
  | ((with_reducible apply tupof_l); (ktf_call "sq"))
  | ((with_reducible apply lstof_l); (ktf_call "sq"))
  | ((with_reducible apply len_l); (ktf_call "sq"))
  | ((with_reducible apply len_t); (ktf_call "sq"))
  | ((with_reducible apply tupof_t); (ktf_call "sq"))
  | ((with_reducible apply lstof_t); (ktf_call "sq"))
  | ((with_reducible apply isi_t); (ktf_call "sq"); (exact inferInstance))
  | ((with_reducible apply isi_l); (ktf_call "sq"); (exact inferInstance))
  | ((with_reducible apply in_t); (ktf_call "sq"); (ktf_call "rf"); (ktf_call "rf"))
  | ((with_reducible apply in_l); (ktf_call "sq"); (ktf_call "rf"); (ktf_call "rf"))
  | ((with_reducible apply nin_t); (ktf_call "sq"); (ktf_call "rf"); (ktf_call "rf"))
  | ((with_reducible apply nin_l); (ktf_call "sq"); (ktf_call "rf"); (ktf_call "rf"))
  | ((with_reducible apply in_ks); (ktf_call "ob"))
  | ((with_reducible apply in_ki); (ktf_call "ob"))
  | ((with_reducible apply fld_g); (ktf_call "ob"); (exact inferInstance); (exact inferInstance); (ktf_call "rf"))
  | ((with_reducible apply put_g); (ktf_call "ob"); (exact inferInstance); (exact inferInstance); (ktf_call "sz1"); intro _ _ _ _)
  | ((with_reducible apply aug_f); (ktf_call "ob"); (exact inferInstance); (exact inferInstance); (ktf_call "rf"))
  | ((with_reducible apply aug_p); (ktf_call "ob"); (ktf_call "sz1"); intro _ _ _ _)
  | ((with_reducible apply ins_m); (ktf_call "ob"); (ktf_call "rf"))
  | ((with_reducible apply sl_l); (ktf_call "sq"))
  | ((with_reducible apply sl_t); (ktf_call "sq"))
  | ((with_reducible apply mul_r); (exact (by decide +kernel)))
  | ((with_reducible apply mod_i); (ktf_call "pos"))
  | ((with_reducible apply div_i); (ktf_call "pos"); (ktf_call "pos"))
  | ((with_reducible apply pow_i); (exact (by decide +kernel)))
  | ((with_reducible apply all_l); (ktf_call "sq"))
  | ((with_reducible apply tru_l); (ktf_call "sq"))
  | ((with_reducible apply tru_t); (ktf_call "sq"))
  | ((with_reducible apply ix_t0); (ktf_call "sq"))
  | ((with_reducible apply ix_t); (ktf_call "sq"); (ktf_call "rf"))
  | ((with_reducible apply ix_l); (ktf_call "sq"); (ktf_call "rf"))
  | ((with_reducible apply ix_tn); (ktf_call "sq"); (exact (by decide)); (exact rfl))
  | ((with_reducible apply ix_ln); (ktf_call "sq"); (exact (by decide)); (exact rfl))
  | ((with_reducible apply if_t); (exact (by decide +kernel)))
  | ((with_reducible apply if_f); (exact (by decide +kernel))))
local macro_rules | `(tactic| ktf_call "ge") => `(tactic| repeat (ktf_call "ge1"))
local macro_rules | `(tactic| ktf_call "gi") => `(tactic| repeat (first | ktf_call "ge1" | with_reducible apply b_cons))
local macro_rules | `(tactic| ktf_call "go") => `(tactic| repeat (first | ktf_call "ge1" | with_reducible apply b_cons | with_reducible apply s_if))
open M
def sp_empty_levels (K : PySem.W.Frag) : Sp := fun vs H Q _ => vs.length = 0 ∧ vs = [] ∧ ∀ p H', H p = none → Same H H' → LvAt K H' p emptyLv → Q (.ref p) H'
theorem c_empty_levels {P : Program} {w : World} {K : PySem.W.Frag} {mg : Str → Option Value} {base : Heap} (T : Txt K mg) (h_Levels : Mak P w K mg base 1 "Levels" (He.ga K "Levels") (sp_Levels_init K))  : Cal P w K mg base 3 "empty_levels" (sp_empty_levels K) := by
  obtain ⟨f, fd, F, b⟩ := T.d_empty_levels
  refine cal_of (N := n_empty_levels) F b sc_empty_levels (fun vs H Q E q => q.1) (fun X E h vs H Q q => ?_)
  obtain ⟨hp, hw, hK, hm, hb, hN, hs, hcalm, hfn, hroom, hown, hstk, hfrm, htk⟩ := h
  subst hp hw hK hm hb
  have L := lcs_of hN hs hfn lc_empty_levels
  clear L
  have nd : X.N.Nodup := by rw [hN]; decide +kernel
  have hc : Hc X := hc_of hcalm hroom hown
  have rm : Rm X 2 := ⟨hroom⟩
  have tk : Tk X (fun cls d _ H => E cls d H) := ⟨htk⟩
  have fr : Fr X := ⟨hstk, hfrm⟩
  have f_Levels : Mkf X "Levels" 1 (He.ga X.K "Levels") (sp_Levels_init X.K) := ⟨h_Levels, gn_of hs (by decide +kernel)⟩
  have g_PLAIN : Gvc X "PLAIN" (.ref (He.ga X.K "PLAIN")) := ⟨gn_of hs (by decide +kernel), _, T.gv_PLAIN, rfl⟩
  have i_PLAIN := T.im_PLAIN
  have g_EMPTY : Gvc X "EMPTY" (.ref (He.ga X.K "EMPTY")) := ⟨gn_of hs (by decide +kernel), _, T.gv_EMPTY, rfl⟩
  have i_EMPTY := T.im_EMPTY
  show WB X (_ :: _) _ _ _ _ _ _
  obtain ⟨_, rfl, q⟩ := q
  ktf_call "go"
  rename_i p dx H2 hp e2 h2
  refine ⟨rfl, p, dx, _, _, _, _, rfl, h2, fun H3 b3 t3 h3 => ⟨rfl, q p H3 hp (same_bt e2 b3 (off1 hp)) ⟨dx, _, _, _, _, h3, .non, i_PLAIN _, i_PLAIN _, i_EMPTY _⟩⟩⟩
def sp_Levels_parts (K : PySem.W.Frag) : Sp := fun vs H Q _ => vs.length = 1 ∧ ∃ a lv, vs = [.ref a] ∧ LvAt K H a lv ∧ ∀ u H', Same H H' → Im K H' u (.tuple [encTl lv.whole, encS encTl lv.lanes, encS encTl lv.files, encS (encS encTl) lv.spots]) → Q u H'
theorem c_Levels_parts {P : Program} {w : World} {K : PySem.W.Frag} {mg : Str → Option Value} {base : Heap} (T : Txt K mg)   : Met P w K mg base 1 (He.ga K "Levels") "parts" (sp_Levels_parts K) := by
  obtain ⟨f, fd, M, F, b⟩ := T.d_Levels_parts
  refine met_of (N := n_Levels_parts) T.cl_Levels M F b sc_Levels_parts (fun vs H Q E q => q.1) (fun X E h vs H Q q => ?_)
  obtain ⟨hp, hw, hK, hm, hb, hN, hs, hcalm, hfn, hroom, hown, hstk, hfrm, htk⟩ := h
  subst hp hw hK hm hb
  have L := lcs_of hN hs hfn lc_Levels_parts
  have n0 : Lcc X "self" 0 := ⟨L 0 _ rfl (by decide)⟩
  clear L
  have nd : X.N.Nodup := by rw [hN]; decide +kernel
  have hc : Hc X := hc_of hcalm hroom hown
  have rm : Rm X 0 := ⟨hroom⟩
  have tk : Tk X (fun cls d _ H => E cls d H) := ⟨htk⟩
  have fr : Fr X := ⟨hstk, hfrm⟩
  have k_Levels : Clc X.K (He.ga X.K "Levels") := ⟨T.cl_Levels⟩
  have k_Levels_whole : Nac X.K (He.ga X.K "Levels") "whole" := ⟨T.na_Levels_whole⟩
  have k_Levels_lanes : Nac X.K (He.ga X.K "Levels") "lanes" := ⟨T.na_Levels_lanes⟩
  have k_Levels_files : Nac X.K (He.ga X.K "Levels") "files" := ⟨T.na_Levels_files⟩
  have k_Levels_spots : Nac X.K (He.ga X.K "Levels") "spots" := ⟨T.na_Levels_spots⟩
  show WB X (_ :: _) _ _ _ _ _ _
  obtain ⟨_, a, lv, rfl, ⟨dx, w, l, f, s, h0, h1, h2, h3, h4⟩, q⟩ := q
  ktf_call "go"
  rename_i p H2 hp e2 h5
  exact q _ _ e2 (.tup (sqt_new h5) (.cons (h1.same e2) (.cons (h2.same e2) (.cons (h3.same e2) (.cons (h4.same e2) .nil)))))
def sp_Levels_tellings_at (K : PySem.W.Frag) : Sp := fun vs H Q _ => vs.length = 3 ∧ ∃ a lv r c st t1 t2 t3, vs = [.ref a, .int r, .int c] ∧ LvAt K H a lv ∧ thingAt lv.spots r none = some st ∧ thingAt st c none = some t1 ∧ thingAt lv.lanes r none = some t2 ∧ thingAt lv.files c none = some t3 ∧
  ∀ p ws H', H p = none → Same H H' → H' p = some (.lst ws) → ImAll K H' ws ([t1, t2, t3, lv.whole].map encTl) → Q (.ref p) H'
theorem c_Levels_tellings_at {P : Program} {w : World} {K : PySem.W.Frag} {mg : Str → Option Value} {base : Heap} (T : Txt K mg) (h_thing_at : Cal P w K mg base 2 "thing_at" (sp_thing_at K))  : Met P w K mg base 3 (He.ga K "Levels") "tellings_at" (sp_Levels_tellings_at K) := by
  obtain ⟨f, fd, M, F, b⟩ := T.d_Levels_tellings_at
  refine met_of (N := n_Levels_tellings_at) T.cl_Levels M F b sc_Levels_tellings_at (fun vs H Q E q => q.1) (fun X E h vs H Q q => ?_)
  obtain ⟨hp, hw, hK, hm, hb, hN, hs, hcalm, hfn, hroom, hown, hstk, hfrm, htk⟩ := h
  subst hp hw hK hm hb
  have L := lcs_of hN hs hfn lc_Levels_tellings_at
  have n0 : Lcc X "self" 0 := ⟨L 0 _ rfl (by decide)⟩
  have n1 : Lcc X "row" 1 := ⟨L 1 _ rfl (by decide)⟩
  have n2 : Lcc X "column" 2 := ⟨L 2 _ rfl (by decide)⟩
  have n3 : Lcc X "cell" 3 := ⟨L 3 _ rfl (by decide)⟩
  clear L
  have nd : X.N.Nodup := by rw [hN]; decide +kernel
  have hc : Hc X := hc_of hcalm hroom hown
  have rm : Rm X 2 := ⟨hroom⟩
  have tk : Tk X (fun cls d _ H => E cls d H) := ⟨htk⟩
  have fr : Fr X := ⟨hstk, hfrm⟩
  have f_thing_at : Fn X "thing_at" 2 (sp_thing_at X.K) := ⟨h_thing_at, gn_of hs (by decide +kernel)⟩
  have k_Levels : Clc X.K (He.ga X.K "Levels") := ⟨T.cl_Levels⟩
  have k_Levels_whole : Nac X.K (He.ga X.K "Levels") "whole" := ⟨T.na_Levels_whole⟩
  have k_Levels_lanes : Nac X.K (He.ga X.K "Levels") "lanes" := ⟨T.na_Levels_lanes⟩
  have k_Levels_files : Nac X.K (He.ga X.K "Levels") "files" := ⟨T.na_Levels_files⟩
  have k_Levels_spots : Nac X.K (He.ga X.K "Levels") "spots" := ⟨T.na_Levels_spots⟩
  show WB X (_ :: _) _ _ _ _ _ _
  obtain ⟨_, a, lv, r, c, st, t1, t2, t3, rfl, ⟨dx, w, l, f, s, h0, h1, h2, h3, h4⟩, g0, g1, g2, g3, q⟩ := q
  ktf_call "go"
  refine ⟨rfl, _, encS encTl, lv.spots, s, r, rfl, h4, st, g0, fun u hu => ?_⟩
  ktf_call "go"
  refine ⟨rfl, _, encTl, st, u, c, rfl, hu, t1, g1, fun u1 hu1 => ?_⟩
  ktf_call "go"
  refine ⟨rfl, _, encTl, lv.lanes, l, r, rfl, h2, t2, g2, fun u2 hu2 => ?_⟩
  ktf_call "go"
  refine ⟨rfl, _, encTl, lv.files, f, c, rfl, h3, t3, g3, fun u3 hu3 => ?_⟩
  ktf_call "go"
  rename_i p H2 hp e2 h5
  exact q p _ _ hp e2 h5 (.cons (hu1.same e2) (.cons (hu2.same e2) (.cons (hu3.same e2) (.cons (h1.same e2) .nil))))
end G

namespace G
open PySem PySem.Spec PyProof.Rows L2 Z
/-! the steps -/
local macro_rules | `(tactic| ktf_call "rf") => `(tactic| first
  | rfl
  | with_unfolding_all rfl
  | (intros; with_unfolding_all rfl)
  | with_unfolding_all decide)
-- tuples, lists, data at the heap at hand
local macro_rules | `(tactic| ktf_call "same") => `(tactic| first
  | with_reducible assumption
  | with_reducible exact Same.refl _
  | ((with_reducible refine Same.trans ?_ (by with_reducible assumption)); ktf_call "same")
  | ((with_reducible refine same_bt ?_ (by with_reducible assumption) (by ktf_call "off")); ktf_call "same"))
local macro_rules | `(tactic| ktf_call "off") => `(tactic| exact off1 (by with_reducible assumption))
local macro_rules | `(tactic| ktf_call "im") => `(tactic| first
  | with_reducible assumption
  | with_reducible exact Im.non
  | with_reducible exact Im.int _
  | with_reducible exact Im.str _
  | with_reducible exact Im.bl _
  | with_reducible exact ImAll.nil
  | ((with_reducible apply im_tx); (with_reducible assumption); (ktf_call "im"))
  | ((with_reducible apply im_same); (with_reducible assumption); (ktf_call "im"))
  | ((with_reducible apply ims_tx); (with_reducible assumption); (ktf_call "im"))
  | ((with_reducible apply ims_same); (with_reducible assumption); (ktf_call "im")))
local macro_rules | `(tactic| ktf_call "sq") => `(tactic| first
  | with_reducible assumption
  | with_reducible exact Kt.sq _
  | ((with_reducible apply sqt_new); (with_reducible assumption))
  | ((with_reducible apply sql_new); (with_reducible assumption))
  | ((with_reducible apply sq_tx); (with_reducible assumption); (ktf_call "sq"))
  | ((with_reducible apply sq_same); (with_reducible assumption); (ktf_call "sq"))
  | ((with_reducible apply Same.seq); (with_reducible assumption); (ktf_call "sq"))
  | ((with_reducible apply sq_bt); (with_reducible assumption); (ktf_call "noff"); (ktf_call "sq")))
local macro_rules | `(tactic| ktf_call "ob") => `(tactic| first
  | with_reducible assumption
  | ((with_reducible apply same_get); (with_reducible assumption); (ktf_call "ob"))
  | ((with_reducible apply ob_bt); (with_reducible assumption); (ktf_call "noff"); (ktf_call "ob")))
local macro_rules | `(tactic| ktf_call "ne1") => `(tactic| first
  | with_reducible assumption
  | ((with_reducible apply Off.l); (with_reducible assumption))
  | ((with_reducible apply dr_ne); (with_reducible assumption); (ktf_call "dr"))
  | ((with_reducible apply fresh_ne); (with_reducible assumption); (with_reducible assumption))
  | ((with_reducible apply fresh_ne); (with_reducible assumption); (ktf_call "ob")))
local macro_rules | `(tactic| ktf_call "ne") => `(tactic| first | ktf_call "ne1" | (refine Ne.symm ?_; ktf_call "ne1"))
local macro_rules | `(tactic| ktf_call "noff") => `(tactic| first
  | with_reducible exact off_nil
  | ((with_reducible apply off_cons); (ktf_call "ne"); (ktf_call "noff")))
local macro_rules | `(tactic| ktf_call "dr") => `(tactic| first
  | with_reducible assumption
  | ((with_reducible apply dr_same); (with_reducible assumption); (ktf_call "dr"))
  | ((with_reducible apply dr_chg); (with_reducible assumption); (with_reducible assumption); (ktf_call "dr")))
local macro_rules | `(tactic| ktf_call "sz") => `(tactic| with_unfolding_all exact Nat.le_of_ble_eq_true rfl)
local macro_rules | `(tactic| ktf_call "sz1") => `(tactic| first | with_unfolding_all decide | with_unfolding_all exact Nat.le_of_ble_eq_true rfl)
local macro_rules | `(tactic| ktf_call "sdc") => `(tactic| first
  | exact rfl
  | exact ⟨rfl, rfl⟩
  | exact ⟨rfl, rfl, rfl⟩
  | exact ⟨rfl, rfl, rfl, rfl, rfl⟩
  | exact ⟨_, rfl⟩
  | ktf_call "rf")
local macro_rules | `(tactic| ktf_call "pos") => `(tactic| first | with_reducible assumption | exact (by decide) | omega)
local macro_rules | `(tactic| ktf_call "lev") => `(tactic| first | exact Nat.le_of_ble_eq_true rfl | with_reducible assumption | with_reducible exact Nat.le_refl _ | omega)
-- one piece of the text
local macro_rules | `(tactic| ktf_call "ge1") => `(tactic| first
  | with_reducible apply stp
  | ((with_reducible apply sl_i); (exact rfl))
  | ((with_reducible apply sd); (ktf_call "sdc"))
  | ((with_reducible apply le_n); (ktf_call "lev"))
  | ((with_reducible apply sz_l); (exact rfl))
  | ((with_reducible apply all_b); intro _ _ _ _ _)
  | ((with_reducible apply new_at); intro _ _ _ _ _)
  | ((with_reducible apply new_ins); intro _ _ _ _ _ _)
  | ((with_reducible apply sub_t); intro _ _ _ _)
  | ((with_reducible apply dr_go); (ktf_call "dr"); (ktf_call "pos"); (ktf_call "pos"); intro _ _ _ _ _ _ _)
  | ((with_reducible apply tg_t); (ktf_call "sq"))
  | ((with_reducible apply tg_l); (ktf_call "sq"))
  | ((with_reducible apply is_l); (ktf_call "sq"))
  | ((with_reducible apply app_to); (ktf_call "ob"); (first | exact lt_size (by omega) | rotate_left); intro _ _ _ _)
  | ((with_reducible apply join_l); (ktf_call "sq"); (ktf_call "lev"))
  | ((with_reducible apply spl_s); (ktf_call "rf"); (ktf_call "lev"))
  | ((with_reducible apply str_i); (ktf_call "lev"))
  | ((with_reducible apply add_gl); (ktf_call "ob"); (ktf_call "ob"); (first | (exact Nat.le_of_ble_eq_true rfl) | (simp only [List.length_map, List.length_cons, List.length_nil, List.length_append]; omega)))
  | ((with_reducible apply tupof_l); (ktf_call "sq"))
  | ((with_reducible apply lstof_l); (ktf_call "sq"))
  | ((with_reducible apply len_l); (ktf_call "sq"))
  | ((with_reducible apply len_t); (ktf_call "sq"))
  | ((with_reducible apply tupof_t); (ktf_call "sq"))
  | ((with_reducible apply lstof_t); (ktf_call "sq"))
  | ((with_reducible apply isi_t); (ktf_call "sq"); (exact inferInstance))
  | ((with_reducible apply isi_l); (ktf_call "sq"); (exact inferInstance))
  | ((with_reducible apply in_t); (ktf_call "sq"); (ktf_call "rf"); (ktf_call "rf"))
  | ((with_reducible apply in_l); (ktf_call "sq"); (ktf_call "rf"); (ktf_call "rf"))
  | ((with_reducible apply nin_t); (ktf_call "sq"); (ktf_call "rf"); (ktf_call "rf"))
  | ((with_reducible apply nin_l); (ktf_call "sq"); (ktf_call "rf"); (ktf_call "rf"))
  | ((with_reducible apply in_ks); (ktf_call "ob"))
  | ((with_reducible apply in_ki); (ktf_call "ob"))
  | ((with_reducible apply fld_g); (ktf_call "ob"); (exact inferInstance); (exact inferInstance); (ktf_call "rf"))
  | ((with_reducible apply put_g); (ktf_call "ob"); (exact inferInstance); (exact inferInstance); (ktf_call "sz1"); intro _ _ _ _)
  | ((with_reducible apply aug_f); (ktf_call "ob"); (exact inferInstance); (exact inferInstance); (ktf_call "rf"))
  | ((with_reducible apply aug_p); (ktf_call "ob"); (ktf_call "sz1"); intro _ _ _ _)
  | ((with_reducible apply ins_m); (ktf_call "ob"); (ktf_call "rf"))
  | ((with_reducible apply sl_l); (ktf_call "sq"))
  | ((with_reducible apply sl_t); (ktf_call "sq"))
  | ((with_reducible apply mul_r); (exact (by decide +kernel)))
  | ((with_reducible apply mod_i); (ktf_call "pos"))
  | ((with_reducible apply div_i); (ktf_call "pos"); (ktf_call "pos"))
  | ((with_reducible apply pow_i); (exact (by decide +kernel)))
  | ((with_reducible apply all_l); (ktf_call "sq"))
  | ((with_reducible apply tru_l); (ktf_call "sq"))
  | ((with_reducible apply tru_t); (ktf_call "sq"))
  | ((with_reducible apply ix_t0); (ktf_call "sq"))
  | ((with_reducible apply ix_t); (ktf_call "sq"); (ktf_call "rf"))
  | ((with_reducible apply ix_l); (ktf_call "sq"); (ktf_call "rf"))
  | ((with_reducible apply ix_tn); (ktf_call "sq"); (exact (by decide)); (exact rfl))
  | ((with_reducible apply ix_ln); (ktf_call "sq"); (exact (by decide)); (exact rfl))
  | ((with_reducible apply if_t); (exact (by decide +kernel)))
  | ((with_reducible apply if_f); (exact (by decide +kernel))))
local macro_rules | `(tactic| ktf_call "ge") => `(tactic| repeat (ktf_call "ge1"))
local macro_rules | `(tactic| ktf_call "gi") => `(tactic| repeat (first | ktf_call "ge1" | with_reducible apply b_cons))
local macro_rules | `(tactic| ktf_call "go") => `(tactic| repeat (first | ktf_call "ge1" | with_reducible apply b_cons | with_reducible apply s_if))
open M
def sp_Sheet_init (K : PySem.W.Frag) : Sp := fun vs H Q E => vs.length = 3 ∧ ∃ a dx o d l xs ds, vs = [.ref a, o, .ref l] ∧ H a = some (.ins (He.ga K "Sheet") dx []) ∧ An K H o d ∧ (SqL K H l xs ∧ l ≠ a ∨ SqT K H l xs) ∧ AnAll K H xs ds ∧ xs.length < 1000 ∧
  (isOrder d = false → E (.ref (He.ga K "BadOrder")) none H) ∧
  (isOrder d = true → ∀ i x H', linkFault ds = some i → H x = none → Same H H' → H' x = some (.xd [("index", .int (i : Nat))]) → E (.ref (He.ga K "BadLink")) (some x) H') ∧
  (isOrder d = true → linkFault ds = none → ∀ w lks p q H', d = .str w → ds = encL lks → H p = none → H q = none → Bt [a] H H' → ShAt K H' a p q (newSh w lks) → Q .non H')
theorem c_Sheet_init {P : Program} {w : World} {K : PySem.W.Frag} {mg : Str → Option Value} {base : Heap} (T : Txt K mg) (h_check_order : Cal P w K mg base 1 "check_order" (sp_check_order K)) (h_link_fault : Cal P w K mg base 2 "link_fault" (sp_link_fault K)) (h_empty_levels : Cal P w K mg base 3 "empty_levels" (sp_empty_levels K))  : Mak P w K mg base 4 "Sheet" (He.ga K "Sheet") (sp_Sheet_init K) := by
  obtain ⟨f, fd, M, hmC, F, b⟩ := T.d_Sheet_init
  refine mak_of (N := n_Sheet_init) M hmC F b sc_Sheet_init (fun vs H Q E q => q.1) (fun X E h vs H Q q => ?_)
  obtain ⟨hp, hw, hK, hm, hb, hN, hs, hcalm, hfn, hroom, hown, hstk, hfrm, htk⟩ := h
  subst hp hw hK hm hb
  have L := lcs_of hN hs hfn lc_Sheet_init
  have n0 : Lcc X "self" 0 := ⟨L 0 _ rfl (by decide)⟩
  have n1 : Lcc X "order" 1 := ⟨L 1 _ rfl (by decide)⟩
  have n2 : Lcc X "links" 2 := ⟨L 2 _ rfl (by decide)⟩
  have n3 : Lcc X "index" 3 := ⟨L 3 _ rfl (by decide)⟩
  clear L
  have nd : X.N.Nodup := by rw [hN]; decide +kernel
  have hc : Hc X := hc_of hcalm hroom hown
  have rm : Rm X 3 := ⟨hroom⟩
  have tk : Tk X (fun cls d _ H => E cls d H) := ⟨htk⟩
  have fr : Fr X := ⟨hstk, hfrm⟩
  have f_check_order : Fn X "check_order" 1 (sp_check_order X.K) := ⟨h_check_order, gn_of hs (by decide +kernel)⟩
  have f_link_fault : Fn X "link_fault" 2 (sp_link_fault X.K) := ⟨h_link_fault, gn_of hs (by decide +kernel)⟩
  have b_tuple : Bnc X "tuple" := ⟨bn_of hs T.fr_tuple (by decide +kernel)⟩
  have g_KINDS : Gvc X "KINDS" (.ref (He.ga X.K "KINDS")) := ⟨gn_of hs (by decide +kernel), _, T.gv_KINDS, rfl⟩
  have i_KINDS := T.im_KINDS
  have q_KINDS : Kt X.K (He.ga X.K "KINDS") [.str "ink", .str "ground", .str "face"] := ⟨fun H => im_strs (xs := ["ink", "ground", "face"]) (T.im_KINDS H)⟩
  have k_Sheet : Clc X.K (He.ga X.K "Sheet") := ⟨T.cl_Sheet⟩
  have k_Sheet_order : Nac X.K (He.ga X.K "Sheet") "order" := ⟨T.na_Sheet_order⟩
  have k_Sheet_links : Nac X.K (He.ga X.K "Sheet") "links" := ⟨T.na_Sheet_links⟩
  have k_Sheet_table : Nac X.K (He.ga X.K "Sheet") "table" := ⟨T.na_Sheet_table⟩
  have k_Sheet_age : Nac X.K (He.ga X.K "Sheet") "age" := ⟨T.na_Sheet_age⟩
  have k_Sheet_past : Nac X.K (He.ga X.K "Sheet") "past" := ⟨T.na_Sheet_past⟩
  have k_Sheet_later : Nac X.K (He.ga X.K "Sheet") "later" := ⟨T.na_Sheet_later⟩
  have x_BadLink : Xf X "BadLink" (He.ga X.K "BadLink") "index" 1 := ⟨gn_of hs (by decide +kernel), T.gx_BadLink, T.xo_BadLink, c_BadLink_init T⟩
  show WB X (_ :: _) _ _ _ _ _ _
  obtain ⟨_, a, dx, o, d, l, xs, ds, rfl, ha, ho, hl, hI, hz, q1, q2, q3⟩ := q
  ktf_call "go"
  refine ⟨rfl, o, d, rfl, ho, fun hd => ?_, q1⟩
  have q2 := q2 hd
  have q3 := q3 hd
  ktf_call "go"
  refine ⟨rfl, l, xs, ds, rfl, hl.imp (fun h => h.1) id, hI, hz, fun H1 e1 => ?_⟩
  cases hf : linkFault ds with
  | some i =>
    ktf_call "go"
    intro x H2 hx e2 h2
    have hx0 : H x = none := by
      cases z : H x with
      | none => rfl
      | some o => rw [e1 _ _ z] at hx; cases hx
    exact q2 i x H2 hf hx0 (e1.trans e2) h2
  | none =>
    obtain ⟨lks, rfl⟩ := linkFault_none hf
    have ow : ∃ w, d = .str w ∧ o = .str w := by
      rcases ho.forms with ⟨rfl, rfl⟩ | ⟨b, rfl, rfl⟩ | ⟨n, rfl, rfl⟩ | ⟨x, rfl, rfl⟩ | ⟨a2, ys, es', rfl, rfl, _, _⟩ | ⟨a2, ys, es', rfl, rfl, _⟩
      · cases hd
      · cases hd
      · cases hd
      · exact ⟨x, rfl, rfl⟩
      · cases hd
      · cases hd
    obtain ⟨w, rfl, rfl⟩ := ow
    have q3 := fun p q H' => q3 hf w lks p q H' rfl rfl
    have ha1 := e1 _ _ ha
    ktf_call "ge"
    refine b_cons (s_if ?_)
    ktf_call "ge"
    refine b_cons ?_
    ktf_call "ge"
    rename_i H2 b2 t2 h2
    refine b_cons (s_mid (fun σ' H' => Wd (∃ lk, σ' = [some (.ref a), some (.str w), some (.ref l), some .non, none] ∧ Bt [a] H H' ∧ H' a = some (.ins (He.ga X.K "Sheet") dx [("order", .str w), ("links", .ref lk)]) ∧ Im X.K H' (.ref lk) (.tuple (encL lks)))) ?_ ?_)
    · rcases hl with ⟨hl, hla⟩ | hl
      · have hl2 := bt_sql b2 (e1.seq hl) (by simpa using hla)
        ktf_call "go"
        rename_i lk H3 hT e3 hT1 H4 b4 t4 h4
        exact ⟨lk, rfl, (((Bt.of e1).trans b2).trans (.of e3)).trans b4, h4, .tup (t4.sqt (sqt_new hT1)) ((hI.im.same e1).tx (t2.trans (.trans (.of e3) t4)))⟩
      · have hl2 := t2.sqt (e1.tq hl)
        ktf_call "go"
        rename_i H4 b4 t4 h4
        exact ⟨l, rfl, ((Bt.of e1).trans b2).trans b4, h4, .tup (t4.sqt hl2) ((hI.im.same e1).tx (t2.trans t4))⟩
    · rintro σ' H4 ⟨lk, rfl, b04, h4, i4⟩
      clear b2 t2 h2
      ktf_call "go"
      refine w_dcI [("kind", 4)] (fun sc => (∀ s0 H0 C0 cl fp, Lcc (blkX X sc s0 H0 C0 cl fp) "kind" 4) ∧ (∀ s0 H0 C0 cl fp, Fn (blkX X sc s0 H0 C0 cl fp) "empty_levels" _ (sp_empty_levels X.K)) ∧ True) ⟨fun _ _ _ _ _ => ⟨lc_blk hN hs (by decide +kernel)⟩, fun _ _ _ _ _ => ⟨h_empty_levels, gn_blk hs (by decide +kernel)⟩, trivial⟩ hc nd (by rw [hN, hs]; exact blkOk_by (by decide +kernel)) (fun _ => rfl) ?_
      rintro sc ⟨o_kind, bf_empty_levels, _⟩
      refine wi_tup ?_
      ktf_call "go"
      refine ⟨_, _, rfl, Kt.sq _, _, _, _, walk_tup (xs := [.str "ink", .str "ground", .str "face"]), fun D H5 hD e5 hD5 => ⟨fun i H' => Wd (Same H4 H' ∧ ∃ as : List Addr, as.length = i ∧ H' D = some (.dK (kv3 as)) ∧ ∀ a ∈ as, H4 a = none ∧ LvAt X.K H' a emptyLv), ⟨e5, [], rfl, hD5, by simp⟩, ?_, ?_, ?_⟩⟩
      · intro i H' _ _
        exact Kt.sq _
      · rintro i x H' H6 hi ⟨es, as, hn, hd, hlv⟩ ⟨rfl, hx⟩
        ktf_call "go"
        refine ⟨rfl, rfl, fun p H7 hp e7 hp7 => ?_⟩
        obtain ⟨k, hk, hput⟩ := kv3_put (p := p) hn hi hx
        refine dic_ap hk (e7 _ _ hd) (Nat.lt_of_le_of_lt kv3_length (lt_size (by decide))) fun H8 b8 t8 h8 => ?_
        refine ⟨same_bt (es.trans e7) b8 (off1 hD), as ++ [p], by simp [hn], by rw [h8, hput], fun q hq => ?_⟩
        rcases List.mem_append.mp hq with hq | hq
        · obtain ⟨g1, g2⟩ := hlv q hq
          have g3 := g2.same e7
          exact ⟨g1, g3.bt b8 t8 (by simpa using g3.ne (e7 _ _ hd))⟩
        · obtain rfl := List.mem_singleton.mp hq
          exact ⟨same_none es hp, hp7.bt b8 t8 (by simpa using hp7.ne (e7 _ _ hd))⟩
      · rintro H' ⟨es, as, hn, hd, hlv⟩
        ktf_call "go"
        rename_i H6 b6 t6 h6 H7 b7 t7 h7 P H8 hP e8 hP8 H9 b9 t9 h9 L H10 hL e10 hL10 H11 b11 t11 h11
        match as, hn with
        | [x, y, z], _ =>
          have B : Bt [a] H' H11 := ((((b6.trans b7).trans (.of e8)).trans b9).trans (.of e10)).trans b11
          have TT : Tx H' H11 := ((((t6.trans t7).trans (.of e8)).trans t9).trans (.of e10)).trans t11
          have ne : ∀ {q}, H4 q = none → q ∉ [a] := fun {q} hq hm => by rw [List.mem_singleton.mp hm, h4] at hq; cases hq
          have B0 : Bt [a] H H' := b04.trans (.of es)
          have Pa : P ∉ [a] := fun hm => by rw [List.mem_singleton.mp hm, h7] at hP; cases hP
          have La : L ∉ [a] := fun hm => by rw [List.mem_singleton.mp hm, h9] at hL; cases hL
          have hP0 : H P = none := bt_none (B0.trans (b6.trans b7)) hP Pa
          have hL0 : H L = none := bt_none (B0.trans (((b6.trans b7).trans (.of e8)).trans b9)) hL La
          have hPL : P ≠ L := fun hm => by
            have := b9 _ _ hP8 Pa
            rw [hm, hL] at this
            cases this
          refine q3 P L H11 hP0 hL0 (B0.trans B) ⟨hPL, dx, D, _, _, _, h11, (i4.same es).tx TT, ⟨x, y, z, B _ _ hd (ne hD), ?_, ?_, ?_⟩, ?_, .nil, ?_, .nil⟩
          · exact (hlv x (by simp)).2.bt B TT (ne (hlv x (by simp)).1)
          · exact (hlv y (by simp)).2.bt B TT (ne (hlv y (by simp)).1)
          · exact (hlv z (by simp)).2.bt B TT (ne (hlv z (by simp)).1)
          · exact b11 _ _ (e10 _ _ (b9 _ _ hP8 Pa)) Pa
          · exact b11 _ _ hL10 La
end G

namespace G
open PySem PySem.Spec PyProof.Rows L2 Z
/-! the steps -/
local macro_rules | `(tactic| ktf_call "rf") => `(tactic| first
  | rfl
  | with_unfolding_all rfl
  | (intros; with_unfolding_all rfl)
  | with_unfolding_all decide)
-- tuples, lists, data at the heap at hand
local macro_rules | `(tactic| ktf_call "same") => `(tactic| first
  | with_reducible assumption
  | with_reducible exact Same.refl _
  | ((with_reducible refine Same.trans ?_ (by with_reducible assumption)); ktf_call "same")
  | ((with_reducible refine same_bt ?_ (by with_reducible assumption) (by ktf_call "off")); ktf_call "same"))
local macro_rules | `(tactic| ktf_call "off") => `(tactic| exact off1 (by with_reducible assumption))
local macro_rules | `(tactic| ktf_call "im") => `(tactic| first
  | with_reducible assumption
  | with_reducible exact Im.non
  | with_reducible exact Im.int _
  | with_reducible exact Im.str _
  | with_reducible exact Im.bl _
  | with_reducible exact ImAll.nil
  | ((with_reducible apply im_tx); (with_reducible assumption); (ktf_call "im"))
  | ((with_reducible apply im_same); (with_reducible assumption); (ktf_call "im"))
  | ((with_reducible apply ims_tx); (with_reducible assumption); (ktf_call "im"))
  | ((with_reducible apply ims_same); (with_reducible assumption); (ktf_call "im")))
local macro_rules | `(tactic| ktf_call "sq") => `(tactic| first
  | with_reducible assumption
  | with_reducible exact Kt.sq _
  | ((with_reducible apply sqt_new); (with_reducible assumption))
  | ((with_reducible apply sql_new); (with_reducible assumption))
  | ((with_reducible apply sq_tx); (with_reducible assumption); (ktf_call "sq"))
  | ((with_reducible apply sq_same); (with_reducible assumption); (ktf_call "sq"))
  | ((with_reducible apply Same.seq); (with_reducible assumption); (ktf_call "sq"))
  | ((with_reducible apply sq_bt); (with_reducible assumption); (ktf_call "noff"); (ktf_call "sq")))
local macro_rules | `(tactic| ktf_call "ob") => `(tactic| first
  | with_reducible assumption
  | ((with_reducible apply same_get); (with_reducible assumption); (ktf_call "ob"))
  | ((with_reducible apply ob_bt); (with_reducible assumption); (ktf_call "noff"); (ktf_call "ob")))
local macro_rules | `(tactic| ktf_call "ne1") => `(tactic| first
  | with_reducible assumption
  | ((with_reducible apply Off.l); (with_reducible assumption))
  | ((with_reducible apply dr_ne); (with_reducible assumption); (ktf_call "dr"))
  | ((with_reducible apply fresh_ne); (with_reducible assumption); (with_reducible assumption))
  | ((with_reducible apply fresh_ne); (with_reducible assumption); (ktf_call "ob")))
local macro_rules | `(tactic| ktf_call "ne") => `(tactic| first | ktf_call "ne1" | (refine Ne.symm ?_; ktf_call "ne1"))
local macro_rules | `(tactic| ktf_call "noff") => `(tactic| first
  | with_reducible exact off_nil
  | ((with_reducible apply off_cons); (ktf_call "ne"); (ktf_call "noff")))
local macro_rules | `(tactic| ktf_call "dr") => `(tactic| first
  | with_reducible assumption
  | ((with_reducible apply dr_same); (with_reducible assumption); (ktf_call "dr"))
  | ((with_reducible apply dr_chg); (with_reducible assumption); (with_reducible assumption); (ktf_call "dr")))
local macro_rules | `(tactic| ktf_call "sz") => `(tactic| with_unfolding_all exact Nat.le_of_ble_eq_true rfl)
local macro_rules | `(tactic| ktf_call "sz1") => `(tactic| first | with_unfolding_all decide | with_unfolding_all exact Nat.le_of_ble_eq_true rfl)
local macro_rules | `(tactic| ktf_call "sdc") => `(tactic| first
  | exact rfl
  | exact ⟨rfl, rfl⟩
  | exact ⟨rfl, rfl, rfl⟩
  | exact ⟨rfl, rfl, rfl, rfl, rfl⟩
  | exact ⟨_, rfl⟩
  | ktf_call "rf")
local macro_rules | `(tactic| ktf_call "pos") => `(tactic| first | with_reducible assumption | exact (by decide) | omega)
local macro_rules | `(tactic| ktf_call "lev") => `(tactic| first | exact Nat.le_of_ble_eq_true rfl | with_reducible assumption | with_reducible exact Nat.le_refl _ | omega)
-- one piece of the text
local macro_rules | `(tactic| ktf_call "ge1") => `(tactic| first
  | with_reducible apply stp
  | ((with_reducible apply sl_i); (exact rfl))
  | ((with_reducible apply sd); (ktf_call "sdc"))
  | ((with_reducible apply le_n); (ktf_call "lev"))
  | ((with_reducible apply sz_l); (exact rfl))
  | ((with_reducible apply all_b); intro _ _ _ _ _)
  | ((with_reducible apply new_at); intro _ _ _ _ _)
  | ((with_reducible apply new_ins); intro _ _ _ _ _ _)
  | ((with_reducible apply sub_t); intro _ _ _ _)
  | ((with_reducible apply dr_go); (ktf_call "dr"); (ktf_call "pos"); (ktf_call "pos"); intro _ _ _ _ _ _ _)
  | ((with_reducible apply tg_t); (ktf_call "sq"))
  | ((with_reducible apply tg_l); (ktf_call "sq"))
  | ((with_reducible apply is_l); (ktf_call "sq"))
  | ((with_reducible apply app_to); (ktf_call "ob"); (first | exact lt_size (by omega) | rotate_left); intro _ _ _ _)
  | ((with_reducible apply join_l); (ktf_call "sq"); (ktf_call "lev"))
  | ((with_reducible apply spl_s); (ktf_call "rf"); (ktf_call "lev"))
  | ((with_reducible apply str_i); (ktf_call "lev"))
  | ((with_reducible apply add_gl); (ktf_call "ob"); (ktf_call "ob"); (first | (exact Nat.le_of_ble_eq_true rfl) | (simp only [List.length_map, List.length_cons, List.length_nil, List.length_append]; omega)))
  | ((with_reducible apply tupof_l); (ktf_call "sq"))
  | ((with_reducible apply lstof_l); (ktf_call "sq"))
  | ((with_reducible apply len_l); (ktf_call "sq"))
  | ((with_reducible apply len_t); (ktf_call "sq"))
  | ((with_reducible apply tupof_t); (ktf_call "sq"))
  | ((with_reducible apply lstof_t); (ktf_call "sq"))
  | ((with_reducible apply isi_t); (ktf_call "sq"); (exact inferInstance))
  | ((with_reducible apply isi_l); (ktf_call "sq"); (exact inferInstance))
  | ((with_reducible apply in_t); (ktf_call "sq"); (ktf_call "rf"); (ktf_call "rf"))
  | ((with_reducible apply in_l); (ktf_call "sq"); (ktf_call "rf"); (ktf_call "rf"))
  | ((with_reducible apply nin_t); (ktf_call "sq"); (ktf_call "rf"); (ktf_call "rf"))
  | ((with_reducible apply nin_l); (ktf_call "sq"); (ktf_call "rf"); (ktf_call "rf"))
  | ((with_reducible apply in_ks); (ktf_call "ob"))
  | ((with_reducible apply in_ki); (ktf_call "ob"))
  | ((with_reducible apply fld_g); (ktf_call "ob"); (exact inferInstance); (exact inferInstance); (ktf_call "rf"))
  | ((with_reducible apply put_g); (ktf_call "ob"); (exact inferInstance); (exact inferInstance); (ktf_call "sz1"); intro _ _ _ _)
  | ((with_reducible apply aug_f); (ktf_call "ob"); (exact inferInstance); (exact inferInstance); (ktf_call "rf"))
  | ((with_reducible apply aug_p); (ktf_call "ob"); (ktf_call "sz1"); intro _ _ _ _)
  | ((with_reducible apply ins_m); (ktf_call "ob"); (ktf_call "rf"))
  | ((with_reducible apply sl_l); (ktf_call "sq"))
  | ((with_reducible apply sl_t); (ktf_call "sq"))
  | ((with_reducible apply mul_r); (exact (by decide +kernel)))
  | ((with_reducible apply mod_i); (ktf_call "pos"))
  | ((with_reducible apply div_i); (ktf_call "pos"); (ktf_call "pos"))
  | ((with_reducible apply pow_i); (exact (by decide +kernel)))
  | ((with_reducible apply all_l); (ktf_call "sq"))
  | ((with_reducible apply tru_l); (ktf_call "sq"))
  | ((with_reducible apply tru_t); (ktf_call "sq"))
  | ((with_reducible apply ix_t0); (ktf_call "sq"))
  | ((with_reducible apply ix_t); (ktf_call "sq"); (ktf_call "rf"))
  | ((with_reducible apply ix_l); (ktf_call "sq"); (ktf_call "rf"))
  | ((with_reducible apply ix_tn); (ktf_call "sq"); (exact (by decide)); (exact rfl))
  | ((with_reducible apply ix_ln); (ktf_call "sq"); (exact (by decide)); (exact rfl))
  | ((with_reducible apply if_t); (exact (by decide +kernel)))
  | ((with_reducible apply if_f); (exact (by decide +kernel))))
local macro_rules | `(tactic| ktf_call "ge") => `(tactic| repeat (ktf_call "ge1"))
local macro_rules | `(tactic| ktf_call "gi") => `(tactic| repeat (first | ktf_call "ge1" | with_reducible apply b_cons))
local macro_rules | `(tactic| ktf_call "go") => `(tactic| repeat (first | ktf_call "ge1" | with_reducible apply b_cons | with_reducible apply s_if))
open M
def sp_is_small (K : PySem.W.Frag) : Sp := fun vs H Q _ => vs.length = 1 ∧ ∃ v d, vs = [v] ∧ An K H v d ∧ Q (.bl (isNum d 0 9)) H
theorem c_is_small {P : Program} {w : World} {K : PySem.W.Frag} {mg : Str → Option Value} {base : Heap} (T : Txt K mg) (h_is_number : Cal P w K mg base 1 "is_number" (sp_is_number K))  : Cal P w K mg base 2 "is_small" (sp_is_small K) := by
  obtain ⟨f, fd, F, b⟩ := T.d_is_small
  refine cal_of (N := n_is_small) F b sc_is_small (fun vs H Q E q => q.1) (fun X E h vs H Q q => ?_)
  obtain ⟨hp, hw, hK, hm, hb, hN, hs, hcalm, hfn, hroom, hown, hstk, hfrm, htk⟩ := h
  subst hp hw hK hm hb
  have L := lcs_of hN hs hfn lc_is_small
  have n0 : Lcc X "value" 0 := ⟨L 0 _ rfl (by decide)⟩
  clear L
  have nd : X.N.Nodup := by rw [hN]; decide +kernel
  have hc : Hc X := hc_of hcalm hroom hown
  have rm : Rm X 1 := ⟨hroom⟩
  have tk : Tk X (fun cls d _ H => E cls d H) := ⟨htk⟩
  have fr : Fr X := ⟨hstk, hfrm⟩
  have f_is_number : Fn X "is_number" 1 (sp_is_number X.K) := ⟨h_is_number, gn_of hs (by decide +kernel)⟩
  have g_WIDEST : Gvc X "WIDEST" (.int 9) := ⟨gn_of hs (by decide +kernel), gvi T.gv_WIDEST⟩
  show WB X (_ :: _) _ _ _ _ _ _
  obtain ⟨_, v, d, rfl, hv, q⟩ := q
  ktf_call "go"
  exact ⟨rfl, v, d, 0, 9, rfl, hv, q⟩
def Bd1 (d : PyData) : Prop := ∀ ds, d = .tuple ds → ds.length < 1000
def Bd2 (d : PyData) : Prop := ∀ ds, d = .tuple ds → ∀ e ∈ ds, Bd1 e
def sp_is_small_scope (K : PySem.W.Frag) : Sp := fun vs H Q _ => vs.length = 1 ∧ ∃ v d, vs = [v] ∧ An K H v d ∧ Bd1 d ∧ ∀ H', Same H H' → Q (.bl (isSmallScope d)) H'
theorem c_is_small_scope {P : Program} {w : World} {K : PySem.W.Frag} {mg : Str → Option Value} {base : Heap} (T : Txt K mg) (h_is_scope : Cal P w K mg base 4 "is_scope" (sp_is_scope K)) (h_is_small : Cal P w K mg base 2 "is_small" (sp_is_small K))  : Cal P w K mg base 5 "is_small_scope" (sp_is_small_scope K) := by
  obtain ⟨f, fd, F, b⟩ := T.d_is_small_scope
  refine cal_of (N := n_is_small_scope) F b sc_is_small_scope (fun vs H Q E q => q.1) (fun X E h vs H Q q => ?_)
  obtain ⟨hp, hw, hK, hm, hb, hN, hs, hcalm, hfn, hroom, hown, hstk, hfrm, htk⟩ := h
  subst hp hw hK hm hb
  have L := lcs_of hN hs hfn lc_is_small_scope
  have n0 : Lcc X "value" 0 := ⟨L 0 _ rfl (by decide)⟩
  clear L
  have nd : X.N.Nodup := by rw [hN]; decide +kernel
  have hc : Hc X := hc_of hcalm hroom hown
  have rm : Rm X 4 := ⟨hroom⟩
  have tk : Tk X (fun cls d _ H => E cls d H) := ⟨htk⟩
  have fr : Fr X := ⟨hstk, hfrm⟩
  have f_is_scope : Fn X "is_scope" 4 (sp_is_scope X.K) := ⟨h_is_scope, gn_of hs (by decide +kernel)⟩
  have b_all : Bnc X "all" := ⟨bn_of hs T.fr_all (by decide +kernel)⟩
  show WB X (_ :: _) _ _ _ _ _ _
  obtain ⟨_, v, d, rfl, hv, hb1, q⟩ := q
  ktf_call "go"
  refine ⟨rfl, v, d, rfl, hv, fun H1 e1 => ?_⟩
  ktf_call "go"
  cases hsc : isScope d
  · ktf_call "go"
    have q := q H1 e1
    rw [show isSmallScope d = false by unfold isSmallScope; rw [hsc]; rfl] at q
    exact q
  · obtain ⟨w, r, rfl⟩ := scope_inv hsc
    obtain ⟨a, xs, rfl, h1, h2⟩ := (show ∃ a xs, v = .ref a ∧ SqT X.K H a xs ∧ ImAll X.K H xs (.str w :: r) by
      rcases hv.forms with ⟨_, z⟩ | ⟨b, _, z⟩ | ⟨n, _, z⟩ | ⟨x, _, z⟩ | ⟨a, xs, ds, rfl, z, h1, h2⟩ | ⟨a, xs, ds, rfl, z, h1⟩
      · cases z
      · cases z
      · cases z
      · cases z
      · cases z; exact ⟨a, xs, rfl, h1, h2⟩
      · cases z)
    obtain ⟨x0, xr, rfl, g0, g1⟩ := h2.cons_inv
    obtain rfl := g0.str_inv
    ktf_call "go"
    refine w_lcI [("part", 1)] (fun sc => (∀ s0 H0 C0 cl fp, Lcc (blkX X sc s0 H0 C0 cl fp) "part" 1) ∧ (∀ s0 H0 C0 cl fp, Fn (blkX X sc s0 H0 C0 cl fp) "is_small" _ (sp_is_small X.K)) ∧ True) ⟨fun _ _ _ _ _ => ⟨lc_blk hN hs (by decide +kernel)⟩, fun _ _ _ _ _ => ⟨h_is_small, gn_blk hs (by decide +kernel)⟩, trivial⟩ hc nd (by rw [hN, hs]; exact blkOk_by (by decide +kernel)) (fun _ => rfl) ?_
    rintro sc ⟨o_part, bf_is_small, _⟩
    refine wi_tup ?_
    ktf_call "go"
    rename_i p H2 e2 hp
    rw [cut_tail] at hp
    refine ⟨p, xr, rfl, hp, _, _, _, walk_tup (xs := xr), fun D H3 hD e3 hD3 => ⟨fun i H' => Wd (Same H2 H' ∧ H' D = some (.lst (((r.take i).map smallPart).map V.bl))), ⟨e3, hD3⟩, ?_, ?_, ?_⟩⟩
    · rintro i H' _ ⟨es, _⟩
      exact es.tq hp
    · rintro i x H4 H' hi ⟨es, hl⟩ ⟨rfl, hx⟩
      obtain ⟨dx, j1, j2⟩ := ((g1.same (e1.trans e2)).same es).get hx
      have fin : ∀ H5, Same H' H5 → LstAp H5 D (.bl (smallPart dx)) fun H6 => Wd (Same H2 H6 ∧ H6 D = some (.lst (((r.take (i + 1)).map smallPart).map V.bl))) := fun H5 e5 => lst_ap (e5 _ _ hl) (lt_size (by rw [List.length_map, List.length_map, List.length_take]; have := g1.length; have := hb1 _ rfl; rw [List.length_cons] at this; omega)) fun H6 b6 t6 h6 => ⟨same_bt (es.trans e5) b6 (off1 hD), by rw [h6, take_at j1]; simp⟩
      have call : ∀ {Q : VK}, (∀ H5, Same H' H5 → Q (.bl (isNum dx 0 9)) H5) → sp_is_small X.K [x] H' Q (fun _ _ _ => False) := fun h => ⟨rfl, x, dx, rfl, .im j2, h _ (.refl _)⟩
      rcases j2.forms with ⟨rfl, rfl⟩ | ⟨b, rfl, rfl⟩ | ⟨n, rfl, rfl⟩ | ⟨w, rfl, rfl⟩ | ⟨a2, ys2, es2, rfl, rfl, g1, g2⟩
      · ktf_call "go"
        exact fin _ (.refl _)
      all_goals
        ktf_call "go"
        refine call fun H5 e5 => ?_
        exact fin _ e5
    · rintro H' ⟨es, hl⟩
      rw [take_end (by rw [g1.length]; exact Nat.le_refl _)] at hl
      refine all_l (sql_new hl) ?_
      have q := q H' ((e1.trans e2).trans es)
      rw [show isSmallScope (.tuple (.str w :: r)) = r.all smallPart by unfold isSmallScope; rw [hsc]; rfl] at q
      rw [List.all_map]
      exact q
def sp_is_shift (K : PySem.W.Frag) : Sp := fun vs H Q _ => vs.length = 1 ∧ ∃ a w x y z r da db dc, vs = [.ref a] ∧ SqT K H a (w :: x :: y :: z :: r) ∧ Im K H x da ∧ Im K H y db ∧ Im K H z dc ∧ ∀ H', Same H H' → Q (.bl (isShift da db dc)) H'
theorem c_is_shift {P : Program} {w : World} {K : PySem.W.Frag} {mg : Str → Option Value} {base : Heap} (T : Txt K mg) (h_is_axis : Cal P w K mg base 1 "is_axis" (sp_is_axis K)) (h_is_small : Cal P w K mg base 2 "is_small" (sp_is_small K)) (h_is_number : Cal P w K mg base 1 "is_number" (sp_is_number K))  : Cal P w K mg base 3 "is_shift" (sp_is_shift K) := by
  obtain ⟨f, fd, F, b⟩ := T.d_is_shift
  refine cal_of (N := n_is_shift) F b sc_is_shift (fun vs H Q E q => q.1) (fun X E h vs H Q q => ?_)
  obtain ⟨hp, hw, hK, hm, hb, hN, hs, hcalm, hfn, hroom, hown, hstk, hfrm, htk⟩ := h
  subst hp hw hK hm hb
  have L := lcs_of hN hs hfn lc_is_shift
  have n0 : Lcc X "value" 0 := ⟨L 0 _ rfl (by decide)⟩
  clear L
  have nd : X.N.Nodup := by rw [hN]; decide +kernel
  have hc : Hc X := hc_of hcalm hroom hown
  have rm : Rm X 2 := ⟨hroom⟩
  have tk : Tk X (fun cls d _ H => E cls d H) := ⟨htk⟩
  have fr : Fr X := ⟨hstk, hfrm⟩
  have f_is_axis : Fn X "is_axis" 1 (sp_is_axis X.K) := ⟨h_is_axis, gn_of hs (by decide +kernel)⟩
  have f_is_small : Fn X "is_small" 2 (sp_is_small X.K) := ⟨h_is_small, gn_of hs (by decide +kernel)⟩
  have f_is_number : Fn X "is_number" 1 (sp_is_number X.K) := ⟨h_is_number, gn_of hs (by decide +kernel)⟩
  show WB X (_ :: _) _ _ _ _ _ _
  obtain ⟨_, a, w, x, y, z, r, da, db, dc, rfl, h1, hx, hy, hz, q⟩ := q
  ktf_call "go"
  refine ⟨rfl, x, da, rfl, .im hx, fun H1 e1 => ?_⟩
  ktf_call "go"
  have q := q H1 e1
  unfold isShift at q
  cases h : isAxis da
  · ktf_call "go"
    rw [h] at q
    exact q
  · rw [h] at q
    have h1 := e1.tq h1
    ktf_call "go"
    refine ⟨rfl, y, db, rfl, .im (hy.same e1), ?_⟩
    ktf_call "go"
    cases h2 : isNum db 0 9
    · ktf_call "go"
      rw [h2] at q
      exact q
    · rw [h2] at q
      ktf_call "go"
      exact ⟨rfl, z, dc, 1, 3, rfl, .im (hz.same e1), q⟩
def sp_is_deed (K : PySem.W.Frag) : Sp := fun vs H Q _ => vs.length = 1 ∧ ∃ v d, vs = [v] ∧ An K H v d ∧ Bd2 d ∧ ∀ H', Same H H' → Q (.bl (isDeed d)) H'
theorem c_is_deed {P : Program} {w : World} {K : PySem.W.Frag} {mg : Str → Option Value} {base : Heap} (T : Txt K mg) (h_is_small_scope : Cal P w K mg base 5 "is_small_scope" (sp_is_small_scope K)) (h_is_shift : Cal P w K mg base 3 "is_shift" (sp_is_shift K)) (h_is_small : Cal P w K mg base 2 "is_small" (sp_is_small K)) (h_is_kind : Cal P w K mg base 1 "is_kind" (sp_is_kind K)) (h_is_told_value : Cal P w K mg base 2 "is_told_value" (sp_is_told_value K)) (h_is_cells : Cal P w K mg base 3 "is_cells" (sp_is_cells K))  : Cal P w K mg base 6 "is_deed" (sp_is_deed K) := by
  obtain ⟨f, fd, F, b⟩ := T.d_is_deed
  refine cal_of (N := n_is_deed) F b sc_is_deed (fun vs H Q E q => q.1) (fun X E h vs H Q q => ?_)
  obtain ⟨hp, hw, hK, hm, hb, hN, hs, hcalm, hfn, hroom, hown, hstk, hfrm, htk⟩ := h
  subst hp hw hK hm hb
  have L := lcs_of hN hs hfn lc_is_deed
  have n0 : Lcc X "value" 0 := ⟨L 0 _ rfl (by decide)⟩
  have n1 : Lcc X "word" 1 := ⟨L 1 _ rfl (by decide)⟩
  clear L
  have nd : X.N.Nodup := by rw [hN]; decide +kernel
  have hc : Hc X := hc_of hcalm hroom hown
  have rm : Rm X 5 := ⟨hroom⟩
  have tk : Tk X (fun cls d _ H => E cls d H) := ⟨htk⟩
  have fr : Fr X := ⟨hstk, hfrm⟩
  have f_is_small_scope : Fn X "is_small_scope" 5 (sp_is_small_scope X.K) := ⟨h_is_small_scope, gn_of hs (by decide +kernel)⟩
  have f_is_shift : Fn X "is_shift" 3 (sp_is_shift X.K) := ⟨h_is_shift, gn_of hs (by decide +kernel)⟩
  have f_is_small : Fn X "is_small" 2 (sp_is_small X.K) := ⟨h_is_small, gn_of hs (by decide +kernel)⟩
  have f_is_kind : Fn X "is_kind" 1 (sp_is_kind X.K) := ⟨h_is_kind, gn_of hs (by decide +kernel)⟩
  have f_is_told_value : Fn X "is_told_value" 2 (sp_is_told_value X.K) := ⟨h_is_told_value, gn_of hs (by decide +kernel)⟩
  have f_is_cells : Fn X "is_cells" 3 (sp_is_cells X.K) := ⟨h_is_cells, gn_of hs (by decide +kernel)⟩
  have b_isinstance : Bnc X "isinstance" := ⟨bn_of hs T.fr_isinstance (by decide +kernel)⟩
  have b_tuple : Bnc X "tuple" := ⟨bn_of hs T.fr_tuple (by decide +kernel)⟩
  have b_str : Bnc X "str" := ⟨bn_of hs T.fr_str (by decide +kernel)⟩
  have b_len : Bnc X "len" := ⟨bn_of hs T.fr_len (by decide +kernel)⟩
  show WB X (_ :: _) _ _ _ _ _ _
  obtain ⟨_, v, d, rfl, hv, hb2, q⟩ := q
  rcases hv.forms with ⟨rfl, rfl⟩ | ⟨b, rfl, rfl⟩ | ⟨n, rfl, rfl⟩ | ⟨x, rfl, rfl⟩ | ⟨a, xs, ds, rfl, rfl, h1, h2⟩ | ⟨a, xs, ds, rfl, rfl, h1⟩
  · ktf_call "go"
    exact q _ (.refl _)
  · ktf_call "go"
    exact q _ (.refl _)
  · ktf_call "go"
    exact q _ (.refl _)
  · ktf_call "go"
    exact q _ (.refl _)
  · cases ds with
    | nil =>
      obtain rfl := h2.nil_inv
      ktf_call "go"
      exact q _ (.refl _)
    | cons d0 r =>
      obtain ⟨x0, xr, rfl, g0, g1⟩ := h2.cons_inv
      rcases g0.forms with ⟨rfl, rfl⟩ | ⟨b, rfl, rfl⟩ | ⟨n, rfl, rfl⟩ | ⟨w, rfl, rfl⟩ | ⟨a2, xs2, ds2, rfl, rfl, g5, g6⟩
      · ktf_call "go"
        exact q _ (.refl _)
      · ktf_call "go"
        exact q _ (.refl _)
      · ktf_call "go"
        exact q _ (.refl _)
      · have q : ∀ H', Same H H' → Q (.bl (isDeedW w r)) H' := q
        have hlen := g1.length
        ktf_call "go"
        refine if_d (fun hw => ?_) (fun hw => ?_)
        · subst hw
          ktf_call "go"
          refine if_d (fun hl4 => ?_) (fun hl4 => ?_)
          · rw [List.length_cons] at hl4
            match r, (show r.length = 3 by omega) with
            | [d1, d2, d3], _ =>
              obtain ⟨x1, _, rfl, f1, g1⟩ := g1.cons_inv
              obtain ⟨x2, _, rfl, f2, g1⟩ := g1.cons_inv
              obtain ⟨x3, _, rfl, f3, g1⟩ := g1.cons_inv
              obtain rfl := g1.nil_inv
              rw [deed_tell] at q
              ktf_call "go"
              refine ⟨rfl, x1, d1, rfl, .im f1, hb2 _ rfl d1 (by simp), fun H1 e1 => ?_⟩
              ktf_call "go"
              have q := q H1 e1
              have h1 := e1.tq h1
              cases t1 : isSmallScope d1
              · ktf_call "go"
                rw [t1] at q
                exact q
              · rw [t1] at q
                ktf_call "go"
                refine ⟨rfl, x2, d2, rfl, .im (f2.same e1), ?_⟩
                ktf_call "go"
                cases t2 : isKind d2
                · ktf_call "go"
                  rw [t2] at q
                  exact q
                · rw [t2] at q
                  ktf_call "go"
                  exact ⟨rfl, x3, d3, rfl, .im (f3.same e1), q⟩
          · rw [List.length_cons] at hl4
            rw [deedW4 (.inl rfl) (by omega)] at q
            ktf_call "go"
            exact q _ (.refl _)
        · ktf_call "go"
          refine if_d (fun hw2 => ?_) (fun hw2 => ?_)
          · subst hw2
            ktf_call "go"
            refine if_n (fun hl5 => ?_) (fun hl5 => ?_)
            · rw [List.length_cons] at hl5
              rw [deedW5 (.inl rfl) (by omega)] at q
              ktf_call "go"
              exact q _ (.refl _)
            · rw [List.length_cons] at hl5
              match r, (show r.length = 4 by omega) with
              | [d1, d2, d3, d4], _ =>
                obtain ⟨x1, _, rfl, f1, g1⟩ := g1.cons_inv
                obtain ⟨x2, _, rfl, f2, g1⟩ := g1.cons_inv
                obtain ⟨x3, _, rfl, f3, g1⟩ := g1.cons_inv
                obtain ⟨x4, _, rfl, f4, g1⟩ := g1.cons_inv
                obtain rfl := g1.nil_inv
                rw [deed_insert] at q
                ktf_call "go"
                refine ⟨rfl, a, _, x1, x2, x3, [x4], d1, d2, d3, rfl, h1, f1, f2, f3, fun H1 e1 => ?_⟩
                ktf_call "go"
                have q := q H1 e1
                have h1 := e1.tq h1
                have f4 := f4.same e1
                have f2 := f2.same e1
                cases t1 : isShift d1 d2 d3
                · ktf_call "go"
                  rw [t1] at q
                  exact q
                · rw [t1] at q
                  obtain ⟨_, s2, _⟩ := shift_inv t1
                  obtain ⟨n, rfl, _, _⟩ := num_inv s2
                  obtain rfl := f2.int_inv
                  ktf_call "go"
                  rcases f4.forms with ⟨rfl, rfl⟩ | ⟨b, rfl, rfl⟩ | ⟨m, rfl, rfl⟩ | ⟨y, rfl, rfl⟩ | ⟨a2, ys2, es2, rfl, rfl, j1, j2⟩
                  · ktf_call "go"
                    exact q
                  · ktf_call "go"
                    exact q
                  · ktf_call "go"
                    exact q
                  · ktf_call "go"
                    by_cases hy : y = "plain"
                    · subst hy
                      rw [decide_eq_true rfl]
                      ktf_call "go"
                      exact q
                    · rw [decide_eq_false hy]
                      ktf_call "go"
                      have q : Q (.bl (decide (y = "plain") || (decide (y = "like") && decide (0 < n)))) H1 := q
                      rw [decide_eq_false hy] at q
                      by_cases hy2 : y = "like"
                      · subst hy2
                        rw [decide_eq_true rfl] at q ⊢
                        ktf_call "go"
                        exact q
                      · rw [decide_eq_false hy2] at q ⊢
                        ktf_call "go"
                        exact q
                  · ktf_call "go"
                    exact q
          · ktf_call "go"
            refine if_d (fun hw3 => ?_) (fun hw3 => ?_)
            · subst hw3
              ktf_call "go"
              refine if_d (fun hl4 => ?_) (fun hl4 => ?_)
              · rw [List.length_cons] at hl4
                match r, (show r.length = 3 by omega) with
                | [d1, d2, d3], _ =>
                  obtain ⟨x1, _, rfl, f1, g1⟩ := g1.cons_inv
                  obtain ⟨x2, _, rfl, f2, g1⟩ := g1.cons_inv
                  obtain ⟨x3, _, rfl, f3, g1⟩ := g1.cons_inv
                  obtain rfl := g1.nil_inv
                  rw [deed_remove] at q
                  ktf_call "go"
                  exact ⟨rfl, a, _, x1, x2, x3, [], d1, d2, d3, rfl, h1, f1, f2, f3, q⟩
              · rw [List.length_cons] at hl4
                rw [deedW4 (.inr rfl) (by omega)] at q
                ktf_call "go"
                exact q _ (.refl _)
            · ktf_call "go"
              refine if_d (fun hw4 => ?_) (fun hw4 => ?_)
              · subst hw4
                ktf_call "go"
                refine if_d (fun hl5 => ?_) (fun hl5 => ?_)
                · rw [List.length_cons] at hl5
                  match r, (show r.length = 4 by omega) with
                  | [d1, d2, d3, d4], _ =>
                    obtain ⟨x1, _, rfl, f1, g1⟩ := g1.cons_inv
                    obtain ⟨x2, _, rfl, f2, g1⟩ := g1.cons_inv
                    obtain ⟨x3, _, rfl, f3, g1⟩ := g1.cons_inv
                    obtain ⟨x4, _, rfl, f4, g1⟩ := g1.cons_inv
                    obtain rfl := g1.nil_inv
                    rw [deed_move] at q
                    ktf_call "go"
                    refine ⟨rfl, a, _, x1, x2, x3, [x4], d1, d2, d3, rfl, h1, f1, f2, f3, fun H1 e1 => ?_⟩
                    ktf_call "go"
                    have q := q H1 e1
                    have h1 := e1.tq h1
                    cases t1 : isShift d1 d2 d3
                    · ktf_call "go"
                      rw [t1] at q
                      exact q
                    · rw [t1] at q
                      ktf_call "go"
                      exact ⟨rfl, x4, d4, rfl, .im (f4.same e1), q⟩
                · rw [List.length_cons] at hl5
                  rw [deedW5 (.inr (.inl rfl)) (by omega)] at q
                  ktf_call "go"
                  exact q _ (.refl _)
              · ktf_call "go"
                refine if_n (fun hw5 => ?_) (fun hw5 => ?_)
                · rw [isDeedW_other hw hw2 hw3 hw4 hw5] at q
                  ktf_call "go"
                  exact q _ (.refl _)
                · subst hw5
                  ktf_call "go"
                  refine if_n (fun hl5 => ?_) (fun hl5 => ?_)
                  · rw [List.length_cons] at hl5
                    rw [deedW5 (.inr (.inr rfl)) (by omega)] at q
                    ktf_call "go"
                    exact q _ (.refl _)
                  · rw [List.length_cons] at hl5
                    match r, (show r.length = 4 by omega) with
                    | [d1, d2, d3, d4], _ =>
                      obtain ⟨x1, _, rfl, f1, g1⟩ := g1.cons_inv
                      obtain ⟨x2, _, rfl, f2, g1⟩ := g1.cons_inv
                      obtain ⟨x3, _, rfl, f3, g1⟩ := g1.cons_inv
                      obtain ⟨x4, _, rfl, f4, g1⟩ := g1.cons_inv
                      obtain rfl := g1.nil_inv
                      rw [deed_copy] at q
                      ktf_call "go"
                      refine ⟨rfl, x1, d1, rfl, .im f1, ?_⟩
                      ktf_call "go"
                      cases t1 : isCells d1
                      · ktf_call "go"
                        rw [t1] at q
                        exact q _ (.refl _)
                      · rw [t1] at q
                        ktf_call "go"
                        refine ⟨rfl, x1, d1, rfl, .im f1, hb2 _ rfl d1 (by simp), fun H1 e1 => ?_⟩
                        ktf_call "go"
                        have q := q H1 e1
                        have h1 := e1.tq h1
                        cases t2 : isSmallScope d1
                        · ktf_call "go"
                          rw [t2] at q
                          exact q
                        · rw [t2] at q
                          ktf_call "go"
                          refine ⟨rfl, x2, d2, rfl, .im (f2.same e1), ?_⟩
                          ktf_call "go"
                          cases t3 : isNum d2 0 9
                          · ktf_call "go"
                            rw [t3] at q
                            exact q
                          · rw [t3] at q
                            ktf_call "go"
                            refine ⟨rfl, x3, d3, rfl, .im (f3.same e1), ?_⟩
                            ktf_call "go"
                            cases t4 : isNum d3 0 9
                            · ktf_call "go"
                              rw [t4] at q
                              exact q
                            · rw [t4] at q
                              have f4 := f4.same e1
                              ktf_call "go"
                              rcases f4.forms with ⟨rfl, rfl⟩ | ⟨b, rfl, rfl⟩ | ⟨m, rfl, rfl⟩ | ⟨y, rfl, rfl⟩ | ⟨a2, ys2, es2, rfl, rfl, j1, j2⟩
                              · ktf_call "go"
                                exact q
                              · ktf_call "go"
                                exact q
                              · ktf_call "go"
                                exact q
                              · ktf_call "go"
                                exact q
                              · ktf_call "go"
                                exact q
      · ktf_call "go"
        exact q _ (.refl _)
  · ktf_call "go"
    exact q _ (.refl _)
end G

namespace G
open PySem PySem.Spec PyProof.Rows L2 Z
/-! the steps -/
local macro_rules | `(tactic| ktf_call "rf") => `(tactic| first
  | rfl
  | with_unfolding_all rfl
  | (intros; with_unfolding_all rfl)
  | with_unfolding_all decide)
-- tuples, lists, data at the heap at hand
local macro_rules | `(tactic| ktf_call "same") => `(tactic| first
  | with_reducible assumption
  | with_reducible exact Same.refl _
  | ((with_reducible refine Same.trans ?_ (by with_reducible assumption)); ktf_call "same")
  | ((with_reducible refine same_bt ?_ (by with_reducible assumption) (by ktf_call "off")); ktf_call "same"))
local macro_rules | `(tactic| ktf_call "off") => `(tactic| exact off1 (by with_reducible assumption))
local macro_rules | `(tactic| ktf_call "im") => `(tactic| first
  | with_reducible assumption
  | with_reducible exact Im.non
  | with_reducible exact Im.int _
  | with_reducible exact Im.str _
  | with_reducible exact Im.bl _
  | with_reducible exact ImAll.nil
  | ((with_reducible apply im_tx); (with_reducible assumption); (ktf_call "im"))
  | ((with_reducible apply im_same); (with_reducible assumption); (ktf_call "im"))
  | ((with_reducible apply ims_tx); (with_reducible assumption); (ktf_call "im"))
  | ((with_reducible apply ims_same); (with_reducible assumption); (ktf_call "im")))
local macro_rules | `(tactic| ktf_call "sq") => `(tactic| first
  | with_reducible assumption
  | with_reducible exact Kt.sq _
  | ((with_reducible apply sqt_new); (with_reducible assumption))
  | ((with_reducible apply sql_new); (with_reducible assumption))
  | ((with_reducible apply sq_tx); (with_reducible assumption); (ktf_call "sq"))
  | ((with_reducible apply sq_same); (with_reducible assumption); (ktf_call "sq"))
  | ((with_reducible apply Same.seq); (with_reducible assumption); (ktf_call "sq"))
  | ((with_reducible apply sq_bt); (with_reducible assumption); (ktf_call "noff"); (ktf_call "sq")))
local macro_rules | `(tactic| ktf_call "ob") => `(tactic| first
  | with_reducible assumption
  | ((with_reducible apply same_get); (with_reducible assumption); (ktf_call "ob"))
  | ((with_reducible apply ob_bt); (with_reducible assumption); (ktf_call "noff"); (ktf_call "ob")))
local macro_rules | `(tactic| ktf_call "ne1") => `(tactic| first
  | with_reducible assumption
  | ((with_reducible apply Off.l); (with_reducible assumption))
  | ((with_reducible apply dr_ne); (with_reducible assumption); (ktf_call "dr"))
  | ((with_reducible apply fresh_ne); (with_reducible assumption); (with_reducible assumption))
  | ((with_reducible apply fresh_ne); (with_reducible assumption); (ktf_call "ob")))
local macro_rules | `(tactic| ktf_call "ne") => `(tactic| first | ktf_call "ne1" | (refine Ne.symm ?_; ktf_call "ne1"))
local macro_rules | `(tactic| ktf_call "noff") => `(tactic| first
  | with_reducible exact off_nil
  | ((with_reducible apply off_cons); (ktf_call "ne"); (ktf_call "noff")))
local macro_rules | `(tactic| ktf_call "dr") => `(tactic| first
  | with_reducible assumption
  | ((with_reducible apply dr_same); (with_reducible assumption); (ktf_call "dr"))
  | ((with_reducible apply dr_chg); (with_reducible assumption); (with_reducible assumption); (ktf_call "dr")))
local macro_rules | `(tactic| ktf_call "sz") => `(tactic| with_unfolding_all exact Nat.le_of_ble_eq_true rfl)
local macro_rules | `(tactic| ktf_call "sz1") => `(tactic| first | with_unfolding_all decide | with_unfolding_all exact Nat.le_of_ble_eq_true rfl)
local macro_rules | `(tactic| ktf_call "sdc") => `(tactic| first
  | exact rfl
  | exact ⟨rfl, rfl⟩
  | exact ⟨rfl, rfl, rfl⟩
  | exact ⟨rfl, rfl, rfl, rfl, rfl⟩
  | exact ⟨_, rfl⟩
  | ktf_call "rf")
local macro_rules | `(tactic| ktf_call "pos") => `(tactic| first | with_reducible assumption | exact (by decide) | omega)
local macro_rules | `(tactic| ktf_call "lev") => `(tactic| first | exact Nat.le_of_ble_eq_true rfl | with_reducible assumption | with_reducible exact Nat.le_refl _ | omega)
-- one piece of the text
local macro_rules | `(tactic| ktf_call "ge1") => `(tactic| first
  | with_reducible apply stp
  | ((with_reducible apply sl_i); (exact rfl))
  | ((with_reducible apply sd); (ktf_call "sdc"))
  | ((with_reducible apply le_n); (ktf_call "lev"))
  | ((with_reducible apply sz_l); (exact rfl))
  | ((with_reducible apply all_b); intro _ _ _ _ _)
  | ((with_reducible apply new_at); intro _ _ _ _ _)
  | ((with_reducible apply new_ins); intro _ _ _ _ _ _)
  | ((with_reducible apply sub_t); intro _ _ _ _)
  | ((with_reducible apply dr_go); (ktf_call "dr"); (ktf_call "pos"); (ktf_call "pos"); intro _ _ _ _ _ _ _)
  | ((with_reducible apply tg_t); (ktf_call "sq"))
  | ((with_reducible apply tg_l); (ktf_call "sq"))
  | ((with_reducible apply is_l); (ktf_call "sq"))
  | ((with_reducible apply app_to); (ktf_call "ob"); (first | exact lt_size (by omega) | rotate_left); intro _ _ _ _)
  | ((with_reducible apply join_l); (ktf_call "sq"); (ktf_call "lev"))
  | ((with_reducible apply spl_s); (ktf_call "rf"); (ktf_call "lev"))
  | ((with_reducible apply str_i); (ktf_call "lev"))
  | ((with_reducible apply add_gl); (ktf_call "ob"); (ktf_call "ob"); (first | (exact Nat.le_of_ble_eq_true rfl) | (simp only [List.length_map, List.length_cons, List.length_nil, List.length_append]; omega)))
  | ((with_reducible apply tupof_l); (ktf_call "sq"))
  | ((with_reducible apply lstof_l); (ktf_call "sq"))
  | ((with_reducible apply len_l); (ktf_call "sq"))
  | ((with_reducible apply len_t); (ktf_call "sq"))
  | ((with_reducible apply tupof_t); (ktf_call "sq"))
  | ((with_reducible apply lstof_t); (ktf_call "sq"))
  | ((with_reducible apply isi_t); (ktf_call "sq"); (exact inferInstance))
  | ((with_reducible apply isi_l); (ktf_call "sq"); (exact inferInstance))
  | ((with_reducible apply in_t); (ktf_call "sq"); (ktf_call "rf"); (ktf_call "rf"))
  | ((with_reducible apply in_l); (ktf_call "sq"); (ktf_call "rf"); (ktf_call "rf"))
  | ((with_reducible apply nin_t); (ktf_call "sq"); (ktf_call "rf"); (ktf_call "rf"))
  | ((with_reducible apply nin_l); (ktf_call "sq"); (ktf_call "rf"); (ktf_call "rf"))
  | ((with_reducible apply in_ks); (ktf_call "ob"))
  | ((with_reducible apply in_ki); (ktf_call "ob"))
  | ((with_reducible apply fld_g); (ktf_call "ob"); (exact inferInstance); (exact inferInstance); (ktf_call "rf"))
  | ((with_reducible apply put_g); (ktf_call "ob"); (exact inferInstance); (exact inferInstance); (ktf_call "sz1"); intro _ _ _ _)
  | ((with_reducible apply aug_f); (ktf_call "ob"); (exact inferInstance); (exact inferInstance); (ktf_call "rf"))
  | ((with_reducible apply aug_p); (ktf_call "ob"); (ktf_call "sz1"); intro _ _ _ _)
  | ((with_reducible apply ins_m); (ktf_call "ob"); (ktf_call "rf"))
  | ((with_reducible apply sl_l); (ktf_call "sq"))
  | ((with_reducible apply sl_t); (ktf_call "sq"))
  | ((with_reducible apply mul_r); (exact (by decide +kernel)))
  | ((with_reducible apply mod_i); (ktf_call "pos"))
  | ((with_reducible apply div_i); (ktf_call "pos"); (ktf_call "pos"))
  | ((with_reducible apply pow_i); (exact (by decide +kernel)))
  | ((with_reducible apply all_l); (ktf_call "sq"))
  | ((with_reducible apply tru_l); (ktf_call "sq"))
  | ((with_reducible apply tru_t); (ktf_call "sq"))
  | ((with_reducible apply ix_t0); (ktf_call "sq"))
  | ((with_reducible apply ix_t); (ktf_call "sq"); (ktf_call "rf"))
  | ((with_reducible apply ix_l); (ktf_call "sq"); (ktf_call "rf"))
  | ((with_reducible apply ix_tn); (ktf_call "sq"); (exact (by decide)); (exact rfl))
  | ((with_reducible apply ix_ln); (ktf_call "sq"); (exact (by decide)); (exact rfl))
  | ((with_reducible apply if_t); (exact (by decide +kernel)))
  | ((with_reducible apply if_f); (exact (by decide +kernel))))
local macro_rules | `(tactic| ktf_call "ge") => `(tactic| repeat (ktf_call "ge1"))
local macro_rules | `(tactic| ktf_call "gi") => `(tactic| repeat (first | ktf_call "ge1" | with_reducible apply b_cons))
local macro_rules | `(tactic| ktf_call "go") => `(tactic| repeat (first | ktf_call "ge1" | with_reducible apply b_cons | with_reducible apply s_if))
open M
def firstBad : Nat → List PyData → Option Nat
  | _, [] => none
  | i, d :: r => if isDeed d then firstBad (i + 1) r else some i
def deedFault (ds : List PyData) : Option Nat := if 6 < ds.length then some 6 else firstBad 0 ds
def sp_Deeds_init (K : PySem.W.Frag) : Sp := fun vs H Q E => vs.length = 2 ∧ ∃ a dx l xs ds, vs = [.ref a, .ref l] ∧ H a = some (.ins (He.ga K "Deeds") dx []) ∧ SqL K H l xs ∧ AnAll K H xs ds ∧ l ≠ a ∧ xs.length < 1000 ∧ (∀ d ∈ ds, Bd2 d) ∧
  (∀ i x H', deedFault ds = some i → H x = none → Same H H' → H' x = some (.xd [("index", .int (i : Nat))]) → E (.ref (He.ga K "BadDeed")) (some x) H') ∧
  (deedFault ds = none → ∀ T H', Bt [a] H H' → Tx H H' → H' a = some (.ins (He.ga K "Deeds") dx [("deeds", .ref T)]) → SqT K H' T xs → Q .non H')
theorem c_Deeds_init {P : Program} {w : World} {K : PySem.W.Frag} {mg : Str → Option Value} {base : Heap} (T : Txt K mg) (h_is_deed : Cal P w K mg base 6 "is_deed" (sp_is_deed K))  : Mak P w K mg base 7 "Deeds" (He.ga K "Deeds") (sp_Deeds_init K) := by
  obtain ⟨f, fd, M, hmC, F, b⟩ := T.d_Deeds_init
  refine mak_of (N := n_Deeds_init) M hmC F b sc_Deeds_init (fun vs H Q E q => q.1) (fun X E h vs H Q q => ?_)
  obtain ⟨hp, hw, hK, hm, hb, hN, hs, hcalm, hfn, hroom, hown, hstk, hfrm, htk⟩ := h
  subst hp hw hK hm hb
  have L := lcs_of hN hs hfn lc_Deeds_init
  have n0 : Lcc X "self" 0 := ⟨L 0 _ rfl (by decide)⟩
  have n1 : Lcc X "deeds" 1 := ⟨L 1 _ rfl (by decide)⟩
  have n2 : Lcc X "index" 2 := ⟨L 2 _ rfl (by decide)⟩
  have n3 : Lcc X "deed" 3 := ⟨L 3 _ rfl (by decide)⟩
  clear L
  have nd : X.N.Nodup := by rw [hN]; decide +kernel
  have hc : Hc X := hc_of hcalm hroom hown
  have rm : Rm X 6 := ⟨hroom⟩
  have tk : Tk X (fun cls d _ H => E cls d H) := ⟨htk⟩
  have fr : Fr X := ⟨hstk, hfrm⟩
  have f_is_deed : Fn X "is_deed" 6 (sp_is_deed X.K) := ⟨h_is_deed, gn_of hs (by decide +kernel)⟩
  have b_len : Bnc X "len" := ⟨bn_of hs T.fr_len (by decide +kernel)⟩
  have b_enumerate : Bnc X "enumerate" := ⟨bn_of hs T.fr_enumerate (by decide +kernel)⟩
  have b_tuple : Bnc X "tuple" := ⟨bn_of hs T.fr_tuple (by decide +kernel)⟩
  have g_MOST : Gvc X "MOST_deeds" (.int 6) := ⟨gn_of hs (by decide +kernel), gvi T.gv_MOST_deeds⟩
  have k_Deeds : Clc X.K (He.ga X.K "Deeds") := ⟨T.cl_Deeds⟩
  have k_Deeds_deeds : Nac X.K (He.ga X.K "Deeds") "deeds" := ⟨T.na_Deeds_deeds⟩
  have x_BadDeed : Xf X "BadDeed" (He.ga X.K "BadDeed") "index" 1 := ⟨gn_of hs (by decide +kernel), T.gx_BadDeed, T.xo_BadDeed, c_BadDeed_init T⟩
  show WB X (_ :: _) _ _ _ _ _ _
  obtain ⟨_, a, dx, l, xs, ds, rfl, ha, hl, hI, hla, hz, hb, q1, q2⟩ := q
  have hlen := hI.length
  ktf_call "go"
  refine if_d (fun h6 => ?_) (fun h6 => ?_)
  · ktf_call "go"
    intro x H1 hx e1 h1
    exact q1 6 x H1 (if_pos (by omega)) hx e1 h1
  · have hf : deedFault ds = firstBad 0 ds := if_neg (by omega)
    rw [hf] at q1 q2
    ktf_call "go"
    refine s_for hc (fun _ => rfl) (wi_enum b_enumerate.bn rfl ?_)
    ktf_call "go"
    refine ⟨l, xs, rfl, hl, _, _, _, walk_enum (xs := xs), fun i σ H' => Wd (∃ o2 o3, σ = [some (.ref a), some (.ref l), o2, o3] ∧ Same H H' ∧ firstBad 0 ds = firstBad i (ds.drop i)), ⟨none, none, rfl, .refl _, rfl⟩, ?_, ?_, ?_⟩
    · rintro i σ H' _ ⟨o2, o3, _, es, _⟩
      exact es.seq hl
    · rintro i x σ H' H2 hi ⟨o2, o3, rfl, es, hk⟩ ⟨T, w1, w2, rfl, hT, rfl, hw1, hw2⟩
      cases hw1
      obtain ⟨d, g1, g2⟩ := hI.get hw2
      have e2 : Same H' (upd H' T (.tup [.int (i : Nat), w2])) := same_new hT
      have hT2 : (upd H' T (.tup [.int (i : Nat), w2])) T = some (.tup [.int (i : Nat), w2]) := upd_same
      have es2 := es.trans e2
      have g3 := g2.same es2
      have hd := drop_at g1
      rw [hd] at hk
      generalize upd H' T (.tup [.int (i : Nat), w2]) = H2 at *
      ktf_call "go"
      refine ⟨rfl, w2, d, rfl, g3, hb d (List.mem_of_getElem? g1), fun H3 e3 => ?_⟩
      cases hg : isDeed d
      · ktf_call "go"
        intro x H4 hx e4 h4
        refine q1 i x H4 (hk.trans (by show (if isDeed d then _ else _) = _; rw [hg]; rfl)) (same_none (es2.trans e3) hx) ((es2.trans e3).trans e4) h4
      · ktf_call "go"
        exact ⟨_, _, rfl, es2.trans e3, hk.trans (by show (if isDeed d then _ else _) = _; rw [hg]; rfl)⟩
    · rintro σ H' ⟨o2, o3, rfl, es, hk⟩
      rw [List.drop_of_length_le (by omega)] at hk
      have hl' := es.seq hl
      have ha' := es _ _ ha
      ktf_call "go"
      rename_i T H1 nT e1 hT H2 b2 t2 h2
      exact q2 hk T H2 (.trans (.of (es.trans e1)) b2) (.trans (.of (es.trans e1)) t2) h2 (t2.sqt (sqt_new hT))
end G

namespace G
open PySem PySem.Spec PyProof.Rows L2 Z
/-! the steps -/
local macro_rules | `(tactic| ktf_call "rf") => `(tactic| first
  | rfl
  | with_unfolding_all rfl
  | (intros; with_unfolding_all rfl)
  | with_unfolding_all decide)
-- tuples, lists, data at the heap at hand
local macro_rules | `(tactic| ktf_call "same") => `(tactic| first
  | with_reducible assumption
  | with_reducible exact Same.refl _
  | ((with_reducible refine Same.trans ?_ (by with_reducible assumption)); ktf_call "same")
  | ((with_reducible refine same_bt ?_ (by with_reducible assumption) (by ktf_call "off")); ktf_call "same"))
local macro_rules | `(tactic| ktf_call "off") => `(tactic| exact off1 (by with_reducible assumption))
local macro_rules | `(tactic| ktf_call "im") => `(tactic| first
  | with_reducible assumption
  | with_reducible exact Im.non
  | with_reducible exact Im.int _
  | with_reducible exact Im.str _
  | with_reducible exact Im.bl _
  | with_reducible exact ImAll.nil
  | ((with_reducible apply im_tx); (with_reducible assumption); (ktf_call "im"))
  | ((with_reducible apply im_same); (with_reducible assumption); (ktf_call "im"))
  | ((with_reducible apply ims_tx); (with_reducible assumption); (ktf_call "im"))
  | ((with_reducible apply ims_same); (with_reducible assumption); (ktf_call "im")))
local macro_rules | `(tactic| ktf_call "sq") => `(tactic| first
  | with_reducible assumption
  | with_reducible exact Kt.sq _
  | ((with_reducible apply sqt_new); (with_reducible assumption))
  | ((with_reducible apply sql_new); (with_reducible assumption))
  | ((with_reducible apply sq_tx); (with_reducible assumption); (ktf_call "sq"))
  | ((with_reducible apply sq_same); (with_reducible assumption); (ktf_call "sq"))
  | ((with_reducible apply Same.seq); (with_reducible assumption); (ktf_call "sq"))
  | ((with_reducible apply sq_bt); (with_reducible assumption); (ktf_call "noff"); (ktf_call "sq")))
local macro_rules | `(tactic| ktf_call "ob") => `(tactic| first
  | with_reducible assumption
  | ((with_reducible apply same_get); (with_reducible assumption); (ktf_call "ob"))
  | ((with_reducible apply ob_bt); (with_reducible assumption); (ktf_call "noff"); (ktf_call "ob")))
local macro_rules | `(tactic| ktf_call "ne1") => `(tactic| first
  | with_reducible assumption
  | ((with_reducible apply Off.l); (with_reducible assumption))
  | ((with_reducible apply dr_ne); (with_reducible assumption); (ktf_call "dr"))
  | ((with_reducible apply fresh_ne); (with_reducible assumption); (with_reducible assumption))
  | ((with_reducible apply fresh_ne); (with_reducible assumption); (ktf_call "ob")))
local macro_rules | `(tactic| ktf_call "ne") => `(tactic| first | ktf_call "ne1" | (refine Ne.symm ?_; ktf_call "ne1"))
local macro_rules | `(tactic| ktf_call "noff") => `(tactic| first
  | with_reducible exact off_nil
  | ((with_reducible apply off_cons); (ktf_call "ne"); (ktf_call "noff")))
local macro_rules | `(tactic| ktf_call "dr") => `(tactic| first
  | with_reducible assumption
  | ((with_reducible apply dr_same); (with_reducible assumption); (ktf_call "dr"))
  | ((with_reducible apply dr_chg); (with_reducible assumption); (with_reducible assumption); (ktf_call "dr")))
local macro_rules | `(tactic| ktf_call "sz") => `(tactic| with_unfolding_all exact Nat.le_of_ble_eq_true rfl)
local macro_rules | `(tactic| ktf_call "sz1") => `(tactic| first | with_unfolding_all decide | with_unfolding_all exact Nat.le_of_ble_eq_true rfl)
local macro_rules | `(tactic| ktf_call "sdc") => `(tactic| first
  | exact rfl
  | exact ⟨rfl, rfl⟩
  | exact ⟨rfl, rfl, rfl⟩
  | exact ⟨rfl, rfl, rfl, rfl, rfl⟩
  | exact ⟨_, rfl⟩
  | ktf_call "rf")
local macro_rules | `(tactic| ktf_call "pos") => `(tactic| first | with_reducible assumption | exact (by decide) | omega)
local macro_rules | `(tactic| ktf_call "lev") => `(tactic| first | exact Nat.le_of_ble_eq_true rfl | with_reducible assumption | with_reducible exact Nat.le_refl _ | omega)
-- one piece of the text
local macro_rules | `(tactic| ktf_call "ge1") => `(tactic| first
  | with_reducible apply stp
  | ((with_reducible apply sl_i); (exact rfl))
  | ((with_reducible apply sd); (ktf_call "sdc"))
  | ((with_reducible apply le_n); (ktf_call "lev"))
  | ((with_reducible apply sz_l); (exact rfl))
  | ((with_reducible apply all_b); intro _ _ _ _ _)
  | ((with_reducible apply new_at); intro _ _ _ _ _)
  | ((with_reducible apply new_ins); intro _ _ _ _ _ _)
  | ((with_reducible apply sub_t); intro _ _ _ _)
  | ((with_reducible apply dr_go); (ktf_call "dr"); (ktf_call "pos"); (ktf_call "pos"); intro _ _ _ _ _ _ _)
  | ((with_reducible apply tg_t); (ktf_call "sq"))
  | ((with_reducible apply tg_l); (ktf_call "sq"))
  | ((with_reducible apply is_l); (ktf_call "sq"))
  | ((with_reducible apply app_to); (ktf_call "ob"); (first | exact lt_size (by omega) | rotate_left); intro _ _ _ _)
  | ((with_reducible apply join_l); (ktf_call "sq"); (ktf_call "lev"))
  | ((with_reducible apply spl_s); (ktf_call "rf"); (ktf_call "lev"))
  | ((with_reducible apply str_i); (ktf_call "lev"))
  | ((with_reducible apply add_gl); (ktf_call "ob"); (ktf_call "ob"); (first | (exact Nat.le_of_ble_eq_true rfl) | (simp only [List.length_map, List.length_cons, List.length_nil, List.length_append]; omega)))
  | ((with_reducible apply tupof_l); (ktf_call "sq"))
  | ((with_reducible apply lstof_l); (ktf_call "sq"))
  | ((with_reducible apply len_l); (ktf_call "sq"))
  | ((with_reducible apply len_t); (ktf_call "sq"))
  | ((with_reducible apply tupof_t); (ktf_call "sq"))
  | ((with_reducible apply lstof_t); (ktf_call "sq"))
  | ((with_reducible apply isi_t); (ktf_call "sq"); (exact inferInstance))
  | ((with_reducible apply isi_l); (ktf_call "sq"); (exact inferInstance))
  | ((with_reducible apply in_t); (ktf_call "sq"); (ktf_call "rf"); (ktf_call "rf"))
  | ((with_reducible apply in_l); (ktf_call "sq"); (ktf_call "rf"); (ktf_call "rf"))
  | ((with_reducible apply nin_t); (ktf_call "sq"); (ktf_call "rf"); (ktf_call "rf"))
  | ((with_reducible apply nin_l); (ktf_call "sq"); (ktf_call "rf"); (ktf_call "rf"))
  | ((with_reducible apply in_ks); (ktf_call "ob"))
  | ((with_reducible apply in_ki); (ktf_call "ob"))
  | ((with_reducible apply fld_g); (ktf_call "ob"); (exact inferInstance); (exact inferInstance); (ktf_call "rf"))
  | ((with_reducible apply put_g); (ktf_call "ob"); (exact inferInstance); (exact inferInstance); (ktf_call "sz1"); intro _ _ _ _)
  | ((with_reducible apply aug_f); (ktf_call "ob"); (exact inferInstance); (exact inferInstance); (ktf_call "rf"))
  | ((with_reducible apply aug_p); (ktf_call "ob"); (ktf_call "sz1"); intro _ _ _ _)
  | ((with_reducible apply ins_m); (ktf_call "ob"); (ktf_call "rf"))
  | ((with_reducible apply sl_l); (ktf_call "sq"))
  | ((with_reducible apply sl_t); (ktf_call "sq"))
  | ((with_reducible apply mul_r); (exact (by decide +kernel)))
  | ((with_reducible apply mod_i); (ktf_call "pos"))
  | ((with_reducible apply div_i); (ktf_call "pos"); (ktf_call "pos"))
  | ((with_reducible apply pow_i); (exact (by decide +kernel)))
  | ((with_reducible apply all_l); (ktf_call "sq"))
  | ((with_reducible apply tru_l); (ktf_call "sq"))
  | ((with_reducible apply tru_t); (ktf_call "sq"))
  | ((with_reducible apply ix_t0); (ktf_call "sq"))
  | ((with_reducible apply ix_t); (ktf_call "sq"); (ktf_call "rf"))
  | ((with_reducible apply ix_l); (ktf_call "sq"); (ktf_call "rf"))
  | ((with_reducible apply ix_tn); (ktf_call "sq"); (exact (by decide)); (exact rfl))
  | ((with_reducible apply ix_ln); (ktf_call "sq"); (exact (by decide)); (exact rfl))
  | ((with_reducible apply if_t); (exact (by decide +kernel)))
  | ((with_reducible apply if_f); (exact (by decide +kernel))))
local macro_rules | `(tactic| ktf_call "ge") => `(tactic| repeat (ktf_call "ge1"))
local macro_rules | `(tactic| ktf_call "gi") => `(tactic| repeat (first | ktf_call "ge1" | with_reducible apply b_cons))
local macro_rules | `(tactic| ktf_call "go") => `(tactic| repeat (first | ktf_call "ge1" | with_reducible apply b_cons | with_reducible apply s_if))
open M TL
theorem log_small {i : Int} (h0 : 0 ≤ i) (h1 : i ≤ 9) : i.natAbs.log2 < 1920 := by
  have h : i.natAbs < 2 ^ 1920 := Nat.lt_of_le_of_lt (show i.natAbs ≤ 9 by omega) (by decide +kernel)
  rcases Nat.eq_zero_or_pos i.natAbs with z | z
  · rw [z]; decide
  · exact (Nat.log2_lt (by omega)).mpr h
def sp_word_of (K : PySem.W.Frag) : Sp := fun vs H Q _ => vs.length = 1 ∧ ∃ v o, vs = [v] ∧ Im K H v (encI o) ∧ okV o ∧ Q (.str (wordI o)) H
theorem c_word_of {P : Program} {w : World} {K : PySem.W.Frag} {mg : Str → Option Value} {base : Heap} (T : Txt K mg)   : Cal P w K mg base 1 "word_of" (sp_word_of K) := by
  obtain ⟨f, fd, F, b⟩ := T.d_word_of
  refine cal_of (N := n_word_of) F b sc_word_of (fun vs H Q E q => q.1) (fun X E h vs H Q q => ?_)
  obtain ⟨hp, hw, hK, hm, hb, hN, hs, hcalm, hfn, hroom, hown, hstk, hfrm, htk⟩ := h
  subst hp hw hK hm hb
  have L := lcs_of hN hs hfn lc_word_of
  have n0 : Lcc X "part" 0 := ⟨L 0 _ rfl (by decide)⟩
  clear L
  have nd : X.N.Nodup := by rw [hN]; decide +kernel
  have hc : Hc X := hc_of hcalm hroom hown
  have rm : Rm X 0 := ⟨hroom⟩
  have tk : Tk X (fun cls d _ H => E cls d H) := ⟨htk⟩
  have fr : Fr X := ⟨hstk, hfrm⟩
  have b_str : Bnc X "str" := ⟨bn_of hs T.fr_str (by decide +kernel)⟩
  show WB X (_ :: _) _ _ _ _ _ _
  obtain ⟨_, v, o, rfl, hv, ho, q⟩ := q
  cases o with
  | none =>
    obtain rfl := hv.non_inv
    ktf_call "go"
    exact q
  | some k =>
    obtain rfl := hv.int_inv
    have hlog := log_small ho.1 ho.2
    ktf_call "go"
    exact q
/-- what may be printed -/
def Pr (d : PyData) : Prop := d = .none ∨ (∃ i, d = .int i ∧ 0 ≤ i ∧ i ≤ 9) ∨ ∃ w, d = .str w
def partWord : PyData → Str
  | .none => "-"
  | .int k => num k
  | .str w => w
  | _ => ""
theorem scope_parts (s : Scp) : ∃ ds, encC s = .tuple ds ∧ scopeWords s = ds.map partWord ∧ ds.length ≤ 5 ∧ (okS 9 s → ∀ d ∈ ds, Pr d) := by
  have end_ : ∀ {a : Int} {b : Option Int}, 0 ≤ a → okEnd 9 a b → Pr (encI b) := fun {a b} h0 h => by
    cases b with
    | none => exact .inl rfl
    | some k => exact .inr (.inl ⟨k, rfl, Int.le_trans h0 h.1, h.2⟩)
  cases s with
  | table => exact ⟨_, rfl, rfl, by simp, fun _ d hd => by obtain rfl := List.mem_singleton.mp hd; exact .inr (.inr ⟨_, rfl⟩)⟩
  | rows a b =>
    refine ⟨_, rfl, by cases b <;> rfl, by simp, fun h d hd => ?_⟩
    obtain ⟨h0, h1, h2⟩ := h
    simp only [List.mem_cons, List.not_mem_nil, or_false] at hd
    rcases hd with rfl | rfl | rfl
    · exact .inr (.inr ⟨_, rfl⟩)
    · exact .inr (.inl ⟨_, rfl, h0, h1⟩)
    · exact end_ h0 h2
  | columns a b =>
    refine ⟨_, rfl, by cases b <;> rfl, by simp, fun h d hd => ?_⟩
    obtain ⟨h0, h1, h2⟩ := h
    simp only [List.mem_cons, List.not_mem_nil, or_false] at hd
    rcases hd with rfl | rfl | rfl
    · exact .inr (.inr ⟨_, rfl⟩)
    · exact .inr (.inl ⟨_, rfl, h0, h1⟩)
    · exact end_ h0 h2
  | cells t b l r =>
    refine ⟨_, rfl, rfl, by simp, fun h d hd => ?_⟩
    obtain ⟨h0, h1, h2, h3, h4, h5⟩ := h
    simp only [List.mem_cons, List.not_mem_nil, or_false] at hd
    rcases hd with rfl | rfl | rfl | rfl | rfl
    · exact .inr (.inr ⟨_, rfl⟩)
    · exact .inr (.inl ⟨_, rfl, h0, by omega⟩)
    · exact .inr (.inl ⟨_, rfl, by omega, h2⟩)
    · exact .inr (.inl ⟨_, rfl, h3, by omega⟩)
    · exact .inr (.inl ⟨_, rfl, by omega, h5⟩)
def sp_scope_words (K : PySem.W.Frag) : Sp := fun vs H Q _ => vs.length = 1 ∧ ∃ v ds, vs = [v] ∧ Im K H v (.tuple ds) ∧ (∀ d ∈ ds, Pr d) ∧ ds.length < 1000 ∧ ∀ p H', H p = none → Same H H' → H' p = some (.lst ((ds.map partWord).map .str)) → Q (.ref p) H'
theorem c_scope_words {P : Program} {w : World} {K : PySem.W.Frag} {mg : Str → Option Value} {base : Heap} (T : Txt K mg)   : Cal P w K mg base 1 "scope_words" (sp_scope_words K) := by
  obtain ⟨f, fd, F, b⟩ := T.d_scope_words
  refine cal_of (N := n_scope_words) F b sc_scope_words (fun vs H Q E q => q.1) (fun X E h vs H Q q => ?_)
  obtain ⟨hp, hw, hK, hm, hb, hN, hs, hcalm, hfn, hroom, hown, hstk, hfrm, htk⟩ := h
  subst hp hw hK hm hb
  have L := lcs_of hN hs hfn lc_scope_words
  have n0 : Lcc X "scope" 0 := ⟨L 0 _ rfl (by decide)⟩
  clear L
  have nd : X.N.Nodup := by rw [hN]; decide +kernel
  have hc : Hc X := hc_of hcalm hroom hown
  have rm : Rm X 0 := ⟨hroom⟩
  have tk : Tk X (fun cls d _ H => E cls d H) := ⟨htk⟩
  have fr : Fr X := ⟨hstk, hfrm⟩
  show WB X (_ :: _) _ _ _ _ _ _
  obtain ⟨_, v, ds, rfl, hv, hp, hz, q⟩ := q
  obtain ⟨a, xs, rfl, h1, h2⟩ := hv.tup_inv
  have hlen := h2.length
  ktf_call "go"
  refine w_lcI [("part", 1)] (fun sc => (∀ s0 H0 C0 cl fp, Lcc (blkX X sc s0 H0 C0 cl fp) "part" 1) ∧ (∀ s0 H0 C0 cl fp, Bnc (blkX X sc s0 H0 C0 cl fp) "str") ∧ True) ⟨fun _ _ _ _ _ => ⟨lc_blk hN hs (by decide +kernel)⟩, fun _ _ _ _ _ => ⟨bn_blk hs T.fr_str (by decide +kernel)⟩, trivial⟩ hc nd (by rw [hN, hs]; exact blkOk_by (by decide +kernel)) (fun _ => rfl) ?_
  rintro sc ⟨o_part, bb_str, _⟩
  refine wi_tup ?_
  ktf_call "go"
  refine ⟨a, xs, rfl, h1, _, _, _, walk_tup (xs := xs), fun D H3 hD e3 hD3 => ⟨fun i H' => Wd (Same H H' ∧ H' D = some (.lst (((ds.take i).map partWord).map .str))), ⟨e3, hD3⟩, ?_, ?_, ?_⟩⟩
  · rintro i H' _ ⟨es, _⟩
    exact es.tq h1
  · rintro i x H4 H' hi ⟨es, hl⟩ ⟨rfl, hx⟩
    obtain ⟨d, j1, j2⟩ := (h2.same es).get hx
    have fin : LstAp H' D (.str (partWord d)) fun H6 => Wd (Same H H6 ∧ H6 D = some (.lst (((ds.take (i + 1)).map partWord).map .str))) := lst_ap hl (lt_size (by rw [List.length_map, List.length_map, List.length_take]; omega)) fun H6 b6 t6 h6 => ⟨same_bt es b6 (off1 hD), by rw [h6, take_at j1]; simp⟩
    rcases hp d (List.mem_of_getElem? j1) with rfl | ⟨k, rfl, k0, k1⟩ | ⟨w, rfl⟩
    · obtain rfl := j2.non_inv
      ktf_call "go"
      exact fin
    · obtain rfl := j2.int_inv
      have hlog := log_small k0 k1
      ktf_call "go"
      exact fin
    · obtain rfl := j2.str_inv
      ktf_call "go"
      exact fin
  · rintro H' ⟨es, hl⟩
    rw [take_end (by omega)] at hl
    exact q D H' hD es hl
def sp_deed_line (K : PySem.W.Frag) : Sp := fun vs H Q _ => vs.length = 1 ∧ ∃ v d, vs = [v] ∧ Im K H v (encDeed d) ∧ okD d ∧ ∀ H', Same H H' → Q (.str (line d)) H'
theorem line_room {d : Deed} (h : okD d) : ((lineWords d).map (·.length)).sum + (lineWords d).length * (" " : Str).length ≤ 16777216 := by
  have h2 := sum_le fun w hw => (line_words h w hw).2.2
  have h3 := (line_count d).2
  have h4 : (" " : Str).length = 1 := by decide +kernel
  rw [h4]
  omega
theorem pr_deed {d : Deed} (h : okD d) : ∀ ds, encDeed d = .tuple ds → (∀ s k v, d ≠ .tell s k v) → (∀ t b l r row col how, d ≠ .copy t b l r row col how) → (∀ e ∈ ds, Pr e) ∧ lineWords d = ds.map partWord ∧ ds.length ≤ 5 := by
  intro ds e h1 h2
  cases d with
  | tell s k v => exact absurd rfl (h1 s k v)
  | copy t b l r row col how => exact absurd rfl (h2 t b l r row col how)
  | insert ax a m hh =>
    cases e
    obtain ⟨g1, g2, g3, g4, g5, g6⟩ := h
    refine ⟨fun e he => ?_, rfl, by simp⟩
    simp only [List.mem_cons, List.not_mem_nil, or_false] at he
    rcases he with rfl | rfl | rfl | rfl | rfl
    · exact .inr (.inr ⟨_, rfl⟩)
    · exact .inr (.inr ⟨_, rfl⟩)
    · exact .inr (.inl ⟨_, rfl, g2, g3⟩)
    · exact .inr (.inl ⟨_, rfl, by omega, by omega⟩)
    · exact .inr (.inr ⟨_, rfl⟩)
  | remove ax a m =>
    cases e
    obtain ⟨g1, g2, g3, g4, g5⟩ := h
    refine ⟨fun e he => ?_, rfl, by simp⟩
    simp only [List.mem_cons, List.not_mem_nil, or_false] at he
    rcases he with rfl | rfl | rfl | rfl
    · exact .inr (.inr ⟨_, rfl⟩)
    · exact .inr (.inr ⟨_, rfl⟩)
    · exact .inr (.inl ⟨_, rfl, g2, g3⟩)
    · exact .inr (.inl ⟨_, rfl, by omega, by omega⟩)
  | move ax a m t =>
    cases e
    obtain ⟨g1, g2, g3, g4, g5, g6, g7⟩ := h
    refine ⟨fun e he => ?_, rfl, by simp⟩
    simp only [List.mem_cons, List.not_mem_nil, or_false] at he
    rcases he with rfl | rfl | rfl | rfl | rfl
    · exact .inr (.inr ⟨_, rfl⟩)
    · exact .inr (.inr ⟨_, rfl⟩)
    · exact .inr (.inl ⟨_, rfl, g2, g3⟩)
    · exact .inr (.inl ⟨_, rfl, by omega, by omega⟩)
    · exact .inr (.inl ⟨_, rfl, g6, g7⟩)
theorem deed_cases (d : Deed) : (∃ s k v, d = .tell s k v) ∨ (∃ t b l r row col how, d = .copy t b l r row col how) ∨ (okD d → ∃ w r, encDeed d = .tuple (.str w :: r) ∧ w ≠ "tell" ∧ w ≠ "copy" ∧ (∀ e ∈ (.str w :: r : List PyData), Pr e) ∧ (∀ e ∈ (.str w :: r : List PyData), e ≠ .none) ∧ lineWords d = (.str w :: r : List PyData).map partWord ∧ r.length ≤ 4) := by
  cases d with
  | tell s k v => exact .inl ⟨_, _, _, rfl⟩
  | copy t b l r row col how => exact .inr (.inl ⟨_, _, _, _, _, _, _, rfl⟩)
  | insert ax a m hh =>
    refine .inr (.inr fun hd => ?_)
    obtain ⟨p1, p2, p3⟩ := pr_deed hd _ rfl (fun _ _ _ h => by cases h) (fun _ _ _ _ _ _ _ h => by cases h)
    exact ⟨_, _, rfl, by decide +kernel, by decide +kernel, p1, by simp, p2, by simp⟩
  | remove ax a m =>
    refine .inr (.inr fun hd => ?_)
    obtain ⟨p1, p2, p3⟩ := pr_deed hd _ rfl (fun _ _ _ h => by cases h) (fun _ _ _ _ _ _ _ h => by cases h)
    exact ⟨_, _, rfl, by decide +kernel, by decide +kernel, p1, by simp, p2, by simp⟩
  | move ax a m t =>
    refine .inr (.inr fun hd => ?_)
    obtain ⟨p1, p2, p3⟩ := pr_deed hd _ rfl (fun _ _ _ h => by cases h) (fun _ _ _ _ _ _ _ h => by cases h)
    exact ⟨_, _, rfl, by decide +kernel, by decide +kernel, p1, by simp, p2, by simp⟩
theorem deed_head (d : Deed) : ∃ w r, encDeed d = .tuple (.str w :: r) ∧ r.length ≤ 4 := by
  cases d with
  | tell s k v => exact ⟨_, _, rfl, by simp⟩
  | insert ax a m hh => exact ⟨_, _, rfl, by simp⟩
  | remove ax a m => exact ⟨_, _, rfl, by simp⟩
  | move ax a m t => exact ⟨_, _, rfl, by simp⟩
  | copy t b l r row col how => exact ⟨_, _, rfl, by simp⟩
theorem c_deed_line {P : Program} {w : World} {K : PySem.W.Frag} {mg : Str → Option Value} {base : Heap} (T : Txt K mg) (h_scope_words : Cal P w K mg base 1 "scope_words" (sp_scope_words K)) (h_word_of : Cal P w K mg base 1 "word_of" (sp_word_of K))  : Cal P w K mg base 2 "deed_line" (sp_deed_line K) := by
  obtain ⟨f, fd, F, b⟩ := T.d_deed_line
  refine cal_of (N := n_deed_line) F b sc_deed_line (fun vs H Q E q => q.1) (fun X E h vs H Q q => ?_)
  obtain ⟨hp, hw, hK, hm, hb, hN, hs, hcalm, hfn, hroom, hown, hstk, hfrm, htk⟩ := h
  subst hp hw hK hm hb
  have L := lcs_of hN hs hfn lc_deed_line
  have n0 : Lcc X "deed" 0 := ⟨L 0 _ rfl (by decide)⟩
  clear L
  have nd : X.N.Nodup := by rw [hN]; decide +kernel
  have hc : Hc X := hc_of hcalm hroom hown
  have rm : Rm X 1 := ⟨hroom⟩
  have tk : Tk X (fun cls d _ H => E cls d H) := ⟨htk⟩
  have fr : Fr X := ⟨hstk, hfrm⟩
  have f_scope_words : Fn X "scope_words" 1 (sp_scope_words X.K) := ⟨h_scope_words, gn_of hs (by decide +kernel)⟩
  have f_word_of : Fn X "word_of" 1 (sp_word_of X.K) := ⟨h_word_of, gn_of hs (by decide +kernel)⟩
  show WB X (_ :: _) _ _ _ _ _ _
  obtain ⟨_, v, d, rfl, hv, hd, q⟩ := q
  have hroom := line_room hd
  rcases deed_cases d with ⟨s, k, o, rfl⟩ | ⟨t, b, l, r, row, col, how, rfl⟩ | hrest
  · obtain ⟨ds, e1, e2, e3, e4⟩ := scope_parts s
    have hv' : Im X.K H v (.tuple [.str "tell", encC s, .str k, encI o]) := hv
    obtain ⟨a, xs, rfl, h1, h2⟩ := hv'.tup_inv
    obtain ⟨x0, _, rfl, f0, h2⟩ := h2.cons_inv
    obtain ⟨x1, _, rfl, f1, h2⟩ := h2.cons_inv
    obtain ⟨x2, _, rfl, f2, h2⟩ := h2.cons_inv
    obtain ⟨x3, _, rfl, f3, h2⟩ := h2.cons_inv
    obtain rfl := h2.nil_inv
    obtain rfl := f0.str_inv
    obtain rfl := f2.str_inv
    ktf_call "go"
    rename_i P H1 nP i1 hP
    rw [e1] at f1
    refine ⟨rfl, x1, ds, rfl, f1.same i1, e4 hd.1, by omega, fun p H2 np i2 hp => ?_⟩
    rw [← e2] at hp
    have hl5 : (scopeWords s).length ≤ 5 := by cases s <;> simp [scopeWords]
    ktf_call "go"
    have f3 := (f3.same i1).same i2
    refine ⟨rfl, x3, o, rfl, f3.same (by assumption), hd.2.2, ?_⟩
    ktf_call "go"
    rename_i A1 J1 m1 j1 g1 A2 J2 m2 j2 g2 A3 J3 m3 j3 g3
    have g3' : J3 A3 = some (.lst ((lineWords (.tell s k o)).map .str)) := by rw [g3]; simp [lineWords]
    refine join_l (sql_new g3') hroom ?_
    exact q _ ((((i1.trans i2).trans j1).trans j2).trans j3)
  · have hv' : Im X.K H v (.tuple [.str "copy", .tuple [.str "cells", .int t, .int b, .int l, .int r], .int row, .int col, .str how]) := hv
    obtain ⟨a, xs, rfl, h1, h2⟩ := hv'.tup_inv
    obtain ⟨x0, _, rfl, f0, h2⟩ := h2.cons_inv
    obtain ⟨x1, _, rfl, f1, h2⟩ := h2.cons_inv
    have h2' := h2
    obtain ⟨x2, _, rfl, f2, h2⟩ := h2.cons_inv
    obtain ⟨x3, _, rfl, f3, h2⟩ := h2.cons_inv
    obtain ⟨x4, _, rfl, f4, h2⟩ := h2.cons_inv
    obtain rfl := h2.nil_inv
    obtain rfl := f0.str_inv
    obtain ⟨sa, sx, rfl, s1, s2⟩ := f1.tup_inv
    obtain ⟨w0, sr, rfl, k0, k1⟩ := s2.cons_inv
    obtain ⟨o1, o2, o3, o4, o5, rfl⟩ := hd
    have hd : okD (.copy t b l r row col "tellings") := ⟨o1, o2, o3, o4, o5, rfl⟩
    have prs : ∀ d ∈ ([.int t, .int b, .int l, .int r] : List PyData), Pr d := by
      obtain ⟨e0, e1, e2, e3, e4, e5⟩ := o1
      intro d hd
      simp only [List.mem_cons, List.not_mem_nil, or_false] at hd
      rcases hd with rfl | rfl | rfl | rfl
      · exact .inr (.inl ⟨_, rfl, e0, by omega⟩)
      · exact .inr (.inl ⟨_, rfl, by omega, e2⟩)
      · exact .inr (.inl ⟨_, rfl, e3, by omega⟩)
      · exact .inr (.inl ⟨_, rfl, by omega, e5⟩)
    ktf_call "go"
    rename_i P H1 nP i1 hP T2 H2 i2 hT
    rw [cut_tail] at hT
    refine ⟨rfl, .ref T2, _, rfl, .tup hT ((k1.same i1).same i2), prs, by simp, fun p H3 np i3 hp => ?_⟩
    ktf_call "go"
    have pr2 : ∀ d ∈ ([.int row, .int col, .str "tellings"] : List PyData), Pr d := by
      intro d hd
      simp only [List.mem_cons, List.not_mem_nil, or_false] at hd
      rcases hd with rfl | rfl | rfl
      · exact .inr (.inl ⟨_, rfl, o2, o3⟩)
      · exact .inr (.inl ⟨_, rfl, o4, o5⟩)
      · exact .inr (.inr ⟨_, rfl⟩)
    rename_i P4 H4 n4 i4 h4
    have i04 := ((i1.trans i2).trans i3).trans i4
    have h14 := i04.tq h1
    have I4 : ImAll X.K H4 [x2, x3, x4] [.int row, .int col, .str "tellings"] := (ImAll.cons f2 (.cons f3 (.one f4))).same i04
    clear i1 i2 i3 hP hT hp f2 f3 f4
    refine w_lcI [("part", 1)] (fun sc => (∀ s0 H0 C0 cl fp, Lcc (blkX X sc s0 H0 C0 cl fp) "part" 1) ∧ (∀ s0 H0 C0 cl fp, Bnc (blkX X sc s0 H0 C0 cl fp) "str") ∧ True) ⟨fun _ _ _ _ _ => ⟨lc_blk hN hs (by decide +kernel)⟩, fun _ _ _ _ _ => ⟨bn_blk hs T.fr_str (by decide +kernel)⟩, trivial⟩ hc nd (by rw [hN, hs]; exact blkOk_by (by decide +kernel)) (fun _ => rfl) ?_
    rintro sc ⟨o_part, bb_str, _⟩
    refine wi_tup ?_
    ktf_call "go"
    rename_i T5 H5 i5 hT5
    refine ⟨T5, [x2, x3, x4], rfl, hT5, _, _, _, walk_tup (xs := [x2, x3, x4]), fun D H6 hD e6 hD6 => ⟨fun i H' => Wd (Same H5 H' ∧ H' D = some (.lst (((([.int row, .int col, .str "tellings"] : List PyData).take i).map partWord).map .str))), ⟨e6, hD6⟩, ?_, ?_, ?_⟩⟩
    · rintro i H' _ ⟨es, _⟩
      exact es.tq hT5
    · rintro i x H7 H' hi ⟨es, hl⟩ ⟨rfl, hx⟩
      obtain ⟨d, j1, j2⟩ := ((I4.same i5).same es).get hx
      have fin : LstAp H' D (.str (partWord d)) fun H6 => Wd (Same H5 H6 ∧ H6 D = some (.lst (((([.int row, .int col, .str "tellings"] : List PyData).take (i + 1)).map partWord).map .str))) := lst_ap hl (lt_size (by rw [List.length_map, List.length_map, List.length_take]; simp; omega)) fun H6 b6 t6 h6 => ⟨same_bt es b6 (off1 hD), by rw [h6, take_at j1]; simp⟩
      rcases pr2 d (List.mem_of_getElem? j1) with rfl | ⟨k, rfl, k0, k1⟩ | ⟨w, rfl⟩
      · have := List.mem_of_getElem? j1
        simp at this
      · obtain rfl := j2.int_inv
        have hlog := log_small k0 k1
        ktf_call "go"
        exact fin
      · obtain rfl := j2.str_inv
        ktf_call "go"
        exact fin
    · rintro H' ⟨es, hl⟩
      have h4' := es _ _ (i5 _ _ h4)
      refine add_gl h4' hl (by simp) ?_
      ktf_call "go"
      rename_i P8 H8 n8 i8 h8
      refine join_l (a := " ") (ys := lineWords (.copy t b l r row col "tellings")) (sql_new (by rw [h8]; rfl)) hroom ?_
      exact q _ (((i04.trans i5).trans es).trans i8)
  · obtain ⟨w0, r0, hds, n1, n2, p1, p4, p2, p3⟩ := hrest hd
    rw [hds] at hv
    obtain ⟨a, xs, rfl, h1, h2⟩ := hv.tup_inv
    have h2' := h2
    obtain ⟨x0, xr, rfl, f0, g0⟩ := h2.cons_inv
    obtain rfl := f0.str_inv
    have hlen := h2'.length
    have hlen2 : (PyData.str w0 :: r0).length ≤ 5 := by rw [List.length_cons]; omega
    ktf_call "go"
    refine if_d (fun h => absurd h n1) (fun _ => ?_)
    ktf_call "go"
    refine if_d (fun h => absurd h n2) (fun _ => ?_)
    ktf_call "go"
    refine w_lcI [("part", 1)] (fun sc => (∀ s0 H0 C0 cl fp, Lcc (blkX X sc s0 H0 C0 cl fp) "part" 1) ∧ (∀ s0 H0 C0 cl fp, Bnc (blkX X sc s0 H0 C0 cl fp) "str") ∧ True) ⟨fun _ _ _ _ _ => ⟨lc_blk hN hs (by decide +kernel)⟩, fun _ _ _ _ _ => ⟨bn_blk hs T.fr_str (by decide +kernel)⟩, trivial⟩ hc nd (by rw [hN, hs]; exact blkOk_by (by decide +kernel)) (fun _ => rfl) ?_
    rintro sc ⟨o_part, bb_str, _⟩
    refine wi_tup ?_
    ktf_call "go"
    refine ⟨a, _, rfl, h1, _, _, _, walk_tup (xs := V.str w0 :: xr), fun D H6 hD e6 hD6 => ⟨fun i H' => Wd (Same H H' ∧ H' D = some (.lst ((((PyData.str w0 :: r0).take i).map partWord).map .str))), ⟨e6, hD6⟩, ?_, ?_, ?_⟩⟩
    · rintro i H' _ ⟨es, _⟩
      exact es.tq h1
    · rintro i x H7 H' hi ⟨es, hl⟩ ⟨rfl, hx⟩
      obtain ⟨d, j1, j2⟩ := (h2'.same es).get hx
      have fin : LstAp H' D (.str (partWord d)) fun H6 => Wd (Same H H6 ∧ H6 D = some (.lst ((((PyData.str w0 :: r0).take (i + 1)).map partWord).map .str))) := lst_ap hl (lt_size (by rw [List.length_map, List.length_map, List.length_take]; omega)) fun H6 b6 t6 h6 => ⟨same_bt es b6 (off1 hD), by rw [h6, take_at j1]; simp⟩
      rcases p1 d (List.mem_of_getElem? j1) with rfl | ⟨k, rfl, k0, k1⟩ | ⟨w, rfl⟩
      · exact absurd rfl (p4 _ (List.mem_of_getElem? j1))
      · obtain rfl := j2.int_inv
        have hlog := log_small k0 k1
        ktf_call "go"
        exact fin
      · obtain rfl := j2.str_inv
        ktf_call "go"
        exact fin
    · rintro H' ⟨es, hl⟩
      rw [take_end (by omega), ← p2] at hl
      refine join_l (sql_new hl) hroom ?_
      exact q _ es
/-- an instance of Deeds with these deeds -/
def DsAt (K : PySem.W.Frag) (H : Hp) (a : Addr) (ds : List Deed) : Prop := ∃ dx T xs, H a = some (.ins (He.ga K "Deeds") dx [("deeds", .ref T)]) ∧ SqT K H T xs ∧ ImAll K H xs (ds.map encDeed)
theorem DsAt.same {K : PySem.W.Frag} {H H' : Hp} {a : Addr} {ds : List Deed} (h : DsAt K H a ds) (e : Same H H') : DsAt K H' a ds := by
  obtain ⟨dx, T, xs, h1, h2, h3⟩ := h
  exact ⟨dx, T, xs, e _ _ h1, e.tq h2, h3.same e⟩
theorem enc_bd (d : Deed) : Bd2 (encDeed d) := by
  intro ds e x hx es e2
  cases d with
  | tell s k v =>
    cases e
    simp only [List.mem_cons, List.not_mem_nil, or_false] at hx
    rcases hx with rfl | rfl | rfl | rfl
    · cases e2
    · cases s <;> (cases e2; simp)
    · cases e2
    · cases v <;> cases e2
  | insert ax a m hh =>
    cases e
    simp only [List.mem_cons, List.not_mem_nil, or_false] at hx
    rcases hx with rfl | rfl | rfl | rfl | rfl <;> cases e2
  | remove ax a m =>
    cases e
    simp only [List.mem_cons, List.not_mem_nil, or_false] at hx
    rcases hx with rfl | rfl | rfl | rfl <;> cases e2
  | move ax a m t =>
    cases e
    simp only [List.mem_cons, List.not_mem_nil, or_false] at hx
    rcases hx with rfl | rfl | rfl | rfl | rfl <;> cases e2
  | copy t b l r row col how =>
    cases e
    simp only [List.mem_cons, List.not_mem_nil, or_false] at hx
    rcases hx with rfl | rfl | rfl | rfl | rfl
    · cases e2
    · cases e2; simp
    · cases e2
    · cases e2
    · cases e2
theorem fault_ok : ∀ {ds : List Deed}, ds.length ≤ 6 → (∀ d ∈ ds, okD d) → deedFault (ds.map encDeed) = none := by
  have key : ∀ (ds : List Deed) (i : Nat), (∀ d ∈ ds, okD d) → firstBad i (ds.map encDeed) = none := by
    intro ds
    induction ds with
    | nil => intro i _; rfl
    | cons d r ih =>
      intro i h
      show (if isDeed (encDeed d) then _ else _) = none
      rw [deed_ok (h d (by simp))]
      exact ih (i + 1) fun e he => h e (by simp [he])
  intro ds h1 h2
  unfold deedFault
  rw [if_neg (by rw [List.length_map]; omega)]
  exact key ds 0 h2
def sp_write (K : PySem.W.Frag) : Sp := fun vs H Q _ => vs.length = 1 ∧ ∃ a ds, vs = [.ref a] ∧ DsAt K H a ds ∧ (∀ d ∈ ds, okD d) ∧ ds.length ≤ 6 ∧ ∀ H', Same H H' → Q (.str (Txt.join "\n" (ds.map line))) H'
theorem text_room {ds : List Deed} (h1 : ds.length ≤ 6) (h : ∀ d ∈ ds, okD d) : (((ds.map line).map (·.length)).sum + (ds.map line).length * ("\n" : Str).length ≤ 16777216) := by
  have h2 := sum_le (k := 88) (ws := ds.map line) fun w hw => by
    obtain ⟨d, hd, rfl⟩ := List.mem_map.mp hw
    exact line_len (h d hd)
  have h4 : ("\n" : Str).length = 1 := by decide +kernel
  rw [h4]
  rw [List.length_map] at h2 ⊢
  omega
def sp_part_of (K : PySem.W.Frag) : Sp := fun vs H Q _ => vs.length = 1 ∧ ∃ (w : Str), vs = [.str w] ∧ w.length ≤ 1000000 ∧ ∀ v, Im K H v (partOf w) → Q v H
theorem figures : tl ("0123456789" : Str) = [48, 49, 50, 51, 52, 53, 54, 55, 56, 57] := by decide +kernel
theorem one_sign {w : Str} (h : w.length = 1) : ∃ c, w = ⟨#[c]⟩ := by
  rw [len_tl] at h
  match e : tl w, h with
  | [c], _ => exact ⟨c, ext_tl e⟩
theorem c_part_of {P : Program} {w : World} {K : PySem.W.Frag} {mg : Str → Option Value} {base : Heap} (T : Txt K mg)   : Cal P w K mg base 1 "part_of" (sp_part_of K) := by
  obtain ⟨f, fd, F, b⟩ := T.d_part_of
  refine cal_of (N := n_part_of) F b sc_part_of (fun vs H Q E q => q.1) (fun X E h vs H Q q => ?_)
  obtain ⟨hp, hw, hK, hm, hb, hN, hs, hcalm, hfn, hroom, hown, hstk, hfrm, htk⟩ := h
  subst hp hw hK hm hb
  have L := lcs_of hN hs hfn lc_part_of
  have n0 : Lcc X "word" 0 := ⟨L 0 _ rfl (by decide)⟩
  clear L
  have nd : X.N.Nodup := by rw [hN]; decide +kernel
  have hc : Hc X := hc_of hcalm hroom hown
  have rm : Rm X 0 := ⟨hroom⟩
  have tk : Tk X (fun cls d _ H => E cls d H) := ⟨htk⟩
  have fr : Fr X := ⟨hstk, hfrm⟩
  have b_len : Bnc X "len" := ⟨bn_of hs T.fr_len (by decide +kernel)⟩
  have b_int : Bnc X "int" := ⟨bn_of hs T.fr_int (by decide +kernel)⟩
  have g_FIGURES : Gvc X "FIGURES" (.str "0123456789") := ⟨gn_of hs (by decide +kernel), gvs T.gv_FIGURES⟩
  show WB X (_ :: _) _ _ _ _ _ _
  obtain ⟨_, w, rfl, hz, q⟩ := q
  ktf_call "go"
  refine len_s (le_size (by omega)) ?_
  ktf_call "go"
  refine if_d (fun h1 => ?_) (fun h1 => ?_)
  · obtain ⟨c, rfl⟩ := one_sign (show w.length = 1 by omega)
    ktf_call "go"
    refine in_sign ?_
    ktf_call "go"
    have hm : (c ∈ ("0123456789" : Str).cps.toList) ↔ 48 ≤ c ∧ c ≤ 57 := by
      rw [show ("0123456789" : Str).cps.toList = [48, 49, 50, 51, 52, 53, 54, 55, 56, 57] from figures]
      simp only [List.mem_cons, List.not_mem_nil, or_false]
      omega
    refine if_d (fun hin => ?_) (fun hin => ?_)
    · have hc2 := hm.mp hin
      obtain ⟨k, rfl⟩ : ∃ k, c = 48 + k := ⟨c - 48, by omega⟩
      have hk : k < 10 := by omega
      have ht : tl (⟨#[48 + k]⟩ : Str) = numL k := by rw [numL_lt hk]
      have hi : PySem.intText? ⟨#[48 + k]⟩ = some ((k : Nat) : Int) := by
        rw [intText_digits (x := ⟨#[48 + k]⟩) (by rw [show (⟨#[48 + k]⟩ : Str).cps.toList = numL k from ht]; exact numL_digits k) (by simp) (by omega), show (⟨#[48 + k]⟩ : Str).cps.toList = numL k from ht, numL_val]
      ktf_call "go"
      refine int_s hi (by omega) ?_
      refine q _ ?_
      have hf : partOf ⟨#[48 + k]⟩ = .int (k : Nat) := by
        unfold partOf fig
        show (match (if 48 ≤ 48 + k ∧ 48 + k ≤ 57 then some (48 + k - 48) else none) with | some k => PyData.int (k : Int) | none => _) = _
        rw [if_pos hc2, show 48 + k - 48 = k by omega]
      rw [hf]
      exact .int _
    · ktf_call "go"
      refine q _ ?_
      have hf : partOf ⟨#[c]⟩ = .str ⟨#[c]⟩ := by
        refine partOf_lit ?_
        unfold fig
        show (if 48 ≤ c ∧ c ≤ 57 then some (c - 48) else none) = none
        rw [if_neg fun z => hin (hm.mpr z)]
      rw [hf]
      exact .str _
  · ktf_call "go"
    refine q _ ?_
    rw [partOf_lit]
    · exact .str _
    · unfold fig
      split
      · rename_i c e
        exact absurd (show (w.length : Int) = 1 by rw [len_tl, e]; rfl) h1
      · rfl
end G

namespace G
open PySem PySem.Spec PyProof.Rows L2 Z
/-! the steps -/
local macro_rules | `(tactic| ktf_call "rf") => `(tactic| first
  | rfl
  | with_unfolding_all rfl
  | (intros; with_unfolding_all rfl)
  | with_unfolding_all decide)
-- tuples, lists, data at the heap at hand
local macro_rules | `(tactic| ktf_call "same") => `(tactic| first
  | with_reducible assumption
  | with_reducible exact Same.refl _
  | ((with_reducible refine Same.trans ?_ (by with_reducible assumption)); ktf_call "same")
  | ((with_reducible refine same_bt ?_ (by with_reducible assumption) (by ktf_call "off")); ktf_call "same"))
local macro_rules | `(tactic| ktf_call "off") => `(tactic| exact off1 (by with_reducible assumption))
local macro_rules | `(tactic| ktf_call "im") => `(tactic| first
  | with_reducible assumption
  | with_reducible exact Im.non
  | with_reducible exact Im.int _
  | with_reducible exact Im.str _
  | with_reducible exact Im.bl _
  | with_reducible exact ImAll.nil
  | ((with_reducible apply im_tx); (with_reducible assumption); (ktf_call "im"))
  | ((with_reducible apply im_same); (with_reducible assumption); (ktf_call "im"))
  | ((with_reducible apply ims_tx); (with_reducible assumption); (ktf_call "im"))
  | ((with_reducible apply ims_same); (with_reducible assumption); (ktf_call "im")))
local macro_rules | `(tactic| ktf_call "sq") => `(tactic| first
  | with_reducible assumption
  | with_reducible exact Kt.sq _
  | ((with_reducible apply sqt_new); (with_reducible assumption))
  | ((with_reducible apply sql_new); (with_reducible assumption))
  | ((with_reducible apply sq_tx); (with_reducible assumption); (ktf_call "sq"))
  | ((with_reducible apply sq_same); (with_reducible assumption); (ktf_call "sq"))
  | ((with_reducible apply Same.seq); (with_reducible assumption); (ktf_call "sq"))
  | ((with_reducible apply sq_bt); (with_reducible assumption); (ktf_call "noff"); (ktf_call "sq")))
local macro_rules | `(tactic| ktf_call "ob") => `(tactic| first
  | with_reducible assumption
  | ((with_reducible apply same_get); (with_reducible assumption); (ktf_call "ob"))
  | ((with_reducible apply ob_bt); (with_reducible assumption); (ktf_call "noff"); (ktf_call "ob")))
local macro_rules | `(tactic| ktf_call "ne1") => `(tactic| first
  | with_reducible assumption
  | ((with_reducible apply Off.l); (with_reducible assumption))
  | ((with_reducible apply dr_ne); (with_reducible assumption); (ktf_call "dr"))
  | ((with_reducible apply fresh_ne); (with_reducible assumption); (with_reducible assumption))
  | ((with_reducible apply fresh_ne); (with_reducible assumption); (ktf_call "ob")))
local macro_rules | `(tactic| ktf_call "ne") => `(tactic| first | ktf_call "ne1" | (refine Ne.symm ?_; ktf_call "ne1"))
local macro_rules | `(tactic| ktf_call "noff") => `(tactic| first
  | with_reducible exact off_nil
  | ((with_reducible apply off_cons); (ktf_call "ne"); (ktf_call "noff")))
local macro_rules | `(tactic| ktf_call "dr") => `(tactic| first
  | with_reducible assumption
  | ((with_reducible apply dr_same); (with_reducible assumption); (ktf_call "dr"))
  | ((with_reducible apply dr_chg); (with_reducible assumption); (with_reducible assumption); (ktf_call "dr")))
local macro_rules | `(tactic| ktf_call "sz") => `(tactic| with_unfolding_all exact Nat.le_of_ble_eq_true rfl)
local macro_rules | `(tactic| ktf_call "sz1") => `(tactic| first | with_unfolding_all decide | with_unfolding_all exact Nat.le_of_ble_eq_true rfl)
local macro_rules | `(tactic| ktf_call "sdc") => `(tactic| first
  | exact rfl
  | exact ⟨rfl, rfl⟩
  | exact ⟨rfl, rfl, rfl⟩
  | exact ⟨rfl, rfl, rfl, rfl, rfl⟩
  | exact ⟨_, rfl⟩
  | ktf_call "rf")
local macro_rules | `(tactic| ktf_call "pos") => `(tactic| first | with_reducible assumption | exact (by decide) | omega)
local macro_rules | `(tactic| ktf_call "lev") => `(tactic| first | exact Nat.le_of_ble_eq_true rfl | with_reducible assumption | with_reducible exact Nat.le_refl _ | omega)
-- one piece of the text
local macro_rules | `(tactic| ktf_call "ge1") => `(tactic| first
  | with_reducible apply stp
  | ((with_reducible apply sl_i); (exact rfl))
  | ((with_reducible apply sd); (ktf_call "sdc"))
  | ((with_reducible apply le_n); (ktf_call "lev"))
  | ((with_reducible apply sz_l); (exact rfl))
  | ((with_reducible apply all_b); intro _ _ _ _ _)
  | ((with_reducible apply new_at); intro _ _ _ _ _)
  | ((with_reducible apply new_ins); intro _ _ _ _ _ _)
  | ((with_reducible apply sub_t); intro _ _ _ _)
  | ((with_reducible apply dr_go); (ktf_call "dr"); (ktf_call "pos"); (ktf_call "pos"); intro _ _ _ _ _ _ _)
  | ((with_reducible apply tg_t); (ktf_call "sq"))
  | ((with_reducible apply tg_l); (ktf_call "sq"))
  | ((with_reducible apply is_l); (ktf_call "sq"))
  | ((with_reducible apply app_to); (ktf_call "ob"); (first | exact lt_size (by omega) | rotate_left); intro _ _ _ _)
  | ((with_reducible apply join_l); (ktf_call "sq"); (ktf_call "lev"))
  | ((with_reducible apply spl_s); (ktf_call "rf"); (ktf_call "lev"))
  | ((with_reducible apply str_i); (ktf_call "lev"))
  | ((with_reducible apply add_gl); (ktf_call "ob"); (ktf_call "ob"); (first | (exact Nat.le_of_ble_eq_true rfl) | (simp only [List.length_map, List.length_cons, List.length_nil, List.length_append]; omega)))
  | ((with_reducible apply tupof_l); (ktf_call "sq"))
  | ((with_reducible apply lstof_l); (ktf_call "sq"))
  | ((with_reducible apply len_l); (ktf_call "sq"))
  | ((with_reducible apply len_t); (ktf_call "sq"))
  | ((with_reducible apply tupof_t); (ktf_call "sq"))
  | ((with_reducible apply lstof_t); (ktf_call "sq"))
  | ((with_reducible apply isi_t); (ktf_call "sq"); (exact inferInstance))
  | ((with_reducible apply isi_l); (ktf_call "sq"); (exact inferInstance))
  | ((with_reducible apply in_t); (ktf_call "sq"); (ktf_call "rf"); (ktf_call "rf"))
  | ((with_reducible apply in_l); (ktf_call "sq"); (ktf_call "rf"); (ktf_call "rf"))
  | ((with_reducible apply nin_t); (ktf_call "sq"); (ktf_call "rf"); (ktf_call "rf"))
  | ((with_reducible apply nin_l); (ktf_call "sq"); (ktf_call "rf"); (ktf_call "rf"))
  | ((with_reducible apply in_ks); (ktf_call "ob"))
  | ((with_reducible apply in_ki); (ktf_call "ob"))
  | ((with_reducible apply fld_g); (ktf_call "ob"); (exact inferInstance); (exact inferInstance); (ktf_call "rf"))
  | ((with_reducible apply put_g); (ktf_call "ob"); (exact inferInstance); (exact inferInstance); (ktf_call "sz1"); intro _ _ _ _)
  | ((with_reducible apply aug_f); (ktf_call "ob"); (exact inferInstance); (exact inferInstance); (ktf_call "rf"))
  | ((with_reducible apply aug_p); (ktf_call "ob"); (ktf_call "sz1"); intro _ _ _ _)
  | ((with_reducible apply ins_m); (ktf_call "ob"); (ktf_call "rf"))
  | ((with_reducible apply sl_l); (ktf_call "sq"))
  | ((with_reducible apply sl_t); (ktf_call "sq"))
  | ((with_reducible apply mul_r); (exact (by decide +kernel)))
  | ((with_reducible apply mod_i); (ktf_call "pos"))
  | ((with_reducible apply div_i); (ktf_call "pos"); (ktf_call "pos"))
  | ((with_reducible apply pow_i); (exact (by decide +kernel)))
  | ((with_reducible apply all_l); (ktf_call "sq"))
  | ((with_reducible apply tru_l); (ktf_call "sq"))
  | ((with_reducible apply tru_t); (ktf_call "sq"))
  | ((with_reducible apply ix_t0); (ktf_call "sq"))
  | ((with_reducible apply ix_t); (ktf_call "sq"); (ktf_call "rf"))
  | ((with_reducible apply ix_l); (ktf_call "sq"); (ktf_call "rf"))
  | ((with_reducible apply ix_tn); (ktf_call "sq"); (exact (by decide)); (exact rfl))
  | ((with_reducible apply ix_ln); (ktf_call "sq"); (exact (by decide)); (exact rfl))
  | ((with_reducible apply if_t); (exact (by decide +kernel)))
  | ((with_reducible apply if_f); (exact (by decide +kernel))))
local macro_rules | `(tactic| ktf_call "ge") => `(tactic| repeat (ktf_call "ge1"))
local macro_rules | `(tactic| ktf_call "gi") => `(tactic| repeat (first | ktf_call "ge1" | with_reducible apply b_cons))
local macro_rules | `(tactic| ktf_call "go") => `(tactic| repeat (first | ktf_call "ge1" | with_reducible apply b_cons | with_reducible apply s_if))
open M TL
def sp_scope_of (K : PySem.W.Frag) : Sp := fun vs H Q _ => vs.length = 1 ∧ ∃ l w r, vs = [.ref l] ∧ SqL K H l (((w :: r : List Str)).map .str) ∧ (∀ x ∈ (w :: r : List Str), x.length ≤ 1000000) ∧ r.length < 1000 ∧ ∀ v H', Same H H' → Im K H' v (scopeOf (w :: r)) → Q v H'
theorem c_scope_of {P : Program} {w : World} {K : PySem.W.Frag} {mg : Str → Option Value} {base : Heap} (T : Txt K mg) (h_part_of : Cal P w K mg base 1 "part_of" (sp_part_of K))  : Cal P w K mg base 2 "scope_of" (sp_scope_of K) := by
  obtain ⟨f, fd, F, b⟩ := T.d_scope_of
  refine cal_of (N := n_scope_of) F b sc_scope_of (fun vs H Q E q => q.1) (fun X E h vs H Q q => ?_)
  obtain ⟨hp, hw, hK, hm, hb, hN, hs, hcalm, hfn, hroom, hown, hstk, hfrm, htk⟩ := h
  subst hp hw hK hm hb
  have L := lcs_of hN hs hfn lc_scope_of
  have n0 : Lcc X "words" 0 := ⟨L 0 _ rfl (by decide)⟩
  clear L
  have nd : X.N.Nodup := by rw [hN]; decide +kernel
  have hc : Hc X := hc_of hcalm hroom hown
  have rm : Rm X 1 := ⟨hroom⟩
  have tk : Tk X (fun cls d _ H => E cls d H) := ⟨htk⟩
  have fr : Fr X := ⟨hstk, hfrm⟩
  have b_tuple : Bnc X "tuple" := ⟨bn_of hs T.fr_tuple (by decide +kernel)⟩
  show WB X (_ :: _) _ _ _ _ _ _
  obtain ⟨_, l, w, r, rfl, hl, hw, hz, q⟩ := q
  rw [List.map_cons] at hl
  ktf_call "go"
  rename_i T1 H1 n1 e1 h1
  refine w_lcI [("word", 1)] (fun sc => (∀ s0 H0 C0 cl fp, Lcc (blkX X sc s0 H0 C0 cl fp) "word" 1) ∧ (∀ s0 H0 C0 cl fp, Fn (blkX X sc s0 H0 C0 cl fp) "part_of" _ (sp_part_of X.K)) ∧ True) ⟨fun _ _ _ _ _ => ⟨lc_blk hN hs (by decide +kernel)⟩, fun _ _ _ _ _ => ⟨h_part_of, gn_blk hs (by decide +kernel)⟩, trivial⟩ hc nd (by rw [hN, hs]; exact blkOk_by (by decide +kernel)) (fun _ => rfl) ?_
  rintro sc ⟨o_word, bf_part_of, _⟩
  refine wi_list ?_
  have hl1 := e1.seq hl
  ktf_call "go"
  rename_i P H2 nP e2 hP
  rw [cut_tail] at hP
  refine ⟨P, _, rfl, sql_new hP, _, _, _, walk_list (xs := r.map .str), fun D H3 hD e3 hD3 => ⟨fun i H' => Wd (Same H2 H' ∧ ∃ ys, H' D = some (.lst ys) ∧ ImAll X.K H' ys ((r.take i).map scpEnd) ∧ ys.length = i), ⟨e3, [], hD3, .nil, rfl⟩, ?_, ?_, ?_⟩⟩
  · rintro i H' _ ⟨es, _⟩
    exact sql_new (es _ _ hP)
  · rintro i x H7 H' hi ⟨es, ys, hl', hI, hn⟩ ⟨rfl, hx⟩
    rw [List.getElem?_map] at hx
    obtain ⟨u, j1, rfl⟩ := Option.map_eq_some_iff.mp hx
    have fin : ∀ v, Im X.K H' v (scpEnd u) → LstAp H' D v fun H6 => Wd (Same H2 H6 ∧ ∃ ys, H6 D = some (.lst ys) ∧ ImAll X.K H6 ys ((r.take (i + 1)).map scpEnd) ∧ ys.length = i + 1) := fun v hv => lst_ap hl' (lt_size (by rw [List.length_map] at hi; omega)) fun H6 b6 t6 h6 => ⟨same_bt es b6 (off1 hD), ys ++ [v], h6, by rw [take_at j1, List.map_append]; exact (hI.tx t6).snoc (hv.tx t6), by simp [hn]⟩
    ktf_call "go"
    refine if_d (fun hu => ?_) (fun hu => ?_)
    · ktf_call "go"
      exact fin _ (by unfold scpEnd; rw [if_pos hu]; exact .non)
    · ktf_call "go"
      refine ⟨rfl, u, rfl, hw u (by simp [List.mem_of_getElem? j1]), fun v hv => ?_⟩
      exact fin _ (by unfold scpEnd; rw [if_neg hu]; exact hv)
  · rintro H' ⟨es, ys, hl', hI, hn⟩
    rw [take_end (by rw [List.length_map]; exact Nat.le_refl _)] at hI
    ktf_call "go"
    rename_i T3 H3 n3 e3 h3
    have ee := ((e2.trans es).trans e3)
    refine add_gt (ee.tq (sqt_new h1)) (sqt_new h3) (by have := hI.length; simp; rw [List.length_map] at this; omega) ?_
    ktf_call "go"
    rename_i T4 H4 e4 h4
    exact q _ _ ((e1.trans ee).trans e4) (.tup h4 (.cons (.str _) ((hI.same e3).same e4)))
def sp_deed_of (K : PySem.W.Frag) : Sp := fun vs H Q _ => vs.length = 1 ∧ ∃ (ln : Str), vs = [.str ln] ∧ ln.length ≤ 900 ∧ ∀ v H', Same H H' → Im K H' v (deedOf (Txt.split ln " ")) → Q v H'
theorem blank : (" " : Str) = ⟨#[32]⟩ := by decide +kernel
theorem head_first {ws : List Str} {w : Str} {r : List Str} (e : ws = w :: r) : ws.head? = some w := by rw [e]; rfl
theorem c_deed_of {P : Program} {w : World} {K : PySem.W.Frag} {mg : Str → Option Value} {base : Heap} (T : Txt K mg) (h_scope_of : Cal P w K mg base 2 "scope_of" (sp_scope_of K)) (h_part_of : Cal P w K mg base 1 "part_of" (sp_part_of K))  : Cal P w K mg base 3 "deed_of" (sp_deed_of K) := by
  obtain ⟨f, fd, F, b⟩ := T.d_deed_of
  refine cal_of (N := n_deed_of) F b sc_deed_of (fun vs H Q E q => q.1) (fun X E h vs H Q q => ?_)
  obtain ⟨hp, hw, hK, hm, hb, hN, hs, hcalm, hfn, hroom, hown, hstk, hfrm, htk⟩ := h
  subst hp hw hK hm hb
  have L := lcs_of hN hs hfn lc_deed_of
  have n0 : Lcc X "line" 0 := ⟨L 0 _ rfl (by decide)⟩
  have n1 : Lcc X "words" 1 := ⟨L 1 _ rfl (by decide)⟩
  have n2 : Lcc X "value" 2 := ⟨L 2 _ rfl (by decide)⟩
  clear L
  have nd : X.N.Nodup := by rw [hN]; decide +kernel
  have hc : Hc X := hc_of hcalm hroom hown
  have rm : Rm X 2 := ⟨hroom⟩
  have tk : Tk X (fun cls d _ H => E cls d H) := ⟨htk⟩
  have fr : Fr X := ⟨hstk, hfrm⟩
  have f_scope_of : Fn X "scope_of" 2 (sp_scope_of X.K) := ⟨h_scope_of, gn_of hs (by decide +kernel)⟩
  have f_part_of : Fn X "part_of" 1 (sp_part_of X.K) := ⟨h_part_of, gn_of hs (by decide +kernel)⟩
  have b_len : Bnc X "len" := ⟨bn_of hs T.fr_len (by decide +kernel)⟩
  have b_tuple : Bnc X "tuple" := ⟨bn_of hs T.fr_tuple (by decide +kernel)⟩
  show WB X (_ :: _) _ _ _ _ _ _
  obtain ⟨_, ln, rfl, hz, q⟩ := q
  have hb := split_size ln (c := 32)
  rw [← blank] at hb
  have hne := split_ne ln (c := 32)
  rw [← blank] at hne
  have hpart := part_le (n := 900) (Nat.le_trans hb.1 hz)
  have hcount : (Txt.split ln " ").length ≤ 901 := by omega
  clear hb
  ktf_call "ge"
  refine b_cons ?_
  ktf_call "ge"
  rename_i P H1 nP e1 hP
  generalize Txt.split ln " " = ws at *
  obtain ⟨w, r, rfl⟩ : ∃ w r, ws = w :: r := by
    cases ws with
    | nil => exact absurd rfl hne
    | cons w r => exact ⟨w, r, rfl⟩
  have q : ∀ v H', Same H1 H' → Im X.K H' v (deedOf (w :: r)) → Q v H' := fun v H' e i => q v H' (e1.trans e) i
  clear e1 nP hne
  refine b_cons (s_mid (fun σ' H' => Wd (σ' = [some (.str ln), some (.ref P), none, none] ∧ H' = H1 ∧ ¬ (w = "tell" ∧ 3 < r.length + 1))) ?_ ?_)
  · rw [List.map_cons] at hP
    ktf_call "go"
    refine if_d (fun hw => ?_) (fun hw => ?_)
    · subst hw
      ktf_call "go"
      refine if_d (fun hl => ?_) (fun hl => ?_)
      · obtain ⟨sw, k, v, e, hsw⟩ := tell_form (ws := ("tell" : Str) :: r) rfl (by rw [List.length_cons, List.length_map] at hl; rw [List.length_cons]; omega)
        rw [e, deedOf_tell hsw] at q
        have hr : r = sw ++ [k, v] := (List.cons.inj e).2
        have hP : H1 P = some (.lst (V.str "tell" :: sw.map V.str ++ [V.str k, V.str v])) := by rw [hP, hr]; simp
        rw [e] at hpart hcount
        obtain ⟨sw0, sr, rfl⟩ : ∃ a b, sw = a :: b := by
          cases sw with
          | nil => simp at hsw
          | cons a b => exact ⟨a, b, rfl⟩
        refine b_cons (s_mid (fun σ' H' => Wd (∃ x, σ' = [some (.str ln), some (.ref P), some x, none] ∧ H' = H1 ∧ Im X.K H1 x (M.valOf v))) ?_ ?_)
        · ktf_call "go"
          refine ix_l (sql_new hP) atI_m1 ?_
          ktf_call "go"
          refine if_d (fun hv => ?_) (fun hv => ?_)
          · ktf_call "go"
            exact ⟨_, rfl, rfl, by unfold M.valOf; rw [if_pos hv]; exact .non⟩
          · ktf_call "go"
            refine ix_l (sql_new hP) atI_m1 ?_
            ktf_call "go"
            exact ⟨rfl, v, rfl, Nat.le_trans (hpart v (by simp)) (by decide), fun x hx => ⟨x, rfl, rfl, by unfold M.valOf; rw [if_neg hv]; exact hx⟩⟩
        · rintro σ' H' ⟨x, rfl, rfl, hx⟩
          ktf_call "go"
          rename_i P2 H2 n2 e2 h2
          rw [cut_mid] at h2
          refine ⟨rfl, P2, sw0, sr, rfl, sql_new h2, fun y hy => Nat.le_trans (hpart y (by simp at hy ⊢; rcases hy with h | h <;> simp [h])) (by decide), by simp at hcount; omega, fun y H3 e3 hy => ?_⟩
          ktf_call "go"
          have hP3 := e3 _ _ (e2 _ _ hP)
          refine ix_l (sql_new hP3) atI_m2 ?_
          ktf_call "go"
          rename_i T4 H4 n4 e4 h4
          exact q _ _ ((e2.trans e3).trans e4) (.tup (sqt_new h4) (.cons (.str _) (.cons (hy.same e4) (.cons (.str _) (.one (((hx.same e2).same e3).same e4))))))
      · ktf_call "go"
        exact ⟨rfl, rfl, fun z => hl (by rw [List.length_cons, List.length_map]; omega)⟩
    · ktf_call "go"
      exact ⟨rfl, rfl, fun z => hw z.1⟩
  · rintro σ' H' ⟨rfl, rfl, hnt⟩
    rw [List.map_cons] at hP
    have fin : ¬ (w = "copy" ∧ r.length + 1 = 8) → ∀ v H'', Same H' H'' → Im X.K H'' v (.tuple ((w :: r).map partOf)) → Q v H'' := fun hnc v H'' e i => q v H'' e (by rw [deedOf_rest (ws := w :: r) (fun z => hnt ⟨Option.some.inj z.1, z.2⟩) (fun z => hnc ⟨Option.some.inj z.1, z.2⟩)]; exact i)
    refine b_cons (s_mid (fun σ' H2 => Wd (σ' = [some (.str ln), some (.ref P), none, none] ∧ H2 = H' ∧ ¬ (w = "copy" ∧ r.length + 1 = 8))) ?_ ?_)
    · ktf_call "go"
      refine if_d (fun hw => ?_) (fun hw => ?_)
      · subst hw
        ktf_call "go"
        refine if_d (fun hl => ?_) (fun hl => ?_)
        · rw [List.length_cons, List.length_map] at hl
          match r, (show r.length = 7 by omega) with
          | [a, b, c, d, e, f, g], _ =>
            rw [deedOf_copy] at q
            simp only [List.map_cons, List.map_nil] at hP
            ktf_call "go"
            rename_i P1 J1 m1 j1 g1 P2 J2 m2 j2 g2 P3 J3 m3 j3 g3
            have ee := (j1.trans j2).trans j3
            refine ⟨rfl, P3, "cells", [a, b, c, d], rfl, sql_new g3, fun y hy => ?_, by simp, fun v H4 e4 hv => ?_⟩
            · simp only [List.mem_cons, List.not_mem_nil, or_false] at hy
              rcases hy with rfl | rfl | rfl | rfl | rfl
              · decide +kernel
              · exact Nat.le_trans (hpart _ (by simp)) (by decide)
              · exact Nat.le_trans (hpart _ (by simp)) (by decide)
              · exact Nat.le_trans (hpart _ (by simp)) (by decide)
              · exact Nat.le_trans (hpart _ (by simp)) (by decide)
            · have hP4 := e4 _ _ (ee _ _ hP)
              clear j1 j2 j3
              ktf_call "go"
              refine ⟨rfl, e, rfl, Nat.le_trans (hpart _ (by simp)) (by decide), fun x1 hx1 => ?_⟩
              ktf_call "go"
              refine ⟨rfl, f, rfl, Nat.le_trans (hpart _ (by simp)) (by decide), fun x2 hx2 => ?_⟩
              ktf_call "go"
              rename_i T5 H5 n5 e5 h5
              exact q _ _ ((ee.trans e4).trans e5) (.tup (sqt_new h5) (.cons (.str _) (.cons (hv.same e5) (.cons (hx1.same e5) (.cons (hx2.same e5) (.one (.str _)))))))
        · ktf_call "go"
          exact ⟨rfl, rfl, fun z => hl (by rw [List.length_cons, List.length_map]; omega)⟩
      · ktf_call "go"
        exact ⟨rfl, rfl, fun z => hw z.1⟩
    · rintro σ' H2 ⟨rfl, rfl, hnc⟩
      have fin := fin hnc
      ktf_call "go"
      refine w_lcI [("word", 3)] (fun sc => (∀ s0 H0 C0 cl fp, Lcc (blkX X sc s0 H0 C0 cl fp) "word" 3) ∧ (∀ s0 H0 C0 cl fp, Fn (blkX X sc s0 H0 C0 cl fp) "part_of" _ (sp_part_of X.K)) ∧ True) ⟨fun _ _ _ _ _ => ⟨lc_blk hN hs (by decide +kernel)⟩, fun _ _ _ _ _ => ⟨h_part_of, gn_blk hs (by decide +kernel)⟩, trivial⟩ hc nd (by rw [hN, hs]; exact blkOk_by (by decide +kernel)) (fun _ => rfl) ?_
      rintro sc ⟨o_word, bf_part_of, _⟩
      refine wi_list ?_
      ktf_call "go"
      refine ⟨P, _, rfl, sql_new hP, _, _, _, walk_list (xs := V.str w :: r.map .str), fun D H3 hD e3 hD3 => ⟨fun i H' => Wd (Same H2 H' ∧ ∃ ys, H' D = some (.lst ys) ∧ ImAll X.K H' ys (((w :: r).take i).map partOf) ∧ ys.length = i), ⟨e3, [], hD3, .nil, rfl⟩, ?_, ?_, ?_⟩⟩
      · rintro i H' _ ⟨es, _⟩
        exact sql_new (es _ _ hP)
      · rintro i x H7 H' hi ⟨es, ys, hl', hI, hn⟩ ⟨rfl, hx⟩
        rw [← List.map_cons, List.getElem?_map] at hx
        obtain ⟨u, j1, rfl⟩ := Option.map_eq_some_iff.mp hx
        ktf_call "go"
        refine ⟨rfl, u, rfl, Nat.le_trans (hpart u (List.mem_of_getElem? j1)) (by decide), fun v hv => ?_⟩
        exact lst_ap hl' (lt_size (by rw [List.length_cons, List.length_map] at hi; rw [List.length_cons] at hcount; omega)) fun H6 b6 t6 h6 => ⟨same_bt es b6 (off1 hD), ys ++ [v], h6, by rw [take_at j1, List.map_append]; exact (hI.tx t6).snoc (hv.tx t6), by simp [hn]⟩
      · rintro H' ⟨es, ys, hl', hI, hn⟩
        rw [take_end (by simp)] at hI
        ktf_call "go"
        rename_i T3 H3 n3 e3 h3
        exact fin _ _ (es.trans e3) (.tup (sqt_new h3) (hI.same e3))
end G

namespace G
open PySem PySem.Spec PyProof.Rows L2 Z
/-! the steps -/
local macro_rules | `(tactic| ktf_call "rf") => `(tactic| first
  | rfl
  | with_unfolding_all rfl
  | (intros; with_unfolding_all rfl)
  | with_unfolding_all decide)
-- tuples, lists, data at the heap at hand
local macro_rules | `(tactic| ktf_call "same") => `(tactic| first
  | with_reducible assumption
  | with_reducible exact Same.refl _
  | ((with_reducible refine Same.trans ?_ (by with_reducible assumption)); ktf_call "same")
  | ((with_reducible refine same_bt ?_ (by with_reducible assumption) (by ktf_call "off")); ktf_call "same"))
local macro_rules | `(tactic| ktf_call "off") => `(tactic| exact off1 (by with_reducible assumption))
local macro_rules | `(tactic| ktf_call "im") => `(tactic| first
  | with_reducible assumption
  | with_reducible exact Im.non
  | with_reducible exact Im.int _
  | with_reducible exact Im.str _
  | with_reducible exact Im.bl _
  | with_reducible exact ImAll.nil
  | ((with_reducible apply im_tx); (with_reducible assumption); (ktf_call "im"))
  | ((with_reducible apply im_same); (with_reducible assumption); (ktf_call "im"))
  | ((with_reducible apply ims_tx); (with_reducible assumption); (ktf_call "im"))
  | ((with_reducible apply ims_same); (with_reducible assumption); (ktf_call "im")))
local macro_rules | `(tactic| ktf_call "sq") => `(tactic| first
  | with_reducible assumption
  | with_reducible exact Kt.sq _
  | ((with_reducible apply sqt_new); (with_reducible assumption))
  | ((with_reducible apply sql_new); (with_reducible assumption))
  | ((with_reducible apply sq_tx); (with_reducible assumption); (ktf_call "sq"))
  | ((with_reducible apply sq_same); (with_reducible assumption); (ktf_call "sq"))
  | ((with_reducible apply Same.seq); (with_reducible assumption); (ktf_call "sq"))
  | ((with_reducible apply sq_bt); (with_reducible assumption); (ktf_call "noff"); (ktf_call "sq")))
local macro_rules | `(tactic| ktf_call "ob") => `(tactic| first
  | with_reducible assumption
  | ((with_reducible apply same_get); (with_reducible assumption); (ktf_call "ob"))
  | ((with_reducible apply ob_bt); (with_reducible assumption); (ktf_call "noff"); (ktf_call "ob")))
local macro_rules | `(tactic| ktf_call "ne1") => `(tactic| first
  | with_reducible assumption
  | ((with_reducible apply Off.l); (with_reducible assumption))
  | ((with_reducible apply dr_ne); (with_reducible assumption); (ktf_call "dr"))
  | ((with_reducible apply fresh_ne); (with_reducible assumption); (with_reducible assumption))
  | ((with_reducible apply fresh_ne); (with_reducible assumption); (ktf_call "ob")))
local macro_rules | `(tactic| ktf_call "ne") => `(tactic| first | ktf_call "ne1" | (refine Ne.symm ?_; ktf_call "ne1"))
local macro_rules | `(tactic| ktf_call "noff") => `(tactic| first
  | with_reducible exact off_nil
  | ((with_reducible apply off_cons); (ktf_call "ne"); (ktf_call "noff")))
local macro_rules | `(tactic| ktf_call "dr") => `(tactic| first
  | with_reducible assumption
  | ((with_reducible apply dr_same); (with_reducible assumption); (ktf_call "dr"))
  | ((with_reducible apply dr_chg); (with_reducible assumption); (with_reducible assumption); (ktf_call "dr")))
local macro_rules | `(tactic| ktf_call "sz") => `(tactic| with_unfolding_all exact Nat.le_of_ble_eq_true rfl)
local macro_rules | `(tactic| ktf_call "sz1") => `(tactic| first | with_unfolding_all decide | with_unfolding_all exact Nat.le_of_ble_eq_true rfl)
local macro_rules | `(tactic| ktf_call "sdc") => `(tactic| first
  | exact rfl
  | exact ⟨rfl, rfl⟩
  | exact ⟨rfl, rfl, rfl⟩
  | exact ⟨rfl, rfl, rfl, rfl, rfl⟩
  | exact ⟨_, rfl⟩
  | ktf_call "rf")
local macro_rules | `(tactic| ktf_call "pos") => `(tactic| first | with_reducible assumption | exact (by decide) | omega)
local macro_rules | `(tactic| ktf_call "lev") => `(tactic| first | exact Nat.le_of_ble_eq_true rfl | with_reducible assumption | with_reducible exact Nat.le_refl _ | omega)
-- one piece of the text
local macro_rules | `(tactic| ktf_call "ge1") => `(tactic| first
  | with_reducible apply stp
  | ((with_reducible apply sl_i); (exact rfl))
  | ((with_reducible apply sd); (ktf_call "sdc"))
  | ((with_reducible apply le_n); (ktf_call "lev"))
  | ((with_reducible apply sz_l); (exact rfl))
  | ((with_reducible apply all_b); intro _ _ _ _ _)
  | ((with_reducible apply new_at); intro _ _ _ _ _)
  | ((with_reducible apply new_ins); intro _ _ _ _ _ _)
  | ((with_reducible apply sub_t); intro _ _ _ _)
  | ((with_reducible apply dr_go); (ktf_call "dr"); (ktf_call "pos"); (ktf_call "pos"); intro _ _ _ _ _ _ _)
  | ((with_reducible apply tg_t); (ktf_call "sq"))
  | ((with_reducible apply tg_l); (ktf_call "sq"))
  | ((with_reducible apply is_l); (ktf_call "sq"))
  | ((with_reducible apply app_to); (ktf_call "ob"); (first | exact lt_size (by omega) | rotate_left); intro _ _ _ _)
  | ((with_reducible apply join_l); (ktf_call "sq"); (ktf_call "lev"))
  | ((with_reducible apply spl_s); (ktf_call "rf"); (ktf_call "lev"))
  | ((with_reducible apply str_i); (ktf_call "lev"))
  | ((with_reducible apply add_gl); (ktf_call "ob"); (ktf_call "ob"); (first | (exact Nat.le_of_ble_eq_true rfl) | (simp only [List.length_map, List.length_cons, List.length_nil, List.length_append]; omega)))
  | ((with_reducible apply tupof_l); (ktf_call "sq"))
  | ((with_reducible apply lstof_l); (ktf_call "sq"))
  | ((with_reducible apply len_l); (ktf_call "sq"))
  | ((with_reducible apply len_t); (ktf_call "sq"))
  | ((with_reducible apply tupof_t); (ktf_call "sq"))
  | ((with_reducible apply lstof_t); (ktf_call "sq"))
  | ((with_reducible apply isi_t); (ktf_call "sq"); (exact inferInstance))
  | ((with_reducible apply isi_l); (ktf_call "sq"); (exact inferInstance))
  | ((with_reducible apply in_t); (ktf_call "sq"); (ktf_call "rf"); (ktf_call "rf"))
  | ((with_reducible apply in_l); (ktf_call "sq"); (ktf_call "rf"); (ktf_call "rf"))
  | ((with_reducible apply nin_t); (ktf_call "sq"); (ktf_call "rf"); (ktf_call "rf"))
  | ((with_reducible apply nin_l); (ktf_call "sq"); (ktf_call "rf"); (ktf_call "rf"))
  | ((with_reducible apply in_ks); (ktf_call "ob"))
  | ((with_reducible apply in_ki); (ktf_call "ob"))
  | ((with_reducible apply fld_g); (ktf_call "ob"); (exact inferInstance); (exact inferInstance); (ktf_call "rf"))
  | ((with_reducible apply put_g); (ktf_call "ob"); (exact inferInstance); (exact inferInstance); (ktf_call "sz1"); intro _ _ _ _)
  | ((with_reducible apply aug_f); (ktf_call "ob"); (exact inferInstance); (exact inferInstance); (ktf_call "rf"))
  | ((with_reducible apply aug_p); (ktf_call "ob"); (ktf_call "sz1"); intro _ _ _ _)
  | ((with_reducible apply ins_m); (ktf_call "ob"); (ktf_call "rf"))
  | ((with_reducible apply sl_l); (ktf_call "sq"))
  | ((with_reducible apply sl_t); (ktf_call "sq"))
  | ((with_reducible apply mul_r); (exact (by decide +kernel)))
  | ((with_reducible apply mod_i); (ktf_call "pos"))
  | ((with_reducible apply div_i); (ktf_call "pos"); (ktf_call "pos"))
  | ((with_reducible apply pow_i); (exact (by decide +kernel)))
  | ((with_reducible apply all_l); (ktf_call "sq"))
  | ((with_reducible apply tru_l); (ktf_call "sq"))
  | ((with_reducible apply tru_t); (ktf_call "sq"))
  | ((with_reducible apply ix_t0); (ktf_call "sq"))
  | ((with_reducible apply ix_t); (ktf_call "sq"); (ktf_call "rf"))
  | ((with_reducible apply ix_l); (ktf_call "sq"); (ktf_call "rf"))
  | ((with_reducible apply ix_tn); (ktf_call "sq"); (exact (by decide)); (exact rfl))
  | ((with_reducible apply ix_ln); (ktf_call "sq"); (exact (by decide)); (exact rfl))
  | ((with_reducible apply if_t); (exact (by decide +kernel)))
  | ((with_reducible apply if_f); (exact (by decide +kernel))))
local macro_rules | `(tactic| ktf_call "ge") => `(tactic| repeat (ktf_call "ge1"))
local macro_rules | `(tactic| ktf_call "gi") => `(tactic| repeat (first | ktf_call "ge1" | with_reducible apply b_cons))
local macro_rules | `(tactic| ktf_call "go") => `(tactic| repeat (first | ktf_call "ge1" | with_reducible apply b_cons | with_reducible apply s_if))
open M TL
theorem encI_inj {a b : Option Int} (h : encI a = encI b) : a = b := by
  cases a <;> cases b
  · rfl
  · cases h
  · cases h
  · cases h; rfl
theorem encC_inj {a b : Scp} (h : encC a = encC b) : a = b := by
  cases a <;> cases b <;> simp only [encC, PyData.tuple.injEq, List.cons.injEq, PyData.str.injEq, PyData.int.injEq, List.nil_eq, List.cons_ne_nil, reduceCtorEq, and_true, and_false, true_and, false_and] at h
  · rfl
  · obtain ⟨h1, h2⟩ := h; rw [h1, encI_inj h2]
  · exact absurd h.1 (by decide +kernel)
  · exact absurd h.1 (by decide +kernel)
  · obtain ⟨h1, h2⟩ := h; rw [h1, encI_inj h2]
  · obtain ⟨h1, h2, h3, h4⟩ := h; rw [h1, h2, h3, h4]
theorem encDeed_inj {a b : Deed} (h : encDeed a = encDeed b) : a = b := by
  cases a <;> cases b <;> simp only [encDeed, PyData.tuple.injEq, List.cons.injEq, PyData.str.injEq, PyData.int.injEq, List.nil_eq, List.cons_ne_nil, reduceCtorEq, and_true, and_false, true_and, false_and] at h
  all_goals first
    | (obtain ⟨h1, h2, h3⟩ := h; rw [encC_inj h1, h2, encI_inj h3])
    | (obtain ⟨h1, h2, h3, h4⟩ := h; rw [h1, h2, h3, h4])
    | (obtain ⟨h1, h2, h3⟩ := h; rw [h1, h2, h3])
    | (obtain ⟨⟨h1, h2, h3, h4⟩, h5, h6, h7⟩ := h; rw [h1, h2, h3, h4, h5, h6, h7])
    | exact absurd h.1 (by decide +kernel)
    | exact absurd h (by decide +kernel)
open Classical in
/-- the line of a deed's data -/
noncomputable def lineData (p : PyData) : Str := if h : ∃ d, p = encDeed d then line h.choose else ""
theorem lineData_enc (d : Deed) : lineData (encDeed d) = line d := by
  have h : ∃ e, encDeed d = encDeed e := ⟨d, rfl⟩
  unfold lineData
  rw [dif_pos h, ← encDeed_inj h.choose_spec]
/-- the data of a line -/
def dataOf (ln : Str) : PyData := deedOf (Txt.split ln " ")
noncomputable def goodLine (ln : Str) : Bool := isDeed (dataOf ln) && decide (lineData (dataOf ln) = ln)
/-- the first bad line's number -/
noncomputable def readBad : Nat → List Str → Option Nat
  | _, [] => none
  | i, ln :: r => if 6 ≤ i ∨ goodLine ln = false then some (i + 1) else readBad (i + 1) r
theorem good_form {ln : Str} (h : goodLine ln = true) : ∃ d, dataOf ln = encDeed d ∧ okD d ∧ line d = ln := by
  unfold goodLine at h
  obtain ⟨h1, h2⟩ := and_t h
  obtain ⟨d, e, ok⟩ := deed_form h1
  refine ⟨d, e, ok, ?_⟩
  rw [e, lineData_enc] at h2
  exact of_decide_eq_true h2
theorem good_line {d : Deed} (h : okD d) : goodLine (line d) = true := by
  unfold goodLine dataOf
  rw [line_split h, deed_back h, deed_ok h, lineData_enc]
  simp
theorem scopeOf_bd {ws : List Str} (h : ws.length < 1000) : Bd1 (scopeOf ws) := by
  intro ds e
  cases ws with
  | nil => cases e
  | cons w r => cases e; simpa using h
theorem partOf_bd (w : Str) : Bd1 (partOf w) := by
  intro ds e
  unfold partOf at e
  split at e <;> cases e
theorem valOf_bd (w : Str) : Bd1 (M.valOf w) := by
  intro ds e
  unfold M.valOf at e
  split at e
  · cases e
  · exact partOf_bd w ds e
theorem str_bd (w : Str) : Bd1 (.str w) := fun ds e => by cases e
theorem deedOf_bd {ws : List Str} (h : ws.length < 1000) : Bd2 (deedOf ws) := by
  intro ds e x hx
  unfold deedOf at e
  split at e
  · cases e
    simp only [List.mem_cons, List.not_mem_nil, or_false] at hx
    rcases hx with rfl | rfl | rfl | rfl
    · exact str_bd _
    · exact scopeOf_bd (by simp; omega)
    · exact str_bd _
    · exact valOf_bd _
  · split at e
    · cases e
      simp only [List.mem_cons, List.not_mem_nil, or_false] at hx
      rcases hx with rfl | rfl | rfl | rfl | rfl
      · exact str_bd _
      · exact scopeOf_bd (by simp; omega)
      · exact partOf_bd _
      · exact partOf_bd _
      · exact str_bd _
    · cases e
      obtain ⟨w, _, rfl⟩ := List.mem_map.mp hx
      exact partOf_bd w
theorem newline : ("\n" : Str) = ⟨#[10]⟩ := by decide +kernel
/-- what reading makes of a text -/
def ReadOk (t : Str) (ds : List Deed) : Prop := (t = "" ∧ ds = []) ∨ (t ≠ "" ∧ readBad 0 (Txt.split t "\n") = none ∧ ds.map line = Txt.split t "\n")
def sp_read (K : PySem.W.Frag) : Sp := fun vs H Q E => vs.length = 1 ∧ ∃ (t : Str), vs = [.str t] ∧ t.length ≤ 900 ∧
  (∀ i x H', t ≠ "" → readBad 0 (Txt.split t "\n") = some i → H x = none → Same H H' → H' x = some (.xd [("line", .int (i : Nat))]) → E (.ref (He.ga K "BadLine")) (some x) H') ∧
  (∀ ds a H', ReadOk t ds → (∀ d ∈ ds, okD d) → ds.length ≤ 6 → H a = none → Same H H' → DsAt K H' a ds → Q (.ref a) H')
theorem c_read {P : Program} {w : World} {K : PySem.W.Frag} {mg : Str → Option Value} {base : Heap} (T : Txt K mg) (h_Deeds : Mak P w K mg base 7 "Deeds" (He.ga K "Deeds") (sp_Deeds_init K)) (h_deed_of : Cal P w K mg base 3 "deed_of" (sp_deed_of K)) (h_is_deed : Cal P w K mg base 6 "is_deed" (sp_is_deed K)) (h_deed_line : Cal P w K mg base 2 "deed_line" (sp_deed_line K))  : Cal P w K mg base 9 "read" (sp_read K) := by
  obtain ⟨f, fd, F, b⟩ := T.d_read
  refine cal_of (N := n_read) F b sc_read (fun vs H Q E q => q.1) (fun X E h vs H Q q => ?_)
  obtain ⟨hp, hw, hK, hm, hb, hN, hs, hcalm, hfn, hroom, hown, hstk, hfrm, htk⟩ := h
  subst hp hw hK hm hb
  have L := lcs_of hN hs hfn lc_read
  have n0 : Lcc X "text" 0 := ⟨L 0 _ rfl (by decide)⟩
  have n1 : Lcc X "found" 1 := ⟨L 1 _ rfl (by decide)⟩
  have n2 : Lcc X "at" 2 := ⟨L 2 _ rfl (by decide)⟩
  have n3 : Lcc X "line" 3 := ⟨L 3 _ rfl (by decide)⟩
  have n4 : Lcc X "deed" 4 := ⟨L 4 _ rfl (by decide)⟩
  clear L
  have nd : X.N.Nodup := by rw [hN]; decide +kernel
  have hc : Hc X := hc_of hcalm hroom hown
  have rm : Rm X 8 := ⟨hroom⟩
  have tk : Tk X (fun cls d _ H => E cls d H) := ⟨htk⟩
  have fr : Fr X := ⟨hstk, hfrm⟩
  have f_Deeds : Mkf X "Deeds" 7 (He.ga X.K "Deeds") (sp_Deeds_init X.K) := ⟨h_Deeds, gn_of hs (by decide +kernel)⟩
  have f_deed_of : Fn X "deed_of" 3 (sp_deed_of X.K) := ⟨h_deed_of, gn_of hs (by decide +kernel)⟩
  have f_is_deed : Fn X "is_deed" 6 (sp_is_deed X.K) := ⟨h_is_deed, gn_of hs (by decide +kernel)⟩
  have f_deed_line : Fn X "deed_line" 2 (sp_deed_line X.K) := ⟨h_deed_line, gn_of hs (by decide +kernel)⟩
  have b_enumerate : Bnc X "enumerate" := ⟨bn_of hs T.fr_enumerate (by decide +kernel)⟩
  have g_MOST : Gvc X "MOST_deeds" (.int 6) := ⟨gn_of hs (by decide +kernel), gvi T.gv_MOST_deeds⟩
  have x_BadLine : Xf X "BadLine" (He.ga X.K "BadLine") "line" 1 := ⟨gn_of hs (by decide +kernel), T.gx_BadLine, T.xo_BadLine, c_BadLine_init T⟩
  show WB X (_ :: _) _ _ _ _ _ _
  obtain ⟨_, t, rfl, hz, q1, q2⟩ := q
  ktf_call "go"
  refine if_d (fun ht => ?_) (fun ht => ?_)
  · subst ht
    ktf_call "go"
    rename_i L0 H1 n1 e1 h1 A dx H2 nA e2 hA
    refine ⟨rfl, A, dx, L0, [], [], rfl, hA, sql_new (e2 _ _ h1), .nil, Ne.symm (fresh_ne nA h1), by simp, by simp, fun i x H' h => (by cases h), fun _ T H' b t h hT => ⟨rfl, ?_⟩⟩
    exact q2 [] A H' (.inl ⟨rfl, rfl⟩) (by simp) (by simp) (same_none e1 nA) (same_bt (e1.trans e2) b (off1 (same_none e1 nA))) ⟨dx, T, [], h, hT, .nil⟩
  · have hb := split_size t (c := 10)
    rw [← newline] at hb
    have hpart := part_le (n := 900) (Nat.le_trans hb.1 hz)
    have hcount : (Txt.split t "\n").length ≤ 901 := by omega
    clear hb
    ktf_call "go"
    rename_i F H1 nF e1 hF
    refine s_for hc (fun _ => rfl) (wi_enum b_enumerate.bn rfl ?_)
    ktf_call "go"
    rename_i P H2 nP e2 hP
    have hF2 := e2 _ _ hF
    have nPF : P ≠ F := fresh_ne nP hF
    have q1 := fun i x H' => q1 i x H' ht
    have q2 := fun ds a H' h1 h2 => q2 ds a H' (.inr ⟨ht, h1, h2⟩)
    generalize hlines : Txt.split t "\n" = lines at *
    refine ⟨P, _, rfl, sql_new hP, _, _, _, walk_enum (xs := lines.map .str), fun i σ H' => Wd (∃ o2 o3 o4 vs ds, σ = [some (.str t), some (.ref F), o2, o3, o4] ∧ Same H H' ∧ H' P = some (.lst (lines.map .str)) ∧ H' F = some (.lst vs) ∧ ImAll X.K H' vs (ds.map encDeed) ∧ ds.length = i ∧ (∀ d ∈ ds, okD d) ∧ ds.map line = lines.take i ∧ i ≤ 6 ∧ readBad 0 lines = readBad i (lines.drop i)),
      ⟨none, none, none, [], [], rfl, e1.trans e2, hP, hF2, .nil, rfl, by simp, rfl, by decide, rfl⟩, ?_, ?_, ?_⟩
    · rintro i σ H' _ ⟨o2, o3, o4, vs, ds, _, _, h, _⟩
      exact sql_new h
    · rintro i x σ H' H3 hi ⟨o2, o3, o4, vs, ds, rfl, es, hP', hF', hI, hn, hok, hln, hi6, hrb⟩ ⟨T, w1, w2, rfl, hT, rfl, hw1, hw2⟩
      cases hw1
      have hw2 : (lines.map V.str)[i]? = some w2 := hw2
      rw [List.getElem?_map] at hw2
      obtain ⟨ln, j1, rfl⟩ := Option.map_eq_some_iff.mp hw2
      have e3 : Same H' (upd H' T (.tup [.int (i : Nat), .str ln])) := same_new hT
      have hT2 : (upd H' T (.tup [.int (i : Nat), .str ln])) T = some (.tup [.int (i : Nat), .str ln]) := upd_same
      generalize upd H' T (.tup [.int (i : Nat), .str ln]) = H3 at *
      rw [drop_at j1] at hrb
      have hll := hpart ln (List.mem_of_getElem? j1)
      have hws : (Txt.split ln " ").length < 1000 := by
        have h := (split_size ln (c := 32)).2
        rw [← blank] at h
        omega
      have bad : ∀ H4, Same H3 H4 → (6 ≤ i ∨ goodLine ln = false) → NewX H4 "line" (.int ((i : Int) + 1)) fun d H5 => E (.ref (He.ga X.K "BadLine")) (some d) H5 := fun H4 e4 hbad x H5 nx e5 h5 => by
        have ee := ((es.trans e3).trans e4)
        refine q1 (i + 1) x H5 (hrb.trans (if_pos hbad)) (same_none ee nx) (ee.trans e5) ?_
        rw [h5]
        rfl
      ktf_call "go"
      refine ⟨rfl, ln, rfl, hll, fun v H4 e4 hv => ?_⟩
      ktf_call "go"
      refine if_d (fun h6 => ?_) (fun h6 => ?_)
      · ktf_call "go"
        exact bad _ e4 (.inl (by omega))
      · ktf_call "go"
        refine ⟨rfl, v, _, rfl, .im hv, deedOf_bd hws, fun H5 e5 => ?_⟩
        ktf_call "go"
        cases hg : isDeed (deedOf (Txt.split ln " "))
        · ktf_call "go"
          exact bad _ (e4.trans e5) (.inr (by unfold goodLine dataOf; rw [hg]; rfl))
        · obtain ⟨d, hde, hdo⟩ := deed_form hg
          rw [hde] at hv
          ktf_call "go"
          refine ⟨rfl, v, d, rfl, hv.same e5, hdo, fun H6 e6 => ?_⟩
          ktf_call "go"
          refine if_n (fun hne => ?_) (fun heq => ?_)
          · ktf_call "go"
            exact bad _ ((e4.trans e5).trans e6) (.inr (by unfold goodLine dataOf; rw [hg, hde, lineData_enc, decide_eq_false hne]; rfl))
          · have ee := ((e3.trans e4).trans e5).trans e6
            have hF6 := ee _ _ hF'
            have hlv : vs.length = i := by rw [hI.length, List.length_map, hn]
            ktf_call "go"
            rename_i H7 b7 t7 h7
            refine ⟨_, _, _, vs ++ [v], ds ++ [d], rfl, same_bt (es.trans ee) b7 (off1 nF), b7 _ _ (ee _ _ hP') (by simpa using nPF), h7, ?_, by simp [hn], ?_, ?_, by omega, ?_⟩
            · rw [List.map_append]
              exact ((hI.same ee).tx t7).snoc (((hv.same e5).same e6).tx t7)
            · intro e he
              rcases List.mem_append.mp he with he | he
              · exact hok e he
              · rw [List.mem_singleton.mp he]; exact hdo
            · rw [take_at j1, List.map_append, hln, ← heq]
              rfl
            · refine hrb.trans (if_neg ?_)
              rintro (z | z)
              · omega
              · unfold goodLine dataOf at z
                rw [hg, hde, lineData_enc, decide_eq_true heq] at z
                cases z
    · rintro σ H' ⟨o2, o3, o4, vs, ds, rfl, es, hP', hF', hI, hn, hok, hln, hi6, hrb⟩
      rw [List.length_map] at hn hi6 hrb
      rw [List.length_map, take_end (Nat.le_refl _)] at hln
      rw [drop_end (Nat.le_refl _)] at hrb
      ktf_call "go"
      rename_i A dx H4 nA e4 hA
      have hI4 := hI.same e4
      refine ⟨rfl, A, dx, F, vs, ds.map encDeed, rfl, hA, sql_new (e4 _ _ hF'), AnAll.of hI4, Ne.symm (fresh_ne nA hF'), by rw [hI.length, List.length_map]; omega, fun p hp => ?_, fun i x H5 hf => ?_, fun _ T2 H5 b5 t5 h5 hT5 => ⟨rfl, ?_⟩⟩
      · obtain ⟨d, _, rfl⟩ := List.mem_map.mp hp
        exact enc_bd d
      · rw [fault_ok (by omega) hok] at hf
        cases hf
      · exact q2 ds A H5 hrb hln hok (by omega) (same_none es nA) (same_bt (es.trans e4) b5 (off1 (same_none es nA))) ⟨dx, T2, vs, h5, hT5, hI4.tx t5⟩
end G

namespace G
open PySem PySem.Spec PyProof.Rows L2 Z
/-! the steps -/
local macro_rules | `(tactic| ktf_call "rf") => `(tactic| first
  | rfl
  | with_unfolding_all rfl
  | (intros; with_unfolding_all rfl)
  | with_unfolding_all decide)
-- tuples, lists, data at the heap at hand
local macro_rules | `(tactic| ktf_call "same") => `(tactic| first
  | with_reducible assumption
  | with_reducible exact Same.refl _
  | ((with_reducible refine Same.trans ?_ (by with_reducible assumption)); ktf_call "same")
  | ((with_reducible refine same_bt ?_ (by with_reducible assumption) (by ktf_call "off")); ktf_call "same"))
local macro_rules | `(tactic| ktf_call "off") => `(tactic| exact off1 (by with_reducible assumption))
local macro_rules | `(tactic| ktf_call "im") => `(tactic| first
  | with_reducible assumption
  | with_reducible exact Im.non
  | with_reducible exact Im.int _
  | with_reducible exact Im.str _
  | with_reducible exact Im.bl _
  | with_reducible exact ImAll.nil
  | ((with_reducible apply im_tx); (with_reducible assumption); (ktf_call "im"))
  | ((with_reducible apply im_same); (with_reducible assumption); (ktf_call "im"))
  | ((with_reducible apply ims_tx); (with_reducible assumption); (ktf_call "im"))
  | ((with_reducible apply ims_same); (with_reducible assumption); (ktf_call "im")))
local macro_rules | `(tactic| ktf_call "sq") => `(tactic| first
  | with_reducible assumption
  | with_reducible exact Kt.sq _
  | ((with_reducible apply sqt_new); (with_reducible assumption))
  | ((with_reducible apply sql_new); (with_reducible assumption))
  | ((with_reducible apply sq_tx); (with_reducible assumption); (ktf_call "sq"))
  | ((with_reducible apply sq_same); (with_reducible assumption); (ktf_call "sq"))
  | ((with_reducible apply Same.seq); (with_reducible assumption); (ktf_call "sq"))
  | ((with_reducible apply sq_bt); (with_reducible assumption); (ktf_call "noff"); (ktf_call "sq")))
local macro_rules | `(tactic| ktf_call "ob") => `(tactic| first
  | with_reducible assumption
  | ((with_reducible apply same_get); (with_reducible assumption); (ktf_call "ob"))
  | ((with_reducible apply ob_bt); (with_reducible assumption); (ktf_call "noff"); (ktf_call "ob")))
local macro_rules | `(tactic| ktf_call "ne1") => `(tactic| first
  | with_reducible assumption
  | ((with_reducible apply Off.l); (with_reducible assumption))
  | ((with_reducible apply dr_ne); (with_reducible assumption); (ktf_call "dr"))
  | ((with_reducible apply fresh_ne); (with_reducible assumption); (with_reducible assumption))
  | ((with_reducible apply fresh_ne); (with_reducible assumption); (ktf_call "ob")))
local macro_rules | `(tactic| ktf_call "ne") => `(tactic| first | ktf_call "ne1" | (refine Ne.symm ?_; ktf_call "ne1"))
local macro_rules | `(tactic| ktf_call "noff") => `(tactic| first
  | with_reducible exact off_nil
  | ((with_reducible apply off_cons); (ktf_call "ne"); (ktf_call "noff")))
local macro_rules | `(tactic| ktf_call "dr") => `(tactic| first
  | with_reducible assumption
  | ((with_reducible apply dr_same); (with_reducible assumption); (ktf_call "dr"))
  | ((with_reducible apply dr_chg); (with_reducible assumption); (with_reducible assumption); (ktf_call "dr")))
local macro_rules | `(tactic| ktf_call "sz") => `(tactic| with_unfolding_all exact Nat.le_of_ble_eq_true rfl)
local macro_rules | `(tactic| ktf_call "sz1") => `(tactic| first | with_unfolding_all decide | with_unfolding_all exact Nat.le_of_ble_eq_true rfl)
local macro_rules | `(tactic| ktf_call "sdc") => `(tactic| first
  | exact rfl
  | exact ⟨rfl, rfl⟩
  | exact ⟨rfl, rfl, rfl⟩
  | exact ⟨rfl, rfl, rfl, rfl, rfl⟩
  | exact ⟨_, rfl⟩
  | ktf_call "rf")
local macro_rules | `(tactic| ktf_call "pos") => `(tactic| first | with_reducible assumption | exact (by decide) | omega)
local macro_rules | `(tactic| ktf_call "lev") => `(tactic| first | exact Nat.le_of_ble_eq_true rfl | with_reducible assumption | with_reducible exact Nat.le_refl _ | omega)
-- one piece of the text
local macro_rules | `(tactic| ktf_call "ge1") => `(tactic| first
  | with_reducible apply stp
  | ((with_reducible apply sl_i); (exact rfl))
  | ((with_reducible apply sd); (ktf_call "sdc"))
  | ((with_reducible apply le_n); (ktf_call "lev"))
  | ((with_reducible apply sz_l); (exact rfl))
  | ((with_reducible apply all_b); intro _ _ _ _ _)
  | ((with_reducible apply new_at); intro _ _ _ _ _)
  | ((with_reducible apply new_ins); intro _ _ _ _ _ _)
  | ((with_reducible apply sub_t); intro _ _ _ _)
  | ((with_reducible apply dr_go); (ktf_call "dr"); (ktf_call "pos"); (ktf_call "pos"); intro _ _ _ _ _ _ _)
  | ((with_reducible apply tg_t); (ktf_call "sq"))
  | ((with_reducible apply tg_l); (ktf_call "sq"))
  | ((with_reducible apply is_l); (ktf_call "sq"))
  | ((with_reducible apply app_to); (ktf_call "ob"); (first | exact lt_size (by omega) | rotate_left); intro _ _ _ _)
  | ((with_reducible apply join_l); (ktf_call "sq"); (ktf_call "lev"))
  | ((with_reducible apply spl_s); (ktf_call "rf"); (ktf_call "lev"))
  | ((with_reducible apply str_i); (ktf_call "lev"))
  | ((with_reducible apply add_gl); (ktf_call "ob"); (ktf_call "ob"); (first | (exact Nat.le_of_ble_eq_true rfl) | (simp only [List.length_map, List.length_cons, List.length_nil, List.length_append]; omega)))
  | ((with_reducible apply tupof_l); (ktf_call "sq"))
  | ((with_reducible apply lstof_l); (ktf_call "sq"))
  | ((with_reducible apply len_l); (ktf_call "sq"))
  | ((with_reducible apply len_t); (ktf_call "sq"))
  | ((with_reducible apply tupof_t); (ktf_call "sq"))
  | ((with_reducible apply lstof_t); (ktf_call "sq"))
  | ((with_reducible apply isi_t); (ktf_call "sq"); (exact inferInstance))
  | ((with_reducible apply isi_l); (ktf_call "sq"); (exact inferInstance))
  | ((with_reducible apply in_t); (ktf_call "sq"); (ktf_call "rf"); (ktf_call "rf"))
  | ((with_reducible apply in_l); (ktf_call "sq"); (ktf_call "rf"); (ktf_call "rf"))
  | ((with_reducible apply nin_t); (ktf_call "sq"); (ktf_call "rf"); (ktf_call "rf"))
  | ((with_reducible apply nin_l); (ktf_call "sq"); (ktf_call "rf"); (ktf_call "rf"))
  | ((with_reducible apply in_ks); (ktf_call "ob"))
  | ((with_reducible apply in_ki); (ktf_call "ob"))
  | ((with_reducible apply fld_g); (ktf_call "ob"); (exact inferInstance); (exact inferInstance); (ktf_call "rf"))
  | ((with_reducible apply put_g); (ktf_call "ob"); (exact inferInstance); (exact inferInstance); (ktf_call "sz1"); intro _ _ _ _)
  | ((with_reducible apply aug_f); (ktf_call "ob"); (exact inferInstance); (exact inferInstance); (ktf_call "rf"))
  | ((with_reducible apply aug_p); (ktf_call "ob"); (ktf_call "sz1"); intro _ _ _ _)
  | ((with_reducible apply ins_m); (ktf_call "ob"); (ktf_call "rf"))
  | ((with_reducible apply sl_l); (ktf_call "sq"))
  | ((with_reducible apply sl_t); (ktf_call "sq"))
  | ((with_reducible apply mul_r); (exact (by decide +kernel)))
  | ((with_reducible apply mod_i); (ktf_call "pos"))
  | ((with_reducible apply div_i); (ktf_call "pos"); (ktf_call "pos"))
  | ((with_reducible apply pow_i); (exact (by decide +kernel)))
  | ((with_reducible apply all_l); (ktf_call "sq"))
  | ((with_reducible apply tru_l); (ktf_call "sq"))
  | ((with_reducible apply tru_t); (ktf_call "sq"))
  | ((with_reducible apply ix_t0); (ktf_call "sq"))
  | ((with_reducible apply ix_t); (ktf_call "sq"); (ktf_call "rf"))
  | ((with_reducible apply ix_l); (ktf_call "sq"); (ktf_call "rf"))
  | ((with_reducible apply ix_tn); (ktf_call "sq"); (exact (by decide)); (exact rfl))
  | ((with_reducible apply ix_ln); (ktf_call "sq"); (exact (by decide)); (exact rfl))
  | ((with_reducible apply if_t); (exact (by decide +kernel)))
  | ((with_reducible apply if_f); (exact (by decide +kernel))))
local macro_rules | `(tactic| ktf_call "ge") => `(tactic| repeat (ktf_call "ge1"))
local macro_rules | `(tactic| ktf_call "gi") => `(tactic| repeat (first | ktf_call "ge1" | with_reducible apply b_cons))
local macro_rules | `(tactic| ktf_call "go") => `(tactic| repeat (first | ktf_call "ge1" | with_reducible apply b_cons | with_reducible apply s_if))
open M
def sp__law_begin (K : PySem.W.Frag) : Sp := fun vs H Q _ => vs.length = 1 ∧ ∃ (a : Addr) (ns : List Int), vs = [.ref a] ∧ SqL K H a (ns.map V.int) ∧ ∀ l c H', H l = none → H c = none → Same H H' → DrAt H' l c → Q (.ref l) H'
theorem c__law_begin {P : Program} {w : World} {K : PySem.W.Frag} {mg : Str → Option Value} {base : Heap} (T : Txt K mg)   : Cal P w K mg base 1 "_law_begin" (sp__law_begin K) := by
  obtain ⟨f, fd, F, b⟩ := T.d__law_begin
  refine cal_of (N := n__law_begin) F b sc__law_begin (fun vs H Q E q => q.1) (fun X E h vs H Q q => ?_)
  obtain ⟨hp, hw, hK, hm, hb, hN, hs, hcalm, hfn, hroom, hown, hstk, hfrm, htk⟩ := h
  subst hp hw hK hm hb
  have L := lcs_of hN hs hfn lc__law_begin
  have n0 : Lcc X "_law_script" 0 := ⟨L 0 _ rfl (by decide)⟩
  clear L
  have nd : X.N.Nodup := by rw [hN]; decide +kernel
  have hc : Hc X := hc_of hcalm hroom hown
  have rm : Rm X 0 := ⟨hroom⟩
  have tk : Tk X (fun cls d _ H => E cls d H) := ⟨htk⟩
  have fr : Fr X := ⟨hstk, hfrm⟩
  have b_list : Bnc X "list" := ⟨bn_of hs T.fr_list (by decide +kernel)⟩
  show WB X (_ :: _) _ _ _ _ _ _
  obtain ⟨_, a, ns, rfl, hs, q⟩ := q
  ktf_call "go"
  rename_i c H1 hc1 e1 h1 l H2 hl e2 h2
  have nl : c ≠ l := fun z => by rw [z, hl] at h1; cases h1
  have hl0 : H l = none := by
    cases z : H l with
    | none => rfl
    | some o => rw [e1 _ _ z] at hl; cases hl
  exact q l c H2 hl0 hc1 (e1.trans e2) ⟨nl, ns, 0, 0, 7, h2, e2 _ _ h1, Int.le_refl 0⟩
def sp__law_draw (K : PySem.W.Frag) : Sp := fun vs H Q _ => vs.length = 2 ∧ ∃ (l c : Addr) (m : Int), vs = [.ref l, .int m] ∧ 0 < m ∧ m < 1073741824 ∧ DrAt H l c ∧ ∀ (z : Int) H', 0 ≤ z → z < m → Bt [l] H H' → Tx H H' → DrAt H' l c → Q (.int z) H'
theorem c__law_draw {P : Program} {w : World} {K : PySem.W.Frag} {mg : Str → Option Value} {base : Heap} (T : Txt K mg)   : Cal P w K mg base 1 "_law_draw" (sp__law_draw K) := by
  obtain ⟨f, fd, F, b⟩ := T.d__law_draw
  refine cal_of (N := n__law_draw) F b sc__law_draw (fun vs H Q E q => q.1) (fun X E h vs H Q q => ?_)
  obtain ⟨hp, hw, hK, hm, hb, hN, hs, hcalm, hfn, hroom, hown, hstk, hfrm, htk⟩ := h
  subst hp hw hK hm hb
  have L := lcs_of hN hs hfn lc__law_draw
  have n0 : Lcc X "_law_draws" 0 := ⟨L 0 _ rfl (by decide)⟩
  have n1 : Lcc X "_law_many" 1 := ⟨L 1 _ rfl (by decide)⟩
  have n2 : Lcc X "_law_cell" 2 := ⟨L 2 _ rfl (by decide)⟩
  have n3 : Lcc X "_law_found" 3 := ⟨L 3 _ rfl (by decide)⟩
  clear L
  have nd : X.N.Nodup := by rw [hN]; decide +kernel
  have hc : Hc X := hc_of hcalm hroom hown
  have rm : Rm X 0 := ⟨hroom⟩
  have tk : Tk X (fun cls d _ H => E cls d H) := ⟨htk⟩
  have fr : Fr X := ⟨hstk, hfrm⟩
  have b_int : Bnc X "int" := ⟨bn_of hs T.fr_int (by decide +kernel)⟩
  have b_len : Bnc X "len" := ⟨bn_of hs T.fr_len (by decide +kernel)⟩
  show WB X (_ :: _) _ _ _ _ _ _
  obtain ⟨_, l, c, m, rfl, hm0, hm1, ⟨hne, cells, i, big, seed, hl, hc2, hb⟩, q⟩ := q
  have hcs : SqL X.K H c (cells.map .int) := sql_new hc2
  refine b_cons (s_mid (fun σ' H' => Wd (∃ o2 i' big' seed', σ' = [some (.ref l), some (.int m), o2, none] ∧ Bt [l] H H' ∧ Tx H H' ∧ H' l = some (.lst [.ref c, .int ((i' : Nat) : Int), .int big', .int seed']) ∧ 0 ≤ big')) ?_ ?_)
  · ktf_call "go"
    refine if_d (fun h0 => ?_) (fun h0 => ?_)
    · subst h0
      ktf_call "go"
      refine if_d (fun h1 => ?_) (fun h1 => ?_)
      · have hi : i < cells.length := by rw [List.length_map] at h1; omega
        ktf_call "go"
        refine ix_l hcs (v := .int (cells[i])) (atI_nat (by rw [List.getElem?_map, List.getElem?_eq_getElem hi] <;> rfl)) ?_
        ktf_call "go"
        refine set_l hl (j := 1) rfl fun H2 b2 t2 h2 => ?_
        have hcs2 : SqL X.K H2 c (cells.map .int) := sql_new (b2 _ _ hc2 (by simpa using hne))
        ktf_call "go"
        refine if_d (fun h3 => ?_) (fun h3 => ?_)
        · ktf_call "go"
          refine set_l h2 (j := 2) rfl fun H3 b3 t3 h4 => ?_
          ktf_call "go"
          exact ⟨_, i + 1, _, _, rfl, b2.trans b3, t2.trans t3, h4, Int.le_trans (by decide) h3⟩
        · ktf_call "go"
          refine set_l h2 (j := 3) rfl fun H3 b3 t3 h4 => ?_
          ktf_call "go"
          exact ⟨_, i + 1, _, _, rfl, b2.trans b3, t2.trans t3, h4, Int.le_refl 0⟩
      · ktf_call "go"
        refine set_l hl (j := 3) rfl fun H3 b3 t3 h4 => ?_
        ktf_call "go"
        exact ⟨_, i, _, _, rfl, b3, t3, h4, Int.le_refl 0⟩
    · ktf_call "go"
      exact ⟨none, i, _, _, rfl, .refl H, .refl H, hl, hb⟩
  · rintro σ' H' ⟨o2, i', big', seed', rfl, b1, t1, h1, hb1⟩
    have hc3 := b1 _ _ hc2 (by simpa using hne)
    ktf_call "go"
    refine if_d (fun h3 => ?_) (fun h3 => ?_)
    · ktf_call "go"
      refine set_l h1 (j := 2) rfl fun H3 b3 t3 h4 => ?_
      ktf_call "go"
      exact q _ H3 (Int.emod_nonneg _ (by omega)) (Int.emod_lt_of_pos _ hm0) (b1.trans b3) (t1.trans t3) ⟨hne, cells, i', _, _, h4, b3 _ _ hc3 (by simpa using hne), Int.ediv_nonneg hb1 (by omega)⟩
    · ktf_call "go"
      exact q _ H' (Int.emod_nonneg _ (by omega)) (Int.emod_lt_of_pos _ hm0) b1 t1 ⟨hne, cells, i', _, _, h1, hc3, hb1⟩
theorem dr_go {K : PySem.W.Frag} {H : Hp} {l c : Addr} {m : Int} {Q : VK} {E : XK} (h : DrAt H l c) (h0 : 0 < m) (h1 : m < 1073741824) (q : ∀ (z : Int) H', 0 ≤ z → z < m → Bt [l] H H' → Tx H H' → DrAt H' l c → Q (.int z) H') : sp__law_draw K [.ref l, .int m] H Q E := ⟨rfl, l, c, m, rfl, h0, h1, h, q⟩
theorem begin_go {K : PySem.W.Frag} {H : Hp} {a : Addr} {ns : List Int} {Q : VK} {E : XK} (h : SqL K H a (ns.map V.int)) (q : ∀ l c H', H l = none → H c = none → Same H H' → DrAt H' l c → Q (.ref l) H') : sp__law_begin K [.ref a] H Q E := ⟨rfl, a, ns, rfl, h, q⟩
end G

namespace G
open PySem PySem.Spec PyProof.Rows L2 Z
/-! the steps -/
local macro_rules | `(tactic| ktf_call "rf") => `(tactic| first
  | rfl
  | with_unfolding_all rfl
  | (intros; with_unfolding_all rfl)
  | with_unfolding_all decide)
-- tuples, lists, data at the heap at hand
local macro_rules | `(tactic| ktf_call "same") => `(tactic| first
  | with_reducible assumption
  | with_reducible exact Same.refl _
  | ((with_reducible refine Same.trans ?_ (by with_reducible assumption)); ktf_call "same")
  | ((with_reducible refine same_bt ?_ (by with_reducible assumption) (by ktf_call "off")); ktf_call "same"))
local macro_rules | `(tactic| ktf_call "off") => `(tactic| exact off1 (by with_reducible assumption))
local macro_rules | `(tactic| ktf_call "im") => `(tactic| first
  | with_reducible assumption
  | with_reducible exact Im.non
  | with_reducible exact Im.int _
  | with_reducible exact Im.str _
  | with_reducible exact Im.bl _
  | with_reducible exact ImAll.nil
  | ((with_reducible apply im_tx); (with_reducible assumption); (ktf_call "im"))
  | ((with_reducible apply im_same); (with_reducible assumption); (ktf_call "im"))
  | ((with_reducible apply ims_tx); (with_reducible assumption); (ktf_call "im"))
  | ((with_reducible apply ims_same); (with_reducible assumption); (ktf_call "im")))
local macro_rules | `(tactic| ktf_call "sq") => `(tactic| first
  | with_reducible assumption
  | with_reducible exact Kt.sq _
  | ((with_reducible apply sqt_new); (with_reducible assumption))
  | ((with_reducible apply sql_new); (with_reducible assumption))
  | ((with_reducible apply sq_tx); (with_reducible assumption); (ktf_call "sq"))
  | ((with_reducible apply sq_same); (with_reducible assumption); (ktf_call "sq"))
  | ((with_reducible apply Same.seq); (with_reducible assumption); (ktf_call "sq"))
  | ((with_reducible apply sq_bt); (with_reducible assumption); (ktf_call "noff"); (ktf_call "sq")))
local macro_rules | `(tactic| ktf_call "ob") => `(tactic| first
  | with_reducible assumption
  | ((with_reducible apply same_get); (with_reducible assumption); (ktf_call "ob"))
  | ((with_reducible apply ob_bt); (with_reducible assumption); (ktf_call "noff"); (ktf_call "ob")))
local macro_rules | `(tactic| ktf_call "ne1") => `(tactic| first
  | with_reducible assumption
  | ((with_reducible apply Off.l); (with_reducible assumption))
  | ((with_reducible apply dr_ne); (with_reducible assumption); (ktf_call "dr"))
  | ((with_reducible apply fresh_ne); (with_reducible assumption); (with_reducible assumption))
  | ((with_reducible apply fresh_ne); (with_reducible assumption); (ktf_call "ob")))
local macro_rules | `(tactic| ktf_call "ne") => `(tactic| first | ktf_call "ne1" | (refine Ne.symm ?_; ktf_call "ne1"))
local macro_rules | `(tactic| ktf_call "noff") => `(tactic| first
  | with_reducible exact off_nil
  | ((with_reducible apply off_cons); (ktf_call "ne"); (ktf_call "noff")))
local macro_rules | `(tactic| ktf_call "dr") => `(tactic| first
  | with_reducible assumption
  | ((with_reducible apply dr_same); (with_reducible assumption); (ktf_call "dr"))
  | ((with_reducible apply dr_chg); (with_reducible assumption); (with_reducible assumption); (ktf_call "dr")))
local macro_rules | `(tactic| ktf_call "sz") => `(tactic| with_unfolding_all exact Nat.le_of_ble_eq_true rfl)
local macro_rules | `(tactic| ktf_call "sz1") => `(tactic| first | with_unfolding_all decide | with_unfolding_all exact Nat.le_of_ble_eq_true rfl)
local macro_rules | `(tactic| ktf_call "sdc") => `(tactic| first
  | exact rfl
  | exact ⟨rfl, rfl⟩
  | exact ⟨rfl, rfl, rfl⟩
  | exact ⟨rfl, rfl, rfl, rfl, rfl⟩
  | exact ⟨_, rfl⟩
  | ktf_call "rf")
local macro_rules | `(tactic| ktf_call "pos") => `(tactic| first | with_reducible assumption | exact (by decide) | omega)
local macro_rules | `(tactic| ktf_call "lev") => `(tactic| first | exact Nat.le_of_ble_eq_true rfl | with_reducible assumption | with_reducible exact Nat.le_refl _ | omega)
-- one piece of the text
local macro_rules | `(tactic| ktf_call "ge1") => `(tactic| first
  | with_reducible apply stp
  | ((with_reducible apply sl_i); (exact rfl))
  | ((with_reducible apply sd); (ktf_call "sdc"))
  | ((with_reducible apply le_n); (ktf_call "lev"))
  | ((with_reducible apply sz_l); (exact rfl))
  | ((with_reducible apply all_b); intro _ _ _ _ _)
  | ((with_reducible apply new_at); intro _ _ _ _ _)
  | ((with_reducible apply new_ins); intro _ _ _ _ _ _)
  | ((with_reducible apply sub_t); intro _ _ _ _)
  | ((with_reducible apply dr_go); (ktf_call "dr"); (ktf_call "pos"); (ktf_call "pos"); intro _ _ _ _ _ _ _)
  | ((with_reducible apply tg_t); (ktf_call "sq"))
  | ((with_reducible apply tg_l); (ktf_call "sq"))
  | ((with_reducible apply is_l); (ktf_call "sq"))
  | ((with_reducible apply app_to); (ktf_call "ob"); (first | exact lt_size (by omega) | rotate_left); intro _ _ _ _)
  | ((with_reducible apply join_l); (ktf_call "sq"); (ktf_call "lev"))
  | ((with_reducible apply spl_s); (ktf_call "rf"); (ktf_call "lev"))
  | ((with_reducible apply str_i); (ktf_call "lev"))
  | ((with_reducible apply add_gl); (ktf_call "ob"); (ktf_call "ob"); (first | (exact Nat.le_of_ble_eq_true rfl) | (simp only [List.length_map, List.length_cons, List.length_nil, List.length_append]; omega)))
  | ((with_reducible apply tupof_l); (ktf_call "sq"))
  | ((with_reducible apply lstof_l); (ktf_call "sq"))
  | ((with_reducible apply len_l); (ktf_call "sq"))
  | ((with_reducible apply len_t); (ktf_call "sq"))
  | ((with_reducible apply tupof_t); (ktf_call "sq"))
  | ((with_reducible apply lstof_t); (ktf_call "sq"))
  | ((with_reducible apply isi_t); (ktf_call "sq"); (exact inferInstance))
  | ((with_reducible apply isi_l); (ktf_call "sq"); (exact inferInstance))
  | ((with_reducible apply in_t); (ktf_call "sq"); (ktf_call "rf"); (ktf_call "rf"))
  | ((with_reducible apply in_l); (ktf_call "sq"); (ktf_call "rf"); (ktf_call "rf"))
  | ((with_reducible apply nin_t); (ktf_call "sq"); (ktf_call "rf"); (ktf_call "rf"))
  | ((with_reducible apply nin_l); (ktf_call "sq"); (ktf_call "rf"); (ktf_call "rf"))
  | ((with_reducible apply in_ks); (ktf_call "ob"))
  | ((with_reducible apply in_ki); (ktf_call "ob"))
  | ((with_reducible apply fld_g); (ktf_call "ob"); (exact inferInstance); (exact inferInstance); (ktf_call "rf"))
  | ((with_reducible apply put_g); (ktf_call "ob"); (exact inferInstance); (exact inferInstance); (ktf_call "sz1"); intro _ _ _ _)
  | ((with_reducible apply aug_f); (ktf_call "ob"); (exact inferInstance); (exact inferInstance); (ktf_call "rf"))
  | ((with_reducible apply aug_p); (ktf_call "ob"); (ktf_call "sz1"); intro _ _ _ _)
  | ((with_reducible apply ins_m); (ktf_call "ob"); (ktf_call "rf"))
  | ((with_reducible apply sl_l); (ktf_call "sq"))
  | ((with_reducible apply sl_t); (ktf_call "sq"))
  | ((with_reducible apply mul_r); (exact (by decide +kernel)))
  | ((with_reducible apply mod_i); (ktf_call "pos"))
  | ((with_reducible apply div_i); (ktf_call "pos"); (ktf_call "pos"))
  | ((with_reducible apply pow_i); (exact (by decide +kernel)))
  | ((with_reducible apply all_l); (ktf_call "sq"))
  | ((with_reducible apply tru_l); (ktf_call "sq"))
  | ((with_reducible apply tru_t); (ktf_call "sq"))
  | ((with_reducible apply ix_t0); (ktf_call "sq"))
  | ((with_reducible apply ix_t); (ktf_call "sq"); (ktf_call "rf"))
  | ((with_reducible apply ix_l); (ktf_call "sq"); (ktf_call "rf"))
  | ((with_reducible apply ix_tn); (ktf_call "sq"); (exact (by decide)); (exact rfl))
  | ((with_reducible apply ix_ln); (ktf_call "sq"); (exact (by decide)); (exact rfl))
  | ((with_reducible apply if_t); (exact (by decide +kernel)))
  | ((with_reducible apply if_f); (exact (by decide +kernel))))
local macro_rules | `(tactic| ktf_call "ge") => `(tactic| repeat (ktf_call "ge1"))
local macro_rules | `(tactic| ktf_call "gi") => `(tactic| repeat (first | ktf_call "ge1" | with_reducible apply b_cons))
local macro_rules | `(tactic| ktf_call "go") => `(tactic| repeat (first | ktf_call "ge1" | with_reducible apply b_cons | with_reducible apply s_if))
open M TL
def isScopeD (d : PyData) : Bool := isScope d
def sp_Sheet_tell (K : PySem.W.Frag) : Sp := fun vs H Q E => vs.length = 4 ∧ ∃ a p r s v1 d1 v2 d2 v3 d3, vs = [.ref a, v1, v2, v3] ∧ ShAt K H a p r s ∧ Im K H v1 d1 ∧ Im K H v2 d2 ∧ Im K H v3 d3 ∧ (isScope d1 && (isKind d2 && isTold d3)) = false ∧
  ∀ H', Same H H' → (isScope d1 = false → E (.ref (He.ga K "BadScope")) none H') ∧ (isScope d1 = true → isKind d2 = false → E (.ref (He.ga K "BadKind")) none H') ∧ (isScope d1 = true → isKind d2 = true → isTold d3 = false → E (.ref (He.ga K "BadValue")) none H')
theorem c_Sheet_tell {P : Program} {w : World} {K : PySem.W.Frag} {mg : Str → Option Value} {base : Heap} (T : Txt K mg) (h_is_scope : Cal P w K mg base 4 "is_scope" (sp_is_scope K)) (h_check_kind : Cal P w K mg base 2 "check_kind" (sp_check_kind K)) (h_is_told_value : Cal P w K mg base 2 "is_told_value" (sp_is_told_value K))  : Met P w K mg base 5 (He.ga K "Sheet") "tell" (sp_Sheet_tell K) := by
  obtain ⟨f, fd, M, F, b⟩ := T.d_Sheet_tell
  refine met_of (N := n_Sheet_tell) T.cl_Sheet M F b sc_Sheet_tell (fun vs H Q E q => q.1) (fun X E h vs H Q q => ?_)
  obtain ⟨hp, hw, hK, hm, hb, hN, hs, hcalm, hfn, hroom, hown, hstk, hfrm, htk⟩ := h
  subst hp hw hK hm hb
  have L := lcs_of hN hs hfn lc_Sheet_tell
  have n0 : Lcc X "self" 0 := ⟨L 0 _ rfl (by decide)⟩
  have n1 : Lcc X "scope" 1 := ⟨L 1 _ rfl (by decide)⟩
  have n2 : Lcc X "kind" 2 := ⟨L 2 _ rfl (by decide)⟩
  have n3 : Lcc X "value" 3 := ⟨L 3 _ rfl (by decide)⟩
  have n4 : Lcc X "table" 4 := ⟨L 4 _ rfl (by decide)⟩
  clear L
  have nd : X.N.Nodup := by rw [hN]; decide +kernel
  have hc : Hc X := hc_of hcalm hroom hown
  have rm : Rm X 4 := ⟨hroom⟩
  have tk : Tk X (fun cls d _ H => E cls d H) := ⟨htk⟩
  have fr : Fr X := ⟨hstk, hfrm⟩
  have f_is_scope : Fn X "is_scope" 4 (sp_is_scope X.K) := ⟨h_is_scope, gn_of hs (by decide +kernel)⟩
  have f_check_kind : Fn X "check_kind" 2 (sp_check_kind X.K) := ⟨h_check_kind, gn_of hs (by decide +kernel)⟩
  have f_is_told_value : Fn X "is_told_value" 2 (sp_is_told_value X.K) := ⟨h_is_told_value, gn_of hs (by decide +kernel)⟩
  have k_Sheet : Clc X.K (He.ga X.K "Sheet") := ⟨T.cl_Sheet⟩
  have k_Sheet_order : Nac X.K (He.ga X.K "Sheet") "order" := ⟨T.na_Sheet_order⟩
  have k_Sheet_links : Nac X.K (He.ga X.K "Sheet") "links" := ⟨T.na_Sheet_links⟩
  have k_Sheet_table : Nac X.K (He.ga X.K "Sheet") "table" := ⟨T.na_Sheet_table⟩
  have k_Sheet_age : Nac X.K (He.ga X.K "Sheet") "age" := ⟨T.na_Sheet_age⟩
  have k_Sheet_past : Nac X.K (He.ga X.K "Sheet") "past" := ⟨T.na_Sheet_past⟩
  have k_Sheet_later : Nac X.K (He.ga X.K "Sheet") "later" := ⟨T.na_Sheet_later⟩
  have x_BadScope : Xc X "BadScope" (He.ga X.K "BadScope") := ⟨gn_of hs (by decide +kernel), T.gx_BadScope, T.xc_BadScope⟩
  have x_BadValue : Xc X "BadValue" (He.ga X.K "BadValue") := ⟨gn_of hs (by decide +kernel), T.gx_BadValue, T.xc_BadValue⟩
  show WB X (_ :: _) _ _ _ _ _ _
  obtain ⟨_, a, p, r, s, v1, d1, v2, d2, v3, d3, rfl, hS, h1, h2, h3, hf, q⟩ := q
  ktf_call "go"
  refine ⟨rfl, v1, d1, rfl, .im h1, fun H1 e1 => ?_⟩
  obtain ⟨q1, q2, q3⟩ := q _ e1
  ktf_call "go"
  cases k1 : isScope d1
  · ktf_call "go"
    exact q1 k1
  · ktf_call "go"
    refine ⟨rfl, v2, d2, rfl, .im (h2.same e1), fun k2 => ?_, fun k2 => q2 k1 k2⟩
    ktf_call "go"
    refine ⟨rfl, v3, d3, rfl, .im (h3.same e1), ?_⟩
    ktf_call "go"
    cases k3 : isTold d3
    · ktf_call "go"
      exact q3 k1 k2 k3
    · rw [k1, k2, k3] at hf
      cases hf
def sp_Sheet_insert (K : PySem.W.Frag) : Sp := fun vs H Q E => vs.length = 5 ∧ ∃ a, vs = [.ref a, .str "row", .int 0, .int 1, .str "other"] ∧ ∀ H', Same H H' → E (.ref (He.ga K "BadHow")) none H'
theorem c_Sheet_insert {P : Program} {w : World} {K : PySem.W.Frag} {mg : Str → Option Value} {base : Heap} (T : Txt K mg) (h_check_shift : Cal P w K mg base 2 "check_shift" (sp_check_shift K))  : Met P w K mg base 3 (He.ga K "Sheet") "insert" (sp_Sheet_insert K) := by
  obtain ⟨f, fd, M, F, b⟩ := T.d_Sheet_insert
  refine met_of (N := n_Sheet_insert) T.cl_Sheet M F b sc_Sheet_insert (fun vs H Q E q => q.1) (fun X E h vs H Q q => ?_)
  obtain ⟨hp, hw, hK, hm, hb, hN, hs, hcalm, hfn, hroom, hown, hstk, hfrm, htk⟩ := h
  subst hp hw hK hm hb
  have L := lcs_of hN hs hfn lc_Sheet_insert
  have n0 : Lcc X "self" 0 := ⟨L 0 _ rfl (by decide)⟩
  have n1 : Lcc X "axis" 1 := ⟨L 1 _ rfl (by decide)⟩
  have n2 : Lcc X "at" 2 := ⟨L 2 _ rfl (by decide)⟩
  have n3 : Lcc X "many" 3 := ⟨L 3 _ rfl (by decide)⟩
  have n4 : Lcc X "how" 4 := ⟨L 4 _ rfl (by decide)⟩
  clear L
  have nd : X.N.Nodup := by rw [hN]; decide +kernel
  have hc : Hc X := hc_of hcalm hroom hown
  have rm : Rm X 2 := ⟨hroom⟩
  have tk : Tk X (fun cls d _ H => E cls d H) := ⟨htk⟩
  have fr : Fr X := ⟨hstk, hfrm⟩
  have f_check_shift : Fn X "check_shift" 2 (sp_check_shift X.K) := ⟨h_check_shift, gn_of hs (by decide +kernel)⟩
  have b_isinstance : Bnc X "isinstance" := ⟨bn_of hs T.fr_isinstance (by decide +kernel)⟩
  have b_str : Bnc X "str" := ⟨bn_of hs T.fr_str (by decide +kernel)⟩
  have k_Sheet : Clc X.K (He.ga X.K "Sheet") := ⟨T.cl_Sheet⟩
  have k_Sheet_order : Nac X.K (He.ga X.K "Sheet") "order" := ⟨T.na_Sheet_order⟩
  have k_Sheet_links : Nac X.K (He.ga X.K "Sheet") "links" := ⟨T.na_Sheet_links⟩
  have k_Sheet_table : Nac X.K (He.ga X.K "Sheet") "table" := ⟨T.na_Sheet_table⟩
  have k_Sheet_age : Nac X.K (He.ga X.K "Sheet") "age" := ⟨T.na_Sheet_age⟩
  have k_Sheet_past : Nac X.K (He.ga X.K "Sheet") "past" := ⟨T.na_Sheet_past⟩
  have k_Sheet_later : Nac X.K (He.ga X.K "Sheet") "later" := ⟨T.na_Sheet_later⟩
  have x_BadPlace : Xc X "BadPlace" (He.ga X.K "BadPlace") := ⟨gn_of hs (by decide +kernel), T.gx_BadPlace, T.xc_BadPlace⟩
  have x_BadHow : Xc X "BadHow" (He.ga X.K "BadHow") := ⟨gn_of hs (by decide +kernel), T.gx_BadHow, T.xc_BadHow⟩
  show WB X (_ :: _) _ _ _ _ _ _
  obtain ⟨_, a, rfl, q⟩ := q
  ktf_call "go"
  rename_i P H1 nP e1 hP
  refine ⟨rfl, _, _, P, _, [.int 0], _, _, rfl, .im (.str _), hP, .cons (.im (.int _)) .nil, .im (.int 1), by decide, fun H2 e2 => ⟨fun h => absurd h (by decide +kernel), fun _ h => absurd h (by decide +kernel), fun _ _ => ?_⟩⟩
  ktf_call "go"
  rename_i P3 H3 n3 e3 h3
  exact q _ ((e1.trans e2).trans e3)
def sp_Sheet_remove (K : PySem.W.Frag) : Sp := fun vs H Q E => vs.length = 4 ∧ ∃ (a : Addr) (x : Str) (m : Int), vs = [.ref a, .str x, .int 0, .int m] ∧ ((x = "table") ∨ (x = "row" ∧ m = 0)) ∧ ∀ H', Same H H' → (x = "table" → E (.ref (He.ga K "BadAxis")) none H') ∧ (x = "row" → E (.ref (He.ga K "BadPlace")) none H')
theorem c_Sheet_remove {P : Program} {w : World} {K : PySem.W.Frag} {mg : Str → Option Value} {base : Heap} (T : Txt K mg) (h_check_shift : Cal P w K mg base 2 "check_shift" (sp_check_shift K))  : Met P w K mg base 3 (He.ga K "Sheet") "remove" (sp_Sheet_remove K) := by
  obtain ⟨f, fd, M, F, b⟩ := T.d_Sheet_remove
  refine met_of (N := n_Sheet_remove) T.cl_Sheet M F b sc_Sheet_remove (fun vs H Q E q => q.1) (fun X E h vs H Q q => ?_)
  obtain ⟨hp, hw, hK, hm, hb, hN, hs, hcalm, hfn, hroom, hown, hstk, hfrm, htk⟩ := h
  subst hp hw hK hm hb
  have L := lcs_of hN hs hfn lc_Sheet_remove
  have n0 : Lcc X "self" 0 := ⟨L 0 _ rfl (by decide)⟩
  have n1 : Lcc X "axis" 1 := ⟨L 1 _ rfl (by decide)⟩
  have n2 : Lcc X "at" 2 := ⟨L 2 _ rfl (by decide)⟩
  have n3 : Lcc X "many" 3 := ⟨L 3 _ rfl (by decide)⟩
  clear L
  have nd : X.N.Nodup := by rw [hN]; decide +kernel
  have hc : Hc X := hc_of hcalm hroom hown
  have rm : Rm X 2 := ⟨hroom⟩
  have tk : Tk X (fun cls d _ H => E cls d H) := ⟨htk⟩
  have fr : Fr X := ⟨hstk, hfrm⟩
  have f_check_shift : Fn X "check_shift" 2 (sp_check_shift X.K) := ⟨h_check_shift, gn_of hs (by decide +kernel)⟩
  have k_Sheet : Clc X.K (He.ga X.K "Sheet") := ⟨T.cl_Sheet⟩
  have k_Sheet_order : Nac X.K (He.ga X.K "Sheet") "order" := ⟨T.na_Sheet_order⟩
  have k_Sheet_links : Nac X.K (He.ga X.K "Sheet") "links" := ⟨T.na_Sheet_links⟩
  have k_Sheet_table : Nac X.K (He.ga X.K "Sheet") "table" := ⟨T.na_Sheet_table⟩
  have k_Sheet_age : Nac X.K (He.ga X.K "Sheet") "age" := ⟨T.na_Sheet_age⟩
  have k_Sheet_past : Nac X.K (He.ga X.K "Sheet") "past" := ⟨T.na_Sheet_past⟩
  have k_Sheet_later : Nac X.K (He.ga X.K "Sheet") "later" := ⟨T.na_Sheet_later⟩
  show WB X (_ :: _) _ _ _ _ _ _
  obtain ⟨_, a, x, m, rfl, hx, q⟩ := q
  ktf_call "go"
  rename_i P H1 nP e1 hP
  refine ⟨rfl, _, _, P, _, [.int 0], _, _, rfl, .im (.str _), hP, .cons (.im (.int _)) .nil, .im (.int m), by decide, fun H2 e2 => ?_⟩
  obtain ⟨q1, q2⟩ := q _ (e1.trans e2)
  rcases hx with rfl | ⟨rfl, rfl⟩
  · exact ⟨fun _ => q1 rfl, fun h => absurd h (by decide +kernel), fun h => absurd h (by decide +kernel)⟩
  · exact ⟨fun h => absurd h (by decide +kernel), fun _ _ => q2 rfl, fun _ h => absurd h (by decide +kernel)⟩
def sp_Sheet_undo (K : PySem.W.Frag) : Sp := fun vs H Q E => vs.length = 1 ∧ ∃ a p r s, vs = [.ref a] ∧ ShAt K H a p r s ∧ s.past = [] ∧ E (.ref (He.ga K "NothingToUndo")) none H
theorem c_Sheet_undo {P : Program} {w : World} {K : PySem.W.Frag} {mg : Str → Option Value} {base : Heap} (T : Txt K mg)   : Met P w K mg base 2 (He.ga K "Sheet") "undo" (sp_Sheet_undo K) := by
  obtain ⟨f, fd, M, F, b⟩ := T.d_Sheet_undo
  refine met_of (N := n_Sheet_undo) T.cl_Sheet M F b sc_Sheet_undo (fun vs H Q E q => q.1) (fun X E h vs H Q q => ?_)
  obtain ⟨hp, hw, hK, hm, hb, hN, hs, hcalm, hfn, hroom, hown, hstk, hfrm, htk⟩ := h
  subst hp hw hK hm hb
  have L := lcs_of hN hs hfn lc_Sheet_undo
  have n0 : Lcc X "self" 0 := ⟨L 0 _ rfl (by decide)⟩
  clear L
  have nd : X.N.Nodup := by rw [hN]; decide +kernel
  have hc : Hc X := hc_of hcalm hroom hown
  have rm : Rm X 1 := ⟨hroom⟩
  have tk : Tk X (fun cls d _ H => E cls d H) := ⟨htk⟩
  have fr : Fr X := ⟨hstk, hfrm⟩
  have k_Sheet : Clc X.K (He.ga X.K "Sheet") := ⟨T.cl_Sheet⟩
  have k_Sheet_order : Nac X.K (He.ga X.K "Sheet") "order" := ⟨T.na_Sheet_order⟩
  have k_Sheet_links : Nac X.K (He.ga X.K "Sheet") "links" := ⟨T.na_Sheet_links⟩
  have k_Sheet_table : Nac X.K (He.ga X.K "Sheet") "table" := ⟨T.na_Sheet_table⟩
  have k_Sheet_age : Nac X.K (He.ga X.K "Sheet") "age" := ⟨T.na_Sheet_age⟩
  have k_Sheet_past : Nac X.K (He.ga X.K "Sheet") "past" := ⟨T.na_Sheet_past⟩
  have k_Sheet_later : Nac X.K (He.ga X.K "Sheet") "later" := ⟨T.na_Sheet_later⟩
  have x_NothingToUndo : Xc X "NothingToUndo" (He.ga X.K "NothingToUndo") := ⟨gn_of hs (by decide +kernel), T.gx_NothingToUndo, T.xc_NothingToUndo⟩
  show WB X (_ :: _) _ _ _ _ _ _
  obtain ⟨_, a, p, r, s, rfl, hS, hp, q⟩ := q
  obtain ⟨ne, dx, t, lk, ps, ls, h0, h1, h2, h3, h4, h5, h6⟩ := hS
  rw [hp] at h4
  cases h4
  ktf_call "go"
  exact q
def sp_Sheet_redo (K : PySem.W.Frag) : Sp := fun vs H Q E => vs.length = 1 ∧ ∃ a p r s, vs = [.ref a] ∧ ShAt K H a p r s ∧ s.later = [] ∧ E (.ref (He.ga K "NothingToRedo")) none H
theorem c_Sheet_redo {P : Program} {w : World} {K : PySem.W.Frag} {mg : Str → Option Value} {base : Heap} (T : Txt K mg)   : Met P w K mg base 2 (He.ga K "Sheet") "redo" (sp_Sheet_redo K) := by
  obtain ⟨f, fd, M, F, b⟩ := T.d_Sheet_redo
  refine met_of (N := n_Sheet_redo) T.cl_Sheet M F b sc_Sheet_redo (fun vs H Q E q => q.1) (fun X E h vs H Q q => ?_)
  obtain ⟨hp, hw, hK, hm, hb, hN, hs, hcalm, hfn, hroom, hown, hstk, hfrm, htk⟩ := h
  subst hp hw hK hm hb
  have L := lcs_of hN hs hfn lc_Sheet_redo
  have n0 : Lcc X "self" 0 := ⟨L 0 _ rfl (by decide)⟩
  clear L
  have nd : X.N.Nodup := by rw [hN]; decide +kernel
  have hc : Hc X := hc_of hcalm hroom hown
  have rm : Rm X 1 := ⟨hroom⟩
  have tk : Tk X (fun cls d _ H => E cls d H) := ⟨htk⟩
  have fr : Fr X := ⟨hstk, hfrm⟩
  have k_Sheet : Clc X.K (He.ga X.K "Sheet") := ⟨T.cl_Sheet⟩
  have k_Sheet_order : Nac X.K (He.ga X.K "Sheet") "order" := ⟨T.na_Sheet_order⟩
  have k_Sheet_links : Nac X.K (He.ga X.K "Sheet") "links" := ⟨T.na_Sheet_links⟩
  have k_Sheet_table : Nac X.K (He.ga X.K "Sheet") "table" := ⟨T.na_Sheet_table⟩
  have k_Sheet_age : Nac X.K (He.ga X.K "Sheet") "age" := ⟨T.na_Sheet_age⟩
  have k_Sheet_past : Nac X.K (He.ga X.K "Sheet") "past" := ⟨T.na_Sheet_past⟩
  have k_Sheet_later : Nac X.K (He.ga X.K "Sheet") "later" := ⟨T.na_Sheet_later⟩
  have x_NothingToRedo : Xc X "NothingToRedo" (He.ga X.K "NothingToRedo") := ⟨gn_of hs (by decide +kernel), T.gx_NothingToRedo, T.xc_NothingToRedo⟩
  show WB X (_ :: _) _ _ _ _ _ _
  obtain ⟨_, a, p, r, s, rfl, hS, hp, q⟩ := q
  obtain ⟨ne, dx, t, lk, ps, ls, h0, h1, h2, h3, h4, h5, h6⟩ := hS
  rw [hp] at h6
  cases h6
  ktf_call "go"
  exact q
def errs : List Str := ["BadOrder", "BadScope", "BadKind", "BadValue", "BadAxis", "BadPlace", "BadHow", "NothingToUndo", "NothingToRedo", "BadLink", "BadDeed", "BadLine"]
def newS (w : Str) : Sh := newSh w []
def sp__law_first (K : PySem.W.Frag) : Sp := fun vs H Q E => vs.length = 2 ∧ ∃ a p r z, vs = [.int z, .ref a] ∧ ShAt K H a p r (newS "newest") ∧ 0 ≤ z ∧ z < 12 ∧ (z < 6 → ∀ nm H', errs[z.toNat]? = some nm → E (.ref (He.ga K nm)) none H') ∧ (6 ≤ z → Q .non H)
theorem c__law_first {P : Program} {w : World} {K : PySem.W.Frag} {mg : Str → Option Value} {base : Heap} (T : Txt K mg) (h_Sheet : Mak P w K mg base 4 "Sheet" (He.ga K "Sheet") (sp_Sheet_init K)) (h_Sheet_tell : Met P w K mg base 5 (He.ga K "Sheet") "tell" (sp_Sheet_tell K)) (h_Sheet_remove : Met P w K mg base 3 (He.ga K "Sheet") "remove" (sp_Sheet_remove K))  : Cal P w K mg base 6 "_law_first" (sp__law_first K) := by
  obtain ⟨f, fd, F, b⟩ := T.d__law_first
  refine cal_of (N := n__law_first) F b sc__law_first (fun vs H Q E q => q.1) (fun X E h vs H Q q => ?_)
  obtain ⟨hp, hw, hK, hm, hb, hN, hs, hcalm, hfn, hroom, hown, hstk, hfrm, htk⟩ := h
  subst hp hw hK hm hb
  have L := lcs_of hN hs hfn lc__law_first
  have n0 : Lcc X "_law_at" 0 := ⟨L 0 _ rfl (by decide)⟩
  have n1 : Lcc X "_law_sheet" 1 := ⟨L 1 _ rfl (by decide)⟩
  clear L
  have nd : X.N.Nodup := by rw [hN]; decide +kernel
  have hc : Hc X := hc_of hcalm hroom hown
  have rm : Rm X 5 := ⟨hroom⟩
  have tk : Tk X (fun cls d _ H => E cls d H) := ⟨htk⟩
  have fr : Fr X := ⟨hstk, hfrm⟩
  have f_Sheet : Mkf X "Sheet" 4 (He.ga X.K "Sheet") (sp_Sheet_init X.K) := ⟨h_Sheet, gn_of hs (by decide +kernel)⟩
  have f_Sheet_tell : Mtf X "tell" 5 (He.ga X.K "Sheet") (sp_Sheet_tell X.K) := ⟨h_Sheet_tell⟩
  have f_Sheet_remove : Mtf X "remove" 3 (He.ga X.K "Sheet") (sp_Sheet_remove X.K) := ⟨h_Sheet_remove⟩
  show WB X (_ :: _) _ _ _ _ _ _
  obtain ⟨_, a, p, r, z, rfl, hS, z0, z1, q1, q2⟩ := q
  obtain ⟨k, rfl⟩ : ∃ k : Nat, z = (k : Int) := ⟨z.toNat, by omega⟩
  have hS0 := hS
  obtain ⟨ne, dx, t, lk, ps, ls, h0, h1, h2, h3, h4, h5, h6⟩ := hS
  match k, (show k < 12 by omega) with
  | 0, _ =>
    have q := fun H' => q1 (by decide) "BadOrder" H' rfl
    ktf_call "go"
    rename_i P0 H1 n1 e1 hP A dx2 H2 nA e2 hA
    exact ⟨rfl, A, dx2, _, _, P0, [], [], rfl, hA, .im (.str _), .inl ⟨sql_new (e2 _ _ hP), Ne.symm (fresh_ne nA hP)⟩, .nil, by decide, fun _ => q _, fun h => absurd h (by decide +kernel), fun h => absurd h (by decide +kernel)⟩
  | 1, _ =>
    have q := fun H' => q1 (by decide) "BadScope" H' rfl
    ktf_call "go"
    rename_i T0 H2 nT e2 hT
    refine ⟨rfl, a, p, r, _, _, .tuple [.str "rows"], _, _, _, _, rfl, hS0.same e2, .tup (sqt_new hT) (.one (.str _)), .str _, .int _, by decide +kernel, fun H3 e3 => ⟨fun _ => q _, fun h => absurd h (by decide +kernel), fun h => absurd h (by decide +kernel)⟩⟩
  | 2, _ =>
    have q := fun H' => q1 (by decide) "BadKind" H' rfl
    ktf_call "go"
    rename_i T0 H2 nT e2 hT
    refine ⟨rfl, a, p, r, _, _, .tuple [.str "table"], _, _, _, _, rfl, hS0.same e2, .tup (sqt_new hT) (.one (.str _)), .str _, .int _, by decide +kernel, fun H3 e3 => ⟨fun h => absurd h (by decide +kernel), fun _ _ => q _, fun _ h => absurd h (by decide +kernel)⟩⟩
  | 3, _ =>
    have q := fun H' => q1 (by decide) "BadValue" H' rfl
    ktf_call "go"
    rename_i T0 H2 nT e2 hT
    refine ⟨rfl, a, p, r, _, _, .tuple [.str "table"], _, _, _, _, rfl, hS0.same e2, .tup (sqt_new hT) (.one (.str _)), .str _, .int _, by decide +kernel, fun H3 e3 => ⟨fun h => absurd h (by decide +kernel), fun _ h => absurd h (by decide +kernel), fun _ _ _ => q _⟩⟩
  | 4, _ =>
    have q := fun H' => q1 (by decide) "BadAxis" H' rfl
    ktf_call "go"
    exact ⟨rfl, a, "table", 1, rfl, .inl rfl, fun H3 e3 => ⟨fun _ => q _, fun h => absurd h (by decide +kernel)⟩⟩
  | 5, _ =>
    have q := fun H' => q1 (by decide) "BadPlace" H' rfl
    ktf_call "go"
    exact ⟨rfl, a, "row", 0, rfl, .inr ⟨rfl, rfl⟩, fun H3 e3 => ⟨fun h => absurd h (by decide +kernel), fun _ => q _⟩⟩
  | k + 6, _ =>
    have q2 := q2 (by omega)
    ktf_call "go"
    refine if_d (fun h => absurd h (by omega)) (fun _ => ?_)
    ktf_call "go"
    refine if_d (fun h => absurd h (by omega)) (fun _ => ?_)
    ktf_call "go"
    refine if_d (fun h => absurd h (by omega)) (fun _ => ?_)
    ktf_call "go"
    refine if_d (fun h => absurd h (by omega)) (fun _ => ?_)
    ktf_call "go"
    refine if_d (fun h => absurd h (by omega)) (fun _ => ?_)
    ktf_call "go"
    refine if_d (fun h => absurd h (by omega)) (fun _ => ?_)
    ktf_call "go"
    exact q2
/-- an error's fields -/
def Flds (H : Hp) (d : Option Addr) : Prop := ∀ dd, d = some dd → ∃ fs, H dd = some (.xd fs)
theorem bd_loop : ∀ d ∈ ([.tuple [.str "loop"]] : List PyData), Bd2 d := by
  intro d hd
  obtain rfl := List.mem_singleton.mp hd
  intro ds e x hx es e2
  cases e
  obtain rfl := List.mem_singleton.mp hx
  cases e2
theorem not_loop {ds : List Deed} (hr : ReadOk "loop" ds) (ok : ∀ d ∈ ds, okD d) : False := by
  rcases hr with ⟨h, _⟩ | ⟨_, _, h⟩
  · exact absurd h (by decide +kernel)
  · rw [show Txt.split ("loop" : Str) "\n" = (["loop"] : List Str) by decide +kernel] at h
    cases ds with
    | nil => simp at h
    | cons d r =>
      have h1 : line d = "loop" := (List.cons.inj h).1
      have h2 := line_split (ok d (by simp))
      rw [h1, show Txt.split ("loop" : Str) " " = (["loop"] : List Str) by decide +kernel] at h2
      cases d with
      | tell s k v => cases s <;> simp [lineWords, scopeWords] at h2
      | _ => simp [lineWords] at h2
theorem Flds.same {H H' : Hp} {d : Option Addr} (h : Flds H d) (e : Same H H') : Flds H' d := fun dd z => by
  obtain ⟨fs, hf⟩ := h dd z
  exact ⟨fs, e _ _ hf⟩
def sp__law_second (K : PySem.W.Frag) : Sp := fun vs H Q E => vs.length = 2 ∧ ∃ a p r z, vs = [.int z, .ref a] ∧ ShAt K H a p r (newS "newest") ∧ 6 ≤ z ∧ z < 12 ∧ ∀ nm d H', errs[z.toNat]? = some nm → Flds H' d → E (.ref (He.ga K nm)) d H'
theorem c__law_second {P : Program} {w : World} {K : PySem.W.Frag} {mg : Str → Option Value} {base : Heap} (T : Txt K mg) (h_Sheet : Mak P w K mg base 4 "Sheet" (He.ga K "Sheet") (sp_Sheet_init K)) (h_Sheet_insert : Met P w K mg base 3 (He.ga K "Sheet") "insert" (sp_Sheet_insert K)) (h_Sheet_undo : Met P w K mg base 2 (He.ga K "Sheet") "undo" (sp_Sheet_undo K)) (h_Sheet_redo : Met P w K mg base 2 (He.ga K "Sheet") "redo" (sp_Sheet_redo K)) (h_Deeds : Mak P w K mg base 7 "Deeds" (He.ga K "Deeds") (sp_Deeds_init K)) (h_read : Cal P w K mg base 9 "read" (sp_read K))  : Cal P w K mg base 10 "_law_second" (sp__law_second K) := by
  obtain ⟨f, fd, F, b⟩ := T.d__law_second
  refine cal_of (N := n__law_second) F b sc__law_second (fun vs H Q E q => q.1) (fun X E h vs H Q q => ?_)
  obtain ⟨hp, hw, hK, hm, hb, hN, hs, hcalm, hfn, hroom, hown, hstk, hfrm, htk⟩ := h
  subst hp hw hK hm hb
  have L := lcs_of hN hs hfn lc__law_second
  have n0 : Lcc X "_law_at" 0 := ⟨L 0 _ rfl (by decide)⟩
  have n1 : Lcc X "_law_sheet" 1 := ⟨L 1 _ rfl (by decide)⟩
  clear L
  have nd : X.N.Nodup := by rw [hN]; decide +kernel
  have hc : Hc X := hc_of hcalm hroom hown
  have rm : Rm X 9 := ⟨hroom⟩
  have tk : Tk X (fun cls d _ H => E cls d H) := ⟨htk⟩
  have fr : Fr X := ⟨hstk, hfrm⟩
  have f_Sheet : Mkf X "Sheet" 4 (He.ga X.K "Sheet") (sp_Sheet_init X.K) := ⟨h_Sheet, gn_of hs (by decide +kernel)⟩
  have f_Sheet_insert : Mtf X "insert" 3 (He.ga X.K "Sheet") (sp_Sheet_insert X.K) := ⟨h_Sheet_insert⟩
  have f_Sheet_undo : Mtf X "undo" 2 (He.ga X.K "Sheet") (sp_Sheet_undo X.K) := ⟨h_Sheet_undo⟩
  have f_Sheet_redo : Mtf X "redo" 2 (He.ga X.K "Sheet") (sp_Sheet_redo X.K) := ⟨h_Sheet_redo⟩
  have f_Deeds : Mkf X "Deeds" 7 (He.ga X.K "Deeds") (sp_Deeds_init X.K) := ⟨h_Deeds, gn_of hs (by decide +kernel)⟩
  have f_read : Fn X "read" 9 (sp_read X.K) := ⟨h_read, gn_of hs (by decide +kernel)⟩
  show WB X (_ :: _) _ _ _ _ _ _
  obtain ⟨_, a, p, r, z, rfl, hS, z0, z1, q⟩ := q
  obtain ⟨k, rfl⟩ : ∃ k : Nat, z = (k : Int) := ⟨z.toNat, by omega⟩
  have hS0 := hS
  obtain ⟨ne, dx, t, lk, ps, ls, h0, h1, h2, h3, h4, h5, h6⟩ := hS
  have no : ∀ H', Flds H' none := fun _ _ h => by cases h
  match k, (show 6 ≤ k ∧ k < 12 by omega) with
  | 6, _ =>
    have q := fun H' => q "BadHow" none H' rfl (no H')
    ktf_call "go"
    exact ⟨rfl, a, rfl, fun H3 e3 => q _⟩
  | 7, _ =>
    have q := fun H' => q "NothingToUndo" none H' rfl (no H')
    ktf_call "go"
    exact ⟨rfl, a, p, r, _, rfl, hS0, rfl, q _⟩
  | 8, _ =>
    have q := fun H' => q "NothingToRedo" none H' rfl (no H')
    ktf_call "go"
    exact ⟨rfl, a, p, r, _, rfl, hS0, rfl, q _⟩
  | 9, _ =>
    have q := fun d H' => q "BadLink" d H' rfl
    ktf_call "go"
    rename_i T0 H1 n1 e1 hT P0 H2 n2 e2 hP A dx2 H3 nA e3 hA
    exact ⟨rfl, A, dx2, _, _, P0, [.ref T0], [.tuple [.str "ink", .str "ink"]], rfl, hA, .im (.str _), .inl ⟨sql_new (e3 _ _ hP), Ne.symm (fresh_ne nA hP)⟩, .cons (.im (.tup (e3.tq (e2.tq (sqt_new hT))) (.cons (.str _) (.one (.str _))))) .nil, by simp, fun h => absurd h (by decide +kernel), fun _ i x H' hf nx e hx => q (some x) H' (fun dd h => by cases h; exact ⟨_, hx⟩), fun _ h => absurd h (by decide +kernel)⟩
  | 10, _ =>
    have q := fun d H' => q "BadDeed" d H' rfl
    ktf_call "go"
    rename_i T0 H1 n1 e1 hT P0 H2 n2 e2 hP A dx2 H3 nA e3 hA
    exact ⟨rfl, A, dx2, P0, [.ref T0], [.tuple [.str "loop"]], rfl, hA, sql_new (e3 _ _ hP), .cons (.im (.tup (e3.tq (e2.tq (sqt_new hT))) (.one (.str _)))) .nil, Ne.symm (fresh_ne nA hP), by simp, bd_loop, fun i x H' hf nx e hx => q (some x) H' (fun dd h => by cases h; exact ⟨_, hx⟩), fun h => absurd h (by decide +kernel)⟩
  | 11, _ =>
    have q := fun d H' => q "BadLine" d H' rfl
    ktf_call "go"
    exact ⟨rfl, "loop", rfl, by decide +kernel, fun i x H' _ hf nx e hx => q (some x) H' (fun dd h => by cases h; exact ⟨_, hx⟩), fun ds a H' hr ok _ _ _ _ => (not_loop hr ok).elim⟩
def sp__law_kinds (K : PySem.W.Frag) : SpE := fun p vs H Q _ => vs.length = 1 ∧ ∃ nm d, vs = [.ref p.1] ∧ nm ∈ errs ∧ Zc (.ref (He.ga K nm)) d p.2 ∧ (∃ us, p.2.data = .fields us) ∧ Flds H d ∧
  ∀ D H', Same H H' → H' D = some (.lst ((errs.map fun b => V.bl (decide (nm = b))) ++ [.bl true])) → Q (.ref D) H'
theorem c__law_kinds {P : Program} {w : World} {K : PySem.W.Frag} {mg : Str → Option Value} {base : Heap} (T : Txt K mg)   : CalE P w K mg base 1 "_law_kinds" (sp__law_kinds K) := by
  obtain ⟨f, fd, F, b⟩ := T.d__law_kinds
  refine calE_of (N := n__law_kinds) F b sc__law_kinds (fun p vs H Q E q => q.1) (fun X E p h vs H Q q => ?_)
  obtain ⟨hp, hw, hK, hm, hb, hN, hs, hfn, hpn⟩ := h
  subst hp hw hK hm hb
  have L := lcs_of hN hs hfn lc__law_kinds
  have n0 : Lcc X "_law_e" 0 := ⟨L 0 _ rfl (by decide)⟩
  have n1 : Lcc X "_law_told" 1 := ⟨L 1 _ rfl (by decide)⟩
  clear L
  have nd : X.N.Nodup := by rw [hN]; decide +kernel
  have b_isinstance : Bnc X "isinstance" := ⟨bn_of hs T.fr_isinstance (by decide +kernel)⟩
  have b_ValueError : Bnc X "ValueError" := ⟨bn_of hs T.fr_ValueError (by decide +kernel)⟩
  have oc_BadOrder : Ocl X "BadOrder" (He.ga X.K "BadOrder") := ⟨gn_of hs (by decide +kernel), T.gx_BadOrder⟩
  have oc_BadScope : Ocl X "BadScope" (He.ga X.K "BadScope") := ⟨gn_of hs (by decide +kernel), T.gx_BadScope⟩
  have oc_BadKind : Ocl X "BadKind" (He.ga X.K "BadKind") := ⟨gn_of hs (by decide +kernel), T.gx_BadKind⟩
  have oc_BadValue : Ocl X "BadValue" (He.ga X.K "BadValue") := ⟨gn_of hs (by decide +kernel), T.gx_BadValue⟩
  have oc_BadAxis : Ocl X "BadAxis" (He.ga X.K "BadAxis") := ⟨gn_of hs (by decide +kernel), T.gx_BadAxis⟩
  have oc_BadPlace : Ocl X "BadPlace" (He.ga X.K "BadPlace") := ⟨gn_of hs (by decide +kernel), T.gx_BadPlace⟩
  have oc_BadHow : Ocl X "BadHow" (He.ga X.K "BadHow") := ⟨gn_of hs (by decide +kernel), T.gx_BadHow⟩
  have oc_NothingToUndo : Ocl X "NothingToUndo" (He.ga X.K "NothingToUndo") := ⟨gn_of hs (by decide +kernel), T.gx_NothingToUndo⟩
  have oc_NothingToRedo : Ocl X "NothingToRedo" (He.ga X.K "NothingToRedo") := ⟨gn_of hs (by decide +kernel), T.gx_NothingToRedo⟩
  have oc_BadLink : Ocl X "BadLink" (He.ga X.K "BadLink") := ⟨gn_of hs (by decide +kernel), T.gx_BadLink⟩
  have oc_BadDeed : Ocl X "BadDeed" (He.ga X.K "BadDeed") := ⟨gn_of hs (by decide +kernel), T.gx_BadDeed⟩
  have oc_BadLine : Ocl X "BadLine" (He.ga X.K "BadLine") := ⟨gn_of hs (by decide +kernel), T.gx_BadLine⟩
  show WB X (_ :: _) _ _ _ _ _ _
  obtain ⟨_, nm, d, rfl, hnm, hz, hf, hd, q⟩ := q
  obtain ⟨he, hv, hk⟩ := kinds_ok T.ki hnm
  have exh : Exh X p.1 (He.ga X.K nm) d := ⟨p.2, hpn, he, hz, hf⟩
  ktf_call "go"
  refine ⟨_, rfl, hk "BadOrder" (by decide +kernel), hd, ?_⟩
  ktf_call "go"
  refine ⟨_, rfl, hk "BadScope" (by decide +kernel), hd, ?_⟩
  ktf_call "go"
  refine ⟨_, rfl, hk "BadKind" (by decide +kernel), hd, ?_⟩
  ktf_call "go"
  refine ⟨_, rfl, hk "BadValue" (by decide +kernel), hd, ?_⟩
  ktf_call "go"
  rename_i L0 H1 n1 e1 g1
  have hd1 := hd.same e1
  refine ⟨_, rfl, hk "BadAxis" (by decide +kernel), hd1, ?_⟩
  ktf_call "go"
  refine ⟨_, rfl, hk "BadPlace" (by decide +kernel), hd1, ?_⟩
  ktf_call "go"
  refine ⟨_, rfl, hk "BadHow" (by decide +kernel), hd1, ?_⟩
  ktf_call "go"
  rename_i A2 J2 m2 a2 b2 L2 H2 n2 e2 g2
  have hd2 := (hd1.same a2).same e2
  refine ⟨_, rfl, hk "NothingToUndo" (by decide +kernel), hd2, ?_⟩
  ktf_call "go"
  refine ⟨_, rfl, hk "NothingToRedo" (by decide +kernel), hd2, ?_⟩
  ktf_call "go"
  refine ⟨_, rfl, hk "BadLink" (by decide +kernel), hd2, ?_⟩
  ktf_call "go"
  rename_i A3 J3 m3 a3 b3 L3 H3 n3 e3 g3
  have hd3 := (hd2.same a3).same e3
  refine ⟨_, rfl, hk "BadDeed" (by decide +kernel), hd3, ?_⟩
  ktf_call "go"
  refine ⟨_, rfl, hk "BadLine" (by decide +kernel), hd3, ?_⟩
  ktf_call "go"
  refine ⟨_, rfl, hv, hd3, ?_⟩
  ktf_call "go"
  rename_i A4 J4 m4 a4 b4 L4 H4 n4 e4 g4
  have hd4 := (hd3.same a4).same e4
  exact q _ _ ((((((e1.trans a2).trans e2).trans a3).trans e3).trans a4).trans e4) (by rw [g4]; rfl)
end G

namespace G
open PySem PySem.Spec PyProof.Rows L2 Z
/-! the steps -/
local macro_rules | `(tactic| ktf_call "rf") => `(tactic| first
  | rfl
  | with_unfolding_all rfl
  | (intros; with_unfolding_all rfl)
  | with_unfolding_all decide)
-- tuples, lists, data at the heap at hand
local macro_rules | `(tactic| ktf_call "same") => `(tactic| first
  | with_reducible assumption
  | with_reducible exact Same.refl _
  | ((with_reducible refine Same.trans ?_ (by with_reducible assumption)); ktf_call "same")
  | ((with_reducible refine same_bt ?_ (by with_reducible assumption) (by ktf_call "off")); ktf_call "same"))
local macro_rules | `(tactic| ktf_call "off") => `(tactic| exact off1 (by with_reducible assumption))
local macro_rules | `(tactic| ktf_call "im") => `(tactic| first
  | with_reducible assumption
  | with_reducible exact Im.non
  | with_reducible exact Im.int _
  | with_reducible exact Im.str _
  | with_reducible exact Im.bl _
  | with_reducible exact ImAll.nil
  | ((with_reducible apply im_tx); (with_reducible assumption); (ktf_call "im"))
  | ((with_reducible apply im_same); (with_reducible assumption); (ktf_call "im"))
  | ((with_reducible apply ims_tx); (with_reducible assumption); (ktf_call "im"))
  | ((with_reducible apply ims_same); (with_reducible assumption); (ktf_call "im")))
local macro_rules | `(tactic| ktf_call "sq") => `(tactic| first
  | with_reducible assumption
  | with_reducible exact Kt.sq _
  | ((with_reducible apply sqt_new); (with_reducible assumption))
  | ((with_reducible apply sql_new); (with_reducible assumption))
  | ((with_reducible apply sq_tx); (with_reducible assumption); (ktf_call "sq"))
  | ((with_reducible apply sq_same); (with_reducible assumption); (ktf_call "sq"))
  | ((with_reducible apply Same.seq); (with_reducible assumption); (ktf_call "sq"))
  | ((with_reducible apply sq_bt); (with_reducible assumption); (ktf_call "noff"); (ktf_call "sq")))
local macro_rules | `(tactic| ktf_call "ob") => `(tactic| first
  | with_reducible assumption
  | ((with_reducible apply same_get); (with_reducible assumption); (ktf_call "ob"))
  | ((with_reducible apply ob_bt); (with_reducible assumption); (ktf_call "noff"); (ktf_call "ob")))
local macro_rules | `(tactic| ktf_call "ne1") => `(tactic| first
  | with_reducible assumption
  | ((with_reducible apply Off.l); (with_reducible assumption))
  | ((with_reducible apply dr_ne); (with_reducible assumption); (ktf_call "dr"))
  | ((with_reducible apply fresh_ne); (with_reducible assumption); (with_reducible assumption))
  | ((with_reducible apply fresh_ne); (with_reducible assumption); (ktf_call "ob")))
local macro_rules | `(tactic| ktf_call "ne") => `(tactic| first | ktf_call "ne1" | (refine Ne.symm ?_; ktf_call "ne1"))
local macro_rules | `(tactic| ktf_call "noff") => `(tactic| first
  | with_reducible exact off_nil
  | ((with_reducible apply off_cons); (ktf_call "ne"); (ktf_call "noff")))
local macro_rules | `(tactic| ktf_call "dr") => `(tactic| first
  | with_reducible assumption
  | ((with_reducible apply dr_same); (with_reducible assumption); (ktf_call "dr"))
  | ((with_reducible apply dr_chg); (with_reducible assumption); (with_reducible assumption); (ktf_call "dr")))
local macro_rules | `(tactic| ktf_call "sz") => `(tactic| with_unfolding_all exact Nat.le_of_ble_eq_true rfl)
local macro_rules | `(tactic| ktf_call "sz1") => `(tactic| first | with_unfolding_all decide | with_unfolding_all exact Nat.le_of_ble_eq_true rfl)
local macro_rules | `(tactic| ktf_call "sdc") => `(tactic| first
  | exact rfl
  | exact ⟨rfl, rfl⟩
  | exact ⟨rfl, rfl, rfl⟩
  | exact ⟨rfl, rfl, rfl, rfl, rfl⟩
  | exact ⟨_, rfl⟩
  | ktf_call "rf")
local macro_rules | `(tactic| ktf_call "pos") => `(tactic| first | with_reducible assumption | exact (by decide) | omega)
local macro_rules | `(tactic| ktf_call "lev") => `(tactic| first | exact Nat.le_of_ble_eq_true rfl | with_reducible assumption | with_reducible exact Nat.le_refl _ | omega)
-- one piece of the text
local macro_rules | `(tactic| ktf_call "ge1") => `(tactic| first
  | with_reducible apply stp
  | ((with_reducible apply sl_i); (exact rfl))
  | ((with_reducible apply sd); (ktf_call "sdc"))
  | ((with_reducible apply le_n); (ktf_call "lev"))
  | ((with_reducible apply sz_l); (exact rfl))
  | ((with_reducible apply all_b); intro _ _ _ _ _)
  | ((with_reducible apply new_at); intro _ _ _ _ _)
  | ((with_reducible apply new_ins); intro _ _ _ _ _ _)
  | ((with_reducible apply sub_t); intro _ _ _ _)
  | ((with_reducible apply dr_go); (ktf_call "dr"); (ktf_call "pos"); (ktf_call "pos"); intro _ _ _ _ _ _ _)
  | ((with_reducible apply tg_t); (ktf_call "sq"))
  | ((with_reducible apply tg_l); (ktf_call "sq"))
  | ((with_reducible apply is_l); (ktf_call "sq"))
  | ((with_reducible apply app_to); (ktf_call "ob"); (first | exact lt_size (by omega) | rotate_left); intro _ _ _ _)
  | ((with_reducible apply join_l); (ktf_call "sq"); (ktf_call "lev"))
  | ((with_reducible apply spl_s); (ktf_call "rf"); (ktf_call "lev"))
  | ((with_reducible apply str_i); (ktf_call "lev"))
  | ((with_reducible apply add_gl); (ktf_call "ob"); (ktf_call "ob"); (first | (exact Nat.le_of_ble_eq_true rfl) | (simp only [List.length_map, List.length_cons, List.length_nil, List.length_append]; omega)))
  | ((with_reducible apply tupof_l); (ktf_call "sq"))
  | ((with_reducible apply lstof_l); (ktf_call "sq"))
  | ((with_reducible apply len_l); (ktf_call "sq"))
  | ((with_reducible apply len_t); (ktf_call "sq"))
  | ((with_reducible apply tupof_t); (ktf_call "sq"))
  | ((with_reducible apply lstof_t); (ktf_call "sq"))
  | ((with_reducible apply isi_t); (ktf_call "sq"); (exact inferInstance))
  | ((with_reducible apply isi_l); (ktf_call "sq"); (exact inferInstance))
  | ((with_reducible apply in_t); (ktf_call "sq"); (ktf_call "rf"); (ktf_call "rf"))
  | ((with_reducible apply in_l); (ktf_call "sq"); (ktf_call "rf"); (ktf_call "rf"))
  | ((with_reducible apply nin_t); (ktf_call "sq"); (ktf_call "rf"); (ktf_call "rf"))
  | ((with_reducible apply nin_l); (ktf_call "sq"); (ktf_call "rf"); (ktf_call "rf"))
  | ((with_reducible apply in_ks); (ktf_call "ob"))
  | ((with_reducible apply in_ki); (ktf_call "ob"))
  | ((with_reducible apply fld_g); (ktf_call "ob"); (exact inferInstance); (exact inferInstance); (ktf_call "rf"))
  | ((with_reducible apply put_g); (ktf_call "ob"); (exact inferInstance); (exact inferInstance); (ktf_call "sz1"); intro _ _ _ _)
  | ((with_reducible apply aug_f); (ktf_call "ob"); (exact inferInstance); (exact inferInstance); (ktf_call "rf"))
  | ((with_reducible apply aug_p); (ktf_call "ob"); (ktf_call "sz1"); intro _ _ _ _)
  | ((with_reducible apply ins_m); (ktf_call "ob"); (ktf_call "rf"))
  | ((with_reducible apply sl_l); (ktf_call "sq"))
  | ((with_reducible apply sl_t); (ktf_call "sq"))
  | ((with_reducible apply mul_r); (exact (by decide +kernel)))
  | ((with_reducible apply mod_i); (ktf_call "pos"))
  | ((with_reducible apply div_i); (ktf_call "pos"); (ktf_call "pos"))
  | ((with_reducible apply pow_i); (exact (by decide +kernel)))
  | ((with_reducible apply all_l); (ktf_call "sq"))
  | ((with_reducible apply tru_l); (ktf_call "sq"))
  | ((with_reducible apply tru_t); (ktf_call "sq"))
  | ((with_reducible apply ix_t0); (ktf_call "sq"))
  | ((with_reducible apply ix_t); (ktf_call "sq"); (ktf_call "rf"))
  | ((with_reducible apply ix_l); (ktf_call "sq"); (ktf_call "rf"))
  | ((with_reducible apply ix_tn); (ktf_call "sq"); (exact (by decide)); (exact rfl))
  | ((with_reducible apply ix_ln); (ktf_call "sq"); (exact (by decide)); (exact rfl))
  | ((with_reducible apply if_t); (exact (by decide +kernel)))
  | ((with_reducible apply if_f); (exact (by decide +kernel))))
local macro_rules | `(tactic| ktf_call "ge") => `(tactic| repeat (ktf_call "ge1"))
local macro_rules | `(tactic| ktf_call "gi") => `(tactic| repeat (first | ktf_call "ge1" | with_reducible apply b_cons))
local macro_rules | `(tactic| ktf_call "go") => `(tactic| repeat (first | ktf_call "ge1" | with_reducible apply b_cons | with_reducible apply s_if))
open M TL
theorem tells {k : Nat} {nm : Str} (hk : k < 12) (h : errs[k]? = some nm) : (errs.map fun b => decide (nm = b)) = (List.range 12).map fun (j : Nat) => decide ((j : Int) = (k : Int)) := by
  have key : ((List.range 12).all fun (k : Nat) => (errs[k]?).all fun nm => decide ((errs.map fun b => decide (nm = b)) = (List.range 12).map fun (j : Nat) => decide ((j : Int) = (k : Int)))) = true := by decide +kernel
  have := List.all_eq_true.mp key k (List.mem_range.mpr hk)
  rw [h] at this
  exact of_decide_eq_true this
theorem bools {K : PySem.W.Frag} {H : Hp} : ∀ bs : List Bool, DpAll K H (bs.map V.bl) (bs.map PyData.bool)
  | [] => .nil
  | _ :: bs => .cons (Im.bl _).dp (bools bs)
theorem errs_at {z : Int} (h0 : 0 ≤ z) (h1 : z < 12) : ∃ nm, errs[z.toNat]? = some nm ∧ nm ∈ errs := by
  have hl : errs.length = 12 := by decide +kernel
  exact ⟨errs[z.toNat]'(by omega), List.getElem?_eq_getElem _, List.getElem_mem _⟩
def sp_law (K : PySem.W.Frag) : Sp := fun vs H Q _ => vs.length = 1 ∧ ∃ (a : Addr) (ns : List Int), vs = [.ref a] ∧ SqL K H a (ns.map V.int) ∧ ∀ H', Q (.bl true) H'
theorem fn_law {P : Program} {w : World} {K : PySem.W.Frag} {mg : Str → Option Value} {base : Heap} (T : Txt K mg) (h__law_begin : Cal P w K mg base 1 "_law_begin" (sp__law_begin K)) (h__law_draw : Cal P w K mg base 1 "_law_draw" (sp__law_draw K)) (h_Sheet : Mak P w K mg base 4 "Sheet" (He.ga K "Sheet") (sp_Sheet_init K)) (h__law_first : Cal P w K mg base 6 "_law_first" (sp__law_first K)) (h__law_second : Cal P w K mg base 10 "_law_second" (sp__law_second K)) (h__law_kinds : CalE P w K mg base 1 "_law_kinds" (sp__law_kinds K))  {f : Addr} {fd : FuncData} (F : C8.Def K mg "law" s_law f fd) : FnOk P w K mg base (L2N.CX P w) 12 f fd ["_law_script"] (sp_law K) := by
  refine fn_here (N := n_law) F.fn sc_law (fun vs H Q E q => q.1) (fun X E h vs H Q q => ?_)
  obtain ⟨hp, hw, hK, hm, hb, hN, hs, hcalm, hfn, hroom, hown, hstk, hfrm, htk⟩ := h
  subst hp hw hK hm hb
  have L := lcs_of hN hs hfn lc_law
  have n0 : Lcc X "_law_script" 0 := ⟨L 0 _ rfl (by decide)⟩
  have n1 : Lcc X "_law_draws" 1 := ⟨L 1 _ rfl (by decide)⟩
  have n2 : Lcc X "_law_at" 2 := ⟨L 2 _ rfl (by decide)⟩
  have n3 : Lcc X "_law_sheet" 3 := ⟨L 3 _ rfl (by decide)⟩
  have n4 : Lcc X "_law_told" 4 := ⟨L 4 _ rfl (by decide)⟩
  have n5 : Lcc X "_law_e" 5 := ⟨L 5 _ rfl (by decide)⟩
  clear L
  have nd : X.N.Nodup := by rw [hN]; decide +kernel
  have hc : Hc X := hc_of hcalm hroom hown
  have rm : Rm X 11 := ⟨hroom⟩
  have tk : Tk X (fun cls d _ H => E cls d H) := ⟨htk⟩
  have fr : Fr X := ⟨hstk, hfrm⟩
  have f__law_begin : Fn X "_law_begin" 1 (sp__law_begin X.K) := ⟨h__law_begin, gn_of hs (by decide +kernel)⟩
  have f__law_draw : Fn X "_law_draw" 1 (sp__law_draw X.K) := ⟨h__law_draw, gn_of hs (by decide +kernel)⟩
  have f_Sheet : Mkf X "Sheet" 4 (He.ga X.K "Sheet") (sp_Sheet_init X.K) := ⟨h_Sheet, gn_of hs (by decide +kernel)⟩
  have f__law_first : Fn X "_law_first" 6 (sp__law_first X.K) := ⟨h__law_first, gn_of hs (by decide +kernel)⟩
  have f__law_second : Fn X "_law_second" 10 (sp__law_second X.K) := ⟨h__law_second, gn_of hs (by decide +kernel)⟩
  have g__law_kinds : Gn X "_law_kinds" := gn_of hs (by decide +kernel)
  have b_range : Bnc X "range" := ⟨bn_of hs T.fr_range (by decide +kernel)⟩
  have k_Sheet : Clc X.K (He.ga X.K "Sheet") := ⟨T.cl_Sheet⟩
  have k_Sheet_order : Nac X.K (He.ga X.K "Sheet") "order" := ⟨T.na_Sheet_order⟩
  have k_Sheet_links : Nac X.K (He.ga X.K "Sheet") "links" := ⟨T.na_Sheet_links⟩
  have k_Sheet_table : Nac X.K (He.ga X.K "Sheet") "table" := ⟨T.na_Sheet_table⟩
  have k_Sheet_age : Nac X.K (He.ga X.K "Sheet") "age" := ⟨T.na_Sheet_age⟩
  have k_Sheet_past : Nac X.K (He.ga X.K "Sheet") "past" := ⟨T.na_Sheet_past⟩
  have k_Sheet_later : Nac X.K (He.ga X.K "Sheet") "later" := ⟨T.na_Sheet_later⟩
  have ct_LookError : Names X "LookError" (.ref (He.ga X.K "LookError")) := (have g : Gn X "LookError" := gn_of hs (by decide +kernel); ⟨g.gl, g.dbg, .inl T.gx_LookError⟩)
  show WB X (_ :: _) _ _ _ _ _ _
  obtain ⟨_, a, ns, rfl, hSq, q⟩ := q
  ktf_call "go"
  refine begin_go hSq fun l c H1 nl nc e1 hD => ?_
  ktf_call "go"
  rename_i z H2 z0 z1 b2 t2 hD2 P0 H3 n3 e3 hP A dx H4 nA e4 hA
  clear hD2 b2 t2 nl nc e1 hD hSq
  refine ⟨rfl, A, dx, _, _, P0, [], [], rfl, hA, .im (.str _), .inl ⟨sql_new (e4 _ _ hP), Ne.symm (fresh_ne nA hP)⟩, .nil, by simp, fun h => absurd h (by decide +kernel), fun _ i x H' hf => absurd hf (by rw [show linkFault [] = none by decide +kernel]; simp), fun _ _ w lks p r H5 ed el np nr b5 hS => ⟨rfl, ?_⟩⟩
  obtain rfl : w = "newest" := (PyData.str.inj ed).symm
  obtain rfl : lks = [] := by
    cases lks with
    | nil => rfl
    | cons x y => cases el
  have hxm : ∀ nm ∈ errs, PySem.W.exmOne X.K (.ref (He.ga X.K nm)) (.ref (He.ga X.K "LookError")) = some true := by
    intro nm h
    simp only [errs, List.mem_cons, List.not_mem_nil, or_false] at h
    rcases h with rfl | rfl | rfl | rfl | rfl | rfl | rfl | rfl | rfl | rfl | rfl | rfl
    · exact T.xm_BadOrder_LookError
    · exact T.xm_BadScope_LookError
    · exact T.xm_BadKind_LookError
    · exact T.xm_BadValue_LookError
    · exact T.xm_BadAxis_LookError
    · exact T.xm_BadPlace_LookError
    · exact T.xm_BadHow_LookError
    · exact T.xm_NothingToUndo_LookError
    · exact T.xm_NothingToRedo_LookError
    · exact T.xm_BadLink_LookError
    · exact T.xm_BadDeed_LookError
    · exact T.xm_BadLine_LookError
  clear e3 e4 nA hA b5 hP np nr
  ktf_call "go"
  rename_i P7 H7 nP7 e7 hP7
  have hS7 := hS.same e7
  clear hS e7 nP7
  refine s_mid (fun σ' H' => Wd (∃ D o5 nm, σ' = [some (.ref a), some (.ref l), some (.int z), some (.ref A), some (.ref D), o5, none] ∧ errs[z.toNat]? = some nm ∧ H' D = some (.lst ((errs.map fun b => V.bl (decide (nm = b))) ++ [.bl true])))) ?_ ?_
  · refine s_try fr tk.tk fun pn xe tk' own' => ?_
    have hc' : Hc (X.tr pn xe) := ⟨hc.calm, hc.hu, own'⟩
    have tk2 : Tk (X.tr pn xe) _ := ⟨tk'⟩
    ktf_call "go"
    refine ⟨rfl, A, p, r, z, rfl, hS7, z0, z1, fun hz6 nm H8 hnm => ?_, fun hz6 => ?_⟩
    · have hfl : Flds H8 none := fun _ h => by cases h
      refine ⟨_, true, 5, ct_LookError, hxm nm (List.mem_of_getElem? hnm), nd, by rw [hN]; rfl, by show X.env.kindOf _ = _; unfold Env.kindOf; rw [hs]; decide +kernel, fun _ ae oe pn2 hz hf2 na => ?_, fun z => by cases z⟩
      ktf_call "go"
      obtain ⟨us, hus⟩ := hf2
      refine w_callE (p := (ae, oe)) (W := fun _ _ _ _ => False) h__law_kinds takes_no (j := 11) ⟨rm.room.dp, rm.room.un⟩ (by decide) ⟨g__law_kinds.gl, g__law_kinds.dbg⟩ ⟨rfl, us, hus, hz.2.2 us hus⟩ List.mem_cons_self rfl rfl ?_
      ktf_call "go"
      refine ⟨rfl, nm, none, rfl, List.mem_of_getElem? hnm, hz.zc, ⟨us, hus⟩, hfl, fun D H9 e9 hD9 => ?_⟩
      ktf_call "go"
      exact ⟨D, _, nm, rfl, hnm, hD9⟩
    · ktf_call "go"
      refine ⟨rfl, A, p, r, z, rfl, hS7, hz6, z1, fun nm d H8 hnm hfl => ?_⟩
      refine ⟨_, true, 5, ct_LookError, hxm nm (List.mem_of_getElem? hnm), nd, by rw [hN]; rfl, by show X.env.kindOf _ = _; unfold Env.kindOf; rw [hs]; decide +kernel, fun _ ae oe pn2 hz hf2 na => ?_, fun z => by cases z⟩
      ktf_call "go"
      obtain ⟨us, hus⟩ := hf2
      refine w_callE (p := (ae, oe)) (W := fun _ _ _ _ => False) h__law_kinds takes_no (j := 11) ⟨rm.room.dp, rm.room.un⟩ (by decide) ⟨g__law_kinds.gl, g__law_kinds.dbg⟩ ⟨rfl, us, hus, hz.2.2 us hus⟩ List.mem_cons_self rfl rfl ?_
      ktf_call "go"
      refine ⟨rfl, nm, d, rfl, List.mem_of_getElem? hnm, hz.zc, ⟨us, hus⟩, hfl, fun D H9 e9 hD9 => ?_⟩
      ktf_call "go"
      exact ⟨D, _, nm, rfl, hnm, hD9⟩
  · rintro σ' H8 ⟨D, o5, nm, rfl, hnm, hD⟩
    ktf_call "go"
    refine w_lcI [("_law_k", 6)] (fun sc => (∀ s0 H0 C0 cl fp, Lcc (blkX X sc s0 H0 C0 cl fp) "_law_k" 6) ∧ (∀ s0 H0 C0 cl fp, Nc (blkX X sc s0 H0 C0 cl fp) "_law_at" 2) ∧ True) ⟨fun _ _ _ _ _ => ⟨lc_blk hN hs (by decide +kernel)⟩, fun _ _ _ _ _ => ⟨nm_blk hN hs (by decide +kernel)⟩, trivial⟩ hc nd (by rw [hN, hs]; exact blkOk_by (by decide +kernel)) (fun _ => rfl) ?_
    rintro sc ⟨o__law_k, v__law_at, _⟩
    refine wi_range1 b_range.bn rfl ?_
    ktf_call "go"
    refine ⟨_, rfl, by decide, by decide, _, _, _, walk_range, fun D2 H9 hD2 e9 hD9 => ⟨fun i H' => Wd (Same H8 H' ∧ H' D2 = some (.lst (((List.range i).map fun (k : Nat) => V.bl (decide ((k : Int) = z)))))), ⟨e9, hD9⟩, fun _ _ _ _ => trivial, ?_, ?_⟩⟩
    · rintro i x H10 H' hi ⟨es, hl⟩ ⟨rfl, hx⟩
      obtain rfl : x = .int (i : Int) := by simpa using hx
      ktf_call "go"
      refine lst_ap hl (lt_size (by rw [List.length_map, List.length_range]; omega)) fun H11 b11 t11 h11 => ⟨same_bt es b11 (off1 hD2), by rw [h11, List.range_succ]; simp⟩
    · rintro H' ⟨es, hl⟩
      have hDD := es _ _ hD
      ktf_call "go"
      rename_i A1 J1 m1 a1 g1 A2 J2 m2 a2 g2
      obtain ⟨k, rfl⟩ : ∃ k : Nat, z = (k : Int) := ⟨z.toNat, by omega⟩
      have ht := tells (by omega) hnm
      have hx : H' D = some (.lst (((errs.map fun b => decide (nm = b)) ++ [true]).map V.bl)) := by rw [hDD]; simp
      have hy : J2 A2 = some (.lst (((errs.map fun b => decide (nm = b)) ++ [true]).map V.bl)) := by rw [g2, ht]; simp
      refine eq_rfl (d := .list (((errs.map fun b => decide (nm = b)) ++ [true]).map PyData.bool)) (.lst (sql_new (a2 _ _ (a1 _ _ hx))) (bools _)) (.lst (sql_new hy) (bools _)) (shp.ok (n := 2) (shp_lst (shp_all fun d hd => ?_)) (by decide)) (q _)
      obtain ⟨b, _, rfl⟩ := List.mem_map.mp hd
      exact shp_bool
end G

namespace G
open PySem PySem.Spec PyProof.Rows L2 Z
theorem facts {P : Program} {w : World} {K : PySem.W.Frag} {h : Heap} {mg : Str → Option Value} {f : Addr} (X : K.In h) (G : h.Ns mainGlobals mg) (hfa : mg ("law" : Str) = some (.ref f)) (c : He.SaysX fa fn [] tf ex w h K) :
    ∃ fd : FuncData, (∀ (s : Shared) (v : Value), BindsTo s fd ⟨[v], []⟩ [("_law_script", v)]) ∧ ∀ base : Heap, K.In base → base.Ns mainGlobals mg → FnOk P w K mg base (L2N.CX P w) 12 f fd ["_law_script"] (sp_law K) := by
  have T := txt_of X G c
  obtain ⟨fd, F0⟩ := c.t.d.def_ 76 (d := d_law) rfl
  have e := hfa.symm.trans (He.glo_ok X G (c.t.d.fact 153 (f := .glo "law") rfl))
  cases e
  have b := FunD.bindsA (ps := ["_law_script"]) F0 fun _ _ _ _ _ _ us hl => match us, hl with | [_], _ => rfl
  have F : C8.Def K mg "law" s_law _ fd := ⟨fun_of F0, hfa, F0.kp⟩
  refine ⟨fd, fun s v => b s [v] rfl, fun base _ _ => ?_⟩
  have h__law_begin := c__law_begin (P := P) (w := w) (base := base) T 
  have h__law_draw := c__law_draw (P := P) (w := w) (base := base) T 
  have h_check_order := c_check_order (P := P) (w := w) (base := base) T 
  have h_is_kind := c_is_kind (P := P) (w := w) (base := base) T 
  have h_link_fault := c_link_fault (P := P) (w := w) (base := base) T h_is_kind
  have h_Levels := c_Levels_init (P := P) (w := w) (base := base) T 
  have h_empty_levels := c_empty_levels (P := P) (w := w) (base := base) T h_Levels
  have h_Sheet := c_Sheet_init (P := P) (w := w) (base := base) T h_check_order h_link_fault h_empty_levels
  have h_is_number := c_is_number (P := P) (w := w) (base := base) T 
  have h_is_range := c_is_range (P := P) (w := w) (base := base) T h_is_number
  have h_is_cells := c_is_cells (P := P) (w := w) (base := base) T h_is_range
  have h_is_scope := c_is_scope (P := P) (w := w) (base := base) T h_is_number h_is_range h_is_cells
  have h_check_kind := c_check_kind (P := P) (w := w) (base := base) T h_is_kind
  have h_is_told_value := c_is_told_value (P := P) (w := w) (base := base) T h_is_number
  have h_Sheet_tell := c_Sheet_tell (P := P) (w := w) (base := base) T h_is_scope h_check_kind h_is_told_value
  have h_is_axis := c_is_axis (P := P) (w := w) (base := base) T 
  have h_check_shift := c_check_shift (P := P) (w := w) (base := base) T h_is_axis h_is_number
  have h_Sheet_remove := c_Sheet_remove (P := P) (w := w) (base := base) T h_check_shift
  have h__law_first := c__law_first (P := P) (w := w) (base := base) T h_Sheet h_Sheet_tell h_Sheet_remove
  have h_Sheet_insert := c_Sheet_insert (P := P) (w := w) (base := base) T h_check_shift
  have h_Sheet_undo := c_Sheet_undo (P := P) (w := w) (base := base) T 
  have h_Sheet_redo := c_Sheet_redo (P := P) (w := w) (base := base) T 
  have h_is_small := c_is_small (P := P) (w := w) (base := base) T h_is_number
  have h_is_small_scope := c_is_small_scope (P := P) (w := w) (base := base) T h_is_scope h_is_small
  have h_is_shift := c_is_shift (P := P) (w := w) (base := base) T h_is_axis h_is_small h_is_number
  have h_is_deed := c_is_deed (P := P) (w := w) (base := base) T h_is_small_scope h_is_shift h_is_small h_is_kind h_is_told_value h_is_cells
  have h_Deeds := c_Deeds_init (P := P) (w := w) (base := base) T h_is_deed
  have h_part_of := c_part_of (P := P) (w := w) (base := base) T 
  have h_scope_of := c_scope_of (P := P) (w := w) (base := base) T h_part_of
  have h_deed_of := c_deed_of (P := P) (w := w) (base := base) T h_scope_of h_part_of
  have h_scope_words := c_scope_words (P := P) (w := w) (base := base) T 
  have h_word_of := c_word_of (P := P) (w := w) (base := base) T 
  have h_deed_line := c_deed_line (P := P) (w := w) (base := base) T h_scope_words h_word_of
  have h_read := c_read (P := P) (w := w) (base := base) T h_Deeds h_deed_of h_is_deed h_deed_line
  have h__law_second := c__law_second (P := P) (w := w) (base := base) T h_Sheet h_Sheet_insert h_Sheet_undo h_Sheet_redo h_Deeds h_read
  have h__law_kinds := c__law_kinds (P := P) (w := w) (base := base) T 
  exact fn_law T h__law_begin h__law_draw h_Sheet h__law_first h__law_second h__law_kinds F
end G
open PySem PySem.W PySem.Calls PyProof.Rows Z
set_option maxHeartbeats 0 in
theorem PySem.Challenge.cw_gridlooks_k17_errors_are_apart_holds : PySem.Challenge.rw_gridlooks_k17_errors_are_apart.Holds := by
  w_on; o_law
  refine HandSHeadRun.head_any (r := OpenLaw.row PySem.Challenge.rw_gridlooks_k17_errors_are_apart) (q := view (OpenLaw.row PySem.Challenge.rw_gridlooks_k17_errors_are_apart).prog [84]) (H := G.hk) (ob := G.ob) (M := 6000) (loose := G.loose) (d := HandSHeadRun.topDef (OpenLaw.row PySem.Challenge.rw_gridlooks_k17_errors_are_apart).prog 84) (kwd := []) G.ob_eq
    (by kernel_rfl) (fun s => by kernel_rfl) G.run (by kernel_rfl) (by kernel_rfl) (by kernel_rfl) (by rfl) (by first | assumption | decide +kernel) (by decide +kernel) ⟨rfl, rfl, rfl, rfl, rfl, by decide +kernel⟩ ?hw ?hc
  case hw => w_witness2
  case hc =>
    refine Z.law_end (lw := PySem.Challenge.rw_gridlooks_k17_errors_are_apart) (lv := 12) (Cw := fun w => L2N.CX (PySem.Challenge.rw_gridlooks_k17_errors_are_apart).prog w) (arg := "_law_script") rfl (by kernel_rfl) ⟨rfl, by decide, by decide⟩ ?F ?cx
    case F =>
      intro w mg fa h Y Gm hmg0
      obtain ⟨K, KX, c⟩ := Y
      have hmg : mg ("law" : PySem.Str) = some (.ref fa) := by
        have e : (HandSHeadRun.topDef (OpenLaw.row PySem.Challenge.rw_gridlooks_k17_errors_are_apart).prog 84).name = ("law" : PySem.Str) := by kernel_rfl
        rw [← e]
        exact hmg0
      obtain ⟨fd, hb, hF⟩ := G.facts (P := (PySem.Challenge.rw_gridlooks_k17_errors_are_apart).prog) (w := w) KX Gm hmg c
      exact ⟨K, fd, G.sp_law K, KX, hb, fun H a ns hS => ⟨rfl, a, ns, rfl, hS, fun _ => rfl⟩, hF⟩
    case cx => exact fun w H s e s' z => cx_no z

