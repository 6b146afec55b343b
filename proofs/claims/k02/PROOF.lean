import PyProof.Rows.All
import Wide.All
import OpenK.AllK
import Wide.FinOn
import HandS.ForMost
import HandS.Wide
import HandS.ForExc
import HandS.More
import HandS.IsInst
import HandS.Star
import HandS.TupAny
import HandS.Strs
import HandS.DictComp
import HandS.Lambda
import HandS.EndTab
import HandS.ExcValue
import HandS.ExcSuper
import HandS.ExcIs
import HandS.Zip
import HandS.Flow
import PySem.Challenge.RW_refutedaswell_k02_whole_sayings_renamed
import PyProof.Rows.SetFrom
import KE.KExcSuper
import KE.GoesMore
import KE.GoesEnum
import PyProof.ListStr
import HandS.Conv
import HandS.FStrTup
import HandS.RaiseMore
import HandS.HeadHook3
section -- RfA
set_option Elab.async false
set_option maxRecDepth 100000
set_option maxHeartbeats 4000000
set_option pp.maxSteps 400
set_option pp.deepTerms false
namespace Rf
open PySem L2

/-! ### heaps: all but one address stands -/
def But (a : Addr) (H H' : Hp) : Prop := ∀ b o, b ≠ a → H b = some o → H' b = some o
theorem But.of_same {a : Addr} {H H' : Hp} (h : Same H H') : But a H H' := fun b o _ e => h b o e
theorem But.refl {a : Addr} {H : Hp} : But a H H := fun _ _ _ e => e
theorem But.trans {a : Addr} {H H1 H2 : Hp} (h : But a H H1) (h' : But a H1 H2) : But a H H2 := fun b o n e => h' b o n (h b o n e)
theorem same_new {H : Hp} {p : Addr} {o : HO} (h : H p = none) : Same H (upd H p o) := fun b u e => by rw [upd_ne (ne_of_none e h)]; exact e
theorem but_upd {H : Hp} {a : Addr} {o : HO} : But a H (upd H a o) := fun b u n e => by rw [upd_ne n]; exact e
theorem But.same {a : Addr} {H H' : Hp} {o : HO} (h : But a H H') (h1 : H a = some o) (h2 : H' a = some o) : Same H H' := fun b u e => by
  by_cases q : b = a
  · subst q; rw [h1] at e; rw [h2]; exact e
  · exact h b u q e
/-- no tuple and no locked thing stands at a -/
def Flat (H : Hp) (a : Addr) : Prop := (∀ xs, H a ≠ some (.tup xs)) ∧ ∀ o u, H a ≠ some (.frz o u)
theorem flat_lst {H : Hp} {a : Addr} {xs : List V} (h : H a = some (.lst xs)) : Flat H a := ⟨fun _ e => (by rw [h] at e; cases e), fun _ _ e => (by rw [h] at e; cases e)⟩
theorem flat_none {H : Hp} {a : Addr} (h : H a = none) : Flat H a := ⟨fun _ e => (by rw [h] at e; cases e), fun _ _ e => (by rw [h] at e; cases e)⟩
theorem But.tup {K : PySem.W.Frag} {a b : Addr} {H H' : Hp} {xs : List V} (h : But a H H') (fl : Flat H a) (q : SqT K H b xs) : SqT K H' b xs := by
  rcases q with (q | ⟨o, q⟩) | q
  · exact .inl (.inl (h _ _ (fun e => fl.1 xs (e ▸ q)) q))
  · exact .inl (.inr ⟨o, h _ _ (fun e => fl.2 o _ (e ▸ q)) q⟩)
  · exact .inr q
theorem same_tup {K : PySem.W.Frag} {b : Addr} {H H' : Hp} {xs : List V} (h : Same H H') (q : SqT K H b xs) : SqT K H' b xs := by
  rcases q with (q | ⟨o, q⟩) | q
  · exact .inl (.inl (h _ _ q))
  · exact .inl (.inr ⟨o, h _ _ q⟩)
  · exact .inr q

/-! ### sayings -/
inductive Sy where
  | lt (c : Str)
  | nt (x : Sy)
  | bi (w : Str) (x y : Sy)
  deriving DecidableEq
namespace Sy
def size : Sy → Nat
  | lt _ => 1
  | nt x => x.size + 1
  | bi _ x y => x.size + y.size + 1
def depth : Sy → Nat
  | lt _ => 0
  | nt x => x.depth + 1
  | bi _ x y => max x.depth y.depth + 1
def Ok (p : Str → Prop) : Sy → Prop
  | lt c => p c
  | nt x => x.Ok p
  | bi w x y => (w = "both" ∨ w = "either" ∨ w = "if" ∨ w = "but") ∧ x.Ok p ∧ y.Ok p
/-- letters turned into sayings -/
def sub (f : Str → Option Sy) : Sy → Sy
  | lt c => (f c).getD (lt c)
  | nt x => nt (x.sub f)
  | bi w x y => bi w (x.sub f) (y.sub f)
/-- how often a letter stands there -/
def many (c : Str) : Sy → Nat
  | lt d => if d = c then 1 else 0
  | nt x => x.many c
  | bi _ x y => x.many c + y.many c
theorem size_pos : ∀ s : Sy, 0 < s.size
  | lt _ => by simp [size]
  | nt x => by simp [size]
  | bi _ x y => by simp [size]
theorem depth_lt_size : ∀ s : Sy, s.depth < s.size
  | lt _ => by simp [size, depth]
  | nt x => by have := depth_lt_size x; simp only [size, depth]; omega
  | bi _ x y => by have := depth_lt_size x; have := depth_lt_size y; simp only [size, depth]; omega
end Sy
/-- the value v is the saying s -/
def Sv (K : PySem.W.Frag) (H : Hp) : Sy → V → Prop
  | .lt c, v => ∃ a, v = .ref a ∧ SqT K H a [.str "letter", .str c]
  | .nt x, v => ∃ a u, v = .ref a ∧ SqT K H a [.str "not", u] ∧ Sv K H x u
  | .bi w x y, v => ∃ a u t, v = .ref a ∧ SqT K H a [.str w, u, t] ∧ Sv K H x u ∧ Sv K H y t
section
variable {K : PySem.W.Frag} {H H' : Hp} {a : Addr}
theorem Sv.ref : ∀ {s : Sy} {v : V}, Sv K H s v → ∃ a, v = .ref a
  | .lt _, _, ⟨a, e, _⟩ => ⟨a, e⟩
  | .nt _, _, ⟨a, _, e, _⟩ => ⟨a, e⟩
  | .bi _ _ _, _, ⟨a, _, _, e, _⟩ => ⟨a, e⟩
theorem Sv.but (h : But a H H') (fl : Flat H a) : ∀ {s : Sy} {v : V}, Sv K H s v → Sv K H' s v
  | .lt _, _, ⟨b, e, q⟩ => ⟨b, e, h.tup fl q⟩
  | .nt _, _, ⟨b, u, e, q, r⟩ => ⟨b, u, e, h.tup fl q, Sv.but h fl r⟩
  | .bi _ _ _, _, ⟨b, u, t, e, q, r, s⟩ => ⟨b, u, t, e, h.tup fl q, Sv.but h fl r, Sv.but h fl s⟩
theorem Sv.same (h : Same H H') : ∀ {s : Sy} {v : V}, Sv K H s v → Sv K H' s v
  | .lt _, _, ⟨b, e, q⟩ => ⟨b, e, same_tup h q⟩
  | .nt _, _, ⟨b, u, e, q, r⟩ => ⟨b, u, e, same_tup h q, Sv.same h r⟩
  | .bi _ _ _, _, ⟨b, u, t, e, q, r, s⟩ => ⟨b, u, t, e, same_tup h q, Sv.same h r, Sv.same h s⟩
/-- the saying's word -/
def Sy.word : Sy → Str
  | .lt _ => "letter"
  | .nt _ => "not"
  | .bi w _ _ => w
/-- its parts that are sayings -/
def Sy.parts : Sy → List Sy
  | .lt _ => []
  | .nt x => [x]
  | .bi _ x y => [x, y]
end
end Rf
end -- RfA
section -- Tp
set_option Elab.async false
set_option maxRecDepth 100000
set_option maxHeartbeats 4000000
set_option pp.maxSteps 400
set_option pp.deepTerms false
namespace Rf
open PySem L2 PyProof.Rows
def top (i : Nat) : Stmt := PySem.Challenge.pw_refutedaswell_k02_whole_sayings_renamed.main.body.getD i (.Pass ⟨0, 0, 0, 0⟩)
/-- a def of the module, by its name -/
structure Fn (K : PySem.W.Frag) (mg : Str → Option Value) (x : Str) (st : Stmt) : Prop where
  ex : ∃ (f : Addr) (fd : FuncData), Fun K x x st f fd ∧ mg x = some (.ref f)
/-- .. its promise, at a level -/
structure Cl (P : Program) (w : World) (K : PySem.W.Frag) (mg : Str → Option Value) (base : Heap) (CX : CXT) (k : Nat) (x : Str) (sp : Sp) : Prop where
  ex : ∃ (f : Addr) (fd : FuncData) (ps : List Str), FnOk P w K mg base CX k f fd ps sp ∧ mg x = some (.ref f) ∧ PySem.W.keepIn K (.ref f) = true ∧ Binds K fd ps []
section
variable {P : Program} {w : World} {K : PySem.W.Frag} {mg : Str → Option Value} {base : Heap} {CX : CXT} {k : Nat} {x : Str} {sp : Sp}
theorem Cl.mono {j : Nat} (c : Cl P w K mg base CX j x sp) (h : j ≤ k) : Cl P w K mg base CX k x sp := by
  obtain ⟨f, fd, ps, F, r⟩ := c.ex
  exact ⟨f, fd, ps, F.mono h, r⟩
theorem Cl.imp {sp' : Sp} (c : Cl P w K mg base CX k x sp) (h : ∀ vs H Q E, sp' vs H Q E → sp vs H Q E) : Cl P w K mg base CX k x sp' := by
  obtain ⟨f, fd, ps, F, r⟩ := c.ex
  exact ⟨f, fd, ps, F.imp h, r⟩
theorem Fn.cl {st : Stmt} {N ps : List Str} (F : Fn K mg x st) (S : FnScope N ps (defScope st)) (len : ∀ vs H Q E, sp vs H Q E → vs.length = ps.length)
    (hb : ∀ (kV doc pm : Value) (an : Option Addr) (cdv ct : Value) (us : List Value), us.length = ps.length → bindArgs (PySem.W.fnOf x x (defArgs st) (defBody st) (defScope st) .none kV doc pm an cdv ct) ⟨us, []⟩ = pure (ps.zip us))
    (hbody : ∀ (f : Addr) (cdv : Value) (A : Around) (outer : List Env) (s : Shared) (H : Hp) (vs : List V) (Q : VK) (E : XK), Room k (A.deeper (envOfC x (defScope st) s.heap.objs.size f cdv)) → sp vs H Q E →
      ∃ t, PSs (cxOf CX0 P w K mg base N x (defScope st) f cdv A outer s H E).nox (defBody st) t ∧ t { nx := fun _ H' => Q .non H', rt := Q } (start N vs) H) : Cl P w K mg base CX0 (k + 1) x sp := by
  obtain ⟨f, fd, G, h⟩ := F.ex
  exact ⟨f, fd, ps, G.ok S len (hbody f), h, G.kp, G.binds hb⟩
theorem Fn.clX {st : Stmt} {N ps : List Str} (F : Fn K mg x st) (S : FnScope N ps (defScope st)) (len : ∀ vs H Q E, sp vs H Q E → vs.length = ps.length)
    (hb : ∀ (kV doc pm : Value) (an : Option Addr) (cdv ct : Value) (us : List Value), us.length = ps.length → bindArgs (PySem.W.fnOf x x (defArgs st) (defBody st) (defScope st) .none kV doc pm an cdv ct) ⟨us, []⟩ = pure (ps.zip us))
    (hbody : ∀ (f : Addr) (cdv : Value) (A : Around) (outer : List Env) (s : Shared) (H : Hp) (vs : List V) (Q : VK) (E : XK), Room k (A.deeper (envOfC x (defScope st) s.heap.objs.size f cdv)) → sp vs H Q E →
      ∃ t, PSs (cxOf (L2.CX P w) P w K mg base N x (defScope st) f cdv A outer s H E) (defBody st) t ∧ t { nx := fun _ H' => Q .non H', rt := Q } (start N vs) H) : Cl P w K mg base (L2.CX P w) (k + 1) x sp := by
  obtain ⟨f, fd, G, h⟩ := F.ex
  exact ⟨f, fd, ps, G.okX S len (hbody f), h, G.kp, G.binds hb⟩
end
section
variable {X : Cx} {CX : CXT} {k : Nat} {sp : Sp} {E : XK} {x : Str} {p pos : Pos} {e : Expr} {es : List Expr} {t : TA}
theorem pe_clX (c : Cl X.prog X.w X.K X.mg X.base CX k x sp) (hr : Room k X.A) (hg : Gl X x) (hx : Passes CX X E) (ha : PA X (e :: es) t)
    (hdb : (x == ("__debug__" : Str)) = false := by decide) (he : starEach (e :: es) X.env = (false, eval e X.env) :: starEach es X.env := by rfl) (hpl : (backTo pos (starEach es X.env)).any (·.1) = false := by rfl) :
    PE X (.Call (.Name x p) (e :: es) [] pos) (tCall sp [] E t) := by
  obtain ⟨f, fd, ps, F, hm, hk, hb⟩ := c.ex
  exact pe_call F hr hg hm hk hb .nil hx ha hdb he hpl
theorem pe_cl (c : Cl X.prog X.w X.K X.mg X.base CX0 k x sp) (hr : Room k X.A) (hg : Gl X x) (ha : PA X (e :: es) t)
    (hdb : (x == ("__debug__" : Str)) = false := by decide) (he : starEach (e :: es) X.env = (false, eval e X.env) :: starEach es X.env := by rfl) (hpl : (backTo pos (starEach es X.env)).any (·.1) = false := by rfl) :
    PE X (.Call (.Name x p) (e :: es) [] pos) (tCall sp [] E0 t) := pe_clX c hr hg pass0 ha hdb he hpl
end
def letV : List Str := ["a", "b", "c", "d", "e", "f", "g", "h", "i", "j", "k", "l"]
/-- facts of the module's names -/
structure Tx (K : PySem.W.Frag) (w : World) (mg : Str → Option Value) (dL aL : Addr) : Prop where
  isi : mg "isinstance" = none
  tuple : mg "tuple" = none
  str : mg "str" = none
  len : mg "len" = none
  int : mg "int" = none
  list : mg "list" = none
  all : mg "all" = none
  set : mg "set" = none
  range : mg "range" = none
  min : mg "min" = none
  max : mg "max" = none
  abs : mg "abs" = none
  sum : mg "sum" = none
  dict : mg "dict" = none
  repr : mg "repr" = none
  zip : mg "zip" = none
  LETTERS : mg "LETTERS" = some (.ref aL)
  LENGTHS : mg "LENGTHS" = some (.ref dL)
  LETTER : ∃ t, mg "LETTER" = some (.str "letter" t)
  MOSTW : ∃ t, mg "MOST_WORDS" = some (.int 200 t)
  MOSTD : ∃ t, mg "MOST_DEEP" = some (.int 40 t)
  tup : ∀ H, SqT K H aL (letV.map V.str)
  dic : ∃ es n, KDict K w dL es n
  d2 : ∀ z : Str, z = "letter" ∨ z = "not" → ∃ t, PySem.W.nsIn K dL z = some (some (.int 2 t))
  d3 : ∀ z : Str, z = "both" ∨ z = "either" ∨ z = "if" ∨ z = "but" → ∃ t, PySem.W.nsIn K dL z = some (some (.int 3 t))
end Rf
end -- Tp
section -- Dt
set_option Elab.async false
set_option maxRecDepth 100000
set_option maxHeartbeats 4000000
set_option pp.maxSteps 400
set_option linter.all false
set_option pp.deepTerms false
namespace Rf
open PySem L2 PyProof.Rows
def Sy.data : Sy → PyData
  | .lt c => .tuple [.str "letter", .str c]
  | .nt x => .tuple [.str "not", x.data]
  | .bi w x y => .tuple [.str w, x.data, y.data]
theorem Sv.dp {K : PySem.W.Frag} {H : Hp} : ∀ {s : Sy} {v : V}, Sv K H s v → Dp K H v s.data
  | .lt c, _, ⟨a, e, q⟩ => by subst e; exact .tup q (.cons (.str _) (.cons (.str _) .nil))
  | .nt x, _, ⟨a, u, e, q, h⟩ => by subst e; exact .tup q (.cons (.str _) (.cons (Sv.dp h) .nil))
  | .bi w x y, _, ⟨a, u, t, e, q, h, h'⟩ => by subst e; exact .tup q (.cons (.str _) (.cons (Sv.dp h) (.cons (Sv.dp h') .nil)))
abbrev Sy.Good (s : Sy) : Prop := s.Ok (· ∈ letV)
theorem letOk : ∀ c ∈ letV, PyData.strOk c = true := by decide +kernel
theorem wordOk : ∀ c ∈ (["letter", "not", "both", "either", "if", "but"] : List Str), PyData.strOk c = true := by decide +kernel
theorem Sy.canLay : ∀ s : Sy, s.Good → s.data.canLay0 = true
  | .lt c, h => by
    have h1 := letOk c h
    have h2 := wordOk "letter" (by decide +kernel)
    simp [data, PyData.canLay0, PyData.canLayAll0, h1, h2]
  | .nt x, h => by
    have h1 := canLay x h
    have h2 := wordOk "not" (by decide +kernel)
    simp [data, PyData.canLay0, PyData.canLayAll0, h1, h2]
  | .bi w x y, h => by
    have h1 := canLay x h.2.1
    have h2 := canLay y h.2.2
    have h3 : PyData.strOk w = true := by rcases h.1 with rfl | rfl | rfl | rfl <;> exact wordOk _ (by decide +kernel)
    simp [data, PyData.canLay0, PyData.canLayAll0, h1, h2, h3]
theorem Sy.dataDepth : ∀ s : Sy, s.data.depth = s.depth + 1
  | .lt c => by simp [data, PyData.depth, PyData.depthAll, depth]
  | .nt x => by have := dataDepth x; simp [data, PyData.depth, PyData.depthAll, depth, this]; try omega
  | .bi w x y => by have := dataDepth x; have := dataDepth y; simp [data, PyData.depth, PyData.depthAll, depth, *]; try omega
theorem Sy.shaped {s : Sy} (g : s.Good) (h : s.depth ≤ 60) : SeqAt.shaped s.data = true := by
  unfold SeqAt.shaped
  have := s.dataDepth
  rw [s.canLay g]
  simp
  omega
theorem Sy.noDict : ∀ s : Sy, s.data.hasDict = false
  | .lt c => by simp [data, PyData.hasDict, PyData.hasDictAll]
  | .nt x => by have := noDict x; simp [data, PyData.hasDict, PyData.hasDictAll, this]
  | .bi w x y => by have := noDict x; have := noDict y; simp [data, PyData.hasDict, PyData.hasDictAll, *]
theorem Sy.neEmpty : ∀ s : Sy, PyData.eqv s.data (.tuple []) = false
  | .lt c => rfl
  | .nt x => rfl
  | .bi w x y => rfl
theorem Sy.selfEq (s : Sy) (g : s.Good) : PyData.eqv s.data s.data = true := SeqAt.eqv_refl _ (s.canLay g)
theorem Sv.tup {K : PySem.W.Frag} {H : Hp} {s : Sy} {v : V} (h : Sv K H s v) : ∃ a x xs, v = .ref a ∧ SqT K H a (.str s.word :: x :: xs) ∧ (∀ d, s = .lt d → x :: xs = [.str d]) ∧ ((∀ d, s ≠ .lt d) → Paired (fun (p : Sy) u => Sv K H p u) s.parts (x :: xs)) := by
  cases s with
  | lt c =>
    obtain ⟨a, e, q⟩ := h
    exact ⟨a, _, _, e, q, fun d e => (by cases e; rfl), fun n => absurd rfl (n c)⟩
  | nt x =>
    obtain ⟨a, u, e, q, h⟩ := h
    exact ⟨a, _, _, e, q, fun d e => (by cases e), fun _ => .cons h .nil⟩
  | bi w x y =>
    obtain ⟨a, u, t, e, q, h, h'⟩ := h
    exact ⟨a, _, _, e, q, fun d e => (by cases e), fun _ => .cons h (.cons h' .nil)⟩
theorem tyT {K : PySem.W.Frag} {H : Hp} {a : Addr} {xs : List V} (h : SqT K H a xs) : TyX K H (.ref a) (.type "tuple") := by
  rcases h with (h | ⟨o, h⟩) | ⟨o, its, n, h, hc, _⟩
  · exact .base (.tup h)
  · exact .fTuple h
  · exact .kTuple h hc
end Rf
end -- Dt
section -- M2
set_option Elab.async false
set_option maxRecDepth 100000
set_option maxHeartbeats 4000000
set_option pp.maxSteps 600
set_option pp.deepTerms false
set_option linter.all false
namespace Rf
open PySem L2 PyProof.Rows
section
variable {P : Program} {w : World} {K : PySem.W.Frag} {mg : Str → Option Value} {base : Heap} {dL aL : Addr}
def spText : Sp := fun vs H Q _ => ∃ x, vs = [.str x] ∧ Q (.bl true) H
theorem sc9 : FnScope ["value"] ["value"] (defScope (top 9)) := ⟨rfl, rfl, rfl, by decide +kernel, rfl, by decide +kernel, by decide +kernel⟩
theorem ok_text (F : Fn K mg "is_text" (top 9)) (T : Tx K w mg dL aL) : Cl P w K mg base CX0 1 "is_text" spText := by
  refine F.cl sc9 (fun vs H Q E h => ?_) (fun _ _ _ _ _ _ us hl => match us, hl with | [_], _ => rfl) (fun f cdv A outer s H vs Q E hr h => ?_)
  · obtain ⟨x, rfl, _⟩ := h; rfl
  · obtain ⟨x, rfl, q⟩ := h
    refine ⟨_, pss_one (ps_ret (pe_callB call_isi (by rfl) T.isi (by decide +kernel) (pa_cons (pv 0) (pa_cons (pe_bltn (v := .ty "str") (by rfl) T.str (by decide +kernel) rfl) pa_nil)))), ?_⟩
    exact ⟨_, rfl, _, _, _, _, _, rfl, .ty _, .base (.str _), kit_ty (by decide +kernel), q⟩
def spTuple : Sp := fun vs H Q _ => ∃ a xs, vs = [.ref a, .int 2, .int 2] ∧ SqT K H a xs ∧ xs.length = 2 ∧ Q (.bl true) H
theorem sc8 : FnScope ["value", "low", "high"] ["value", "low", "high"] (defScope (top 8)) := ⟨rfl, rfl, rfl, by decide +kernel, rfl, by decide +kernel, by decide +kernel⟩
theorem ok_tuple (F : Fn K mg "is_tuple" (top 8)) (T : Tx K w mg dL aL) : Cl P w K mg base CX0 1 "is_tuple" (spTuple (K := K)) := by
  refine F.cl sc8 (fun vs H Q E h => ?_) (fun _ _ _ _ _ _ us hl => match us, hl with | [_, _, _], _ => rfl) (fun f cdv A outer s H vs Q E hr h => ?_)
  · obtain ⟨x, _, rfl, _⟩ := h; rfl
  · obtain ⟨a, xs, rfl, hx, hl, q⟩ := h
    refine ⟨_, pss_one (ps_ret (pe_and (pe_callB call_isi (by rfl) T.isi (by decide +kernel) (pa_cons (pv 0) (pa_cons (pe_bltn (v := .ty "tuple") (by rfl) T.tuple (by decide +kernel) rfl) pa_nil)))
      (pe_one (pe_chain op_le op_le (pv 1) (pe_callB call_len_seq (by rfl) T.len PySem.boot_len (pa_cons (pv 0) pa_nil)) (pv 2))))), ?_⟩
    refine ⟨_, rfl, _, _, _, _, _, rfl, .ty _, tyT hx, kit_ty (r := true) (by decide +kernel), true, rfl, ?_⟩
    refine iteT ?_
    refine ⟨_, rfl, _, rfl, _, _, rfl, .inr hx, _, _, rfl, rfl, true, ?_, ?_⟩
    · simp [hl]
    · refine iteT ⟨_, rfl, _, _, rfl, rfl, ?_⟩
      rw [hl]
      exact q
def spLetter : Sp := fun vs H Q _ => ∃ c, vs = [.str c] ∧ c ∈ letV ∧ Q (.bl true) H
theorem inLet : ∀ c ∈ letV, inV (.str c) (letV.map V.str) = true := by decide +kernel
theorem flatLet : (letV.map V.str).all flatV = true := by decide +kernel
theorem ok_letter (F : Fn K mg "is_letter" (top 10)) (T : Tx K w mg dL aL) (G1 : Cl P w K mg base CX0 1 "is_text" spText) : Cl P w K mg base CX0 2 "is_letter" spLetter := by
  refine F.cl (N := ["value"]) (ps := ["value"]) ⟨rfl, rfl, rfl, by decide +kernel, rfl, by decide +kernel, by decide +kernel⟩ (fun vs H Q E h => ?_) (fun _ _ _ _ _ _ us hl => match us, hl with | [_], _ => rfl) (fun f cdv A outer s H vs Q E hr h => ?_)
  · obtain ⟨x, rfl, _⟩ := h; rfl
  · obtain ⟨c, rfl, hc, q⟩ := h
    refine ⟨_, pss_one (ps_ret (pe_and (pe_cl G1 hr (by rfl) (pa_cons (pv 0) pa_nil)) (pe_one (pe_cmpR op_in_seq (pv 0) (pe_glob (v := .ref aL) (by rfl) T.LETTERS rfl) (by with_unfolding_all rfl))))), ?_⟩
    refine ⟨_, rfl, _, rfl, true, rfl, iteT ?_⟩
    refine ⟨_, rfl, _, _, rfl, .inr (T.tup _), rfl, flatLet, ?_⟩
    have e := inLet c hc
    simp only [e]
    exact q
end
end Rf
end -- M2
section -- M3
set_option Elab.async false
set_option maxRecDepth 100000
set_option maxHeartbeats 4000000
set_option pp.maxSteps 600
set_option pp.deepTerms false
set_option linter.all false
namespace Rf
open PySem L2 PyProof.Rows
theorem at0 {v : V} {xs : List V} : atI (v :: xs) 0 = some v := atI_nat (j := 0) (by rfl)
theorem at1 {u v : V} {xs : List V} : atI (u :: v :: xs) 1 = some v := atI_nat (j := 1) (by rfl)
def Sy.isLt : Sy → Bool
  | .lt _ => true
  | _ => false
theorem wl {s : Sy} (g : s.Good) : decide (V.str s.word = V.str "letter") = s.isLt := by
  cases s with
  | lt c => rfl
  | nt x => show decide (V.str "not" = V.str "letter") = false; decide +kernel
  | bi w x y =>
    show decide (V.str w = V.str "letter") = false
    rcases g.1 with rfl | rfl | rfl | rfl <;> decide +kernel
theorem lt_of {s : Sy} (h : s.isLt = true) : ∃ c, s = .lt c := by
  cases s with
  | lt c => exact ⟨c, rfl⟩
  | nt x => cases h
  | bi w x y => cases h
theorem not_lt {s : Sy} (h : ¬ s.isLt = true) : ∀ c, s ≠ .lt c := fun c e => h (by rw [e]; rfl)
theorem cut1 {x : V} {xs : List V} : cutV (x :: xs) (some 1) none = xs := by
  unfold cutV
  have h1 : HT.sIx (x :: xs).length 0 (some 1) = 1 := by
    show HT.sIx (xs.length + 1) 0 (some ((1 : Nat) : Int)) = 1
    rw [HT.sIx_nat]; omega
  rw [h1, HT.sIx_none]
  simp
theorem cutN {x : V} {xs : List V} : ¬ (HT.sIx (x :: xs).length 0 (some 1) = 0 ∧ HT.sIx (x :: xs).length (x :: xs).length none = (x :: xs).length) := by
  intro z
  have h1 : HT.sIx (x :: xs).length 0 (some 1) = 1 := by
    show HT.sIx (xs.length + 1) 0 (some ((1 : Nat) : Int)) = 1
    rw [HT.sIx_nat]; omega
  omega
section
variable {P : Program} {w : World} {K : PySem.W.Frag} {mg : Str → Option Value} {base : Heap} {dL aL : Addr}
def Svs (K : PySem.W.Frag) (H : Hp) : List Sy → List V → Prop := Paired (fun p u => Sv K H p u)
def spInner (K : PySem.W.Frag) : Sp := fun vs H Q _ => ∃ s v, vs = [v] ∧ Sv K H s v ∧ s.Good ∧ s.depth ≤ 60 ∧ ∀ q us H', Same H H' → H q = none → H' q = some (.lst us) → Svs K H s.parts us → Q (.ref q) H'
theorem ok_inner (F : Fn K mg "inner_of" (top 21)) (T : Tx K w mg dL aL) (G1 : Cl P w K mg base CX0 1 "is_text" spText) (G2 : Cl P w K mg base CX0 2 "is_letter" spLetter) : Cl P w K mg base CX0 3 "inner_of" (spInner K) := by
  refine F.cl (N := ["value"]) (ps := ["value"]) ⟨rfl, rfl, rfl, by decide +kernel, rfl, by decide +kernel, by decide +kernel⟩ (fun vs H Q E h => ?_) (fun _ _ _ _ _ _ us hl => match us, hl with | [_], _ => rfl) (fun f cdv A outer s H vs Q E hr h => ?_)
  · obtain ⟨s, v, rfl, _⟩ := h; rfl
  · obtain ⟨y, v, rfl, hv, hg, hd, q⟩ := h
    obtain ⟨es, n, D⟩ := T.dic
    obtain ⟨tl, hL⟩ := T.LETTER
    refine ⟨_, pss_cons (ps_if (PW.pt (pw_or (pt_not (pt_val (pe_callB call_isi (by rfl) T.isi (by decide +kernel) (pa_cons (pv 0) (pa_cons (pe_bltn (v := .ty "tuple") (by rfl) T.tuple (by decide +kernel) rfl) pa_nil)))))
        (pw_or (pt_cmpR (op_eqD hr.units) (pv 0) (pe_tup pa_nil) (nomark _))
        (pw_or (pt_not (pt_val (pe_cl G1 (hr.mono (by decide)) (by rfl) (pa_cons (pe_ix ix_tup (pv 0) pe_int (fun _ _ => rfl)) pa_nil))))
        (pw_or1 (pt_cmpR (op_notIn_kd D) (pe_ix ix_tup (pv 0) pe_int (fun _ _ => rfl)) (pe_glob (v := .ref dL) (by rfl) T.LENGTHS rfl) (by with_unfolding_all rfl))))))) (pss_one (ps_ret pe_non)) pss_nil)
      (pss_cons (ps_if (pt_cmpR op_ne (pe_callB call_len_seq (by rfl) T.len PySem.boot_len (pa_cons (pv 0) pa_nil)) (pe_ix ix_kdict (pe_glob (v := .ref dL) (by rfl) T.LENGTHS rfl) (pe_ix ix_tup (pv 0) pe_int (fun _ _ => rfl)) (fun _ _ => rfl)) (nomark _)) (pss_one (ps_ret pe_non)) pss_nil)
      (pss_cons (ps_if (pt_cmpR op_eq (pe_ix ix_tup (pv 0) pe_int (fun _ _ => rfl)) (pe_glob (v := .str "letter") (by rfl) hL ⟨_, rfl⟩) (nomark _))
        (pss_one (ps_ret (pe_ifExp (pt_val (pe_cl G2 (hr.mono (by decide)) (by rfl) (pa_cons (pe_ix ix_tup (pv 0) pe_int (fun _ _ => rfl)) pa_nil))) (pe_lst pa_nil) pe_non))) pss_nil)
      (pss_one (ps_ret (pe_callTy call_list_of (by rfl) T.list (by decide +kernel) (pa_cons (pe_slice sl_tup (pv 0) (po_some pe_int) po_none) pa_nil)))))), ?_⟩
    obtain ⟨a, x, xs, rfl, ht, h1, h2⟩ := hv.tup
    refine ⟨_, rfl, _, _, _, _, _, rfl, .ty _, tyT ht, kit_ty (r := true) (by decide +kernel), true, rfl, ?_⟩
    refine iteF ⟨_, rfl, (by show 0 ≤ sizeLine; decide), fun p np => ⟨y.data, .tuple [], Sv.dp (Sv.same (same_new np) hv), .tup (SqT.of upd_same) .nil, Sy.shaped hg hd, rfl, _, rfl, ?_⟩⟩
    rw [y.neEmpty]
    have s1 : Same H (upd H p (.tup [])) := same_new np
    revert s1
    generalize upd H p (.tup []) = H1
    intro s1
    have ht1 := same_tup s1 ht
    have hw1 : y.word = "letter" ∨ y.word = "not" ∨ y.word = "both" ∨ y.word = "either" ∨ y.word = "if" ∨ y.word = "but" := by
      cases y with
      | lt c => exact .inl rfl
      | nt x => exact .inr (.inl rfl)
      | bi w x z => exact .inr (.inr hg.1)
    have hn : ∃ (i : Int) (t : Tok), PySem.W.nsIn K dL y.word = some (some (.int i t)) ∧ ((xs.length + 1 + 1 : Nat) : Int) = i := by
      cases y with
      | lt c =>
        have := h1 c rfl
        obtain ⟨t, e⟩ := T.d2 "letter" (.inl rfl)
        exact ⟨2, t, e, by cases this; rfl⟩
      | nt z =>
        have := h2 (by intro d z; cases z)
        obtain ⟨t, e⟩ := T.d2 "not" (.inr rfl)
        refine ⟨2, t, e, ?_⟩
        cases this with
        | cons _ h => cases h; rfl
      | bi w z z' =>
        have := h2 (by intro d z; cases z)
        obtain ⟨t, e⟩ := T.d3 w hg.1
        refine ⟨3, t, e, ?_⟩
        cases this with
        | cons _ h => cases h with | cons _ h => cases h; rfl
    obtain ⟨i, t, hi, hl⟩ := hn
    refine iteF ⟨_, rfl, a, _, 0, _, rfl, rfl, ht1, at0, _, rfl, true, rfl, ?_⟩
    refine iteF ⟨_, rfl, a, _, 0, _, rfl, rfl, ht1, at0, _, _, rfl, rfl, hi, _, rfl, ?_⟩
    refine iteF ?_
    refine ⟨_, rfl, _, _, rfl, .inr ht1, ?_⟩
    refine ⟨_, rfl, a, _, 0, _, rfl, rfl, ht1, at0, _, _, .int i, rfl, rfl, ⟨_, _, _, D.at_, D.lit, hi, _, rfl⟩, rfl, _, rfl, ?_⟩
    have hl' : ((V.str y.word :: x :: xs).length : Int) = i := hl
    simp only [hl', decide_true, Bool.not_true]
    refine iteF ⟨_, rfl, a, _, 0, _, rfl, rfl, ht1, at0, rfl, _, rfl, ?_⟩
    rw [wl hg]
    refine ite2 (fun e => ?_) (fun e => ?_)
    · obtain ⟨c, rfl⟩ := lt_of e
      have e1 := h1 c rfl
      rw [e1] at ht1
      refine ⟨_, rfl, a, _, 1, _, rfl, rfl, ht1, at1, c, rfl, hg, true, rfl, iteT ⟨(by show 0 ≤ sizeLine; decide), fun p2 np2 => ?_⟩⟩
      exact q p2 [] _ (Same.trans s1 (same_new np2)) (s1.free np2) upd_same .nil
    · have hnl := not_lt e
      have h3 := h2 hnl
      refine ⟨_, rfl, _, rfl, a, _, rfl, ht1, cutN, fun p2 np2 => ?_⟩
      rw [cut1]
      refine ⟨_, _, rfl, .inr (SqT.of upd_same), fun l nl => ?_⟩
      have s2 : Same H (upd (upd H1 p2 (.tup (x :: xs))) l (.lst (x :: xs))) := Same.trans (Same.trans s1 (same_new np2)) (same_new nl)
      exact q l _ _ s2 ((Same.trans s1 (same_new np2)).free nl) upd_same h3
end
end Rf
end -- M3
section -- Lc
set_option Elab.async false
set_option maxRecDepth 100000
set_option maxHeartbeats 4000000
set_option pp.maxSteps 600
set_option pp.deepTerms false
set_option linter.all false
namespace Rf
open PySem L2 PyProof.Rows
/-- all stands but at the addresses of p -/
def Bt (p : Addr → Prop) (H H' : Hp) : Prop := ∀ b o, ¬ p b → H b = some o → H' b = some o
theorem Bt.of {p : Addr → Prop} {H H' : Hp} (h : Same H H') : Bt p H H' := fun b o _ e => h b o e
theorem Bt.trans {p : Addr → Prop} {H H1 H2 : Hp} (h : Bt p H H1) (h' : Bt p H1 H2) : Bt p H H2 := fun b o n e => h' b o n (h b o n e)
theorem Bt.imp {p q : Addr → Prop} {H H1 : Hp} (h : Bt p H H1) (i : ∀ b, p b → q b) : Bt q H H1 := fun b o n e => h b o (fun z => n (i b z)) e
theorem Bt.same {H H1 : Hp} (h : Bt (fun _ => False) H H1) : Same H H1 := fun b o e => h b o (fun z => z) e
theorem Bt.upd {p : Addr → Prop} {H H1 : Hp} {D : Addr} {o : HO} (h : Bt p H H1) (n : H D = none) : Bt p H (upd H1 D o) := fun b u m e => by
  rw [upd_ne (ne_of_none e n)]; exact h b u m e
theorem Bt.tup {K : PySem.W.Frag} {p : Addr → Prop} {a : Addr} {H H' : Hp} {xs : List V} (h : Bt p H H') (fl : ∀ b, p b → Flat H b) (q : SqT K H a xs) : SqT K H' a xs := by
  rcases q with (q | ⟨o, q⟩) | q
  · exact .inl (.inl (h _ _ (fun e => (fl _ e).1 xs q) q))
  · exact .inl (.inr ⟨o, h _ _ (fun e => (fl _ e).2 o _ q) q⟩)
  · exact .inr q
theorem Sv.bt {K : PySem.W.Frag} {p : Addr → Prop} {H H' : Hp} (h : Bt p H H') (fl : ∀ b, p b → Flat H b) : ∀ {s : Sy} {v : V}, Sv K H s v → Sv K H' s v
  | .lt _, _, ⟨b, e, q⟩ => ⟨b, e, h.tup fl q⟩
  | .nt _, _, ⟨b, u, e, q, r⟩ => ⟨b, u, e, h.tup fl q, Sv.bt h fl r⟩
  | .bi _ _ _, _, ⟨b, u, t, e, q, r, s⟩ => ⟨b, u, t, e, h.tup fl q, Sv.bt h fl r, Sv.bt h fl s⟩
section
variable {K : PySem.W.Frag} {a : Addr} {xs : List V} {g : TG} {te : TE} {vs : List Nat} {σ : L2.St} {H1 : Hp} {D : Addr} {Qd : Hp → Prop}
/-- what a comprehension without ifs asks of its items' turns -/
structure Mp {β : Type} (xs : List V) (ps : List β) (g : TG) (te : TE) (vs : List Nat) (σ : L2.St) (H1 : Hp) (D : Addr) (p : Addr → Prop) (I : Nat → Hp → Prop) (F : β → V → Hp → Prop) : Prop where
  nD : H1 D = none
  pD : ¬ p D
  hz : xs.length < sizeLine
  hlen : ps.length = xs.length
  h0 : I 0 H1
  hI : ∀ i H H', (∀ b o, b ≠ D → H b = some o → H' b = some o) → I i H → I i H'
  hF : ∀ i x y H H' acc, I i H → H D = some (.lst acc) → Bt (fun b => p b ∨ b = D) H H' → F x y H → F x y H'
  hs : ∀ i x s H (W : L2.St → Hp → Prop) (Qe : V → Hp → Prop), xs[i]? = some x → ps[i]? = some s → I i H → Bt p H1 H → (∀ y H4, Bt p H H4 → I (i + 1) H4 → F s y H4 → Qe y H4) →
    (∀ σ2 H2, wipe σ2 vs = wipe σ vs → te σ2 H2 Qe → W σ2 H2) → g x (wipe σ vs) H W
def MpI {β : Type} (ps : List β) (H1 : Hp) (D : Addr) (p : Addr → Prop) (I : Nat → Hp → Prop) (F : β → V → Hp → Prop) (i : Nat) (H : Hp) : Prop :=
  ∃ acc, H D = some (.lst acc) ∧ Bt p H1 H ∧ I i H ∧ Paired (fun x y => F x y H) (ps.take i) acc ∧ acc.length ≤ i
theorem yesT {σ : L2.St} {H : Hp} {A : Hp → Prop} {B : Hp → Prop} (h : A H) : tYes σ H fun b H3 => if b = true then A H3 else B H3 := by
  show if true = true then A H else B H
  rw [if_pos rfl]
  exact h
theorem Mp.start {p : Addr → Prop} {I : Nat → Hp → Prop} {β : Type} {ps : List β} {F : β → V → Hp → Prop} (m : Mp xs ps g te vs σ H1 D p I F) : MpI ps H1 D p I F 0 (upd H1 D (.lst [])) :=
  ⟨[], upd_same, Bt.upd (.of (Same.refl _)) m.nD, m.hI 0 _ _ (fun b o n e => by rw [upd_ne n]; exact e) m.h0, .nil, Nat.le_refl _⟩
theorem Mp.step {p : Addr → Prop} {I : Nat → Hp → Prop} {β : Type} {ps : List β} {F : β → V → Hp → Prop} (m : Mp xs ps g te vs σ H1 D p I F) (i : Nat) (x : V) (H : Hp) (hx : xs[i]? = some x) (h : MpI ps H1 D p I F i H) :
    g x (wipe σ vs) H fun σ2 H2 => wipe σ2 vs = wipe σ vs ∧ tYes σ2 H2 fun b H3 =>
      if b = true then te σ2 H3 fun y H4 => ∃ acc, H4 D = some (.lst acc) ∧ acc.length < sizeLine ∧ MpI ps H1 D p I F (i + 1) (upd H4 D (.lst (acc ++ [y]))) else MpI ps H1 D p I F (i + 1) H3 := by
  obtain ⟨acc, hD, hb, hi, hp, hl⟩ := h
  have hlt := (List.getElem?_eq_some_iff.mp hx).1
  have hlen := m.hlen
  obtain ⟨s, hsx⟩ : ∃ s, ps[i]? = some s := ⟨_, List.getElem?_eq_getElem (by omega)⟩
  refine m.hs i x s H _ _ hx hsx hi hb (fun y H4 b4 i4 f4 => ?_) fun σ2 H2 e h => ⟨e, yesT h⟩
  have hz := m.hz
  have hD4 := b4 _ _ m.pD hD
  have up : ∀ b o, b ≠ D → H4 b = some o → upd H4 D (.lst (acc ++ [y])) b = some o := fun b o n e => by rw [upd_ne n]; exact e
  have ub : Bt (fun b => p b ∨ b = D) H4 (upd H4 D (.lst (acc ++ [y]))) := fun b o n e => up b o (fun z => n (.inr z)) e
  refine ⟨acc, hD4, by omega, acc ++ [y], upd_same, Bt.upd (hb.trans b4) m.nD, m.hI _ _ _ up i4, ?_, by simp; omega⟩
  rw [List.take_succ, hsx]
  refine Paired.snoc (Paired.mono (fun x' y' f => ?_) hp) (m.hF _ _ _ _ _ _ i4 hD4 ub f4)
  exact m.hF _ _ _ _ _ _ i4 hD4 ub (m.hF _ _ _ _ _ _ hi hD (b4.imp fun b z => .inl z) f)
theorem mp_list {p : Addr → Prop} {I : Nat → Hp → Prop} {β : Type} {ps : List β} {F : β → V → Hp → Prop} (m : Mp xs ps g te vs σ H1 D p I F) (hl : ∀ i H, I i H → Bt p H1 H → SqL K H a xs)
    (hd : ∀ acc H, I xs.length H → Bt p H1 H → H D = some (.lst acc) → Paired (fun x y => F x y H) ps acc → Qd H) :
    ∃ W : Nat → Nat → Hp → Prop, (∃ m, W 0 m (upd H1 D (.lst []))) ∧ ∀ i m H, W i m H →
      ((Itl K a).stop i H ∧ Qd H) ∨ ((Itl K a).go i H ∧ ∃ Nx : Hp → Prop, (∀ H', Nx H' → ∃ m', m' < m ∧ W (i + 1) m' H') ∧ ∀ x H', (Itl K a).yld i H x H' → g x (wipe σ vs) H' fun σ2 H2 => wipe σ2 vs = wipe σ vs ∧ tYes σ2 H2 fun b H3 =>
        if b = true then te σ2 H3 fun y H4 => ∃ acc, H4 D = some (.lst acc) ∧ acc.length < sizeLine ∧ Nx (upd H4 D (.lst (acc ++ [y]))) else Nx H3) :=
  lc_list (MpI ps H1 D p I F) m.start (fun i H _ ⟨acc, hD, hb, hi, _⟩ => hl i H hi hb) (fun i x H hx h => m.step i x H hx h)
    fun H ⟨acc, hD, hb, hi, hp, _⟩ => hd acc H hi hb hD (by rw [← m.hlen, List.take_length] at hp; exact hp)
theorem mp_tup {p : Addr → Prop} {I : Nat → Hp → Prop} {β : Type} {ps : List β} {F : β → V → Hp → Prop} (m : Mp xs ps g te vs σ H1 D p I F) (hl : ∀ i H, I i H → Bt p H1 H → SqT K H a xs)
    (hd : ∀ acc H, I xs.length H → Bt p H1 H → H D = some (.lst acc) → Paired (fun x y => F x y H) ps acc → Qd H) :
    ∃ W : Nat → Nat → Hp → Prop, (∃ m, W 0 m (upd H1 D (.lst []))) ∧ ∀ i m H, W i m H →
      ((Itt K a).stop i H ∧ Qd H) ∨ ((Itt K a).go i H ∧ ∃ Nx : Hp → Prop, (∀ H', Nx H' → ∃ m', m' < m ∧ W (i + 1) m' H') ∧ ∀ x H', (Itt K a).yld i H x H' → g x (wipe σ vs) H' fun σ2 H2 => wipe σ2 vs = wipe σ vs ∧ tYes σ2 H2 fun b H3 =>
        if b = true then te σ2 H3 fun y H4 => ∃ acc, H4 D = some (.lst acc) ∧ acc.length < sizeLine ∧ Nx (upd H4 D (.lst (acc ++ [y]))) else Nx H3) :=
  lc_tup (MpI ps H1 D p I F) m.start (fun i H _ ⟨acc, hD, hb, hi, _⟩ => hl i H hi hb) (fun i x H hx h => m.step i x H hx h)
    fun H ⟨acc, hD, hb, hi, hp, _⟩ => hd acc H hi hb hD (by rw [← m.hlen, List.take_length] at hp; exact hp)
end
end Rf
end -- Lc
section -- M4
set_option Elab.async false
set_option maxRecDepth 100000
set_option maxHeartbeats 4000000
set_option pp.maxSteps 600
set_option pp.deepTerms false
set_option linter.all false
namespace Rf
open PySem L2 PyProof.Rows
def Sy.fits (s : Sy) : Bool := decide (s.size ≤ 200) && decide (s.depth ≤ 40)
def sizes : List (Sy × Nat) → Nat
  | [] => 0
  | p :: r => p.1.size + sizes r
theorem sizes_app (a b : List (Sy × Nat)) : sizes (a ++ b) = sizes a + sizes b := by
  induction a with
  | nil => simp [sizes]
  | cons p r ih => simp only [List.cons_append, sizes, ih]; omega
def G (m : Nat) (st : List (Sy × Nat)) : Bool := decide (m + sizes st ≤ 200) && st.all fun p => decide (p.1.depth + p.2 ≤ 40)
def down (s : Sy) (d : Nat) : List (Sy × Nat) := s.parts.map fun p => (p, d + 1)
theorem G_iff {m : Nat} {st : List (Sy × Nat)} : G m st = true ↔ (m + sizes st ≤ 200 ∧ ∀ p ∈ st, p.1.depth + p.2 ≤ 40) := by
  unfold G
  rw [Bool.and_eq_true, decide_eq_true_iff, List.all_eq_true]
  simp only [decide_eq_true_eq]
theorem down_size (s : Sy) (d : Nat) : sizes (down s d) + 1 = s.size := by
  cases s <;> simp only [down, Sy.parts, List.map, sizes, Sy.size] <;> omega
theorem down_deep (s : Sy) (d : Nat) (h : d ≤ 40) : (∀ p ∈ down s d, p.1.depth + p.2 ≤ 40) ↔ s.depth + d ≤ 40 := by
  cases s with
  | lt c => simp [down, Sy.parts, Sy.depth]; omega
  | nt x => simp [down, Sy.parts, Sy.depth]; omega
  | bi w x y => simp [down, Sy.parts, Sy.depth]; omega
theorem G_step {m : Nat} {st : List (Sy × Nat)} {s : Sy} {d : Nat} (h : d ≤ 40) : G m (st ++ [(s, d)]) = G (m + 1) (st ++ down s d) := by
  rw [Bool.eq_iff_iff, G_iff, G_iff, sizes_app, sizes_app]
  have h1 := down_size s d
  have h2 := down_deep s d h
  have h3 : sizes [(s, d)] = s.size := by simp [sizes]
  constructor
  · rintro ⟨a, b⟩
    refine ⟨by omega, fun p hp => ?_⟩
    rcases List.mem_append.mp hp with hp | hp
    · exact b p (List.mem_append_left _ hp)
    · exact h2.mpr (b (s, d) (by simp)) p hp
  · rintro ⟨a, b⟩
    refine ⟨by omega, fun p hp => ?_⟩
    rcases List.mem_append.mp hp with hp | hp
    · exact b p (List.mem_append_left _ hp)
    · rw [List.mem_singleton.mp hp]
      exact h2.mp fun p hp => b p (List.mem_append_right _ hp)
theorem G_deep {m : Nat} {st : List (Sy × Nat)} {s : Sy} {d : Nat} (h : 40 < d) : G m (st ++ [(s, d)]) = false := by
  unfold G
  rw [List.all_append, List.all_cons]
  have : decide (s.depth + d ≤ 40) = false := decide_eq_false (by omega)
  simp [this]
theorem G_many {m : Nat} {st : List (Sy × Nat)} {s : Sy} {d : Nat} (h : 200 < m + 1) : G m (st ++ [(s, d)]) = false := by
  unfold G
  rw [sizes_app]
  have h1 := s.size_pos
  have : decide (m + (sizes st + sizes [(s, d)]) ≤ 200) = false := decide_eq_false (by simp only [sizes]; omega)
  rw [this]; rfl
theorem G_nil {m : Nat} (h : m ≤ 200) : G m [] = true := by simp [G, sizes, h]
theorem G_one (s : Sy) : G 0 [(s, 0)] = s.fits := by
  simp [G, sizes, Sy.fits]
theorem paired_last {α β : Type} {F : α → β → Prop} : ∀ {l : List α} {us : List β}, Paired F l us → us ≠ [] → ∃ l' p us' u, l = l' ++ [p] ∧ us = us' ++ [u] ∧ Paired F l' us' ∧ F p u
  | _, _, .nil, h => absurd rfl h
  | _, _, .cons (a := a) (b := b) (l₁ := l) (l₂ := us) h t, _ => by
    cases us with
    | nil => cases t; exact ⟨[], a, [], b, rfl, rfl, .nil, h⟩
    | cons u r =>
      obtain ⟨l', p, us', v, e1, e2, q, f⟩ := paired_last t (by simp)
      exact ⟨a :: l', p, b :: us', v, by rw [e1]; rfl, by rw [e2]; rfl, .cons h q, f⟩
theorem paired_app {α β : Type} {F : α → β → Prop} : ∀ {l l' : List α} {us us' : List β}, Paired F l us → Paired F l' us' → Paired F (l ++ l') (us ++ us')
  | _, _, _, _, .nil, h => h
  | _, _, _, _, .cons h t, r => .cons h (paired_app t r)
def StOk (K : PySem.W.Frag) (H : Hp) (p : Sy × Nat) (u : V) : Prop := ∃ t x, u = .ref t ∧ SqT K H t [x, .int (p.2 : Nat)] ∧ Sv K H p.1 x ∧ p.1.Good ∧ p.1.depth + p.2 ≤ 60
theorem StOk.bt {K : PySem.W.Frag} {p : Addr → Prop} {H H' : Hp} {x : Sy × Nat} {u : V} (h : Bt p H H') (fl : ∀ b, p b → Flat H b) (q : StOk K H x u) : StOk K H' x u := by
  obtain ⟨t, y, e, h1, h2, r⟩ := q
  exact ⟨t, y, e, h.tup fl h1, h2.bt h fl, r⟩
def mu2 (σ : L2.St) : Nat := match σ[2]? with
  | some (some (V.int i)) => 300 - i.toNat
  | _ => 0
theorem Sv.sameAll {K : PySem.W.Frag} {H H' : Hp} (h : Same H H') : ∀ {ss : List Sy} {us : List V}, Svs K H ss us → Svs K H' ss us
  | _, _, .nil => .nil
  | _, _, .cons q t => .cons (q.same h) (Sv.sameAll h t)
theorem Sy.goodParts {s : Sy} (g : s.Good) : ∀ p ∈ s.parts, p.Good := by
  cases s with
  | lt c => simp [Sy.parts]
  | nt x => simp only [Sy.parts, List.mem_singleton]; rintro p rfl; exact g
  | bi w x y =>
    simp only [Sy.parts, List.mem_cons, List.not_mem_nil, or_false]
    rintro p (rfl | rfl)
    · exact g.2.1
    · exact g.2.2
theorem Sy.depthParts {s : Sy} : ∀ p ∈ s.parts, p.depth + 1 ≤ s.depth := by
  cases s with
  | lt c => simp [Sy.parts]
  | nt x => simp only [Sy.parts, List.mem_singleton]; rintro p rfl; exact Nat.le_refl _
  | bi w x y =>
    simp only [Sy.parts, List.mem_cons, List.not_mem_nil, or_false]
    rintro p (rfl | rfl) <;> simp only [Sy.depth] <;> omega
theorem Sy.partsLen (s : Sy) : s.parts.length ≤ 2 := by cases s <;> simp [Sy.parts]
theorem mkStack {K : PySem.W.Frag} {l : Addr} {dd : Nat} {H3 H5 H6 : Hp} (s5 : Same H3 H5) (b6 : Bt (fun b => b = l) H5 H6) (fl : ∀ b, b = l → Flat H5 b) : ∀ {ps : List Sy} {us acc : List V}, Svs K H3 ps us →
    Paired (fun x y => ∃ tt, y = V.ref tt ∧ SqT K H5 tt [x, .int ((dd : Int) + 1)]) us acc → (∀ p ∈ ps, p.Good) → (∀ p ∈ ps, p.depth + 1 + dd ≤ 60) → Paired (StOk K H6) (ps.map fun p => (p, dd + 1)) acc
  | _, _, _, .nil, .nil, _, _ => .nil
  | _, _, _, .cons h t, .cons h' t', g, d => by
    obtain ⟨tt, e, q⟩ := h'
    refine .cons ⟨tt, _, e, b6.tup fl q, (h.same s5).bt b6 fl, g _ List.mem_cons_self, ?_⟩ (mkStack s5 b6 fl t t' (fun p hp => g p (List.mem_cons_of_mem _ hp)) fun p hp => d p (List.mem_cons_of_mem _ hp))
    have := d _ List.mem_cons_self
    simp only
    omega
section
variable {P : Program} {w : World} {K : PySem.W.Frag} {mg : Str → Option Value} {base : Heap} {dL aL : Addr}
theorem StOk.dp {H : Hp} : ∀ {st : List (Sy × Nat)} {us : List V}, Paired (StOk K H) st us → ∃ ds, DpAll K H us ds ∧ PyData.canLayAll0 ds = true ∧ PyData.depthAll ds ≤ 63 ∧ (ds = [] ↔ us = [])
  | _, _, .nil => ⟨[], .nil, rfl, by simp [PyData.depthAll], by simp⟩
  | _, _, .cons (a := p) (b := u) h t => by
    obtain ⟨ds, h1, h2, h3, h4⟩ := StOk.dp t
    obtain ⟨tt, x, e, q, v, g, d⟩ := h
    subst e
    refine ⟨.tuple [p.1.data, .int (p.2 : Nat)] :: ds, .cons (.tup q (.cons v.dp (.cons (.int _) .nil))) h1, ?_, ?_, by simp⟩
    · have := p.1.canLay g
      simp [PyData.canLayAll0, PyData.canLay0, this, h2]
    · have := p.1.dataDepth
      simp [PyData.depthAll, PyData.depth]
      omega
def spSaying (K : PySem.W.Frag) : Sp := fun vs H Q _ => ∃ s v, vs = [v] ∧ Sv K H s v ∧ s.Good ∧ s.depth ≤ 60 ∧ ∀ H', Same H H' → Q (.bl s.fits) H'
theorem ok_saying (F : Fn K mg "is_saying" (top 22)) (T : Tx K w mg dL aL) (G1 : Cl P w K mg base CX0 3 "inner_of" (spInner K)) : Cl P w K mg base CX0 4 "is_saying" (spSaying K) := by
  have sc : FnScope ["value", "waiting", "many", "part", "deep", "inner", "one"] ["value"] (defScope (top 22)) := ⟨rfl, rfl, rfl, by decide +kernel, rfl, by decide +kernel, by decide +kernel⟩
  refine F.cl sc (fun vs H Q E h => ?_) (fun _ _ _ _ _ _ us hl => match us, hl with | [_], _ => rfl) (fun f cdv A outer s H vs Q E hr h => ?_)
  · obtain ⟨s, v, rfl, _⟩ := h; rfl
  · obtain ⟨y, v, rfl, hv, hg, hd, q⟩ := h
    obtain ⟨t1, hMW⟩ := T.MOSTW
    obtain ⟨t2, hMD⟩ := T.MOSTD
    have nd := sc.nd
    refine ⟨_, pss_cons (ps_par (i := 1) (j := 2) (by rfl) nd rfl rfl (by decide) rfl rfl (pa_cons (pe_lst (pa_cons (pe_tup (pa_cons (pv 0) (pa_cons pe_int pa_nil))) pa_nil)) (pa_cons pe_int pa_nil)) (by rfl))
      (pss_cons (ps_while PassesOwn.never (pt_cmpR (op_neD hr.units) (pv 1) (pe_lst pa_nil) (nomark _))
        (pss_cons (ps_asg (pe_bm0 PySem.F.plainAttrs_list PySem.F.slot_list_pop PySem.F.type_list_pop mt_pop (pv 1)) (pg_tup (by rfl) (pgs_cons (pg_name (i := 3) nd rfl (.inl rfl)) (pgs_cons (pg_name (i := 4) nd rfl (.inr rfl)) pgs_nil))))
        (pss_cons (ps_par (i := 5) (j := 2) (by rfl) nd rfl rfl (by decide) rfl rfl (pa_cons (pe_cl G1 hr (by rfl) (pa_cons (pv 3) pa_nil)) (pa_cons (pe_op op_add (pv 2) pe_int) pa_nil)) (by rfl))
        (pss_cons (ps_if (PW.pt (pw_or (pt_cmpR op_isN (pv 5) pe_non (nomark _)) (pw_or (pt_cmpR op_gt (pv 4) (pe_glob (v := .int 40) (by rfl) hMD ⟨_, rfl⟩) (nomark _)) (pw_or1 (pt_cmpR op_gt (pv 2) (pe_glob (v := .int 200) (by rfl) hMW ⟨_, rfl⟩) (nomark _)))))) (pss_one (ps_ret pe_bl)) pss_nil)
        (pss_one (ps_expr (pe_bm PySem.F.plainAttrs_list PySem.F.slot_list_extend PySem.F.type_list_extend mt_extend (pv 1) (pa_cons
          (pe_lc (own := [("one", 6)]) (g := gName 6) (tt := tYes) (by rfl) nd (pi_list (pv 5)) (blkOk_by (own := [("one", 6)]) (N := ["value", "waiting", "many", "part", "deep", "inner", "one"]) (sc := defScope (top 22)) (by decide +kernel)) (fun _ _ _ _ _ => pg_name (i := 6) nd rfl (.inl rfl)) (fun _ _ _ _ _ => pts_nil)
            (fun _ _ _ _ _ => pe_tup (pa_cons (pv 6) (pa_cons (pe_op op_add (pv 4) pe_int) pa_nil)))) pa_nil))))))))
      (pss_one (ps_ret pe_bl))), ?_⟩
    refine ⟨_, rfl, (by show 2 ≤ sizeLine; decide), fun t nt => ⟨(by show 1 ≤ sizeLine; decide), fun l nl => ⟨_, _, rfl, ?_⟩⟩⟩
    have sl : 1000 < sizeLine := by decide
    have s0 : Same H (upd H t (.tup [v, .int 0])) := same_new nt
    have s1 : Same H (upd (upd H t (.tup [v, .int 0])) l (.lst [.ref t])) := s0.trans (same_new nl)
    refine while_by (fun σ H' => ∃ (m : Nat) (st : List (Sy × Nat)) (us : List V) (p3 p4 p5 : Option V), σ = [some v, some (.ref l), some (.int (m : Nat)), p3, p4, p5, none] ∧ H' l = some (.lst us) ∧ Paired (StOk K H') st us ∧ us.length ≤ m + 1 ∧ m ≤ 200 ∧ G m st = y.fits ∧ Same H H')
      (fun σ _ => mu2 σ) ?_ ?_ ?_
    · refine ⟨0, [(y, 0)], [.ref t], none, none, none, rfl, upd_same, .cons ⟨t, v, rfl, ?_, hv.same s1, hg, by omega⟩ .nil, by simp, by omega, G_one y, s1⟩
      refine same_tup (same_new nl) (SqT.of ?_)
      exact upd_same
    · rintro σ H1 ⟨m, st, us, p3, p4, p5, rfl, hl, hp, hn, hm, hG, sm⟩
      refine ⟨_, rfl, (by show 0 ≤ sizeLine; decide), fun p np => ?_⟩
      have s2 : Same H1 (upd H1 p (.lst [])) := same_new np
      have hl2 := s2 _ _ hl
      have hp2 : Paired (StOk K (upd H1 p (.lst []))) st us := Paired.mono (fun _ _ h => StOk.bt (.of s2) (p := fun _ => False) (fun _ z => z.elim) h) hp
      have hp3 : upd H1 p (.lst []) p = some (.lst []) := upd_same
      revert s2 hl2 hp2 hp3
      generalize upd H1 p (.lst []) = H2
      intro s2 hl2 hp2 hp3
      obtain ⟨ds, d1, d2, d3, d4⟩ := StOk.dp hp2
      refine ⟨.list ds, .list [], .lst (SqL.of hl2) d1, .lst (SqL.of hp3) .nil, ?_, rfl, _, rfl, ?_⟩
      · unfold SeqAt.shaped
        simp [PyData.canLay0, PyData.depth, d2]
        omega
      cases ds with
      | nil =>
        obtain rfl := d4.mp rfl
        cases hp
        rw [G_nil hm] at hG
        refine iteF ?_
        rw [hG]
        exact q _ (sm.trans s2)
      | cons d ds =>
        refine iteT ?_
        obtain ⟨st', ⟨x, dd⟩, us', u, rfl, rfl, hp4, t2, xv, rfl, ht2, hx, gx, hdx⟩ := paired_last hp2 (fun z => by rw [z] at d4; exact absurd (d4.mpr rfl) (by simp))
        refine ⟨_, rfl, .inl ⟨rfl, _, SqL.of hl2⟩, l, _, .ref t2, rfl, rfl, hl2, by simp, ?_⟩
        rw [List.dropLast_concat]
        have b3 : Bt (fun b => b = l) H2 (upd H2 l (.lst us')) := fun b o n e => by rw [upd_ne n]; exact e
        have fl2 : ∀ b, b = l → Flat H2 b := fun b e => e ▸ flat_lst hl2
        have hl3 : upd H2 l (.lst us') l = some (.lst us') := upd_same
        revert b3 hl3
        generalize upd H2 l (.lst us') = H3
        intro b3 hl3
        have hx3 := hx.bt b3 fl2
        have hp5 : Paired (StOk K H3) st' us' := Paired.mono (fun _ _ h => StOk.bt b3 fl2 h) hp4
        have sm3 : Same H H3 := fun b o e => b3 b o (fun z => by rw [z, s0.free nl] at e; cases e) (s2 _ _ (sm _ _ e))
        refine ⟨t2, _, rfl, b3.tup fl2 ht2, rfl, _, _, rfl, _, _, rfl, rfl, ?_⟩
        refine ⟨_, rfl, x, xv, rfl, hx3, gx, by simp only at hdx; omega, fun qa us2 H4 s4 nq hq hps => ⟨_, rfl, _, _, rfl, rfl, _, _, rfl, ?_⟩⟩
        refine ⟨_, rfl, rfl, _, rfl, ite2 (fun z => absurd z (by simp)) fun _ => ?_⟩
        refine ⟨_, rfl, _, _, rfl, rfl, _, rfl, ite2 (fun z => ?_) fun z => ?_⟩
        · have z2 : 40 < dd := by have := of_decide_eq_true z; omega
          rw [G_deep z2] at hG
          rw [hG]
          exact q _ (sm3.trans s4)
        have z2 : dd ≤ 40 := Nat.le_of_not_lt fun y => z (decide_eq_true (by omega))
        refine ⟨_, rfl, _, _, rfl, rfl, _, rfl, ite2 (fun z => ?_) fun z => ?_⟩
        · have z2 : 200 < m + 1 := by have := of_decide_eq_true z; omega
          rw [G_many z2] at hG
          rw [hG]
          exact q _ (sm3.trans s4)
        have z3 : m + 1 ≤ 200 := Nat.le_of_not_lt fun y => z (decide_eq_true (by omega))
        rw [G_step z2] at hG
        refine ⟨_, rfl, .inl ⟨rfl, _, SqL.of (s4 _ _ hl3)⟩, ?_⟩
        refine ⟨_, rfl, qa, rfl, ⟨us2, SqL.of hq⟩, fun D nD => ?_⟩
        refine mp_list (ps := us2) (p := fun _ => False) (I := fun _ _ => True) (F := fun x y H => ∃ tt, y = .ref tt ∧ SqT K H tt [x, .int ((dd : Int) + 1)]) ⟨nD, fun z => z, ?_, rfl, trivial, fun _ _ _ _ _ => trivial, ?_, ?_⟩ (fun i H' _ hb => SqL.of (hb.same _ _ hq)) ?_
        · have := hps.length
          have := x.partsLen
          omega
        · rintro i x1 y1 H5 H6 acc _ hD hb ⟨tt, e, h⟩
          exact ⟨tt, e, hb.tup (fun b z => z.elim (fun z => z.elim) fun z => z ▸ flat_lst hD) h⟩
        · intro i x1 x1' H5 W Qe hx1 hx1' _ hb k kw
          rw [hx1] at hx1'
          cases hx1'
          exact kw _ _ rfl ⟨_, rfl, _, rfl, _, _, rfl, rfl, (by show 2 ≤ sizeLine; decide), fun tn nn => k _ _ (.of (same_new nn)) trivial ⟨tn, rfl, SqT.of upd_same⟩⟩
        · intro acc H5 _ hb hD hp6
          have s5 := hb.same
          have hl5 := s5 _ _ (s4 _ _ hl3)
          have hlen : acc.length ≤ 2 := by
            have := hps.length
            have := x.partsLen
            have := hp6.length
            omega
          simp only [List.length_append, List.length_singleton] at hn
          refine ⟨l, D, us', acc, rfl, rfl, hl5, hD, by omega, ?_⟩
          have b6 : Bt (fun b => b = l) H5 (upd H5 l (.lst (us' ++ acc))) := fun b o n e => by rw [upd_ne n]; exact e
          have fl6 : ∀ b, b = l → Flat H5 b := fun b e => e ▸ flat_lst hl5
          refine ⟨⟨m + 1, st' ++ down x dd, us' ++ acc, _, _, _, rfl, upd_same, ?_, ?_, z3, hG, fun b o e => b6 b o (fun z => by rw [z, s0.free nl] at e; cases e) (s5 _ _ (s4 _ _ (sm3 _ _ e)))⟩, ?_⟩
          · refine paired_app (Paired.mono (fun _ _ h => StOk.bt b6 fl6 (StOk.bt (.of (s4.trans s5)) (p := fun _ => False) (fun _ z => z.elim) h)) hp5) ?_
            have hdx' : x.depth + dd ≤ 60 := hdx
            exact mkStack (s4.trans s5) b6 fl6 hps hp6 (x.goodParts gx) fun p hp => by have := x.depthParts p hp; omega
          · rw [List.length_append]; omega
          · show mu2 _ < mu2 _
            simp only [mu2, L2.start, List.set, List.getElem?_cons_succ, List.getElem?_cons_zero]
            omega
    · rintro σ H1 Q1 Q2 hh ⟨v1, e1, len, f1⟩
      refine ⟨v1, e1, len, fun p np => ?_⟩
      obtain ⟨d, e, a1, a2, a3, a4, k, hk, q1⟩ := f1 p np
      exact ⟨d, e, a1, a2, a3, a4, k, hk, hh _ _ q1⟩
end
end Rf
end -- M4
section -- M5
set_option Elab.async false
set_option maxRecDepth 100000
set_option maxHeartbeats 4000000
set_option pp.maxSteps 600
set_option pp.deepTerms false
set_option linter.all false
namespace Rf
open PySem L2 PyProof.Rows
theorem ext_tup (l : Addr) (its : Array Value) (n : Nat) (b : Addr) (jts : Array Value) (m : Nat) (dd : Option Addr) (ss : Array (Option Value)) (no : ¬(!its.isEmpty && Builtin.List.listTooLong (its.size + jts.size)) = true) (z1 : its.size ≤ sizeLine) (z2 : its.size + jts.size ≤ sizeLine + 1) :
    Meets (Builtin.«list.extend» ⟨[.ref l, .ref b], []⟩) (fun _ R s => s.heap.get? l = some { cls := .type "list", dict := none, data := .seq its n, slots := #[] } ∧ s.heap.get? b = some { cls := .type "tuple", dict := dd, data := .seq jts m, slots := ss } ∧
      R (.ok (.ret Value.none)) { s with heap := s.heap.update l (Obj.mapSeq fun x => x ++ jts), toks := s.toks }) :=
  .of_wp fun prog w A R s h => by
    obtain ⟨hp, g, d, tk, os⟩ := s
    obtain ⟨hl, hb, h⟩ := h
    have f1 := AutoSeq1.idx_int
    have f2 := AutoSeq1.sub_tuple_tuple
    have f3 := AutoSeq1.sub_list_list
    have f4 := AutoSeq1.sub_tuple_list
    have f5 := AutoSeq1.sub_list_tuple
    have zz : (its ++ jts).size ≤ sizeLine + 1 := by
      rw [Array.size_append]; exact z2
    wp_walk using (wpAny_updateSeq hl rfl (hz := z1) (_hz' := zz)), AutoSeq1.wpAny_loadPart' hl, AutoSeq1.wpAny_loadPart' hb
    exact ⟨_, rfl, h⟩
section
variable {X : Cx}
/-- xs.extend(t), t a tuple -/
def rExtT (K : PySem.W.Frag) : V → List V → Hp → VK → Prop := fun x vs H Q => ∃ l b xs zs, x = .ref l ∧ vs = [.ref b] ∧ H l = some (.lst xs) ∧ SqT K H b zs ∧ xs.length + zs.length ≤ sizeLine ∧ Q .non (upd H l (.lst (xs ++ zs)))
theorem mt_extT : MtM X "list.extend" (rExtT X.K) := by
  intro pins s σ H x vs v us Q I rx rv h
  obtain ⟨l, b, xs, zs, rfl, rfl, hl, hb, hz, q⟩ := h
  cases rx
  obtain ⟨u, rfl, ru⟩ := rv.one
  cases ru
  obtain ⟨z, its, n, r, el, e⟩ := I.lstM hl
  obtain ⟨jts, r2, ⟨o, ho, hc, n2, hd⟩, z2⟩ := I.tuple hb
  have l1 := r.length
  have l2 := r2.length
  have sz : its.toArray.size + jts.toArray.size ≤ sizeLine := by
    rw [List.size_toArray, List.size_toArray]; omega
  have no : ¬ (!its.toArray.isEmpty && Builtin.List.listTooLong (its.toArray.size + jts.toArray.size)) = true := by
    rw [notLongL sz, Bool.and_false]; simp
  obtain ⟨cc, dd, da, ss⟩ := o
  simp only at hc hd
  subst hc hd
  refine call_meets F.slot_list_extend
    ⟨_, e, rfl⟩ F.entry_list_extend
    (F.args_list_extend_2 _ _)
    (ext_tup l its.toArray n b jts.toArray n2 dd ss no (by rw [List.size_toArray]; omega) (by omega)) ⟨e, ho, ?_⟩
  refine ⟨.non, _, I.lset (its' := its ++ jts) hl e (by simp) (r.append r2) ?_, rfl, q⟩
  rw [List.length_append]
  omega
end
end Rf
end -- M5
section -- M6
set_option Elab.async false
set_option maxRecDepth 100000
set_option maxHeartbeats 4000000
set_option pp.maxSteps 600
set_option pp.deepTerms false
set_option linter.all false
namespace Rf
open PySem L2 PyProof.Rows
def szs : List Sy → Nat
  | [] => 0
  | p :: r => p.size + szs r
theorem szs_app (a b : List Sy) : szs (a ++ b) = szs a + szs b := by
  induction a with
  | nil => simp [szs]
  | cons p r ih => simp only [List.cons_append, szs, ih]; omega
theorem szs_len (a : List Sy) : a.length ≤ szs a := by
  induction a with
  | nil => simp [szs]
  | cons p r ih => have := p.size_pos; simp only [List.length_cons, szs]; omega
theorem szs_parts (s : Sy) : szs s.parts + 1 = s.size := by cases s <;> simp only [Sy.parts, szs, Sy.size] <;> omega
theorem paired_at {α β : Type} {F : α → β → Prop} : ∀ {l : List α} {us : List β} {i : Nat}, Paired F l us → i < us.length → ∃ p u, l[i]? = some p ∧ us[i]? = some u ∧ F p u
  | _, _, _, .nil, h => absurd h (Nat.not_lt_zero _)
  | _, _, 0, .cons h _, _ => ⟨_, _, rfl, rfl, h⟩
  | _, _, i + 1, .cons _ t, h => by
    obtain ⟨p, u, a, b, c⟩ := paired_at (i := i) t (by simpa using h)
    exact ⟨p, u, by simpa using a, by simpa using b, c⟩
section
variable {P : Program} {w : World} {K : PySem.W.Frag} {mg : Str → Option Value} {base : Heap} {dL aL : Addr}
def spCheck (K : PySem.W.Frag) : Sp := fun vs H Q _ => ∃ s v, vs = [v] ∧ Sv K H s v ∧ s.Good ∧ s.fits = true ∧ ∀ H', Same H H' → Q .non H'
theorem fits_iff {s : Sy} : s.fits = true ↔ s.size ≤ 200 ∧ s.depth ≤ 40 := by
  unfold Sy.fits
  rw [Bool.and_eq_true, decide_eq_true_iff, decide_eq_true_iff]
theorem ok_check (F : Fn K mg "check_saying" (top 23)) (G1 : Cl P w K mg base CX0 4 "is_saying" (spSaying K)) : Cl P w K mg base CX0 5 "check_saying" (spCheck K) := by
  have sc : FnScope ["saying"] ["saying"] (defScope (top 23)) := ⟨rfl, rfl, rfl, by decide +kernel, rfl, by decide +kernel, by decide +kernel⟩
  refine F.cl sc (fun vs H Q E h => ?_) (fun _ _ _ _ _ _ us hl => match us, hl with | [_], _ => rfl) (fun f cdv A outer s H vs Q E hr h => ?_)
  · obtain ⟨s, v, rfl, _⟩ := h; rfl
  · obtain ⟨y, v, rfl, hv, hg, hf, q⟩ := h
    refine ⟨_, pss_one (ps_if (pt_not (pt_val (pe_cl G1 hr (by rfl) (pa_cons (pv 0) pa_nil)))) (pss_one ps_never) pss_nil), ?_⟩
    refine ⟨_, rfl, y, v, rfl, hv, hg, by have := (fits_iff.mp hf).2; omega, fun H' sm => ⟨_, rfl, ?_⟩⟩
    rw [hf]
    exact iteF (q _ sm)
def spCheckL : Sp := fun vs H Q _ => ∃ c, vs = [.str c] ∧ c ∈ letV ∧ Q .non H
theorem ok_checkL (F : Fn K mg "check_letter" (top 24)) (G1 : Cl P w K mg base CX0 2 "is_letter" spLetter) : Cl P w K mg base CX0 3 "check_letter" spCheckL := by
  have sc : FnScope ["letter"] ["letter"] (defScope (top 24)) := ⟨rfl, rfl, rfl, by decide +kernel, rfl, by decide +kernel, by decide +kernel⟩
  refine F.cl sc (fun vs H Q E h => ?_) (fun _ _ _ _ _ _ us hl => match us, hl with | [_], _ => rfl) (fun f cdv A outer s H vs Q E hr h => ?_)
  · obtain ⟨s, rfl, _⟩ := h; rfl
  · obtain ⟨c, rfl, hc, q⟩ := h
    refine ⟨_, pss_one (ps_if (pt_not (pt_val (pe_cl G1 hr (by rfl) (pa_cons (pv 0) pa_nil)))) (pss_one ps_never) pss_nil), ?_⟩
    exact ⟨_, rfl, c, rfl, hc, _, rfl, iteF q⟩
def spEvery (K : PySem.W.Frag) : Sp := fun vs H Q _ => ∃ s v, vs = [v] ∧ Sv K H s v ∧ s.Good ∧ s.size ≤ 100000 ∧ ∀ q us H', Same H H' → H' q = some (.lst us) → us.length = s.size → Q (.ref q) H'
theorem ok_every (F : Fn K mg "every_part" (top 25)) (T : Tx K w mg dL aL) : Cl P w K mg base CX0 1 "every_part" (spEvery K) := by
  have sc : FnScope ["saying", "found", "at"] ["saying"] (defScope (top 25)) := ⟨rfl, rfl, rfl, by decide +kernel, rfl, by decide +kernel, by decide +kernel⟩
  refine F.cl sc (fun vs H Q E h => ?_) (fun _ _ _ _ _ _ us hl => match us, hl with | [_], _ => rfl) (fun f cdv A outer s H vs Q E hr h => ?_)
  · obtain ⟨s, v, rfl, _⟩ := h; rfl
  · obtain ⟨y, v, rfl, hv, hg, hz, q⟩ := h
    obtain ⟨tl, hL⟩ := T.LETTER
    have nd := sc.nd
    refine ⟨_, pss_cons (ps_par (i := 1) (j := 2) (by rfl) nd rfl rfl (by decide) rfl rfl (pa_cons (pe_lst (pa_cons (pv 0) pa_nil)) (pa_cons pe_int pa_nil)) (by rfl))
      (pss_cons (ps_while PassesOwn.never (pt_cmpR op_lt (pv 2) (pe_callB call_len_seq (by rfl) T.len PySem.boot_len (pa_cons (pv 1) pa_nil)) (nomark _))
        (pss_cons (ps_if (pt_cmpR op_ne (pe_ix ix_tup (pe_ix ix_list (pv 1) (pv 2) (fun _ _ => rfl)) pe_int (fun _ _ => rfl)) (pe_glob (v := .str "letter") (by rfl) hL ⟨_, rfl⟩) (nomark _))
          (pss_one (ps_expr (pe_bm PySem.F.plainAttrs_list PySem.F.slot_list_extend PySem.F.type_list_extend mt_extT (pv 1) (pa_cons (pe_slice sl_tup (pe_ix ix_list (pv 1) (pv 2) (fun _ _ => rfl)) (po_some pe_int) po_none) pa_nil)))) pss_nil)
        (pss_one (ps_set (i := 2) nd rfl (Or.inl rfl) (pe_op op_add (pv 2) pe_int)))))
      (pss_one (ps_ret (pv 1)))), ?_⟩
    refine ⟨_, rfl, (by show 1 ≤ sizeLine; decide), fun l nl => ⟨_, _, rfl, ?_⟩⟩
    have big : 200000 < sizeLine := by decide
    have s1 : Same H (upd H l (.lst [v])) := same_new nl
    refine while_by (fun σ H' => ∃ (a : Nat) (ss : List Sy) (us : List V), σ = [some v, some (.ref l), some (.int (a : Nat))] ∧ H' l = some (.lst us) ∧ Svs K H' ss us ∧ (∀ p ∈ ss, p.Good) ∧ a ≤ us.length ∧ a + szs (ss.drop a) = y.size ∧ Same H H')
      (fun σ _ => match σ[2]? with | some (some (V.int i)) => y.size - i.toNat | _ => 0) ?_ ?_ ?_
    · exact ⟨0, [y], [v], rfl, upd_same, .cons (hv.same s1) .nil, by simp [hg], by simp, by simp [szs], s1⟩
    · rintro σ H1 ⟨a, ss, us, rfl, hl, hp, hgg, ha, hs, sm⟩
      refine ⟨_, rfl, _, rfl, l, us, rfl, .inl (SqL.of hl), _, _, rfl, rfl, _, rfl, ?_⟩
      refine ite2 (fun z => ?_) (fun z => ?_)
      · have lt : a < us.length := by have := of_decide_eq_true z; omega
        obtain ⟨p, u, e1, e2, hpu⟩ := paired_at hp lt
        obtain ⟨b, x, xs, rfl, ht, h1, h2⟩ := hpu.tup
        have gp := hgg p (List.mem_of_getElem? e1)
        have dr : ss.drop a = p :: ss.drop (a + 1) := by
          have := (List.getElem?_eq_some_iff.mp e1)
          obtain ⟨i1, i2⟩ := this
          rw [← i2]; exact List.drop_eq_getElem_cons i1
        rw [dr] at hs
        have hs' : a + (p.size + szs (ss.drop (a + 1))) = y.size := hs
        have lenEq := hp.length
        refine ⟨_, rfl, _, rfl, l, us, _, .ref b, rfl, rfl, SqL.of hl, atI_nat e2, b, _, 0, _, rfl, rfl, ht, at0, ?_⟩
        refine ⟨rfl, _, rfl, ?_⟩
        rw [wl gp]
        by_cases hlt : p.isLt = true
        · rw [hlt]
          refine iteF ⟨_, rfl, _, _, rfl, rfl, ?_⟩
          obtain ⟨c, rfl⟩ := lt_of hlt
          have hs2 : a + (1 + szs (ss.drop (a + 1))) = y.size := hs'
          refine ⟨⟨a + 1, ss, us, rfl, hl, hp, hgg, lt, by omega, sm⟩, ?_⟩
          simp only [List.set, List.getElem?_cons_succ, List.getElem?_cons_zero]
          omega
        · rw [Bool.eq_false_iff.mpr hlt]
          have h3 := h2 (not_lt hlt)
          refine iteT ?_
          refine ⟨_, rfl, .inl ⟨rfl, _, SqL.of hl⟩, ?_⟩
          refine ⟨_, rfl, _, rfl, l, us, _, .ref b, rfl, rfl, SqL.of hl, atI_nat e2, _, rfl, b, _, rfl, ht, cutN, fun p2 np2 => ?_⟩
          rw [cut1]
          have s2 : Same H1 (upd H1 p2 (.tup (x :: xs))) := same_new np2
          have hp2 : upd H1 p2 (.tup (x :: xs)) p2 = some (.tup (x :: xs)) := upd_same
          revert s2 hp2
          generalize upd H1 p2 (.tup (x :: xs)) = H2
          intro s2 hp2
          have hl2 := s2 _ _ hl
          have h3l := h3.length
          have hsp := szs_parts p
          have hlp := szs_len p.parts
          have hld := szs_len (ss.drop (a + 1))
          rw [List.length_drop] at hld
          refine ⟨l, p2, us, x :: xs, rfl, rfl, hl2, SqT.of hp2, by omega, ?_⟩
          refine ⟨_, rfl, _, _, rfl, rfl, ?_⟩
          have b6 : Bt (fun b => b = l) H2 (upd H2 l (.lst (us ++ (x :: xs)))) := fun b o n e => by rw [upd_ne n]; exact e
          have fl6 : ∀ b, b = l → Flat H2 b := fun b e => e ▸ flat_lst hl2
          refine ⟨⟨a + 1, ss ++ p.parts, us ++ (x :: xs), rfl, upd_same, ?_, ?_, ?_, ?_, fun b o e => b6 b o (fun z => by rw [z, nl] at e; cases e) (s2 _ _ (sm _ _ e))⟩, ?_⟩
          · exact paired_app (Paired.mono (fun _ _ h => Sv.bt b6 fl6 (Sv.same s2 h)) hp) (Paired.mono (fun _ _ h => Sv.bt b6 fl6 (Sv.same s2 h)) h3)
          · intro p' hp'
            rcases List.mem_append.mp hp' with h | h
            · exact hgg p' h
            · exact p.goodParts gp p' h
          · rw [List.length_append]; omega
          · rw [List.drop_append_of_le_length (by omega), szs_app]
            omega
          · simp only [List.set, List.getElem?_cons_succ, List.getElem?_cons_zero]
            omega
      · have ge : us.length ≤ a := Nat.le_of_not_lt fun h => z (decide_eq_true (by omega))
        have lenEq := hp.length
        rw [List.drop_eq_nil_of_le (by omega)] at hs
        refine ⟨_, rfl, q l us H1 sm hl ?_⟩
        simp only [szs] at hs
        omega
    · rintro σ H1 Q1 Q2 hh ⟨v1, e1, v2, e2, b1, xs1, e3, a4, i1, j1, e5, e6, k, hk, q1⟩
      exact ⟨v1, e1, v2, e2, b1, xs1, e3, a4, i1, j1, e5, e6, k, hk, hh _ _ q1⟩
def spSize (K : PySem.W.Frag) : Sp := fun vs H Q _ => ∃ s v, vs = [v] ∧ Sv K H s v ∧ s.Good ∧ s.fits = true ∧ ∀ H', Same H H' → Q (.int (s.size : Nat)) H'
theorem ok_size (F : Fn K mg "size_of" (top 26)) (T : Tx K w mg dL aL) (G1 : Cl P w K mg base CX0 5 "check_saying" (spCheck K)) (G2 : Cl P w K mg base CX0 1 "every_part" (spEvery K)) : Cl P w K mg base CX0 6 "size_of" (spSize K) := by
  have sc : FnScope ["saying"] ["saying"] (defScope (top 26)) := ⟨rfl, rfl, rfl, by decide +kernel, rfl, by decide +kernel, by decide +kernel⟩
  refine F.cl sc (fun vs H Q E h => ?_) (fun _ _ _ _ _ _ us hl => match us, hl with | [_], _ => rfl) (fun f cdv A outer s H vs Q E hr h => ?_)
  · obtain ⟨s, v, rfl, _⟩ := h; rfl
  · obtain ⟨y, v, rfl, hv, hg, hf, q⟩ := h
    have ff := fits_iff.mp hf
    refine ⟨_, pss_cons (ps_expr (pe_cl G1 hr (by rfl) (pa_cons (pv 0) pa_nil))) (pss_one (ps_ret (pe_callB call_len_seq (by rfl) T.len PySem.boot_len (pa_cons (pe_cl G2 (hr.mono (by decide)) (by rfl) (pa_cons (pv 0) pa_nil)) pa_nil)))), ?_⟩
    refine ⟨_, rfl, y, v, rfl, hv, hg, hf, fun H1 s1 => ⟨_, rfl, y, v, rfl, hv.same s1, hg, by omega, fun l us H2 s2 hl hlen => ⟨_, _, rfl, .inl (SqL.of hl), ?_⟩⟩⟩
    rw [hlen]
    exact q _ (s1.trans s2)
end
end Rf
end -- M6
section -- M7
set_option Elab.async false
set_option maxRecDepth 100000
set_option maxHeartbeats 4000000
set_option pp.maxSteps 600
set_option pp.deepTerms false
set_option linter.all false
namespace Rf
open PySem L2 PyProof.Rows StX
structure Leads (K : PySem.W.Frag) (H : Hp) (d : Addr) (f : Str → Option Sy) : Prop where
  ex : ∃ kvs : List (Key × V), H d = some (.dK kvs) ∧ (∀ c v, valV kvs (Sum.inr c) = some v → ∃ s, f c = some s ∧ Sv K H s v) ∧ ∀ c, valV kvs (Sum.inr c) = none → f c = none
theorem Leads.same {K : PySem.W.Frag} {H H' : Hp} {d : Addr} {f : Str → Option Sy} (h : Leads K H d f) (s : Same H H') : Leads K H' d f := by
  obtain ⟨kvs, h1, h2, h3⟩ := h.ex
  refine ⟨kvs, s _ _ h1, fun c v e => ?_, h3⟩
  obtain ⟨t, a, b⟩ := h2 c v e
  exact ⟨t, a, b.same s⟩
theorem Sv.ofSub {K : PySem.W.Frag} {H : Hp} {s : Sy} {f : Str → Option Sy} {a : Addr} {us : List V} (h : SqT K H a (.str s.word :: us)) (n : ∀ c, s ≠ .lt c) (p : Svs K H (s.parts.map (Sy.sub f)) us) : Sv K H (s.sub f) (.ref a) := by
  cases s with
  | lt c => exact absurd rfl (n c)
  | nt x =>
    cases p with
    | cons q t => cases t; exact ⟨a, _, rfl, h, q⟩
  | bi w x y =>
    cases p with
    | cons q t => cases t with | cons q' t => cases t; exact ⟨a, _, _, rfl, h, q, q'⟩
theorem svs_map {K : PySem.W.Frag} {H : Hp} {f : Str → Option Sy} : ∀ {ps : List Sy} {vs : List V}, Paired (fun s y => Sv K H (s.sub f) y) ps vs → Svs K H (ps.map (Sy.sub f)) vs
  | _, _, .nil => .nil
  | _, _, .cons h t => .cons h (svs_map t)
section
variable {P : Program} {w : World} {K : PySem.W.Frag} {mg : Str → Option Value} {base : Heap} {dL aL : Addr}
def spLed (K : PySem.W.Frag) (n : Nat) : Sp := fun vs H Q _ => ∃ s v d f, vs = [v, .ref d] ∧ Sv K H s v ∧ s.Good ∧ s.depth ≤ n ∧ Leads K H d f ∧ ∀ v' H', Same H H' → Sv K H' (s.sub f) v' → Q v' H'
theorem led_lt {H : Hp} {d : Addr} {f : Str → Option Sy} {c : Str} {v : V} (h : Leads K H d f) (hv : Sv K H (.lt c) v) : ∃ o, DGet H d (.str c) o ∧ IsD H d ∧ Sv K H ((Sy.lt c).sub f) (o.getD v) := by
  obtain ⟨kvs, h1, h2, h3⟩ := h.ex
  refine ⟨_, DGet.k (k := Sum.inr c) h1, .inl ⟨kvs, .inl h1⟩, ?_⟩
  cases e : valV kvs (Sum.inr c) with
  | none =>
    have := h3 c e
    show Sv K H ((f c).getD (.lt c)) v
    rw [this]; exact hv
  | some u =>
    obtain ⟨t, a, b⟩ := h2 c u e
    show Sv K H ((f c).getD (.lt c)) u
    rw [a]; exact b
theorem scLed : FnScope ["saying", "leads", "part"] ["saying", "leads"] (defScope (top 29)) := ⟨rfl, rfl, rfl, by decide +kernel, rfl, by decide +kernel, by decide +kernel⟩
theorem ok_led (F : Fn K mg "led_by" (top 29)) (T : Tx K w mg dL aL) : ∀ n, Cl P w K mg base CX0 (n + 1) "led_by" (spLed K n) := by
  obtain ⟨tl, hL⟩ := T.LETTER
  intro n
  induction n with
  | zero =>
    refine F.cl scLed (fun vs H Q E h => ?_) (fun _ _ _ _ _ _ us hl => match us, hl with | [_, _], _ => rfl) (fun f cdv A outer s H vs Q E hr h => ?_)
    · obtain ⟨s, v, d, f, rfl, _⟩ := h; rfl
    · obtain ⟨y, v, d, g, rfl, hv, hg, hd, hl, q⟩ := h
      refine ⟨_, pss_cons (ps_if (pt_cmpR op_eq (pe_ix ix_tup (pv 0) pe_int (fun _ _ => rfl)) (pe_glob (v := .str "letter") (by rfl) hL ⟨_, rfl⟩) (nomark _))
        (pss_one (ps_ret (pe_dget2 (hu_of hr) (pv 1) (pe_ix ix_tup (pv 0) pe_int (fun _ _ => rfl)) (pv 0) ⟨rfl, rfl, rfl, rfl⟩))) pss_nil)
        (pss_one ps_never), ?_⟩
      cases y with
      | nt x => simp [Sy.depth] at hd
      | bi w x y => simp [Sy.depth] at hd
      | lt c =>
        obtain ⟨a, rfl, ht⟩ := hv
        obtain ⟨o, g1, g2, g3⟩ := led_lt hl ⟨a, rfl, ht⟩
        refine ⟨_, rfl, a, _, 0, _, rfl, rfl, ht, at0, rfl, _, rfl, iteT ?_⟩
        exact ⟨_, rfl, d, rfl, g2, _, rfl, a, _, 1, _, rfl, rfl, ht, at1, _, rfl, o, g1, q _ _ (Same.refl _) g3⟩
  | succ n ih =>
    refine F.cl scLed (fun vs H Q E h => ?_) (fun _ _ _ _ _ _ us hl => match us, hl with | [_, _], _ => rfl) (fun f cdv A outer s H vs Q E hr h => ?_)
    · obtain ⟨s, v, d, f, rfl, _⟩ := h; rfl
    · obtain ⟨y, v, d, g, rfl, hv, hg, hd, hl, q⟩ := h
      have nd := scLed.nd
      refine ⟨_, pss_cons (ps_if (pt_cmpR op_eq (pe_ix ix_tup (pv 0) pe_int (fun _ _ => rfl)) (pe_glob (v := .str "letter") (by rfl) hL ⟨_, rfl⟩) (nomark _))
        (pss_one (ps_ret (pe_dget2 (hu_of hr) (pv 1) (pe_ix ix_tup (pv 0) pe_int (fun _ _ => rfl)) (pv 0) ⟨rfl, rfl, rfl, rfl⟩))) pss_nil)
        (pss_one (ps_ret (pe_tup (pa_cons (pe_ix ix_tup (pv 0) pe_int (fun _ _ => rfl)) (pa_star
          (pe_lc (own := [("part", 2)]) (g := gName 2) (tt := tYes) (by rfl) nd (pi_tup (pe_slice sl_tup (pv 0) (po_some pe_int) po_none)) (blkOk_by (own := [("part", 2)]) (N := ["saying", "leads", "part"]) (sc := defScope (top 29)) (by decide +kernel)) (fun _ _ _ _ _ => pg_name (i := 2) nd rfl (.inl rfl)) (fun _ _ _ _ _ => pts_nil)
            (fun _ _ _ _ _ => pe_cl ih hr (by rfl) (pa_cons (pv 2) (pa_cons (pv 1) pa_nil)))) pa_nil))))), ?_⟩
      obtain ⟨a, x, xs, rfl, ht, h1, h2⟩ := hv.tup
      refine ⟨_, rfl, a, _, 0, _, rfl, rfl, ht, at0, rfl, _, rfl, ?_⟩
      rw [wl hg]
      refine ite2 (fun e => ?_) (fun e => ?_)
      · obtain ⟨c, rfl⟩ := lt_of e
        obtain ⟨o, g1, g2, g3⟩ := led_lt hl hv
        have e1 := h1 c rfl
        rw [e1] at ht
        exact ⟨_, rfl, d, rfl, g2, _, rfl, a, _, 1, _, rfl, rfl, ht, at1, _, rfl, o, g1, q _ _ (Same.refl _) g3⟩
      · have hnl := not_lt e
        have h3 := h2 hnl
        have hlen := h3.length
        have hpl := y.partsLen
        have big : 1000 < sizeLine := by decide
        refine ⟨_, rfl, a, _, 0, _, rfl, rfl, ht, at0, ?_⟩
        refine ⟨_, rfl, _, rfl, a, _, rfl, ht, cutN, fun p np => ?_⟩
        rw [cut1]
        have s1 : Same H (upd H p (.tup (x :: xs))) := same_new np
        have hp1 : upd H p (.tup (x :: xs)) p = some (.tup (x :: xs)) := upd_same
        revert s1 hp1
        generalize upd H p (.tup (x :: xs)) = H1
        intro s1 hp1
        refine ⟨p, rfl, ⟨_, SqT.of hp1⟩, fun D nD => ?_⟩
        have lenx : (x :: xs).length ≤ 2 := by omega
        refine mp_tup (ps := y.parts) (p := fun _ => False) (I := fun _ _ => True) (F := fun s y' H' => Sv K H' (s.sub g) y') ⟨nD, fun z => z, by omega, by omega, trivial, fun _ _ _ _ _ => trivial, ?_, ?_⟩ (fun i H' _ hb => SqT.of (hb.same _ _ hp1)) ?_
        · intro i x1 y1 H5 H6 acc _ hD hb hf
          exact hf.bt hb (fun b z => z.elim (fun z => z.elim) fun z => z ▸ flat_lst hD)
        · intro i x1 s1' H5 W Qe hx1 hs1 _ hb k kw
          obtain ⟨s0, u0, k1, k2, k3⟩ := paired_at h3 (List.getElem?_eq_some_iff.mp hx1).1
          have k2' : (x :: xs)[i]? = some u0 := k2
          rw [hx1] at k2'
          cases k2'
          rw [k1] at hs1
          cases hs1
          have hm := List.mem_of_getElem? k1
          have hdp := y.depthParts s1' hm
          refine kw _ _ rfl ⟨_, rfl, _, rfl, s1', x1, d, g, rfl, (k3.same s1).same hb.same, y.goodParts hg s1' hm, by omega, (hl.same s1).same hb.same, fun v' H6 s6 hv6 => ?_⟩
          exact k _ _ (.of s6) trivial hv6
        · intro acc H5 _ hb hD hp6
          have s5 := hb.same
          refine ⟨D, acc, rfl, .inr (SqL.of hD), ?_⟩
          have l6 := hp6.length
          refine ⟨by show (V.str y.word :: (acc ++ [])).length ≤ sizeLine; simp; omega, fun t nt => ?_⟩
          rw [List.append_nil]
          have s6 : Same H5 (upd H5 t (.tup (V.str y.word :: acc))) := same_new nt
          exact q _ _ ((s1.trans s5).trans s6) (Sv.ofSub (us := acc) (SqT.of upd_same) hnl (Sv.sameAll s6 (svs_map hp6)))
end
end Rf
end -- M7
section -- Ss
set_option Elab.async false
set_option maxRecDepth 100000
set_option maxHeartbeats 4000000
set_option pp.maxSteps 600
set_option pp.deepTerms false
set_option linter.all false
namespace Rf
open PySem PySem.Spec PyProof.Rows
/-- set(xs) of texts that differ: as many as the list has -/
theorem texts_nth : ∀ {vs : List Value} {ts : List Str} {j : Nat} {v : Value}, StrsAre vs ts → vs[j]? = some v → ∃ x k, ts[j]? = some x ∧ v = .str x k
  | _, _, _, _, .nil, e => by simp at e
  | _, _, 0, _, .cons x k _, e => by
    simp at e
    exact ⟨x, k, rfl, e.symm⟩
  | _, _, j + 1, _, .cons _ _ r, e => by
    obtain ⟨x, k, a, b⟩ := texts_nth (j := j) r (by simpa using e)
    exact ⟨x, k, by simpa using a, b⟩
def Seen (ts : List Str) (j : Nat) : Str → Bool := fun y => (ts.take j).any (· == y)
theorem seen_next {ts : List Str} {j : Nat} {x : Str} (nd : ts.Nodup) (e : ts[j]? = some x) : Seen ts j x = false ∧ ∀ y, Seen ts (j + 1) y = (Seen ts j y || decide (y = x)) := by
  obtain ⟨lt, ex⟩ := List.getElem?_eq_some_iff.mp e
  constructor
  · unfold Seen
    rw [List.any_eq_false]
    intro z hz hzx
    have hzx : z = x := by simpa using hzx
    subst hzx
    obtain ⟨i, hi⟩ := List.mem_iff_getElem?.mp hz
    rw [List.getElem?_take] at hi
    split at hi
    · rename_i hij
      obtain ⟨l2, e2⟩ := List.getElem?_eq_some_iff.mp hi
      have := List.pairwise_iff_getElem.mp nd i j l2 lt hij
      exact this (e2.trans ex.symm)
    · cases hi
  · intro y
    unfold Seen
    rw [List.take_succ, e, List.any_append]
    by_cases q : y = x
    · subst q; simp
    · have : (x == y) = false := by simpa using fun z : x = y => q z.symm
      simp [this, q]
theorem set_grow {prog : Program} {w : World} {h : Heap} {a : Addr} {f g : Str → Bool} {m n : Nat} (x : h.SetOf (strKind prog w) a f m) (e : ∀ y, f y = g y) (en : m = n) : h.SetOf (strKind prog w) a g n := by
  cases funext e
  cases en
  exact x
section
variable {prog : Program} {w : World} {A : Around} {R : Result → Shared → Prop} {it : Addr} {foot : List Addr} {own : List Addr} {Gs : Array GenState → Array GenState → Prop} {m : Nat} {Pi : Nat → Value → Prop} {Si : Nat → Shared → Prop}
theorem grow_loop (wk : WalksS prog w A.in1 it foot own Gs m Pi Si) {a : Addr} (fr : a ∉ foot) {ts : List Str} (nd : ts.Nodup) (len : ts.length = m) (few : m + 1 < scanBound)
    (item : ∀ j v, Pi j v → ∃ x k, ts[j]? = some x ∧ v = .str x k) :
    ∀ (rest j : Nat) (s : Shared), m - j = rest → j ≤ m → Si j s → s.heap.SetOf (strKind prog w) a (Seen ts j) j →
      (∀ s2, Moved (a :: own) Gs s s2 → s2.heap.SetOf (strKind prog w) a (Seen ts m) m → R (.ok (.ret .none)) s2) →
      codeAny (model prog w) A (.builtin "set.update.loop" ⟨[.ref a, .ref it], []⟩) R s := by
  have ao : a ∉ own := fun z => fr (wk.sub _ z)
  have wide : ∀ b ∈ own, b ∈ a :: own := fun b z => List.mem_cons_of_mem _ z
  have stay : ∀ {f : Str → Bool} {n : Nat} {s s2 : Shared}, Moved own Gs s s2 → s.heap.SetOf (strKind prog w) a f n → s2.heap.SetOf (strKind prog w) a f n := by
    intro f n s s2 mv ⟨o, es, ep, tb, get, more⟩
    exact ⟨o, es, ep, tb, mv.heap a _ ao get, more⟩
  intro rest
  induction rest with
  | zero =>
    intro j s left le at_ held fin
    cases (show j = m by omega)
    refine codeAny_builtin
      F.entry_set_update_loop ?_
    rw [Around.under_plainId
      F.plain_set_update_loop _]
    show wpAny _ A.in1 (pyNext (.ref it) >>= _) _ _ s
    refine wpAny_bind (wk.done s _ _ at_ fun s2 mv => ?_)
    show wpAny _ A.in1 (ret Value.none) _ _ s2
    exact wpAny_pure (fin s2 (mv.mono wide) (stay mv held))
  | succ rest more =>
    intro j s left le at_ held fin
    have lt : j < m := by omega
    refine codeAny_builtin
      F.entry_set_update_loop ?_
    rw [Around.under_plainId
      F.plain_set_update_loop _]
    show wpAny _ A.in1 (pyNext (.ref it) >>= _) _ _ s
    refine wpAny_bind (wk.item j s _ _ lt at_ fun v s1 pv at1 mv => ?_)
    obtain ⟨x, k, ex, rfl⟩ := item j v pv
    obtain ⟨new, next⟩ := seen_next nd ex
    have held1 := stay mv held
    show wpAny _ A.in1 (holding [Value.str x k] (setAdd a (.str x k)) >>= _) _ _ s1
    refine wpAny_bind (wpAny_holding ?_)
    unfold setAdd
    refine wpAny_holding (wpAny_bind ((strKind prog w).pyHash (k := x) (strKind_is _ _ _ _) ?_))
    refine wpAny_setAddHashed_of (knd := strKind prog w) (s := { s1 with toks := s1.toks + 1 })
      (strKind_is _ _ _ _) rfl held1 (by omega) fun h2 only held2 => ?_
    have held3 := set_grow (n := j + 1) held2 (fun y => (next y).symm) (by simp [new])
    refine wpAny_pure ⟨plainId_quiet
      F.plain_set_update_loop _, more (j + 1) _ (by omega) lt (wk.frame _ s1 _ _ at1 (Nat.le_succ _) fun b hb o e => ?_) held3 fun s3 mv3 held4 => ?_⟩
    · have : b ≠ a := fun z => fr (z ▸ hb)
      rw [only.2 b this]
      exact e
    · refine fin s3 (Moved.trans wk.gtrans ((mv.mono wide).then_heap (Nat.le_succ _) fun b o hb e => ?_) mv3) held4
      have : b ≠ a := fun z => hb (z ▸ List.mem_cons_self)
      rw [only.2 b this]
      exact e
end
abbrev noSet (led : Bool) : Obj := { cls := .type "set", dict := none, data := .set #[] 0 (.fresh 0 0 led) }
section
variable {prog : Program} {w : World} {A : Around} {E : Value → Shared → Prop} {s : Shared}
set_option maxHeartbeats 3200000 in
theorem set_of_texts {l : Addr} {vs : Array Value} {ts : List Str} {Q : Value → Shared → Prop} (cool : A.handled = none) (isl : s.heap.IsList l vs) (are : StrsAre vs.toList ts) (nd : ts.Nodup) (few : ts.length + 1 < scanBound)
    (k : ∀ (h2 : Heap) (tk : Nat), h2.SetOf (strKind prog w) s.heap.objs.size (Seen ts ts.length) ts.length →
      (∀ b o, s.heap.get? b = some o → h2.get? b = some o) → Q (.ref s.heap.objs.size) { s with heap := h2, toks := tk }) :
    wpAny (model prog w) A (call (.type "set") [.ref l]) Q E s := by
  have sz : vs.size = ts.length := by rw [← Array.length_toList]; exact StrsAre.len_eq are
  obtain ⟨c1, c2, mro⟩ := PySem.F.called_set.mro
  have m1 := PySem.F.called_set.made
  have m2 := PySem.F.called_set.sub
  refine wpAny_call
    (codeAny_of_tree ?_)
  show wpAny _ _ (callAny (.type "set") _) _ _ _
  refine wpAny_pure ⟨Code.quiet_builtin _ (by decide +kernel),
    codeAny_builtin PySem.F.entry_type_call ?_⟩
  rw [Around.under_plain
    (weight_type_call_type "set" [.ref l] []) rfl]
  have m3 := PySem.F.called_set.notType
  have m4 := PySem.F.called_set.canCreate
  have m5 := PySem.F.typeCall_set_1 (.ref l)
  repeat (any_goals (first | assumption | wp_step))
  refine codeAny_mono (code_set_new_1 (.ref l) (E := E) (Q₁ := fun ob s1 => ∃ led, ob = .ref s.heap.objs.size ∧ s1 = { s with heap := s.heap.push (noSet led) })
    fun led => ⟨led, rfl, rfl⟩) fun r s1 hr => ?_
  rcases r with e | fl
  · exact hr
  cases fl with
  | ret ob =>
    obtain ⟨led, rfl, rfl⟩ := hr
    have got : (s.heap.push (noSet led)).get? s.heap.objs.size = some (noSet led) := Heap.get?_push_size _ rfl
    have ty : Shared.TypeIs { s with heap := s.heap.push (noSet led) } (.ref s.heap.objs.size) "set" := ⟨_, got, rfl⟩
    have m6 := PySem.F.called_set.init.lookup
    have m7 := PySem.F.called_set.init.bind (.ref s.heap.objs.size)
    repeat (any_goals (first | assumption | wp_step))
    refine codeAny_mono (codeAny_call_builtin (R := wants (fun r s2 => r = .none ∧ ∃ h2 tk, s2 = { s with heap := h2, toks := tk } ∧ h2.SetOf (strKind prog w) s.heap.objs.size (Seen ts ts.length) ts.length ∧
        (∀ b o, s.heap.get? b = some o → h2.get? b = some o)) E)
      PySem.F.called_set.init.plain PySem.F.entry_set_init (check_set_init_1 ty ?_)) fun r2 s2 hr2 => ?_
    · obtain ⟨⟨oc, od, odt, osl⟩, gl, ec, nl, ed⟩ := isl
      simp only at ec ed
      subst ec ed
      have gl2 : (s.heap.push (noSet led)).get? l = some { cls := .type "list", dict := od, data := .seq vs nl, slots := osl } := Heap.get?_push_of_some _ gl
      have n1 := PySem.F.sub_list_set
      have n2 := PySem.F.sub_list_frozenset
      have n3 : (Value.type "list" == Value.type "dict") = false := by decide
      have isl2 : (s.heap.push (noSet led)).IsList l vs := ⟨_, gl2, rfl, nl, rfl⟩
      unfold Builtin.«set.__init__» noKeywords Builtin.Frozenset.updateFrom
      generalize hP : pyIter = PI
      wp_walk
      subst hP
      refine wpAny_pyIter_list isl2
        (wpAny_bind (wpAny_runValue ?_))
      have ls : l < s.heap.objs.size := Heap.lt_size gl
      have cool3 : A.in1.in1.in1.handled = none := by simp [cool]
      have size2 : (s.heap.push (noSet led)).objs.size = s.heap.objs.size + 1 := Heap.size_push ..
      have apart : l ≠ (s.heap.push (noSet led)).objs.size := by
        rw [size2]
        exact Nat.ne_of_lt (Nat.lt_succ_of_lt ls)
      have free : s.heap.objs.size ∉ [(s.heap.push (noSet led)).objs.size, l] := by
        rw [size2]
        simp only [List.mem_cons, List.not_mem_nil, or_false, not_or]
        exact ⟨Nat.ne_of_lt (Nat.lt_succ_self _), Nat.ne_of_gt ls⟩
      refine grow_loop ((Walks.list cool3 _ l apart vs).toS) free nd sz.symm (by omega) (fun j v hv => texts_nth are (by rw [Array.getElem?_toList]; exact hv)) (vs.size - 0) 0 _ (by omega) (Nat.zero_le _)
        ⟨⟨_, Heap.get?_push_size _ rfl, rfl, rfl⟩, (isl2.push _)⟩ ?start ?stop
      case start =>
        exact set_grow ((setObjOf_fresh (knd := strKind prog w) led).setOf (Heap.get?_push_of_some _ got) (by unfold scanBound; omega)) (fun _ => rfl) rfl
      case stop =>
        intro s2 mv held
        obtain ⟨h2, g2, d2, t2, os2⟩ := s2
        cases (show g2 = s.gens from mv.gens)
        cases (show d2 = s.drawn from mv.drawn)
        cases (show os2 = s.os from mv.os)
        show wpAny _ _ _ _ _ _
        refine wpAny_pure ?_
        show wpAny _ _ (ret Value.none) _ _ _
        rw [sz] at held
        refine wpAny_pure ⟨rfl, h2, t2, rfl, held, fun b o e => ?_⟩
        have lo := Heap.lt_size e
        refine mv.heap b o ?_ (Heap.get?_push_of_some _ (Heap.get?_push_of_some _ e))
        rw [size2]
        simp only [List.mem_cons, List.not_mem_nil, or_false, not_or]
        exact ⟨Nat.ne_of_lt lo, Nat.ne_of_lt (Nat.lt_succ_of_lt lo)⟩
    · rcases r2 with e | fl2
      · exact hr2
      cases fl2 with
      | ret r =>
        obtain ⟨rfl, h2, tk, rfl, held, kept⟩ := hr2
        repeat (any_goals (first | assumption | wp_step))
        exact k _ _ held kept
      | _ => exact hr2.elim
  | _ => exact hr.elim
end
end Rf
end -- Ss
section -- M8
set_option Elab.async false
set_option maxRecDepth 100000
set_option maxHeartbeats 4000000
set_option pp.maxSteps 600
set_option pp.deepTerms false
set_option linter.all false
namespace Rf
open PySem L2 PyProof.Rows StX
section
variable {X : Cx}
theorem texts_are : ∀ {ts : List Str} {us : List Value}, Vals (ts.map V.str) us → StrsAre us ts
  | [], _, .nil => .nil
  | t :: ts, _, .cons r q => by
    obtain ⟨k, rfl⟩ := r
    exact .cons t k (texts_are q)
def tLenSetS (K : PySem.W.Frag) (ta : TE) : TE := fun σ H Q => ta σ H fun x H1 => ∃ (l : Addr) (ts : List Str), x = .ref l ∧ SqL K H1 l (ts.map V.str) ∧ ts.Nodup ∧ ts.length ≤ 4000 ∧ Q (.int (ts.length : Nat)) H1
theorem pe_lenSetS {a : Expr} {ta : TE} {p p2 q pos : Pos} (gl : Gl X "len") (ml : X.mg "len" = none) (gs : Gl X "set") (ms : X.mg "set" = none) (pa : PE X a ta) (calm : X.calm = true := by rfl)
    (tr : starEach [a] X.env = (false, eval a X.env) :: starEach [] X.env := by rfl) : PE X (.Call (.Name "len" p) [.Call (.Name "set" p2) [a] [] q] [] pos) (tLenSetS X.K ta) := by
  refine ⟨fun pins s σ H Q I h => ?_⟩
  refine Call_ (ld_blt I gl ml boot_len (PyProof.Rows.callWith_builtin1 (PyProof.Rows.args_cons ?_ rfl) rfl rfl))
  refine Call_ (ld_blt I gs ms boot_set ?_)
  refine PyProof.Rows.callWith_type1
    (PyProof.Rows.args_cons (thn (pa.run pins s σ H _ I h) fun v s1 ⟨x, H1, J, rx, q1⟩ => PyProof.Rows.args_nil ?_) tr) tr rfl
  obtain ⟨l, ts, rfl, hl, nd, few, q2⟩ := q1
  cases rx
  obtain ⟨its, rv, isl, _⟩ := J.list hl
  refine set_of_texts (J.ok.hd calm) isl.isList (by simpa using texts_are rv) nd (by unfold scanBound; omega) fun h2 tk held kept => ?_
  refine PyProof.Rows.args_nil ?_
  obtain ⟨o, es, ep, tb, ho, ex, dt, _, _, _, hf, hn⟩ := held
  have J2 : Inv X pins σ H1 { s1 with heap := h2, toks := tk } := J.kept kept
  exact call_len_set ho ex dt hf (by rw [hn]; omega) ⟨.int (ts.length : Nat), H1, J2.tok _, ⟨_, by rw [hn]⟩, q2⟩
end
/-- the tuple's items are these pairs of texts -/
def PrOk (K : PySem.W.Frag) (H : Hp) (p : Str × Str) (u : V) : Prop := ∃ t, u = .ref t ∧ SqT K H t [.str p.1, .str p.2]
structure Prs (K : PySem.W.Frag) (H : Hp) (ps : List (Str × Str)) (v : V) : Prop where
  ex : ∃ a us, v = .ref a ∧ SqT K H a us ∧ Paired (PrOk K H) ps us
  mem : ∀ p ∈ ps, p.1 ∈ letV ∧ p.2 ∈ letV
  nd : (ps.map (·.1)).Nodup
  few : ps.length ≤ 100
theorem PrOk.bt {K : PySem.W.Frag} {q : Addr → Prop} {H H' : Hp} {p : Str × Str} {u : V} (x : PrOk K H p u) (b : Bt q H H') (fl : ∀ b, q b → Flat H b) : PrOk K H' p u := by
  obtain ⟨t, e, h⟩ := x
  exact ⟨t, e, b.tup fl h⟩
theorem PrOk.same {K : PySem.W.Frag} {H H' : Hp} {p : Str × Str} {u : V} (x : PrOk K H p u) (b : Same H H') : PrOk K H' p u := by
  obtain ⟨t, e, h⟩ := x
  exact ⟨t, e, same_tup b h⟩
theorem Prs.same {K : PySem.W.Frag} {H H' : Hp} {ps : List (Str × Str)} {v : V} (h : Prs K H ps v) (s : Same H H') : Prs K H' ps v := by
  obtain ⟨a, us, e, q, p⟩ := h.ex
  exact ⟨⟨a, us, e, same_tup s q, Paired.mono (fun _ _ h => PrOk.same h s) p⟩, h.mem, h.nd, h.few⟩
section
variable {P : Program} {w : World} {K : PySem.W.Frag} {mg : Str → Option Value} {base : Heap} {dL aL : Addr}
def spPairs (K : PySem.W.Frag) : Sp := fun vs H Q _ => ∃ ps v, vs = [v] ∧ Prs K H ps v ∧ ∀ H', Same H H' → Q (.bl true) H'
theorem scPairs : FnScope ["value", "pair", "one", "other"] ["value"] (defScope (top 27)) := ⟨rfl, rfl, rfl, by decide +kernel, rfl, by decide +kernel, by decide +kernel⟩
theorem paired_val {α : Type} {f : α → V} : ∀ {ps : List α} {acc : List V}, Paired (fun p u => u = f p) ps acc → acc = ps.map f
  | _, _, .nil => rfl
  | _, _, .cons e t => by rw [e, paired_val t]; rfl
theorem all_yes {α : Type} : ∀ ps : List α, (ps.map fun _ => true).all id = true
  | [] => rfl
  | _ :: t => by simp
theorem ok_pairs (F : Fn K mg "are_pairs" (top 27)) (T : Tx K w mg dL aL) (G1 : Cl P w K mg base CX0 1 "is_tuple" (spTuple (K := K))) (G2 : Cl P w K mg base CX0 2 "is_letter" spLetter) : Cl P w K mg base CX0 3 "are_pairs" (spPairs K) := by
  refine F.cl scPairs (fun vs H Q E h => ?_) (fun _ _ _ _ _ _ us hl => match us, hl with | [_], _ => rfl) (fun f cdv A outer s H vs Q E hr h => ?_)
  · obtain ⟨ps, v, rfl, _⟩ := h; rfl
  · obtain ⟨ps, v, rfl, hp, q⟩ := h
    have nd := scPairs.nd
    have big : 1000 < sizeLine := by decide
    refine ⟨_, pss_cons (ps_if (PW.pt (pw_or (pt_not (pt_val (pe_callB call_isi (by rfl) T.isi (by decide +kernel) (pa_cons (pv 0) (pa_cons (pe_bltn (v := .ty "tuple") (by rfl) T.tuple (by decide +kernel) rfl) pa_nil)))))
        (pw_or1 (pt_not (pt_val (pe_callB (cr_all rfl) (by rfl) T.all (by decide +kernel) (pa_cons
          (pe_lc (own := [("pair", 1)]) (g := gName 1) (tt := tYes) (by rfl) nd (pi_tup (pv 0)) (blkOk_by (own := [("pair", 1)]) (N := ["value", "pair", "one", "other"]) (sc := defScope (top 27)) (by decide +kernel)) (fun _ _ _ _ _ => pg_name (i := 1) nd rfl (.inl rfl)) (fun _ _ _ _ _ => pts_nil)
            (fun _ _ _ _ _ => pe_cl G1 (hr.mono (by decide)) (by rfl) (pa_cons (pv 1) (pa_cons pe_int (pa_cons pe_int pa_nil))))) pa_nil))))))) (pss_one (ps_ret pe_bl)) pss_nil)
      (pss_cons (ps_if (pt_not (pt_val (pe_callB (cr_all rfl) (by rfl) T.all (by decide +kernel) (pa_cons
          (pe_lc (own := [("one", 2), ("other", 3)]) (g := gTup K 2 (gCons (gName 2) (gCons (gName 3) gNil))) (tt := tYes) (by rfl) nd (pi_tup (pv 0)) (blkOk_by (own := [("one", 2), ("other", 3)]) (N := ["value", "pair", "one", "other"]) (sc := defScope (top 27)) (by decide +kernel))
            (fun _ _ _ _ _ => pg_tup (by rfl) (pgs_cons (pg_name (i := 2) nd rfl (.inl rfl)) (pgs_cons (pg_name (i := 3) nd rfl (.inl rfl)) pgs_nil))) (fun _ _ _ _ _ => pts_nil)
            (fun _ _ _ _ _ => pe_and (pe_cl G2 hr (by rfl) (pa_cons (pv 2) pa_nil)) (pe_one (pe_cl G2 hr (by rfl) (pa_cons (pv 3) pa_nil))))) pa_nil)))) (pss_one (ps_ret pe_bl)) pss_nil)
      (pss_one (ps_ret (pe_cmpR op_eq (pe_lenSetS (by rfl) T.len (by rfl) T.set
          (pe_lc (own := [("one", 2), ("other", 3)]) (g := gTup K 2 (gCons (gName 2) (gCons (gName 3) gNil))) (tt := tYes) (by rfl) nd (pi_tup (pv 0)) (blkOk_by (own := [("one", 2), ("other", 3)]) (N := ["value", "pair", "one", "other"]) (sc := defScope (top 27)) (by decide +kernel))
            (fun _ _ _ _ _ => pg_tup (by rfl) (pgs_cons (pg_name (i := 2) nd rfl (.inl rfl)) (pgs_cons (pg_name (i := 3) nd rfl (.inl rfl)) pgs_nil))) (fun _ _ _ _ _ => pts_nil)
            (fun _ _ _ _ _ => pv 2))) (pe_callB call_len_seq (by rfl) T.len PySem.boot_len (pa_cons (pv 0) pa_nil)) (nomark _))))), ?_⟩
    obtain ⟨a, us, rfl, ht, hpp⟩ := hp.ex
    have hlen := hpp.length
    have hfew := hp.few
    refine ⟨_, rfl, _, _, _, _, _, rfl, .ty _, tyT ht, kit_ty (r := true) (by decide +kernel), true, rfl, ?_⟩
    refine iteF ?_
    refine ⟨_, rfl, a, rfl, ⟨_, ht⟩, fun D nD => ?_⟩
    refine mp_tup (ps := ps) (p := fun _ => False) (I := fun _ _ => True) (F := fun _ u _ => u = V.bl true) ⟨nD, fun z => z, by omega, by omega, trivial, fun _ _ _ _ _ => trivial, fun _ _ _ _ _ _ _ _ _ e => e, ?_⟩ (fun i H' _ hb => same_tup hb.same ht) ?_
    · intro i x p H5 W Qe hx hp' _ hb k kw
      obtain ⟨p2, u2, k1, k2, t, e, h⟩ := paired_at hpp (List.getElem?_eq_some_iff.mp hx).1
      rw [hx] at k2
      cases k2
      subst e
      exact kw _ _ rfl ⟨_, rfl, t, _, rfl, same_tup hb.same h, rfl, k _ _ (.of (Same.refl _)) trivial rfl⟩
    intro acc H1 _ hb1 hD1 hp1
    have e1 : acc = (ps.map fun _ => true).map V.bl := by rw [List.map_map]; exact paired_val (f := fun _ => V.bl true) hp1
    rw [e1] at hD1
    refine ⟨_, _, rfl, SqL.of hD1, true, by rw [all_yes], ?_⟩
    refine iteF ?_
    have s1 := hb1.same
    refine ⟨_, rfl, a, rfl, ⟨_, same_tup s1 ht⟩, fun D2 nD2 => ?_⟩
    refine mp_tup (ps := ps) (p := fun _ => False) (I := fun _ _ => True) (F := fun _ u _ => u = V.bl true) ⟨nD2, fun z => z, by omega, by omega, trivial, fun _ _ _ _ _ => trivial, fun _ _ _ _ _ _ _ _ _ e => e, ?_⟩ (fun i H' _ hb => same_tup (s1.trans hb.same) ht) ?_
    · intro i x p H5 W Qe hx hp' _ hb k kw
      obtain ⟨p2, u2, k1, k2, t, e, h⟩ := paired_at hpp (List.getElem?_eq_some_iff.mp hx).1
      rw [hx] at k2
      cases k2
      subst e
      have hm := hp.mem p2 (List.mem_of_getElem? k1)
      refine ⟨t, _, rfl, same_tup (s1.trans hb.same) h, rfl, _, _, rfl, _, _, rfl, rfl, kw _ _ rfl ⟨_, rfl, _, rfl, hm.1, true, rfl, iteT ⟨_, rfl, _, rfl, hm.2, k _ _ (.of (Same.refl _)) trivial rfl⟩⟩⟩
    intro acc2 H2 _ hb2 hD2 hp2
    have e2 : acc2 = (ps.map fun _ => true).map V.bl := by rw [List.map_map]; exact paired_val (f := fun _ => V.bl true) hp2
    rw [e2] at hD2
    refine ⟨_, _, rfl, SqL.of hD2, true, by rw [all_yes], ?_⟩
    refine iteF ?_
    have s2 := s1.trans hb2.same
    refine ⟨_, rfl, a, rfl, ⟨_, same_tup s2 ht⟩, fun D3 nD3 => ?_⟩
    refine mp_tup (ps := ps) (p := fun _ => False) (I := fun _ _ => True) (F := fun p u _ => u = V.str p.1) ⟨nD3, fun z => z, by omega, by omega, trivial, fun _ _ _ _ _ => trivial, fun _ _ _ _ _ _ _ _ _ e => e, ?_⟩ (fun i H' _ hb => same_tup (s2.trans hb.same) ht) ?_
    · intro i x p H5 W Qe hx hp' _ hb k kw
      obtain ⟨p2, u2, k1, k2, t, e, h⟩ := paired_at hpp (List.getElem?_eq_some_iff.mp hx).1
      rw [hx] at k2
      cases k2
      subst e
      rw [k1] at hp'
      cases hp'
      exact ⟨t, _, rfl, same_tup (s2.trans hb.same) h, rfl, _, _, rfl, _, _, rfl, rfl, kw _ _ rfl ⟨_, rfl, k _ _ (.of (Same.refl _)) trivial rfl⟩⟩
    intro acc3 H3 _ hb3 hD3 hp3
    have e3 : acc3 = (ps.map (·.1)).map V.str := by rw [List.map_map]; exact paired_val (f := fun p : Str × Str => V.str p.1) hp3
    rw [e3] at hD3
    have s3 := s2.trans hb3.same
    refine ⟨_, _, rfl, SqL.of hD3, hp.nd, by rw [List.length_map]; omega, _, rfl, _, _, rfl, .inr (same_tup s3 ht), rfl, ?_⟩
    rw [List.length_map, hlen]
    rw [decide_eq_true rfl]
    exact q _ s3
def spChPairs (K : PySem.W.Frag) : Sp := fun vs H Q _ => ∃ ps v, vs = [v] ∧ Prs K H ps v ∧ ∀ H', Same H H' → Q .non H'
theorem ok_chPairs (F : Fn K mg "check_pairs" (top 28)) (G1 : Cl P w K mg base CX0 3 "are_pairs" (spPairs K)) : Cl P w K mg base CX0 4 "check_pairs" (spChPairs K) := by
  have sc : FnScope ["pairs"] ["pairs"] (defScope (top 28)) := ⟨rfl, rfl, rfl, by decide +kernel, rfl, by decide +kernel, by decide +kernel⟩
  refine F.cl sc (fun vs H Q E h => ?_) (fun _ _ _ _ _ _ us hl => match us, hl with | [_], _ => rfl) (fun f cdv A outer s H vs Q E hr h => ?_)
  · obtain ⟨ps, v, rfl, _⟩ := h; rfl
  · obtain ⟨ps, v, rfl, hp, q⟩ := h
    refine ⟨_, pss_one (ps_if (pt_not (pt_val (pe_cl G1 hr (by rfl) (pa_cons (pv 0) pa_nil)))) (pss_one ps_never) pss_nil), ?_⟩
    exact ⟨_, rfl, ps, v, rfl, hp, fun H' sm => ⟨_, rfl, iteF (q _ sm)⟩⟩
end
end Rf
end -- M8
section -- Ex
set_option Elab.async false
set_option maxRecDepth 100000
set_option maxHeartbeats 4000000
set_option pp.maxSteps 600
set_option pp.deepTerms false
set_option linter.all false
namespace Rf
open PySem PySem.W PySem.Calls PyProof.Rows L2 HandSPX
abbrev feA : Arguments := { posonlyargs := [], args := [{ arg := "self", annotation := none, pos := ⟨4, 17, 4, 21⟩ }, { arg := "value", annotation := none, pos := ⟨4, 23, 4, 28⟩ }], vararg := none, kwonlyargs := [], kw_defaults := [], kwarg := none, defaults := [] }
abbrev feB : List Stmt :=
  [.Expr (.Call (.Attribute (.Call (.Name "super" ⟨5, 8, 5, 13⟩) [] [] ⟨5, 8, 5, 15⟩) "__init__" ⟨5, 8, 5, 24⟩) [.Name "value" ⟨5, 25, 5, 30⟩] [] ⟨5, 8, 5, 31⟩) ⟨5, 8, 5, 31⟩,
    .Assign [.Attribute (.Name "self" ⟨6, 8, 6, 12⟩) "value" ⟨6, 8, 6, 18⟩] (.Name "value" ⟨6, 21, 6, 26⟩) ⟨6, 8, 6, 26⟩]
abbrev feS : Scope := { kind := .function, names := [("self", .local), ("value", .local), ("__class__", .free), ("super", .globalImplicit)], isGenerator := false, isCoroutine := false }
/-- what the written part says of an own error at C; its root with the __init__ stands at D -/
structure FeTxt (P : Program) (K : Frag) (mg : Str → Option Value) (nm : Str) (C D fI : Addr) : Prop where
  gC : mg nm = some (.ref C)
  gD : mg "FindingError" = some (.ref D)
  cls : ∃ nm q N bs bm sn sub ab col dd k0 k1 k2 k3 k5, K.lookup C = some (excClassObj nm q C N bs bm true sn sub ab col dd k0 k1 k2 k3 k5 "ValueError.__new__") ∧ refsVE bm = true
  sa : findIn K (.ref C) "__setattr__" = some (some (.builtin "object.__setattr__"))
  ga : findIn K (.ref C) "__getattribute__" = some (some (.builtin "BaseException.__getattribute__"))
  gg : findIn K (.ref C) "__getattr__" = some none
  noN : findIn K (.ref C) "value" = some none
  iC : findIn K (.ref C) "__init__" = some (some (.ref fI))
  tC : typeIn K (.ref fI) = some (.type "function")
  kC : keepIn K (.ref C) = true
  exC : subIn K (.ref C) (.type "BaseException") = some true
  veC : subIn K (.ref C) (.type "ValueError") = some true
  tyC : typeIn K (.ref C) = some (.type "type")
  hdC : hasDictIn K C = true
  te : exmOne K (.ref C) (.ref D) = some true
  sup : ks_superIn K C D "__init__" = some (some (.builtin "ValueError.__init__"))
  subD : mroIn K C (.ref D) = some true
  clsD : ∃ cd, clsIn K D = some cd
  opq : nsIn K cStatics "thirdparty.any" = some none
  sup0 : mg "super" = none
  top : (P.main.scope.names.lookup ("super" : Str)).isSome = false
  fn : ∃ (oc : Value) (od : Option Addr) (doc pm : Value) (an : Option Addr) (cda cc : Addr) (ct : Value) (osl : Array (Option Value)) (ccl cl : Value) (cdd cld : Option Addr) (vs : Array Value) (ccs csl : Array (Option Value)) (file : Str) (tf : Tok),
    K.lookup fI = some ⟨oc, od, .func (ksFn "__init__" "FindingError.__init__" feA feB feS .none .none doc pm an (.ref cda) ct cc), osl⟩ ∧ codeIn K (.ref cda) "FindingError.__init__" = true ∧
      K.lookup cda = some ⟨ccl, cdd, .fields vs, ccs⟩ ∧ vs[2]? = some (.str file tf) ∧ ((P.main.file : Str) == file) = true ∧ K.lookup cc = some ⟨cl, cld, .cell (some (.ref D)), csl⟩
/-- what the __init__ leaves of a fresh exception at x -/
structure FeEnd (h h' : Heap) (x C dx : Addr) (v : Value) : Prop where
  keep : ∀ b o, b ≠ x → h.get? b = some o → h'.get? b = some o
  obj : ∃ t1, h'.get? x = some { cls := .ref C, dict := some dx, data := .fields #[.ref t1, .none, .none, .none, .bool false, .none] }
  dbig : h.objs.size ≤ dx
  dne : dx ≠ x
  ns : h'.Ns1 dx (fun y => if y = "value" then some v else none)
section
variable {prog : Program} {w : World} {A : Around} {E : Value → Shared → Prop} {R : Result → Shared → Prop} {s : Shared} {K : Frag} {mg mb : Str → Option Value} {nm : Str} {C D fI : Addr}
theorem fe_init (T : FeTxt prog K mg nm C D fI) {x t0 : Addr} {v : Value} (X : K.In s.heap) (lim : s.heap.NoLimit) (ng : s.heap.Ns mainGlobals mg) (nb : s.heap.Ns builtinsNs mb) (hmb : mb "super" = some (.type "super")) (hx : s.heap.get? x = some (excO C t0)) (hnx : K.lookup x = none) (hroom : A.depth < recursionLimit)
    (hq : ∀ h' tk dx, FeEnd s.heap h' x C dx v → R (.ok (.ret .none)) { s with heap := h', toks := tk }) :
    codeAny (model prog w) A (.call (.ref fI) ⟨[.ref x, v], []⟩) R s := by
  obtain ⟨oc, od, doc, pm, an, cda, cc, ct, osl, ccl, cl, cdd, cld, vs, ccs, csl, file, tf, hf, hcd, hcda, hvs, hfile, hcc⟩ := T.fn
  obtain ⟨nm', q, N, bs, bm, sn, sub, ab, col, dd, k0, k1, k2, k3, k5, hC, hbm⟩ := T.cls
  have hcl : clsIn K C = some { name := nm', bases := bs, mro := .ref C :: bm, ns := N, qualname := q, hasDict := true, slotNames := sn, subclasses := sub, abstract := ab, collection := col, hasDel := false } := by unfold clsIn; rw [hC] <;> rfl
  obtain ⟨cdD, hclD⟩ := T.clsD
  have hsup := T.sup
  unfold ks_superIn at hsup
  rw [hcl] at hsup
  refine ks_codeAny_call_defAt (binds := [("self", .ref x), ("value", v)]) hroom (X _ _ hf) rfl lim (codeRec_of X hcd) rfl (BindsTo.of_eq (by first | rfl | with_unfolding_all rfl)) (show ∀ x ∈ feS.names, x.2 ≠ .cell by decide +kernel) (fun y hy => ?_) (fun h1 ns1 keep => ?_)
  · rcases List.mem_cons.mp hy with rfl | hy
    · rfl
    · rw [List.mem_singleton.mp hy]; rfl
  have X1 : K.In h1 := X.keeps keep
  have hx1 := keep _ _ hx
  have ng1 := ng.keeps keep
  have nb1 := nb.keeps keep
  obtain ⟨oD, hD1, hD2⟩ : ∃ oD, h1.get? D = some oD ∧ oD.data = .cls cdD := by
    unfold clsIn at hclD
    split at hclD
    · rename_i c d cd' sl ho
      cases hclD
      exact ⟨_, X1 _ _ ho, rfl⟩
    · cases hclD
  refine ks_wpAt_execs_cons (ks_wpAt_Expr_any (ks_wpAt_MethodCall ?_))
  refine ks_wpAt_super_base (by rfl) (by rfl) (by decide) rfl (X1 _ _ hf) rfl rfl rfl (X1 _ _ hcda) rfl hvs hfile T.top ?_
  refine ks_loadName_global (by rfl) (by rfl) (Calls.loadGlobal_builtin ng1 T.sup0 nb1 hmb ⟨rfl, ?_⟩)
  refine wpAny_loadName_free (by rfl) (by rfl) (by rfl) ⟨_, X1 _ _ hcc, rfl⟩ ?_
  refine wpAny_loadName_local (by rfl) (by rfl) ns1 (v := .ref x) (by first | rfl | with_unfolding_all rfl | kernel_rfl) ?_
  refine ks_wpAny_isType_cls hD1 hD2 ⟨rfl, ?_⟩
  refine ks_wpAny_call_super hD1 hD2 hx1 rfl (fun c e => by cases e) (looks_mroIn X1 T.subD) (fun h2 hso k2 => ?_)
  have X2 : K.In h2 := X1.keeps k2
  have hx2 := k2 _ _ hx1
  have ns2 := ns1.keeps k2
  have I2 : InstAt h2 x (excO C t0) C none := ⟨hx2, rfl, rfl, trivial⟩
  have isVE : Looks (model prog w) h2 (isInstance (.ref x) (.type "ValueError")) true := I2.type.andThen (looks_subIn X2 T.veC)
  refine kxs_getMethod kxs_ValueError hso (looks_opaque X2 T.opq) (l₀ := .ref C :: bm) ?_ rfl X2 hsup isVE (ks_ne X2 I2 hcl) (by decide) ?_
  · exact fun A Q E s k q => wpAny_bind ((looks_clsIn X2 hcl) A _ E s k (wpAny_pure q))
  have up2 : ∀ b o, h2.get? b = some o → (h2.push (kxs_mw "ValueError.__init__" x)).get? b = some o := fun b o e => Heap.get?_push_of_some _ e
  have hu : (h2.push (kxs_mw "ValueError.__init__" x)).get? h2.objs.size = some (kxs_mw "ValueError.__init__" x) := Heap.get?_push_at rfl rfl
  refine kxs_callWith (i := "ValueError.__init__") (x := x) (by rfl) (evalArgs_plain (Calls.spliced_cons (PySem.ldc (by rfl) (by rfl) (ns2.keeps up2) (v := v) (by first | rfl | with_unfolding_all rfl | kernel_rfl) (Calls.spliced_nil ⟨hu, ?_⟩))))
  have hC3 := up2 _ _ (X2 _ _ hC)
  have hx3 := up2 _ _ hx2
  refine wpAny_call (codeAny_of_tree ?_)
  show wpAny _ _ (callAny (.ref h2.objs.size) ⟨[v], []⟩) _ _ _
  simp only [callAny]
  refine wpAny_bind (wpAny_load hu ?_)
  refine KFB.if_so (by show (Value.type "method-wrapper" == Value.type "method" || Value.type "method-wrapper" == Value.type "builtin_function_or_method" || Value.type "method-wrapper" == Value.type "method-wrapper") = true; decide) ?_
  refine wpAny_bind (check_bound_init F.excBase_ValueError.toExcCallFacts hC3 hx3 rfl ?_)
  refine wpAny_bind (wpAny_pure (wpAny_pure ?_))
  refine ⟨plainId_quiet F.excBase_ValueError.init.plain _, codeAny_builtin F.excBase_ValueError.initEntry ?_⟩
  refine exc_init_tree (cls := .ref C) (t0 := t0) (dv := none) (c2 := .none) (c3 := .none) (b4 := .bool false) hx3 (by show 1 ≤ sizeLine; decide) fun h4 k4 hx4 _ => ?_
  have up3 : ∀ b o, b ≠ x → s.heap.get? b = some o → h4.get? b = some o := fun b o n e => k4 b o n (up2 _ _ (k2 _ _ (keep _ _ e)))
  have X4 : K.In h4 := fun a o e => k4 a o (fun z => by rw [z, hnx] at e; cases e) (up2 _ _ (X2 a o e))
  have xL : s.heap.objs.size ≠ x := Nat.ne_of_gt (Heap.lt_size hx)
  have ns4 : h4.Ns s.heap.objs.size (fun y => List.lookup y [(("self" : Str), Value.ref x), ("value", v)].reverse) := by
    obtain ⟨oL, es, ep, hL, r⟩ := ns2.keeps up2
    exact ⟨oL, es, ep, k4 _ _ xL hL, r⟩
  have lt2 : s.heap.objs.size < h2.objs.size := by
    obtain ⟨oL, es, ep, hL, r⟩ := ns2
    exact Heap.lt_size hL
  refine ks_wpAt_execs_cons (wpAt_of_wpAny (plainObj_wpAny_Assign_Attribute ?_))
  refine PySem.ldc (by rfl) (by rfl) ns4 (v := v) (by first | rfl | with_unfolding_all rfl | kernel_rfl) (PySem.ldc (by rfl) (by rfl) ns4 (v := .ref x) (by first | rfl | with_unfolding_all rfl | kernel_rfl) ?_)
  refine set_plain X4 (od := none) ⟨hx4, rfl, rfl, trivial⟩ T.sa ?_
  refine exc_osa X4 hx4 hcl (show refsVE (.ref C :: bm) = true from hbm) rfl T.noN fun h5 tk5 dx k5' big ne hx5 ns5 => ?_
  refine wpAt_of_wpAny (wpAny_execs_nil (hq h5 tk5 dx ⟨fun b o n e => k5' b o n (up3 b o n e), ⟨_, hx5⟩, ?_, ne, ns5⟩))
  have lt4 : s.heap.objs.size < h4.objs.size := by
    obtain ⟨oL, es, ep, hL, r⟩ := ns4
    exact Heap.lt_size hL
  exact Nat.le_of_lt (Nat.lt_of_lt_of_le lt4 big)
theorem fe_made (T : FeTxt prog K mg nm C D fI) {v : Value} (X : K.In s.heap) (lim : s.heap.NoLimit) (ng : s.heap.Ns mainGlobals mg) (nb : s.heap.Ns builtinsNs mb) (hmb : mb "super" = some (.type "super")) (hroom : A.depth + 1 < recursionLimit)
    (hq : ∀ h' tk e dx, (∀ b o, s.heap.get? b = some o → h'.get? b = some o) → s.heap.objs.size ≤ e → (∃ t1, h'.get? e = some { cls := .ref C, dict := some dx, data := .fields #[.ref t1, .none, .none, .none, .bool false, .none] }) → s.heap.objs.size ≤ dx → dx ≠ e →
      h'.Ns1 dx (fun y => if y = "value" then some v else none) → R (.ok (.ret (.ref e))) { s with heap := h', toks := tk }) :
    codeAny (model prog w) A (.call (.ref C) ⟨[v], []⟩) R s := by
  obtain ⟨nm', q, N, bs, bm, sn, sub, ab, col, dd, k0, k1, k2, k3, k5, hC, hbm⟩ := T.cls
  obtain ⟨hp, g, dr, tk, os⟩ := s
  have up : ∀ b o, hp.get? b = some o → ((hp.push (kdv_tup [v])).push (excO C hp.objs.size)).get? b = some o := fun b o e => Heap.get?_push_of_some _ (Heap.get?_push_of_some _ e)
  have at_ : ((hp.push (kdv_tup [v])).push (excO C hp.objs.size)).get? (hp.objs.size + 1) = some (excO C hp.objs.size) := by heap_get
  have no : K.lookup (hp.objs.size + 1) = none := by
    cases e : K.lookup (hp.objs.size + 1) with
    | none => rfl
    | some o => exact absurd (Nat.lt_of_succ_lt (Heap.lt_size (show hp.get? (hp.objs.size + 1) = some o from X _ _ e))) (Nat.lt_irrefl _)
  refine call_own F.excBase_ValueError (fun X => refsVE_contains X bm hbm) (X _ _ hC) (looks_findIn X T.iC) (fun self => bind_fn X self T.tC) (by show 1 ≤ sizeLine; decide) ?_
  refine fe_init (s := ⟨(hp.push (kdv_tup [v])).push (excO C hp.objs.size), g, dr, tk, os⟩) T (X.keeps up) (lim.keeps up) (ng.keeps up) (nb.keeps up) hmb at_ no hroom fun h' tk' dx M => ?_
  have big : hp.objs.size + 1 + 1 ≤ dx := by
    have z := M.dbig
    simpa only [Heap.size_push] using z
  exact ⟨rfl, hq h' tk' (hp.objs.size + 1) dx (fun b o e => M.keep b o (Nat.ne_of_lt (Nat.lt_succ_of_lt (Heap.lt_size e))) (up b o e)) (Nat.le_succ _) M.obj (Nat.le_trans (Nat.le_trans (Nat.le_succ _) (Nat.le_succ _)) big) M.dne M.ns⟩
end
theorem relO_fe {v : V} {u : Value} (r : RelV v u) (f : Str) : RelO (List.lookup f [(("value" : Str), v)]) (if f = "value" then some u else none) := by
  by_cases hw : f = "value"
  · subst hw
    rw [if_pos rfl]
    have q : List.lookup ("value" : Str) [(("value" : Str), v)] = some v := by simp [List.lookup]
    rw [q]
    exact r
  · rw [if_neg hw]
    have qw : (f == ("value" : Str)) = false := by simpa using hw
    have q2 : List.lookup f [(("value" : Str), v)] = none := by simp [List.lookup, qw]
    rw [q2]
    trivial
section
variable {X : Cx} {nm : Str} {C D fI : Addr}
/-- C(e), C an own error -/
def tMkFe (C : Addr) (ta : TA) : L2.St → Hp → XK → Prop := fun σ H Q => ta σ H fun vs H1 => ∃ v, vs = [v] ∧ ∀ d, H1 d = none → Q (.ref C) (some d) (upd H1 d (.xd [(("value" : Str), v)]))
theorem pmk_fe {a : Expr} {ta : TA} {p pos : Pos} {k : Nat} (T : FeTxt X.prog X.K X.mg nm C D fI) (hr : Room k X.A) (ha : PA X [a] ta) (hg : Gl X nm) (hdb : (nm == ("__debug__" : Str)) = false)
    (he : starEach (a :: []) X.env = (false, eval a X.env) :: starEach [] X.env := by rfl) (hpl : (backTo pos (starEach [] X.env)).any (·.1) = false := by rfl) :
    PMk X (.Call (.Name nm p) [a] [] pos) (tMkFe C ta) := by
  intro pins s σ H Q I h
  refine wpAny_Call_Name_kw (ld_glob I hg T.gC ?_ hdb)
  refine PySem.W.callWith_K (h₀ := X.base) I.ok.mod.kin T.kC (thn (ha.run pos pins s σ H _ I h) fun us s1 hh => ?_) he hpl
  obtain ⟨vs, H1, I1, r1, v, ev, q1⟩ := hh
  subst ev
  refine ⟨I1.kIn, ?_⟩
  cases r1 with
  | cons rv rn =>
    rename_i u us'
    cases rn
    show wpAny _ _ (call (.ref C) [u]) _ _ _
    have lim := I1.nolimit
    obtain ⟨mb, b1, b2⟩ := I1.mod.blt
    have ng := I1.mod.glob.keeps I1.bk
    have nb := b1.keeps I1.bk
    obtain ⟨hp, g, dr, tk, os⟩ := s1
    refine wpAny_call (fe_made T I1.kIn lim ng nb ((b2 _ (by decide)).trans (by decide +kernel)) (by have := hr.dp; omega) fun h' tk' e d keep new ⟨t1, hoe⟩ dbig dne hns => ?_)
    show MkP X pins σ Q (.ref e) ⟨h', g, dr, tk', os⟩
    obtain ⟨G', g1, g2⟩ := restrict h' fun b => decide (b ≠ e)
    have gk : ∀ b, b ≠ e → G'.get? b = h'.get? b := fun b hb => g1 b (decide_eq_true hb)
    have ge : G'.get? e = none := g2 e (by simp)
    have old : ∀ b o, hp.get? b = some o → G'.get? b = some o := fun b o q => (gk b (Nat.ne_of_lt (Nat.lt_of_lt_of_le (Heap.lt_size q) new))).trans (keep b o q)
    have ob : ObjOk X.prog X.w (upd H1 d (.xd [(("value" : Str), v)])) G' d (.xd [(("value" : Str), v)]) :=
      ⟨_, hns.at (fun o q => (gk d dne).trans q), fun f => relO_fe rv f⟩
    have J : Inv X pins σ (upd H1 d (.xd [(("value" : Str), v)])) ⟨G', g, dr, tk', os⟩ := I1.laid (t' := tk') old dbig ob
    refine ⟨e, _, _, ⟨G', g, dr, tk', os⟩, _, .ref C, some d, rfl, J, fun b o q => ?_, ge, hoe, ⟨rfl, rfl⟩, rfl, rfl, ?_, rfl, I1.bare, raises_own T.exC T.tyC, q1 d (I1.hok.fresh dbig)⟩
    · by_cases hb : b = e
      · have q' : G'.get? b = some o := q
        rw [hb, ge] at q'; cases q'
      · exact (gk b hb).symm.trans q
    · rw [upd_ne (Ne.symm dne)]
      exact I1.hok.fresh new
/-- raise C(e) -/
def tRaiseFe (C : Addr) (W : WX) (ta : TA) : TS := fun _ σ H => tMkFe C ta σ H fun cls d H' => W cls d σ H'
theorem ps_raiseFe {a : Expr} {ta : TA} {W : WX} {p pos pos2 : Pos} {k : Nat} (hc : X.calm = true) (T : FeTxt X.prog X.K X.mg nm C D fI) (hr : Room k X.A) (tk : Takes X W) (ha : PA X [a] ta) (hg : Gl X nm) (hdb : (nm == ("__debug__" : Str)) = false := by decide)
    (he : starEach (a :: []) X.env = (false, eval a X.env) :: starEach [] X.env := by rfl) (hpl : (backTo pos (starEach [] X.env)).any (·.1) = false := by rfl) :
    PS X (.Raise (some (.Call (.Name nm p) [a] [] pos)) none pos2) (tRaiseFe C W ta) := ps_raise hc tk (pmk_fe T hr ha hg hdb he hpl)
end
end Rf
end -- Ex
section -- Ca
set_option Elab.async false
set_option maxRecDepth 100000
set_option maxHeartbeats 4000000
set_option pp.maxSteps 600
set_option pp.deepTerms false
set_option linter.all false
namespace Rf
open PySem PySem.Spec PyProof.Rows L2
/-- an exception object at a, its class and its dict -/
def ExV (cls : Value) (d : Option Addr) (a : Addr) : HO := .ext fun h => ∃ (oe : Obj) (vs : Array Value), h.get? a = some oe ∧ Zc cls d oe ∧ oe.data = .fields vs
theorem exV_ok {P : Program} {w : World} {H : Hp} {h : Heap} {a : Addr} {cls : Value} {d : Option Addr} {oe : Obj} {vs : Array Value} (e : h.get? a = some oe) (z : Zc cls d oe) (dt : oe.data = .fields vs) : ObjOk P w H h a (ExV cls d a) :=
  ⟨⟨oe, vs, e, z, dt⟩, ⟨oe, e⟩, fun _ _ ⟨o, v, q, r⟩ k => ⟨o, v, k o q, r⟩⟩
section
variable {X : Cx} {pins : List (Addr × Obj)} {σ : L2.St} {H : Hp} {s : Shared}
/-- an object that stands in the heap, untold of till now, is told of from here on -/
theorem track {a : Addr} {o : HO} {oe : Obj} {vs : Array Value} (I : Inv X pins σ H s) (ha : H a = none) (he : s.heap.get? a = some oe) (hd : oe.data = .fields vs) (n0 : X.s_0.heap.get? a = none) (nL : a ≠ X.env.locals)
    (np : ∀ p ∈ X.pn ++ pins, p.1 ≠ a) (ok : ObjOk X.prog X.w (upd H a o) s.heap a o) : Inv X pins σ (upd H a o) s := by
  have old : ∀ b u, X.s_0.heap.get? b = some u → b ≠ a := fun b u e z => by rw [z, n0] at e; cases e
  have held : ∀ b u, H b = some u → upd H a o b = some u := fun b u e => by rw [upd_ne (ne_of_none e ha)]; exact e
  refine ⟨I.ok, I.os, I.bare, ⟨I.base.keep, I.base.slot, fun b u e n x => ?_, I.base.there, fun b xs e => held _ _ (I.base.tups b xs e), fun b u w e => held _ _ (I.base.frzs b u w e), fun b ps e => ?_⟩, I.loc, I.cell, ?_, fun x c e => ?_, fun p hp => ?_, fun b u e => ?_, I.len⟩
  · rw [upd_ne (old b u e)]
    exact I.base.free b u e n x
  · obtain ⟨m, z⟩ := I.base.tbls b ps e
    exact ⟨m, held _ _ z⟩
  · rw [upd_ne (Ne.symm nL)]
    exact I.free
  · have z : c ≠ a := fun z => by
      obtain ⟨v, o', h1, h2⟩ := I.cell x c e
      rw [z, he] at h1
      cases h1
      have h3 : oe.data = .cell v := h2
      rw [hd] at h3
      cases h3
    rw [upd_ne z]
    exact I.freeC x c e
  · obtain ⟨e, n, r⟩ := I.pin p hp
    refine ⟨e, ?_, r⟩
    rw [upd_ne (np p hp)]
    exact n
  · by_cases hb : b = a
    · subst hb
      rw [upd_same] at e
      cases e
      exact ok
    · rw [upd_ne hb] at e
      exact (I.hok b u e).stay (fun c v _ q => q) (fun c q => held _ _ q) fun c xs q => held _ _ q
theorem Inv.morePins {pins' : List (Addr × Obj)} (I : Inv X pins σ H s) (h : ∀ p ∈ X.pn ++ pins', p ∈ X.pn ++ pins) : Inv X pins' σ H s :=
  ⟨I.ok, I.os, I.bare, I.base, I.loc, I.cell, I.free, I.freeC, fun p hp => I.pin p (h p hp), I.hok, I.len⟩
end
/-- the clause that gives the exception back -/
def wGive (K : PySem.W.Frag) (c : Value) (Wout : WX) (D : Ends) : WX := fun cls d σ H =>
  ∃ b, PySem.W.exmOne K cls c = some b ∧ (b = true → ∀ a, H a = none → D.rt (.ref a) (upd H a (ExV cls d a))) ∧ (b = false → Wout cls d σ H)
section
variable {X : Cx} {x n : Str} {c : Value} {i : Nat} {body : List Stmt} {np rp rpos pos pos' : Pos} {tb : WX → TS} {Wout : WX}
theorem ps_give (ex0 : X.ex = []) (stk : X.stack = X.env :: X.outer) (loc : X.env.frame = some X.env.locals) (nd : X.N.Nodup) (at_ : X.N[i]? = some n) (ln : X.env.kindOf n = some .local) (cn : Names X x c) (tk : Takes X Wout)
    (dbg : (n == ("__debug__" : Str)) = false) (cdc : (n == ("__classdict__" : Str)) = false)
    (bd : ∀ (W : WX) (pn : List (Addr × Obj)) (xe : Value → Shared → Prop), Takes (X.tr pn xe) W → PassesOwn (model X.prog X.w) X.A X.env xe → PSs (X.tr pn xe) body (tb W)) :
    PS X (.Try body [.ExceptHandler (some (.Name x np)) (some n) [.Return (some (.Name n rp)) rpos] pos'] [] [] pos) (fun D σ H => tb (wGive X.K c Wout D) D σ H) := by
  refine ⟨fun pins s σ H D I h => ?_⟩
  have ok := I.ok
  have fr : X.A.frames = some (X.env :: X.outer) := by
    rw [ok.frames, stk]
  refine wpAny_Try_except (wpAny_mono ((bd (wGive X.K c Wout D) (X.pn ++ pins)
      (fun e s₁ => wpAny (model X.prog X.w) X.A (noteFrame e X.env) (fun _ s₂ => wpAny (model X.prog X.w) X.A (setFlight e none) (fun _ s₃ =>
        wpAny (model X.prog X.w) X.A (handleBy e X.env [.ExceptHandler (some (.Name x np)) (some n) [.Return (some (.Name n rp)) rpos] pos']) (SP X pins D) X.xe s₃) X.xe s₂) X.xe s₁)
      (fun u s' air => ?_) PassesOwn.looking).run [] s σ H D (I.toTry _) h) (fun f s1 hsp => ?_) fun e s1 he => he)
  · obtain ⟨a, B, sI, pins', σ', H', cls, d, rfl, J0, nb, up, sky, na, os, ag, b, b1, yes, no⟩ := air
    have J : Inv X pins σ' H' sI := J0.ofTry ok
    have sky1 : Sky B (X.env :: X.outer) a (Zc cls d) X.env.locals s'.heap := by
      rw [← stk]
      exact sky
    have bNone : B.get? a = none := by
      rcases sky1 with z | z | z
      · exact z.2.1
      · exact z.2.1
      · exact z.2.1
    show wpAny (model X.prog X.w) X.A (noteFrame (.ref a) X.env) _ _ _
    refine Sky.land Zc.steady fr loc sky1 fun h3 fl up3 => ?_
    have J3 : Inv X pins σ' H' { s' with heap := h3 } := J.landed nb fl.1 (up.trans up3) os ag
    obtain ⟨oe, vs, he, hz, hd⟩ := fl.there
    have out : a ∉ frs (X.env :: X.outer) := fun hm => by
      obtain ⟨_, o', e', hnf⟩ := fl.2.2.1.mem hm
      rw [he] at e'
      cases e'
      exact hnf _ hd
    have nL : a ≠ X.env.locals := fun z => out (List.mem_filterMap.mpr ⟨X.env, List.mem_cons_self, by rw [loc, z]⟩)
    have nF : a ∉ X.fs := fun hm => by
      obtain ⟨e, he', q⟩ := List.mem_filterMap.mp hm
      exact out (List.mem_filterMap.mpr ⟨e, List.mem_cons_of_mem _ he', q⟩)
    have sNone : sI.heap.get? a = none := by
      cases e : sI.heap.get? a with
      | none => rfl
      | some o =>
        rw [nb a o e (by rw [stk]; exact out)] at bNone
        cases bNone
    have entry : X.s_0.heap.get? a = none := by
      cases e : X.s_0.heap.get? a with
      | none => rfl
      | some o =>
        by_cases hx : a ∈ X.ex
        · exact absurd hx (by rw [ex0]; simp)
        · obtain ⟨o', e'⟩ := J.base.there a o e hx
          rw [sNone] at e'
          cases e'
    have pinned : ∀ p ∈ X.pn ++ pins, p.1 ≠ a := fun p hp z => by
      have e := (J.pin p hp).1
      rw [z, sNone] at e
      cases e
    have S3 := J3.suite he hd na nL nF
    refine wpAny_handleBy_cons (codeAny_handlers_test ?_) (by intro q; cases q)
    have LT : PySem.W.Looks (model X.prog X.w) h3 (typeOf (.ref a)) cls := fun A Q E s k q => wpAny_typeOf_ref (k _ _ he) (by rw [hz.1]; exact q)
    have test : ∀ {Q : Value → Shared → Prop} {E : Value → Shared → Prop}, Q c { s' with heap := h3 } → wpAny (model X.prog X.w) (X.A.mark (some (.ref a))) (eval (.Name x np) X.env) Q E { s' with heap := h3 } := fun {Q E} q => by
      rcases cn with ⟨g1, g2, g3 | ⟨g3, g4, g5⟩⟩
      · exact ld_glob (X := X.suite a ((a, oe) :: (X.pn ++ pins))) S3 g1 g3 q g2
      · exact ld_blt (X := X.suite a ((a, oe) :: (X.pn ++ pins))) S3 g1 g3 g4 q g5 g2
    refine test ((PySem.W.exm_one (M := model X.prog X.w) J3.kIn LT b1).here ?_)
    cases b with
    | true =>
      refine codeAny_handlers_suite_as (HandSPX.lands_againZ fl fun h4 fl4 up4 => ?_)
      have J4 : Inv X pins σ' H' { s' with heap := h4 } := J.landed nb fl4.1 ((up.trans up3).trans up4) os ag
      obtain ⟨oe4, vs4, he4, hz4, hd4⟩ := fl4.there
      have S4 := J4.suite he4 hd4 na nL nF
      refine store_ok (X := X.suite a ((a, oe4) :: (X.pn ++ pins))) (v := .ref a) S4 nd at_ (.inl ln) rfl (fun s5 S5 => ?_) (.inr ln)
      have sl : (σ'.set i (some (V.ref a)))[i]? = some (some (V.ref a)) := by
        have : i < σ'.length := by
          have h1 := (List.getElem?_eq_some_iff.mp at_).1
          rw [J.len]
          exact h1
        rw [List.getElem?_set_self this]
      have ret : PSs (X.suite a ((a, oe4) :: (X.pn ++ pins))) [.Return (some (.Name n rp)) rpos] _ := pss_one (ps_ret (pe_var (i := i) at_ (.inl ln) dbg cdc))
      refine wpAny_mono (ret.run [] s5 _ H' { nx := fun _ _ => False, rt := fun v H6 => v = .ref a ∧ H6 = H', bk := fun _ _ => False, ct := fun _ _ => False } S5 ⟨_, sl, rfl, rfl⟩) (fun f s6 hsp => ?_) fun _ _ z => False.elim z
      cases f with
      | next =>
        obtain ⟨_, _, _, z⟩ := hsp
        exact z.elim
      | brk =>
        obtain ⟨_, _, _, z⟩ := hsp
        exact z.elim
      | cont =>
        obtain ⟨_, _, _, z⟩ := hsp
        exact z.elim
      | ret u =>
        obtain ⟨v6, σ6, H6, S6, r6, rfl, rfl⟩ := hsp
        have U6 : Inv X ((a, oe4) :: pins) σ6 H6 s6 := ⟨ok, S6.os, S6.bare, S6.base, S6.loc, S6.cell, S6.free, S6.freeC, fun p hp => S6.pin p (List.mem_append_left _ (by
          rcases List.mem_append.mp hp with h | h
          · exact List.mem_cons_of_mem _ (List.mem_append_left _ h)
          · rcases List.mem_cons.mp h with h | h
            · rw [h]; exact List.mem_cons_self
            · exact List.mem_cons_of_mem _ (List.mem_append_right _ h))), S6.hok, S6.len⟩
        refine gone_ok U6 nd at_ ln fun s7 J7 => ?_
        have e7 := (J7.pin (a, oe4) (List.mem_append_right _ List.mem_cons_self)).1
        have J8 : Inv X pins (σ6.set i none) H6 s7 := Inv.morePins J7 fun p hp => by
          rcases List.mem_append.mp hp with h | h
          · exact List.mem_append_left _ h
          · exact List.mem_append_right _ (List.mem_cons_of_mem _ h)
        exact ⟨.ref a, _, _, track (o := ExV cls d a) J8 na e7 hd4 entry nL pinned (exV_ok e7 hz4 hd4), r6, yes rfl a na⟩
    | false =>
      show wpAny _ X.A (handleBy (.ref a) X.env []) _ _ _
      refine wpAny_handleBy_nil ?_
      obtain ⟨_, _, _, oe1, vs1, T1, oT1, ts1, he1, _, hd1, h11, _⟩ := id fl
      unfold PySem.passOn
      refine wpAny_bind (wpAny_field he1 hd1 h11 ?_)
      rw [if_neg (show ¬ ((Value.ref T1 == Value.none) = true) by simp)]
      have go : wpAny (model X.prog X.w) X.A (setFlight (.ref a) X.env.frame) (fun _ s4 => wpAny (model X.prog X.w) X.A (throw (.ref a) : Sem Flow) (SP X pins D) X.xe s4) X.xe { s' with heap := h3 } := by
        rw [loc]
        refine HandSPX.setFlight_upZ fl fun h4 hh4 up4 => wpAny_throw (tk _ _ ?_)
        exact ⟨a, B, sI, pins, σ', H', cls, d, rfl, J, nb, (up.trans up3).trans up4, .inr (.inr (by rw [stk]; exact hh4)), na, os, ag, no rfl⟩
      first
        | exact wpAny_bind (wpAny_pure (wpAny_bind go))
        | exact wpAny_bind go
  · cases f with
    | next =>
      obtain ⟨σ', H', J', q⟩ := hsp
      exact wpAny_execs_nil ⟨σ', H', J'.ofTry ok, q⟩
    | brk =>
      obtain ⟨σ', H', J', q⟩ := hsp
      exact ⟨σ', H', J'.ofTry ok, q⟩
    | cont =>
      obtain ⟨σ', H', J', q⟩ := hsp
      exact ⟨σ', H', J'.ofTry ok, q⟩
    | ret u =>
      obtain ⟨v, σ', H', J', r, q⟩ := hsp
      exact ⟨v, σ', H', J'.ofTry ok, r, q⟩
end
end Rf
end -- Ca
section -- M9
set_option Elab.async false
set_option maxRecDepth 100000
set_option maxHeartbeats 4000000
set_option pp.maxSteps 600
set_option pp.deepTerms false
set_option linter.all false
namespace Rf
open PySem L2 PyProof.Rows StX
/-- a def called with all its arguments by name -/
structure ClK (P : Program) (w : World) (K : PySem.W.Frag) (mg : Str → Option Value) (base : Heap) (CX : CXT) (k : Nat) (x : Str) (ps : List Str) (sp : Sp) : Prop where
  ex : ∃ (f : Addr) (fd : FuncData), FnOk P w K mg base CX k f fd ps sp ∧ mg x = some (.ref f) ∧ PySem.W.keepIn K (.ref f) = true ∧ Binds K fd ps [] ∧ ∀ us : List Value, us.length = ps.length → bindArgs fd ⟨[], ps.zip us⟩ = pure (ps.zip us)
theorem ClK.cl {P : Program} {w : World} {K : PySem.W.Frag} {mg : Str → Option Value} {base : Heap} {CX : CXT} {k : Nat} {x : Str} {ps : List Str} {sp : Sp} (c : ClK P w K mg base CX k x ps sp) : Cl P w K mg base CX k x sp := by
  obtain ⟨f, fd, F, a, b, d, _⟩ := c.ex
  exact ⟨f, fd, ps, F, a, b, d⟩
section
variable {X : Cx} {CX : CXT} {k : Nat} {sp : Sp} {E : XK} {x : Str} {ps : List Str} {p pos : Pos} {kws : List Keyword} {tk : TA}
theorem pe_kw (c : ClK X.prog X.w X.K X.mg X.base CX k x ps sp) (hr : Room k X.A) (hg : Gl X x) (hx : Passes CX X E) (hkw : PK X kws tk)
    (all_ : (backToKw pos (keywordEach kws X.env)).all (·.1.isSome) = true := by rfl) (names : (backToKw pos (keywordEach kws X.env)).filterMap (·.1) = ps := by rfl) (dbg : (x == ("__debug__" : Str)) = false := by decide)
    (plain : ((backTo pos (starEach [] X.env)).any (·.1) || (backToKw pos (keywordEach kws X.env)).any (·.1.isNone)) = false := by rfl) :
    PE X (.Call (.Name x p) [] kws pos) (tCall sp [] E tk) := by
  refine ⟨fun pins s σ H Q I h => ?_⟩
  obtain ⟨f, fd, F, hm, keep, hb, kb⟩ := c.ex
  refine wpAny_Call_Name_kw (ld_glob I hg hm ?_ dbg)
  refine PySem.W.callWith_KW0 (h₀ := X.base) I.ok.mod.kin keep all_ (thn (hkw.run pos pins s σ H _ I h) fun ws s1 ⟨zs, H1, I1, rz, q⟩ => ⟨I1.kIn, ?_⟩) plain
  rw [names]
  have q2 : sp zs H1 Q E := by rw [← List.append_nil zs]; exact q
  have hl : ws.length = ps.length := by rw [← rz.length]; exact F.len _ _ _ _ q2
  refine wpAny_call (codeAny_mono (F.run X.A X.stack s1 H1 ⟨[], ps.zip ws⟩ ws zs Q E hr I1.env0 (.of_eq (kb ws hl)) rz q2) fun r s' hq => ?_)
  rcases r with e | (u | _ | _ | _)
  · exact hx pins σ H1 s1 e s' I1 hq
  · exact hq.elim
  · exact hq.elim
  · exact hq.elim
  · exact I1.after hq
end
theorem passN {X : Cx} {P : Program} {w : World} : Passes (L2.CX P w) X E0 := fun _ _ _ _ _ _ _ ⟨_, _, _, _, _, _, _, _, _, _, _, _, z⟩ => z.elim

/-! ### maps of letters -/
def put1 (f : Str → Option Sy) (k : Str) (s : Sy) : Str → Option Sy := fun c => if k = c then some s else f c
def map0 : Str → Option Sy := fun _ => none
def mapL (l : List (Str × Str)) : Str → Option Sy := l.foldl (fun f p => put1 f p.1 (.lt p.2)) map0
def Rel (K : PySem.W.Frag) (H : Hp) (kvs : List (Key × V)) (f : Str → Option Sy) : Prop :=
  (∀ c v, valV kvs (Sum.inr c) = some v → ∃ s, f c = some s ∧ Sv K H s v) ∧ ∀ c, valV kvs (Sum.inr c) = none → f c = none
theorem Rel.nil {K : PySem.W.Frag} {H : Hp} : Rel K H [] map0 := ⟨fun c v e => (by cases e), fun _ _ => rfl⟩
theorem Rel.put {K : PySem.W.Frag} {H : Hp} {kvs : List (Key × V)} {f : Str → Option Sy} {k : Str} {v : V} {s : Sy} (r : Rel K H kvs f) (h : Sv K H s v) : Rel K H (putK kvs (Sum.inr k) v) (put1 f k s) := by
  refine ⟨fun c u e => ?_, fun c e => ?_⟩
  · rw [valV_put] at e
    unfold put1
    by_cases q : k = c
    · subst q
      rw [if_pos rfl] at e
      cases e
      exact ⟨s, if_pos rfl, h⟩
    · rw [if_neg (fun z => q (Sum.inr.inj z).symm)] at e
      rw [if_neg q]
      exact r.1 c u e
  · rw [valV_put] at e
    unfold put1
    by_cases q : k = c
    · subst q
      rw [if_pos rfl] at e
      cases e
    · rw [if_neg (fun z => q (Sum.inr.inj z).symm)] at e
      rw [if_neg q]
      exact r.2 c e
theorem Rel.imp {K : PySem.W.Frag} {H H' : Hp} {kvs : List (Key × V)} {f : Str → Option Sy} (r : Rel K H kvs f) (h : ∀ s v, Sv K H s v → Sv K H' s v) : Rel K H' kvs f :=
  ⟨fun c v e => let ⟨s, a, b⟩ := r.1 c v e; ⟨s, a, h s v b⟩, r.2⟩
theorem Rel.leads {K : PySem.W.Frag} {H : Hp} {kvs : List (Key × V)} {f : Str → Option Sy} {d : Addr} (r : Rel K H kvs f) (h : H d = some (.dK kvs)) : Leads K H d f := ⟨kvs, h, r.1, r.2⟩
theorem mapL_snoc (l : List (Str × Str)) (p : Str × Str) : mapL (l ++ [p]) = put1 (mapL l) p.1 (.lt p.2) := by
  unfold mapL
  rw [List.foldl_append]
  rfl
theorem mapL_mem {l : List (Str × Str)} {c : Str} {s : Sy} (h : ∀ p ∈ l, p.2 ∈ letV) (e : mapL l c = some s) : s.Good := by
  have gen : ∀ (l : List (Str × Str)) (f : Str → Option Sy), (∀ p ∈ l, p.2 ∈ letV) → (∀ c s, f c = some s → s.Good) → ∀ c s, l.foldl (fun f p => put1 f p.1 (.lt p.2)) f c = some s → s.Good := by
    intro l
    induction l with
    | nil => intro f _ h2 c s e; exact h2 c s e
    | cons p r ih =>
      intro f h1 h2
      refine ih _ (fun q hq => h1 q (List.mem_cons_of_mem _ hq)) fun c s e => ?_
      replace e : (if p.1 = c then some (Sy.lt p.2) else f c) = some s := e
      by_cases q : p.1 = c
      · rw [if_pos q] at e
        cases e
        exact h1 p List.mem_cons_self
      · rw [if_neg q] at e
        exact h2 c s e
  exact gen l map0 h (fun c s e => by cases e) c s e
theorem Sy.subGood {f : Str → Option Sy} (hf : ∀ c s, f c = some s → s.Good) : ∀ {s : Sy}, s.Good → (s.sub f).Good
  | .lt c, g => by
    show ((f c).getD (.lt c)).Good
    cases e : f c with
    | none => exact g
    | some t => exact hf c t e
  | .nt x, g => Sy.subGood (s := x) hf g
  | .bi w x y, g => ⟨g.1, Sy.subGood (s := x) hf g.2.1, Sy.subGood (s := y) hf g.2.2⟩
section
variable {P : Program} {w : World} {K : PySem.W.Frag} {mg : Str → Option Value} {base : Heap} {dL aL : Addr}
def spRenBy (K : PySem.W.Frag) : Sp := fun vs H Q _ => ∃ s v ps u, vs = [v, u] ∧ Sv K H s v ∧ s.Good ∧ s.depth ≤ 40 ∧ Prs K H ps u ∧ ∀ v' H', Same H H' → Sv K H' (s.sub (mapL ps)) v' → Q v' H'
theorem scRenBy : FnScope ["saying", "pairs", "one", "other"] ["saying", "pairs"] (defScope (top 30)) := ⟨rfl, rfl, rfl, by decide +kernel, rfl, by decide +kernel, by decide +kernel⟩
theorem ok_renBy (F : Fn K mg "renamed_by" (top 30)) (T : Tx K w mg dL aL) (G1 : Cl P w K mg base CX0 41 "led_by" (spLed K 40)) : Cl P w K mg base CX0 42 "renamed_by" (spRenBy K) := by
  refine F.cl scRenBy (fun vs H Q E h => ?_) (fun _ _ _ _ _ _ us hl => match us, hl with | [_, _], _ => rfl) (fun f cdv A outer s H vs Q E hr h => ?_)
  · obtain ⟨s, v, ps, u, rfl, _⟩ := h; rfl
  · obtain ⟨y, v, ps, u, rfl, hv, hg, hd, hp, q⟩ := h
    obtain ⟨tl, hL⟩ := T.LETTER
    have nd := scRenBy.nd
    have big : 1000 < sizeLine := by decide
    refine ⟨_, pss_one (ps_ret (pe_cl G1 hr (by rfl) (pa_cons (pv 0) (pa_cons
      (pe_dc (own := [("one", 2), ("other", 3)]) (g := gTup K 2 (gCons (gName 2) (gCons (gName 3) gNil))) (tt := tYes) (by rfl) nd (pi_tup (pv 1)) (blkOk_by (own := [("one", 2), ("other", 3)]) (N := ["saying", "pairs", "one", "other"]) (sc := defScope (top 30)) (by decide +kernel))
        (fun _ _ _ _ _ => pg_tup (by rfl) (pgs_cons (pg_name (i := 2) nd rfl (.inl rfl)) (pgs_cons (pg_name (i := 3) nd rfl (.inl rfl)) pgs_nil))) (fun _ _ _ _ _ => pts_nil)
        (fun _ _ _ _ _ => pv 2) (fun _ _ _ _ _ => pe_tup (pa_cons (pe_glob (v := .str "letter") (by rfl) hL ⟨_, rfl⟩) (pa_cons (pv 3) pa_nil)))) pa_nil)))), ?_⟩
    obtain ⟨a, us, rfl, ht, hpp⟩ := hp.ex
    have hlen := hpp.length
    have hfew := hp.few
    refine ⟨_, rfl, _, rfl, a, rfl, ⟨_, ht⟩, fun D nD => ?_⟩
    refine dc_tup (fun i H' => ∃ kvs, H' D = some (.dK kvs) ∧ kvs.length ≤ i ∧ Same H H' ∧ Rel K H' kvs (mapL (ps.take i))) ⟨[], upd_same, Nat.le_refl _, same_new nD, Rel.nil⟩ (fun i H' _ ⟨_, _, _, sm, _⟩ => same_tup sm ht) ?_ ?_
    · rintro i x H1 hx ⟨kvs, hD, hk, sm, rel⟩
      obtain ⟨p2, u2, k1, k2, t, e, h⟩ := paired_at hpp (List.getElem?_eq_some_iff.mp hx).1
      rw [hx] at k2
      cases k2
      subst e
      have hil := (List.getElem?_eq_some_iff.mp hx).1
      refine ⟨t, _, rfl, same_tup sm h, rfl, _, _, rfl, _, _, rfl, rfl, rfl, ?_⟩
      refine yesT (A := fun H3 => _) (B := fun H3 => _) ⟨_, rfl, _, rfl, (by show 2 ≤ sizeLine; decide), fun tn nn => ?_⟩
      have s2 : Same H1 (upd H1 tn (.tup [.str "letter", .str p2.2])) := same_new nn
      have new : Sv K (upd H1 tn (.tup [.str "letter", .str p2.2])) (.lt p2.2) (.ref tn) := ⟨tn, rfl, SqT.of upd_same⟩
      have hD2 := s2 _ _ hD
      revert s2 new hD2
      generalize upd H1 tn (.tup [.str "letter", .str p2.2]) = H2
      intro s2 new hD2
      refine ⟨kvs, Sum.inr p2.1, rfl, hD2, by omega, _, upd_same, ?_, fun b o e => by rw [upd_ne (ne_of_none e nD)]; exact s2 _ _ (sm _ _ e), ?_⟩
      · have := length_putK kvs (Sum.inr p2.1) (.ref tn)
        omega
      · rw [List.take_succ, k1]
        show Rel K _ _ (mapL (ps.take i ++ [p2]))
        rw [mapL_snoc]
        have b6 : Bt (fun b => b = D) H2 (upd H2 D (.dK (putK kvs (Sum.inr p2.1) (.ref tn)))) := fun b o n e => by rw [upd_ne n]; exact e
        have fl : ∀ b, b = D → Flat H2 b := fun b e => e ▸ ⟨fun xs z => (by rw [hD2] at z; cases z), fun o u z => (by rw [hD2] at z; cases z)⟩
        exact Rel.imp ((Rel.imp rel fun _ _ h => h.same s2).put new) fun _ _ h => h.bt b6 fl
    · rintro H1 ⟨kvs, hD, _, sm, rel⟩
      rw [← hlen, List.take_length] at rel
      exact ⟨y, v, D, mapL ps, rfl, hv.same sm, hg, hd, rel.leads hD, fun v' H' s2 hv' => q v' H' (sm.trans s2) hv'⟩
def spRen (K : PySem.W.Frag) : Sp := fun vs H Q _ => ∃ s v ps u, vs = [v, u] ∧ Sv K H s v ∧ s.Good ∧ s.fits = true ∧ Prs K H ps u ∧ ∀ v' H', Same H H' → Sv K H' (s.sub (mapL ps)) v' → Q v' H'
theorem ok_ren (F : Fn K mg "renamed" (top 31)) (G1 : Cl P w K mg base CX0 5 "check_saying" (spCheck K)) (G2 : Cl P w K mg base CX0 4 "check_pairs" (spChPairs K)) (G3 : Cl P w K mg base CX0 42 "renamed_by" (spRenBy K)) : ClK P w K mg base CX0 43 "renamed" ["saying", "pairs"] (spRen K) := by
  have sc : FnScope ["saying", "pairs"] ["saying", "pairs"] (defScope (top 31)) := ⟨rfl, rfl, rfl, by decide +kernel, rfl, by decide +kernel, by decide +kernel⟩
  obtain ⟨f, fd, G, hm⟩ := F.ex
  obtain ⟨oc, od, kV, doc, pm, an, cdv, ct, osl, rfl, lk, hcd⟩ := G.ex
  refine ⟨f, _, G.ok sc (fun vs H Q E h => ?_) (fun cdv A outer s H vs Q E hr h => ?_), hm, G.kp, G.binds (fun _ _ _ _ _ _ us hl => match us, hl with | [_, _], _ => rfl), fun us hl => match us, hl with | [_, _], _ => rfl⟩
  · obtain ⟨s, v, ps, u, rfl, _⟩ := h; rfl
  · obtain ⟨y, v, ps, u, rfl, hv, hg, hf, hp, q⟩ := h
    refine ⟨_, pss_cons (ps_expr (pe_cl G1 (hr.mono (by decide)) (by rfl) (pa_cons (pv 0) pa_nil))) (pss_cons (ps_expr (pe_cl G2 (hr.mono (by decide)) (by rfl) (pa_cons (pv 1) pa_nil))) (pss_one (ps_ret (pe_cl G3 hr (by rfl) (pa_cons (pv 0) (pa_cons (pv 1) pa_nil)))))), ?_⟩
    refine ⟨_, rfl, y, v, rfl, hv, hg, hf, fun H1 s1 => ⟨_, rfl, ps, u, rfl, hp.same s1, fun H2 s2 => ?_⟩⟩
    have s3 := s1.trans s2
    exact ⟨_, rfl, _, rfl, y, v, ps, u, rfl, hv.same s3, hg, (fits_iff.mp hf).2, hp.same s3, fun v' H' s4 h => q v' H' (s3.trans s4) h⟩
def one1 (c : Str) (o : Sy) : Str → Option Sy := put1 map0 c o
/-- a saying put in; CT the class TooGreat -/
def spLet (K : PySem.W.Frag) (CT : Addr) : Sp := fun vs H Q E => ∃ s v c o u, vs = [v, .str c, u] ∧ Sv K H s v ∧ s.Good ∧ s.depth ≤ 40 ∧ Sv K H o u ∧ o.Good ∧ (s.sub (one1 c o)).depth ≤ 60 ∧
  ((s.sub (one1 c o)).fits = true → ∀ v' H', Same H H' → Sv K H' (s.sub (one1 c o)) v' → Q v' H') ∧
  ((s.sub (one1 c o)).fits = false → ∀ d H', Same H H' → H d = none → H' d = some (.xd [(("value" : Str), .int 200)]) → E (.ref CT) (some d) H')
theorem ok_let {CT D fI : Addr} (F : Fn K mg "let_put" (top 33)) (T : Tx K w mg dL aL) (TT : FeTxt P K mg "TooGreat" CT D fI) (G1 : Cl P w K mg base CX0 41 "led_by" (spLed K 40)) (G2 : Cl P w K mg base CX0 4 "is_saying" (spSaying K)) :
    Cl P w K mg base (L2.CX P w) 42 "let_put" (spLet K CT) := by
  have sc : FnScope ["saying", "letter", "other", "found"] ["saying", "letter", "other"] (defScope (top 33)) := ⟨rfl, rfl, rfl, by decide +kernel, rfl, by decide +kernel, by decide +kernel⟩
  refine F.clX sc (fun vs H Q E h => ?_) (fun _ _ _ _ _ _ us hl => match us, hl with | [_, _, _], _ => rfl) (fun f cdv A outer s H vs Q E hr h => ?_)
  · obtain ⟨s, v, c, o, u, rfl, _⟩ := h; rfl
  · obtain ⟨y, v, c, o, u, rfl, hv, hg, hd, ho, hog, hsd, q1, q2⟩ := h
    obtain ⟨t1, hMW⟩ := T.MOSTW
    have nd := sc.nd
    refine ⟨_, pss_cons (ps_set (i := 3) nd rfl (Or.inl rfl) (pe_cl G1 hr (by rfl) (pa_cons (pv 0) (pa_cons (pe_disp (pps_cons (pv 1) (pv 2) pps_nil) (by rfl) (by rfl) (fun z => by cases z) (by decide)) pa_nil))))
      (pss_cons (ps_if (pt_not (pt_val (pe_cl G2 (hr.mono (by decide)) (by rfl) (pa_cons (pv 3) pa_nil)))) (pss_one (ps_raiseFe rfl TT hr (takes_of rfl rfl rfl rfl) (pa_cons (pe_glob (v := .int 200) (by rfl) hMW ⟨_, rfl⟩) pa_nil) (by rfl))) pss_nil)
      (pss_one (ps_ret (pv 3)))), ?_⟩
    refine ⟨_, rfl, fun p np => ⟨_, rfl, _, rfl, upd_same, [(Sum.inr c, u)], rfl, by simp, ?_⟩⟩
    have e1 : upd (upd H p (.dK [])) p (.dK (mergeK [] [(Sum.inr c, u)])) = upd H p (.dK (putK [] (Sum.inr c) u)) := by
      funext b
      by_cases z : b = p
      · subst z; rw [upd_same, upd_same]; rfl
      · rw [upd_ne z, upd_ne z, upd_ne z]
    rw [e1]
    have s1 : Same H (upd H p (.dK (putK [] (Sum.inr c) u))) := same_new np
    have hp : upd H p (.dK (putK [] (Sum.inr c) u)) p = some (.dK (putK [] (Sum.inr c) u)) := upd_same
    revert s1 hp
    generalize upd H p (.dK (putK [] (Sum.inr c) u)) = H1
    intro s1 hp
    have rel : Rel K H1 (putK [] (Sum.inr c) u) (one1 c o) := Rel.nil.put (ho.same s1)
    refine ⟨y, v, p, one1 c o, rfl, hv.same s1, hg, hd, rel.leads hp, fun v' H2 s2 hv' => ?_⟩
    have gs : (y.sub (one1 c o)).Good := Sy.subGood (fun c' s' e => by
      unfold one1 put1 at e
      split at e
      · cases e; exact hog
      · cases e) hg
    refine ⟨_, rfl, _, v', rfl, hv', gs, hsd, fun H3 s3 => ⟨_, rfl, ?_⟩⟩
    have s4 := (s1.trans s2).trans s3
    cases hfit : (y.sub (one1 c o)).fits with
    | true => exact iteF ⟨_, rfl, q1 hfit v' H3 s4 (hv'.same s3)⟩
    | false =>
      refine iteT ⟨_, rfl, fun d nd' => ?_⟩
      exact q2 hfit d _ (s4.trans (same_new nd')) (s4.free nd') upd_same
def spPut (K : PySem.W.Frag) (CT : Addr) : Sp := fun vs H Q E => ∃ s v c o u, vs = [v, .str c, u] ∧ Sv K H s v ∧ s.Good ∧ s.fits = true ∧ Sv K H o u ∧ o.Good ∧ o.fits = true ∧ c ∈ letV ∧ (s.sub (one1 c o)).depth ≤ 60 ∧
  ((s.sub (one1 c o)).fits = true → ∀ v' H', Same H H' → Sv K H' (s.sub (one1 c o)) v' → Q v' H') ∧
  ((s.sub (one1 c o)).fits = false → ∀ d H', Same H H' → H d = none → H' d = some (.xd [(("value" : Str), .int 200)]) → E (.ref CT) (some d) H')
theorem ok_put {CT : Addr} (F : Fn K mg "put_in" (top 32)) (G1 : Cl P w K mg base CX0 5 "check_saying" (spCheck K)) (G2 : Cl P w K mg base CX0 3 "check_letter" spCheckL) (G3 : Cl P w K mg base (L2.CX P w) 42 "let_put" (spLet K CT)) :
    ClK P w K mg base (L2.CX P w) 43 "put_in" ["saying", "letter", "other"] (spPut K CT) := by
  have sc : FnScope ["saying", "letter", "other"] ["saying", "letter", "other"] (defScope (top 32)) := ⟨rfl, rfl, rfl, by decide +kernel, rfl, by decide +kernel, by decide +kernel⟩
  obtain ⟨f, fd, G, hm⟩ := F.ex
  obtain ⟨oc, od, kV, doc, pm, an, cdv, ct, osl, rfl, lk, hcd⟩ := G.ex
  refine ⟨f, _, G.okX sc (fun vs H Q E h => ?_) (fun cdv A outer s H vs Q E hr h => ?_), hm, G.kp, G.binds (fun _ _ _ _ _ _ us hl => match us, hl with | [_, _, _], _ => rfl), fun us hl => match us, hl with | [_, _, _], _ => rfl⟩
  · obtain ⟨s, v, c, o, u, rfl, _⟩ := h; rfl
  · obtain ⟨y, v, c, o, u, rfl, hv, hg, hf, ho, hog, hof, hc, hsd, q1, q2⟩ := h
    refine ⟨_, pss_cons (ps_expr (pe_cl G1 (hr.mono (by decide)) (by rfl) (pa_cons (pv 0) pa_nil))) (pss_cons (ps_expr (pe_cl G1 (hr.mono (by decide)) (by rfl) (pa_cons (pv 2) pa_nil)))
      (pss_cons (ps_expr (pe_cl G2 (hr.mono (by decide)) (by rfl) (pa_cons (pv 1) pa_nil)))
      (pss_one (ps_ret (pe_clX G3 hr (by rfl) (passes_call (takes_of rfl rfl rfl rfl) (fun cls d σ H h => h)) (pa_cons (pv 0) (pa_cons (pv 1) (pa_cons (pv 2) pa_nil)))))))), ?_⟩
    refine ⟨_, rfl, y, v, rfl, hv, hg, hf, fun H1 s1 => ⟨_, rfl, o, u, rfl, ho.same s1, hog, hof, fun H2 s2 => ⟨_, rfl, c, rfl, hc, ?_⟩⟩⟩
    have s3 := s1.trans s2
    exact ⟨_, rfl, _, rfl, _, rfl, y, v, c, o, u, rfl, hv.same s3, hg, (fits_iff.mp hf).2, ho.same s3, hog, hsd, fun hfit v' H' s4 h => q1 hfit v' H' (s3.trans s4) h, fun hfit d H' s4 n h => q2 hfit d H' (s3.trans s4) (s3.free n) h⟩
end
end Rf
end -- M9
section -- Zs
set_option Elab.async false
set_option maxRecDepth 100000
set_option maxHeartbeats 4000000
set_option pp.maxSteps 600
set_option pp.deepTerms false
set_option linter.all false
namespace Rf
open PySem PySem.Spec PyProof.Rows L2
/-! ### zip of two texts of one length -/
def ItzS (x y : Str) : It :=
  ⟨fun i _ => i < x.cps.size, fun i H v H' => ∃ T c d, v = .ref T ∧ H T = none ∧ x.cps[i]? = some c ∧ y.cps[i]? = some d ∧ H' = upd H T (.tup [.str ⟨#[c]⟩, .str ⟨#[d]⟩]), fun i _ => i = x.cps.size⟩
def TextAt (i1 : Addr) (x : Str) (t : Tok) (i : Nat) (h : Heap) : Prop := h.IsStrIter i1 (strIterType x) x t i
theorem five {z TI TO i1 i2 c : Addr} (h : c ∈ [z, TI, TO, i1, i2]) : c = z ∨ c = TI ∨ c = TO ∨ c = i1 ∨ c = i2 := by simpa using h
theorem turn_texts {P : Program} {w : World} {K : PySem.W.Frag} {elts : List Expr} {kk : Nat} {tpos : Pos} {z TI TO i1 i2 : Addr} {x y : Str} {t1 t2 : Tok} (len : x.cps.size = y.cps.size) (S : ZipSep2 z TI TO i1 i2 [i1] [i2]) :
    Turn P w K (.Tuple elts kk tpos) (ItzS x y) [z, TI, TO, i1, i2] z (fun i h => IsZip h z TI TO .none ∧ IsTupOf2 h TI (.ref i1) (.ref i2) ∧ (∃ a b, IsTupOf2 h TO a b) ∧ TextAt i1 x t1 i h ∧ TextAt i2 y t2 i h) where
  mem := by simp
  obj := fun i h st c hc => by
    obtain ⟨hz, hI, ⟨a, b, hO⟩, ⟨o1, g1, _, d1⟩, ⟨o2, g2, _, d2⟩⟩ := st
    rcases five hc with rfl | rfl | rfl | rfl | rfl
    · exact ⟨_, hz, fun v q => nomatch q⟩
    · exact ⟨_, hI, fun v q => nomatch q⟩
    · exact ⟨_, hO, fun v q => nomatch q⟩
    · exact ⟨o1, g1, fun v q => by rw [d1] at q; cases q⟩
    · exact ⟨o2, g2, fun v q => by rw [d2] at q; cases q⟩
  keep := fun i h h' st k => by
    obtain ⟨hz, hI, ⟨a, b, hO⟩, ⟨o1, g1, r1⟩, ⟨o2, g2, r2⟩⟩ := st
    exact ⟨k z (by simp) _ hz, k TI (by simp) _ hI, ⟨a, b, k TO (by simp) _ hO⟩, ⟨o1, k i1 (by simp) _ g1, r1⟩, ⟨o2, k i2 (by simp) _ g2, r2⟩⟩
  item := by
    intro X hP hw hK hc i pins s σ H E I hf st hg
    subst hP hw hK
    obtain ⟨hz, hI, ⟨a, b, hO⟩, s1, s2⟩ := st
    have cool : X.A.in1.handled = none := I.ok.hd hc
    have zl : z < s.heap.objs.size := Heap.lt_size hz
    have il : TI < s.heap.objs.size := Heap.lt_size hI
    have ol : TO < s.heap.objs.size := Heap.lt_size hO
    have l1 : i1 < s.heap.objs.size := by obtain ⟨o1, g1, _⟩ := s1; exact Heap.lt_size g1
    have l2 : i2 < s.heap.objs.size := by obtain ⟨o2, g2, _⟩ := s2; exact Heap.lt_size g2
    have lti : i < x.cps.size := hg
    refine wpAny_pyNext_zipD2_item S (Draws.text cool i1 x t1) (Draws.text cool i2 y t2) hz hI hO s1 s2 lti (by omega) fun u1 u2 h1 tk p1 p2 z1 O1 n1 n2 T1 sz keep => ?_
    obtain ⟨c, k1, e1, rfl⟩ := p1
    obtain ⟨d, k2, e2, rfl⟩ := p2
    refine ⟨_, rfl, wpAny_letOwnedTupleGo_zip (s := { s with heap := h1, toks := tk }) z1 fun h2 z2 sb => ?_⟩
    have T2 : h2.get? s.heap.objs.size = some { cls := .type "tuple", data := .seq #[.str ⟨#[c]⟩ k1, .str ⟨#[d]⟩ k2] } := (sb.2 _ (Nat.ne_of_gt zl)).trans T1
    have new : ObjOk X.prog X.w (upd H s.heap.objs.size (.tup [.str ⟨#[c]⟩, .str ⟨#[d]⟩])) h2 s.heap.objs.size (.tup [.str ⟨#[c]⟩, .str ⟨#[d]⟩]) :=
      ⟨by show 2 ≤ sizeLine; decide, [.str ⟨#[c]⟩ k1, .str ⟨#[d]⟩ k2], .cons ⟨_, rfl⟩ (.cons ⟨_, rfl⟩ .nil), ⟨_, T2, rfl, _, rfl⟩⟩
    have J : Inv X pins σ (upd H s.heap.objs.size (.tup [.str ⟨#[c]⟩, .str ⟨#[d]⟩])) { s with heap := h2, toks := tk } := by
      refine I.turnedNew (t' := tk) (ch := [z, TI, TO, i1, i2]) (fun b o hb q => ?_) hf (Nat.le_refl _) new
      have nz : b ≠ z := fun q => hb (by simp [q])
      exact (sb.2 b nz).trans (keep b o nz (fun q => hb (by simp [q])) (fun q => hb (by simp [q])) (fun q => hb (by simp [q])) q)
    refine ⟨.ref s.heap.objs.size, _, J, rfl, ⟨_, c, d, rfl, I.hok.fresh (Nat.le_refl _), e1, e2, rfl⟩, ⟨z2, ?_, ⟨.str ⟨#[c]⟩ k1, .str ⟨#[d]⟩ k2, ?_⟩, ?_, ?_⟩, fun b hb => ?_⟩
    · exact (sb.2 _ S.TIz).trans (keep _ _ S.TIz S.TITO S.TIi1 S.TIi2 hI)
    · exact (sb.2 _ S.TOz).trans O1
    · obtain ⟨o1, g1, r1⟩ := n1
      exact ⟨o1, (sb.2 _ (fun q => S.zi1 q.symm)).trans g1, r1⟩
    · obtain ⟨o2, g2, r2⟩ := n2
      exact ⟨o2, (sb.2 _ (fun q => S.zi2 q.symm)).trans g2, r2⟩
    · have low : b < s.heap.objs.size := by
        rcases five hb with rfl | rfl | rfl | rfl | rfl <;> assumption
      rw [upd_ne (Nat.ne_of_lt low)]
      exact (hf b hb).1
  done := by
    intro X hP hw hK hc i pins s σ H E I hf st hg
    subst hP hw hK
    obtain ⟨hz, hI, ⟨a, b, hO⟩, s1, s2⟩ := st
    have cool : X.A.in1.handled = none := I.ok.hd hc
    have ei : i = x.cps.size := hg
    refine wpAny_pyNext_zipD2_end S (Draws.text cool i1 x t1) (Draws.text cool i2 y t2) hz hI hO s1 s2 (by omega) (by omega) (.inl ei) fun h1 tk keep => ⟨rfl, ?_⟩
    exact I.turnedL (t' := tk) (ch := [z, TI, TO, i1, i2]) (fun b o hb q => keep b o (fun q => hb (by simp [q])) (fun q => hb (by simp [q])) (fun q => hb (by simp [q])) (fun q => hb (by simp [q])) q) hf
  self := fun A i s Q E st h => wpAny_pyIter_zip st.1 h
def iZipS (ta : TA) : TI := fun σ H R => ta σ H fun vs H1 => ∃ x y, vs = [.str x, .str y] ∧ x.cps.size = y.cps.size ∧ R (ItzS x y) H1
theorem pi_zipS {X : Cx} {e e2 : Expr} {ta : TA} {p pos tpos : Pos} {elts : List Expr} {kk : Nat} (gz : Gl X "zip") (mz : X.mg "zip" = none) (ha : PA X [e, e2] ta)
    (st : starEach [e, e2] X.env = (false, eval e X.env) :: starEach [e2] X.env := by rfl) (pl : (backTo pos (starEach [e2] X.env)).any (·.1) = false := by rfl) :
    PI X (.Tuple elts kk tpos) (.Call (.Name "zip" p) [e, e2] [] pos) (iZipS ta) := by
  refine ⟨fun pins s σ H R I h => ?_⟩
  refine Call_ (ld_blt I gz mz PyProof.Rows.boot_zip
    (PyProof.Rows.callWith_type1 (thn (ha.run pos pins s σ H _ I h) fun us s1 ⟨vs, H1, J, rv, x, y, ex, len, q⟩ => ?_) st pl))
  subst ex
  cases rv with
  | cons rx rr =>
    cases rr with
    | cons ry rr =>
      cases rr
      obtain ⟨t1, rfl⟩ := rx
      obtain ⟨t2, rfl⟩ := ry
      refine zip_begins2 (begins_text x t1) (begins_text y t2) trivial trivial fun h2 hz hI hO g1 g2 sz keep => wpAny_pyIter_zip hz ?_
      have J2 : Inv X pins σ H1 { s1 with heap := h2 } := J.kept (t' := s1.toks) keep
      refine ⟨s1.heap.objs.size + 4, [s1.heap.objs.size + 4, s1.heap.objs.size + 2, s1.heap.objs.size + 3, s1.heap.objs.size, s1.heap.objs.size + 1], _, _, H1, rfl, J2,
        turn_texts (t1 := t1) (t2 := t2) len (zip_sep2 (fp1 := []) (fp2 := []) (fun b hb => nomatch hb) (fun b hb => nomatch hb)), ⟨hz, hI, ⟨_, _, hO⟩, ⟨_, g1, rfl, rfl⟩, ⟨_, g2, rfl, rfl⟩⟩, fun c hc => ?_, q⟩
      have hle : s1.heap.objs.size ≤ c := by
        rcases five hc with rfl | rfl | rfl | rfl | rfl <;> first | exact Nat.le_add_right _ _ | exact Nat.le_refl _
      exact J.fpOk hle (J.hok.fresh hle)
/-- list(text): its signs, each a text -/
def signs (x : Str) : List Str := x.cps.toList.map fun c => ⟨#[c]⟩
def rListS : List V → Hp → VK → Prop := fun xs H Q => ∃ x : Str, xs = [.str x] ∧ x.cps.size ≤ sizeLine ∧ ∀ l, H l = none → Q (.ref l) (upd H l (.lst ((signs x).map V.str)))
theorem call_listS {X : Cx} (hc : X.calm = true) : CallR X (.type "list") rListS := by
  intro pins s σ H xs us Q I r h
  obtain ⟨x, rfl, hz, q⟩ := h
  obtain ⟨u, rfl, ru⟩ := vals1 r
  obtain ⟨t, rfl⟩ := ru
  refine call_list_str (I.ok.hd hc) x t (fun h2 tk acc c keep got items => ?_) hz
  have len : ((signs x).map V.str).length = x.cps.size := by simp [signs]
  refine ⟨.ref s.heap.objs.size, upd H s.heap.objs.size (.lst ((signs x).map V.str)), I.laid keep (Nat.le_refl _) ⟨by rw [len]; exact hz, acc.toList, c, ?_, by rw [Array.toArray_toList]; exact got⟩, rfl, q _ (I.hok.fresh (Nat.le_refl _))⟩
  refine vals_of_idx _ _ (by rw [len, Array.length_toList]; exact items.1) fun j v hj => ?_
  obtain ⟨cc, k, hcc, rfl⟩ := items.2 j v (by rw [← Array.getElem?_toList]; exact hj)
  refine ⟨.str ⟨#[cc]⟩, ?_, ⟨_, rfl⟩⟩
  simp [signs, hcc]
end Rf
end -- Zs
section -- M10
set_option Elab.async false
set_option maxRecDepth 100000
set_option maxHeartbeats 4000000
set_option pp.maxSteps 600
set_option pp.deepTerms false
set_option linter.all false
namespace Rf
open PySem L2 PyProof.Rows StX
/-- the pot: its own digits, the mixed number, how many were mixed (n at the most) -/
def Pot (H : Hp) (a : Addr) (n : Int) : Prop := ∃ p0 p1 p2 : Int, H a = some (.lst [.int p0, .int p1, .int p2]) ∧ 0 ≤ p1 ∧ p1 < 2 ^ 62 ∧ 0 ≤ p2 ∧ p2 ≤ n

def spTake : Sp := fun vs H Q _ => ∃ (a : Addr) (u n : Int), vs = [.ref a, .int u] ∧ Pot H a n ∧ n + 1 ≤ 1000000 ∧ 0 < u ∧ u < 1000000 ∧
  ∀ (d : Int) (H' : Hp), 0 ≤ d → d < u → But a H H' → Pot H' a (n + 1) → Q (.int d) H'

theorem at4 (a b c d i : Int) (h0 : 0 ≤ i) (h1 : i < 4) : ∃ q, atI [V.int a, V.int b, V.int c, V.int d] i = some (V.int q) ∧ (q = a ∨ q = b ∨ q = c ∨ q = d) := by
  have h : i = 0 ∨ i = 1 ∨ i = 2 ∨ i = 3 := by omega
  rcases h with rfl | rfl | rfl | rfl
  · exact ⟨a, rfl, .inl rfl⟩
  · exact ⟨b, rfl, .inr (.inl rfl)⟩
  · exact ⟨c, rfl, .inr (.inr (.inl rfl))⟩
  · exact ⟨d, rfl, .inr (.inr (.inr rfl))⟩
section
variable {P : Program} {w : World} {K : PySem.W.Frag} {mg : Str → Option Value} {base : Heap} {dL aL : Addr}
theorem scTake : FnScope ["pot", "upto", "digit", "prime", "blend"] ["pot", "upto"] (defScope (top 36)) := ⟨rfl, rfl, rfl, by decide +kernel, rfl, by decide +kernel, by decide +kernel⟩
theorem ok_take (F : Fn K mg "_law_take" (top 36)) (T : Tx K w mg dL aL) : Cl P w K mg base CX0 1 "_law_take" spTake := by
  refine F.cl scTake (fun vs H Q E h => ?_) (fun _ _ _ _ _ _ us hl => match us, hl with | [_, _], _ => rfl) (fun f cdv A outer s H vs Q E hr h => ?_)
  · obtain ⟨a, u, n, rfl, _⟩ := h
    rfl
  · obtain ⟨a, u, n, rfl, ⟨p0, p1, p2, hp, h1, h1', h2, h2'⟩, hn, u0, u1, k⟩ := h
    refine ⟨_, pss_cons (ps_if (pt_cmpR op_gt (pe_ix ix_list (pv 0) pe_int (fun _ _ => rfl)) pe_int (nomark _))
        (pss_cons (ps_set (i := 2) scTake.nd rfl (Or.inl rfl) (pe_op op_mod (pe_callTy call_int1 (by rfl) T.int (by decide +kernel) (pa_cons (pe_ix ix_list (pv 0) pe_int (fun _ _ => rfl)) pa_nil)) (pv 1)))
        (pss_cons (ps_asg (pe_op op_fdiv (pe_ix ix_list (pv 0) pe_int (fun _ _ => rfl)) (pv 1)) (pg_sub (pv 0) pe_int set_list))
        (pss_one (ps_ret (pv 2))))) pss_nil)
      (pss_cons (ps_asg (pe_op op_add (pe_ix ix_list (pv 0) pe_int (fun _ _ => rfl)) pe_int) (pg_sub (pv 0) pe_int set_list))
      (pss_cons (ps_set (i := 3) scTake.nd rfl (Or.inl rfl) (pe_ix ix_list (pe_lst (pa_cons pe_int (pa_cons pe_int (pa_cons pe_int (pa_cons pe_int pa_nil)))))
          (pe_op op_mod (pe_callTy call_int1 (by rfl) T.int (by decide +kernel) (pa_cons (pe_ix ix_list (pv 0) pe_int (fun _ _ => rfl)) pa_nil)) pe_int) (fun _ _ => rfl)))
      (pss_cons (ps_set (i := 4) scTake.nd rfl (Or.inl rfl) (pe_op op_mod (pe_callTy call_int1 (by rfl) T.int (by decide +kernel) (pa_cons
          (pe_op op_pow (pe_callTy call_int1 (by rfl) T.int (by decide +kernel) (pa_cons (pe_op op_add (pe_op op_add (pe_ix ix_list (pv 0) pe_int (fun _ _ => rfl))
            (pe_op op_mul (pe_op op_mul pe_int (pe_ix ix_list (pv 0) pe_int (fun _ _ => rfl))) (pe_ix ix_list (pv 0) pe_int (fun _ _ => rfl)))) pe_int) pa_nil)) pe_int) pa_nil)) (pv 3)))
      (pss_one (ps_ret (pe_op op_mod (pe_callTy call_int1 (by rfl) T.int (by decide +kernel) (pa_cons (pe_op op_fdiv (pe_op op_mul (pv 4)
          (pe_op op_add (pe_op op_mod (pe_callTy call_int1 (by rfl) T.int (by decide +kernel) (pa_cons (pv 4) pa_nil)) pe_int) (pe_op op_mul pe_int (pe_ix ix_list (pv 0) pe_int (fun _ _ => rfl))))) pe_int) pa_nil)) (pv 1))))))), ?_⟩
    refine ⟨_, rfl, a, _, 0, _, rfl, rfl, SqL.of hp, rfl, _, _, rfl, rfl, _, rfl, ?_⟩
    refine ite2 (fun hpos => ?_) (fun _ => ?_)
    · refine ⟨_, rfl, a, _, 0, _, rfl, rfl, SqL.of hp, rfl, .inl ⟨_, rfl, _, rfl, _, _, rfl, rfl, u0, ?_⟩⟩
      refine ⟨_, rfl, a, _, 0, _, rfl, rfl, SqL.of hp, rfl, _, rfl, _, _, rfl, rfl, ⟨u0, by omega⟩, ?_⟩
      refine ⟨_, rfl, a, _, 0, 0, rfl, rfl, hp, rfl, ?_⟩
      refine ⟨_, rfl, ?_⟩
      refine k _ _ (Int.emod_nonneg _ (by omega)) (Int.emod_lt_of_pos _ u0) (fun b o hb e => by rw [upd_ne hb]; exact e) ⟨_, p1, p2, upd_same, h1, h1', h2, by omega⟩
    · refine ⟨_, rfl, a, _, 2, _, rfl, rfl, SqL.of hp, rfl, _, _, rfl, rfl, ?_⟩
      refine ⟨_, rfl, a, _, 2, 2, rfl, rfl, hp, rfl, ?_⟩
      generalize hH1 : upd H a _ = H1
      have hp1 : H1 a = some (.lst [.int p0, .int p1, .int (p2 + 1)]) := by rw [← hH1]; exact upd_same
      have b1 : But a H H1 := fun b o hb e => by rw [← hH1, upd_ne hb]; exact e
      refine ⟨by show 4 ≤ sizeLine; decide, fun q nq => ?_⟩
      have m0 : (0 : Int) ≤ (p2 + 1) % 4 := Int.emod_nonneg _ (by decide)
      have m1 : (p2 + 1) % 4 < 4 := Int.emod_lt_of_pos _ (by decide)
      obtain ⟨r, hr4, hrr⟩ := at4 2147483647 2147483629 2147483587 2147483579 _ m0 m1
      generalize hH2 : upd H1 q _ = H2
      have s2 : Same H1 H2 := fun b o e => by rw [← hH2, upd_ne (ne_of_none e nq)]; exact e
      have hq : H2 q = some (.lst [.int 2147483647, .int 2147483629, .int 2147483587, .int 2147483579]) := by rw [← hH2]; exact upd_same
      have hp2 := s2 _ _ hp1
      clear hH1 hH2
      refine ⟨_, rfl, a, _, 2, _, rfl, rfl, SqL.of hp2, rfl, .inl ⟨_, rfl, _, _, rfl, rfl, (by show (0 : Int) < 4; decide), ?_⟩⟩
      refine ⟨q, _, _, _, rfl, rfl, SqL.of hq, hr4, ?_⟩
      refine ⟨_, rfl, a, _, 1, _, rfl, rfl, SqL.of hp2, rfl, _, rfl, a, _, 2, _, rfl, rfl, SqL.of hp2, rfl, _, _, rfl, rfl, .inl ⟨by decide, by decide⟩, ?_⟩
      have sq : (p2 + 1) * (p2 + 1) ≤ 1000000 * 1000000 := Int.mul_le_mul (by omega) (by omega) (by omega) (by omega)
      have sq0 : 0 ≤ (p2 + 1) * (p2 + 1) := Int.mul_nonneg (by omega) (by omega)
      have base0 : 0 ≤ p1 + 209731 * (p2 + 1) * (p2 + 1) + 9487 ∧ p1 + 209731 * (p2 + 1) * (p2 + 1) + 9487 < 2 ^ 64 := by
        rw [Int.mul_assoc]; omega
      refine ⟨_, rfl, a, _, 2, _, rfl, rfl, SqL.of hp2, rfl, _, _, rfl, rfl, .inl ⟨by omega, by omega⟩, _, _, rfl, rfl, _, _, rfl, rfl, ?_⟩
      refine .inl ⟨_, rfl, _, _, rfl, rfl, ⟨by decide, by decide, ?_⟩, .inl ⟨_, rfl, _, rfl, _, _, rfl, rfl, ?_, ?_⟩⟩
      · show (p1 + 209731 * (p2 + 1) * (p2 + 1) + 9487).natAbs < 2 ^ 64
        omega
      · show (0 : Int) < r
        omega
      have r0 : 0 < r := by omega
      have key : ∀ x : Int, -(2 ^ 64) < x % r ∧ x % r < 2 ^ 64 := fun x => by
        have z1 := Int.emod_nonneg x (b := r) (by omega)
        have z2 := Int.emod_lt_of_pos x r0
        omega
      refine ⟨_, rfl, _, rfl, .inl ⟨_, rfl, _, _, rfl, rfl, (by show (0 : Int) < 10007; decide), _, rfl, a, _, 2, _, rfl, rfl, SqL.of hp2, rfl, _, _, rfl, rfl, .inl ⟨by decide, by decide⟩, ?_⟩⟩
      refine ⟨_, _, rfl, rfl, _, _, rfl, rfl, .inl (key _), _, _, rfl, rfl, ⟨by decide, by decide⟩, ?_⟩
      refine .inl ⟨_, rfl, _, rfl, _, _, rfl, rfl, u0, ?_⟩
      refine k _ _ (Int.emod_nonneg _ (by omega)) (Int.emod_lt_of_pos _ u0) (fun b o hb e => s2 _ _ (b1 b o hb e)) ⟨_, p1, p2 + 1, hp2, h1, h1', by omega, by omega⟩

/-- an expression's answer told by a word of its own -/
def tCut (te : TE) : TE := fun σ H Q => ∃ C : V → Hp → Prop, te σ H C ∧ ∀ v H1, C v H1 → Q v H1
theorem pe_cut {X : Cx} {e : Expr} {te : TE} (he : PE X e te) : PE X e (tCut te) := by
  refine ⟨fun pins s σ H Q I h => ?_⟩
  obtain ⟨C, h1, k⟩ := h
  exact wpAny_mono (he.run pins s σ H C I h1) (fun v s1 ⟨x, H1, I1, r1, q1⟩ => ⟨x, H1, I1, r1, k _ _ q1⟩) fun _ _ z => z
/-- a power of two written numbers -/
def CPowW (i j : Int) : Prop := 0 ≤ j ∧ (Builtin.Int.intBits i : Int) * j ≤ 2 ^ 27
theorem op_powW {X : Cx} : OpR X (binaryOp .Pow) (rI CPowW fun i j => .int (i ^ j.toNat)) := opI fun _ _ _ _ _ _ _ hc q => pow_int hc.1 hc.2 q
theorem flagMul (b : Bool) : -(2 ^ 64) < (if b = true then (1 : Int) else 0) ∧ (if b = true then (1 : Int) else 0) < 2 ^ 64 := by cases b <;> decide
def spPot (K : PySem.W.Frag) : Sp := fun vs H Q _ => ∃ (a : Addr) (ns : List Int) (p : Nat), vs = [.ref a, .int (p : Nat)] ∧ SqL K H a (ns.map V.int) ∧ p ≤ 3 ∧ ∀ q H', Same H H' → H q = none → Pot H' q 0 → Q (.ref q) H'
theorem cutHead {xs : List V} : cutV xs none (some 1) = xs.take 1 := by
  unfold cutV
  rw [HT.sIx_none]
  have h1 : HT.sIx xs.length xs.length (some 1) = min 1 xs.length := HT.sIx_nat xs.length xs.length 1
  rw [h1]
  simp
theorem ok_pot (F : Fn K mg "_law_pot" (top 35)) (T : Tx K w mg dL aL) : Cl P w K mg base CX0 1 "_law_pot" (spPot K) := by
  have sc : FnScope ["script", "place", "cell", "own", "small"] ["script", "place"] (defScope (top 35)) := ⟨rfl, rfl, rfl, by decide +kernel, rfl, by decide +kernel, by decide +kernel⟩
  refine F.cl sc (fun vs H Q E h => ?_) (fun _ _ _ _ _ _ us hl => match us, hl with | [_, _], _ => rfl) (fun f cdv A outer s H vs Q E hr h => ?_)
  · obtain ⟨a, ns, p, rfl, _⟩ := h; rfl
  · obtain ⟨a, ns, p, rfl, ha, hp, q⟩ := h
    have nd := sc.nd
    refine ⟨_, pss_cons (ps_set (i := 2) nd rfl (Or.inl rfl) (pe_cut (pe_ifExp (pt_cmpR op_lt (pv 1) (pe_callB call_len_seq (by rfl) T.len PySem.boot_len (pa_cons (pv 0) pa_nil)) (nomark _)) (pe_ix ix_list (pv 0) (pv 1) (fun _ _ => rfl))
        (pe_op op_add (pe_op op_add (pe_op op_mod (pe_callTy call_int1 (by rfl) T.int (by decide +kernel) (pa_cons (pe_callB (cr_sum rfl) (by rfl) T.sum (by decide +kernel) (pa_cons (pe_slice sl_list (pv 0) po_none (po_some pe_int)) pa_nil)) pa_nil)) pe_int) (pe_op op_mul pe_int (pv 1))) pe_int))))
      (pss_cons (ps_set (i := 3) nd rfl (Or.inl rfl) (pe_op op_mul (pe_op op_mod (pe_callTy call_int1 (by rfl) T.int (by decide +kernel) (pa_cons (pe_callB call_abs (by rfl) T.abs (by decide +kernel) (pa_cons (pv 2) pa_nil)) pa_nil)) (pe_op op_powW (pe_op op_powW pe_int pe_int) pe_int))
        (pe_callTy call_int1 (by rfl) T.int (by decide +kernel) (pa_cons (pe_cmpR op_ge (pe_callB call_abs (by rfl) T.abs (by decide +kernel) (pa_cons (pv 2) pa_nil)) (pe_op op_powW pe_int pe_int) (nomark _)) pa_nil))))
      (pss_cons (ps_set (i := 4) nd rfl (Or.inl rfl) (pe_op op_mod (pe_callTy call_int1 (by rfl) T.int (by decide +kernel) (pa_cons (pv 2) pa_nil)) pe_int))
      (pss_one (ps_ret (pe_lst (pa_cons (pv 3) (pa_cons (pe_op op_mod (pe_callTy call_int1 (by rfl) T.int (by decide +kernel) (pa_cons (pe_op op_add (pe_op op_add (pe_op op_mul (pv 4) pe_int) (pe_op op_mul (pe_op op_mul pe_int (pv 1)) (pv 1))) pe_int) pa_nil)) pe_int) (pa_cons pe_int pa_nil)))))))), ?_⟩
    refine ⟨fun v H1 => (∃ c : Int, v = .int c) ∧ Same H H1, ⟨_, rfl, _, rfl, a, _, rfl, .inl ha, _, _, rfl, rfl, _, rfl, ite2 (fun z => ?_) (fun z => ?_)⟩, ?_⟩
    rotate_left 2
    · rintro v H1 ⟨⟨c, rfl⟩, sm⟩
      refine ⟨_, rfl, _, rfl, .inl ⟨_, rfl, ?_⟩⟩
      refine ⟨_, _, rfl, rfl, ⟨by decide, by decide +kernel⟩, _, _, rfl, rfl, ⟨by decide, by decide +kernel⟩, _, _, rfl, rfl, (show (0 : Int) < (10 ^ (60 : Int).toNat) ^ (5 : Int).toNat by decide +kernel), ?_⟩
      generalize (10 ^ (60 : Int).toNat : Int) ^ (5 : Int).toNat = M
      refine ⟨_, rfl, _, rfl, _, _, rfl, rfl, ⟨by decide, by decide +kernel⟩, _, _, rfl, rfl, .inr ⟨_, rfl, _, _, rfl, rfl, .inr (flagMul _), ?_⟩⟩
      generalize (if c < 0 then -c else c) % M * _ = own
      have z1 : 0 ≤ c % 2305843009213693951 := Int.emod_nonneg _ (by decide)
      have z2 : c % 2305843009213693951 < 2305843009213693951 := Int.emod_lt_of_pos _ (by decide)
      refine ⟨_, rfl, .inl ⟨_, rfl, _, _, rfl, rfl, (by show (0 : Int) < 2305843009213693951; decide), ?_⟩⟩
      generalize c % 2305843009213693951 = small at z1 z2
      refine ⟨_, rfl, _, rfl, _, _, rfl, rfl, .inl ⟨by omega, by omega⟩, _, rfl, _, _, rfl, rfl, .inl ⟨by decide, by decide⟩, _, rfl, _, _, rfl, rfl, .inl ⟨by omega, by omega⟩, _, _, rfl, rfl, _, _, rfl, rfl, .inl ⟨_, rfl, _, _, rfl, rfl, (by show (0 : Int) < 2305843009213693921; decide), (by show 3 ≤ sizeLine; decide), fun l nl => ?_⟩⟩
      refine q l _ (sm.trans (same_new nl)) (sm.free nl) ⟨_, _, 0, upd_same, Int.emod_nonneg _ (by decide), ?_, Int.le_refl _, Int.le_refl _⟩
      have := Int.emod_lt_of_pos (small * 132551 + 22417 * (p : Int) * (p : Int) + 11243) (show (0 : Int) < 2305843009213693921 by decide)
      omega
    · have lt : p < ns.length := by have := of_decide_eq_true z; rw [List.length_map] at this; omega
      refine ⟨_, rfl, _, rfl, a, _, _, .int ns[p], rfl, rfl, ha, atI_nat (by simp [lt]), ?_⟩
      generalize ns[p] = c
      have sm := Same.refl H
      exact ⟨⟨c, rfl⟩, sm⟩
    · refine ⟨_, rfl, _, rfl, a, _, rfl, ha, fun t nt => ?_⟩
      have sm : Same H (upd H t (.lst (cutV (ns.map V.int) none (some 1)))) := same_new nt
      have cut : cutV (ns.map V.int) none (some 1) = (ns.take 1).map V.int := by rw [cutHead, List.map_take]
      refine ⟨t, ns.take 1, rfl, SqL.of (by rw [← cut]; exact upd_same), .inl ⟨_, rfl, _, _, rfl, rfl, (by show (0 : Int) < 1000003; decide), _, rfl, _, _, rfl, rfl, .inl ⟨by decide, by decide⟩, _, _, rfl, rfl, _, _, rfl, rfl, ?_⟩⟩
      exact ⟨⟨_, rfl⟩, sm⟩
end
end Rf
end -- M10
section -- M11
set_option Elab.async false
set_option maxRecDepth 100000
set_option maxHeartbeats 4000000
set_option pp.maxSteps 600
set_option pp.deepTerms false
set_option linter.all false
namespace Rf
open PySem L2 PyProof.Rows StX
theorem mapErase {α β : Type} (f : α → β) : ∀ (l : List α) (k : Nat), (l.map f).eraseIdx k = (l.eraseIdx k).map f
  | [], _ => rfl
  | _ :: _, 0 => rfl
  | x :: l, k + 1 => by simp [List.eraseIdx, mapErase f l k]
theorem erasePerm {α : Type} : ∀ {l : List α} {k : Nat} (h : k < l.length), (l[k] :: l.eraseIdx k).Perm l
  | x :: l, 0, _ => List.Perm.refl _
  | x :: l, k + 1, h => by
    have h' : k < l.length := by simpa using h
    exact (List.Perm.swap _ _ _).trans (List.Perm.cons _ (erasePerm h'))
theorem Pot.mono {H : Hp} {a : Addr} {n m : Int} (h : Pot H a n) (l : n ≤ m) : Pot H a m := by
  obtain ⟨p0, p1, p2, h1, h2, h3, h4, h5⟩ := h
  exact ⟨p0, p1, p2, h1, h2, h3, h4, by omega⟩
theorem Pot.same {H H' : Hp} {a : Addr} {n : Int} (h : Pot H a n) (s : Same H H') : Pot H' a n := by
  obtain ⟨p0, p1, p2, h1, h2⟩ := h
  exact ⟨p0, p1, p2, s _ _ h1, h2⟩
theorem Pot.flat {H : Hp} {a : Addr} {n : Int} (h : Pot H a n) : Flat H a := by
  obtain ⟨p0, p1, p2, h1, h2⟩ := h
  exact flat_lst h1
theorem Pot.ne {H : Hp} {a b : Addr} {n : Int} (h : Pot H a n) (e : H b = none) : b ≠ a := fun z => by
  obtain ⟨p0, p1, p2, h1, h2⟩ := h
  rw [z, h1] at e
  cases e
section
variable {P : Program} {w : World} {K : PySem.W.Frag} {mg : Str → Option Value} {base : Heap} {dL aL : Addr}
def spOf : Sp := fun vs H Q _ => ∃ (a b : Addr) (n : Int) (xs : List V), vs = [.ref a, .ref b] ∧ Pot H a n ∧ n + 1 ≤ 1000000 ∧ H b = some (.lst xs) ∧ b ≠ a ∧ 0 < xs.length ∧ xs.length < 1000000 ∧
  ∀ v H', v ∈ xs → But a H H' → Pot H' a (n + 1) → Q v H'
theorem ok_of (F : Fn K mg "_law_of" (top 37)) (T : Tx K w mg dL aL) (G1 : Cl P w K mg base CX0 1 "_law_take" spTake) : Cl P w K mg base CX0 2 "_law_of" spOf := by
  have sc : FnScope ["pot", "some"] ["pot", "some"] (defScope (top 37)) := ⟨rfl, rfl, rfl, by decide +kernel, rfl, by decide +kernel, by decide +kernel⟩
  refine F.cl sc (fun vs H Q E h => ?_) (fun _ _ _ _ _ _ us hl => match us, hl with | [_, _], _ => rfl) (fun f cdv A outer s H vs Q E hr h => ?_)
  · obtain ⟨a, b, n, xs, rfl, _⟩ := h; rfl
  · obtain ⟨a, b, n, xs, rfl, hp, hn, hb, ne, l0, l1, q⟩ := h
    refine ⟨_, pss_one (ps_ret (pe_ix ix_list (pv 1) (pe_cl G1 hr (by rfl) (pa_cons (pv 0) (pa_cons (pe_callB call_len_seq (by rfl) T.len PySem.boot_len (pa_cons (pv 1) pa_nil)) pa_nil))) (fun _ _ => rfl))), ?_⟩
    refine ⟨_, rfl, _, rfl, _, rfl, b, xs, rfl, .inl (SqL.of hb), a, _, n, rfl, hp, hn, by omega, by omega, fun d H' d0 d1 but pot' => ?_⟩
    obtain ⟨k, rfl⟩ := Int.eq_ofNat_of_zero_le d0
    have lt : k < xs.length := by omega
    exact ⟨b, xs, _, xs[k], rfl, rfl, SqL.of (but _ _ ne hb), atI_nat (List.getElem?_eq_getElem lt), q _ _ (List.getElem_mem lt) but pot'⟩
def spCells (K : PySem.W.Frag) : Sp := fun vs H Q _ => ∃ (a : Addr) (ns : List Int), vs = [.ref a, .int 3] ∧ SqL K H a (ns.map V.int) ∧
  ∀ q ys H', Same H H' → H q = none → H' q = some (.lst ys) → ys.length ≤ 3 → (∀ v ∈ ys, ∃ p : Nat, p ≤ 3 ∧ v = .int (p : Nat)) → Q (.ref q) H'
theorem ok_cells (F : Fn K mg "_law_cells" (top 38)) (T : Tx K w mg dL aL) : Cl P w K mg base CX0 1 "_law_cells" (spCells K) := by
  have sc : FnScope ["script", "limit"] ["script", "limit"] (defScope (top 38)) := ⟨rfl, rfl, rfl, by decide +kernel, rfl, by decide +kernel, by decide +kernel⟩
  refine F.cl sc (fun vs H Q E h => ?_) (fun _ _ _ _ _ _ us hl => match us, hl with | [_, _], _ => rfl) (fun f cdv A outer s H vs Q E hr h => ?_)
  · obtain ⟨a, ns, rfl, _⟩ := h; rfl
  · obtain ⟨a, ns, rfl, ha, q⟩ := h
    refine ⟨_, pss_one (ps_ret (pe_listRg (by rfl) (by rfl) T.list (prg_1 (by rfl) T.range (pe_callB (call_max2 rfl) (by rfl) T.max (by decide +kernel) (pa_cons pe_int (pa_cons (pe_callB (call_min2 rfl) (by rfl) T.min (by decide +kernel) (pa_cons (pv 1) (pa_cons (pe_callB call_len_seq (by rfl) T.len PySem.boot_len (pa_cons (pv 0) pa_nil)) pa_nil))) pa_nil)))))), ?_⟩
    refine ⟨_, rfl, _, rfl, a, _, rfl, .inl ha, _, _, rfl, _, _, rfl, _, rfl, ?_⟩
    have bd : ∀ m : Int, (if m > 1 then m else 1) ≤ max m 1 := fun m => by split <;> omega
    have key : ∀ l : Int, 0 ≤ l → ∃ m : Nat, m ≤ 3 ∧ (if (if l < 3 then l else 3) > 1 then (if l < 3 then l else 3) else 1) = (m : Int) := fun l hl => by
      refine ⟨(if (if l < 3 then l else 3) > 1 then (if l < 3 then l else 3) else 1).toNat, ?_, ?_⟩ <;> split <;> split <;> omega
    obtain ⟨m, m3, em⟩ := key _ (Int.natCast_nonneg (ns.map V.int).length)
    rw [em]
    refine ⟨RgOk.of_le (by omega) (by omega) (by omega) (by omega), fun l nl => q l _ _ (same_new nl) nl upd_same ?_ ?_⟩
    · rw [rgV_length]; omega
    · intro v hv
      unfold rgV at hv
      obtain ⟨i, hi, rfl⟩ := List.mem_map.mp hv
      have := List.mem_range.mp hi
      exact ⟨i, by omega, by rw [Int.zero_add]⟩
def spSome : Sp := fun vs H Q _ => ∃ (a b : Addr) (n : Int) (xs : List Str) (m : Int), vs = [.ref a, .ref b, .int m] ∧ Pot H a n ∧ n + 8 ≤ 1000000 ∧ H b = some (.lst (xs.map V.str)) ∧ b ≠ a ∧ xs.length ≤ 8 ∧ 0 ≤ m ∧ m ≤ 8 ∧
  ∀ (q : Addr) (ys : List Str) (H' : Hp), But a H H' → H q = none → Pot H' a (n + 8) → H' q = some (.lst (ys.map V.str)) → (∃ zs : List Str, (ys ++ zs).Perm xs) → Q (.ref q) H'
theorem seqIx {d : Nat} {n : Nat} (h : d < n) : seqIndex? (d : Int) n = some d := by
  unfold seqIndex?
  have h1 : ¬ ((d : Int) < 0) := by omega
  simp [h1, h]
theorem ok_some (F : Fn K mg "_law_some" (top 39)) (T : Tx K w mg dL aL) (G1 : Cl P w K mg base CX0 1 "_law_take" spTake) : Cl P w K mg base CX0 2 "_law_some" spSome := by
  have sc : FnScope ["pot", "things", "number", "left", "found", "lap"] ["pot", "things", "number"] (defScope (top 39)) := ⟨rfl, rfl, rfl, by decide +kernel, rfl, by decide +kernel, by decide +kernel⟩
  refine F.cl sc (fun vs H Q E h => ?_) (fun _ _ _ _ _ _ us hl => match us, hl with | [_, _, _], _ => rfl) (fun f cdv A outer s H vs Q E hr h => ?_)
  · obtain ⟨a, b, n, xs, m, rfl, _⟩ := h; rfl
  · obtain ⟨a, b, n, xs, m, rfl, hp, hn, hb, ne, l8, m0, m8, q⟩ := h
    have nd := sc.nd
    have big : 1000 < sizeLine := by decide
    refine ⟨_, pss_cons (ps_par (i := 3) (j := 4) (by rfl) nd rfl rfl (by decide) rfl rfl (pa_cons (pe_callTy call_list_of (by rfl) T.list (by decide +kernel) (pa_cons (pv 1) pa_nil)) (pa_cons (pe_lst pa_nil) pa_nil)) (by rfl))
      (pss_cons (ps_for PassesOwn.never rfl (pi_range1 (by rfl) T.range (pa_cons (pe_callB (call_min2 rfl) (by rfl) T.min (by decide +kernel) (pa_cons (pv 2) (pa_cons (pe_callB call_len_seq (by rfl) T.len PySem.boot_len (pa_cons (pv 3) pa_nil)) pa_nil))) pa_nil)) (pg_name (i := 5) nd rfl (.inl rfl))
        (pss_one (ps_expr (pe_bm PySem.F.plainAttrs_list PySem.F.slot_list_append PySem.F.type_list_append mt_append (pv 4) (pa_cons (pe_bm PySem.F.plainAttrs_list PySem.F.slot_list_pop PySem.F.type_list_pop mt_popAt (pv 3) (pa_cons
          (pe_cl G1 hr (by rfl) (pa_cons (pv 0) (pa_cons (pe_callB call_len_seq (by rfl) T.len PySem.boot_len (pa_cons (pv 3) pa_nil)) pa_nil))) pa_nil)) pa_nil)))))
      (pss_one (ps_ret (pv 4)))), ?_⟩
    refine ⟨_, rfl, b, _, rfl, .inl (SqL.of hb), fun l nl => ⟨(by show 0 ≤ sizeLine; decide), fun g ng => ⟨_, _, rfl, ?_⟩⟩⟩
    have ng0 : H g = none := (same_new nl).free ng
    have gl : g ≠ l := fun z => by rw [z, upd_same] at ng; cases ng
    have s2 : Same H (upd (upd H l (.lst (xs.map V.str))) g (.lst [])) := (same_new nl).trans (same_new ng)
    have hl2 : upd (upd H l (.lst (xs.map V.str))) g (.lst []) l = some (.lst (xs.map V.str)) := by rw [upd_ne (Ne.symm gl)]; exact upd_same
    have hg2 : upd (upd H l (.lst (xs.map V.str))) g (.lst []) g = some (.lst []) := upd_same
    revert s2 hl2 hg2
    generalize upd (upd H l (.lst (xs.map V.str))) g (.lst []) = H2
    intro s2 hl2 hg2
    have la : l ≠ a := hp.ne nl
    have ga : g ≠ a := hp.ne ng0
    obtain ⟨N, eN, N0, Nm, Nl⟩ : ∃ N : Int, (if ((xs.map V.str).length : Int) < m then ((xs.map V.str).length : Int) else m) = N ∧ 0 ≤ N ∧ N ≤ m ∧ N ≤ xs.length := by
      refine ⟨_, rfl, ?_, ?_, ?_⟩ <;> rw [List.length_map] <;> split <;> omega
    refine ⟨_, rfl, _, rfl, l, _, rfl, .inl (SqL.of hl2), _, _, rfl, ?_⟩
    rw [eN]
    refine ⟨_, rfl, by omega, by omega, ?_⟩
    refine for_range (n := N.toNat) (fun i σ H' => ∃ (ls fs : List Str) (p5 : Option V), σ = [some (.ref a), some (.ref b), some (.int m), some (.ref l), some (.ref g), p5] ∧ H' l = some (.lst (ls.map V.str)) ∧ H' g = some (.lst (fs.map V.str)) ∧ (fs ++ ls).Perm xs ∧ fs.length = i ∧ Pot H' a (n + (i : Nat)) ∧ But a H H') ?_ ?_ ?_
    · exact ⟨xs, [], none, rfl, hl2, hg2, by simp, rfl, (hp.same s2).mono (by simp), But.of_same s2⟩
    · rintro i σ H1 hi ⟨ls, fs, p5, rfl, h1, h2, pm, lf, hp1, but⟩
      have pl := pm.length_eq
      rw [List.length_append] at pl
      have lpos : 0 < ls.length := by omega
      refine ⟨_, rfl, .inl ⟨rfl, _, SqL.of h2⟩, ?_⟩
      refine ⟨_, rfl, .inl ⟨rfl, _, SqL.of h1⟩, ?_⟩
      refine ⟨_, rfl, _, rfl, l, _, rfl, .inl (SqL.of h1), a, _, n + (i : Nat), rfl, hp1, by omega, by rw [List.length_map]; omega, by rw [List.length_map]; omega, fun d H2 d0 d1 b2 hp2 => ?_⟩
      obtain ⟨k, rfl⟩ := Int.eq_ofNat_of_zero_le d0
      rw [List.length_map] at d1
      have lt : k < ls.length := by omega
      refine ⟨l, ls.map V.str, _, k, .str ls[k], rfl, rfl, b2 _ _ la h1, by omega, by omega, seqIx (by rw [List.length_map]; exact lt), by simp [lt], ?_⟩
      have hg3 : upd H2 l (.lst ((ls.map V.str).eraseIdx k)) g = some (.lst (fs.map V.str)) := by rw [upd_ne gl]; exact b2 _ _ ga h2
      refine ⟨g, _, _, rfl, rfl, hg3, by rw [List.length_map]; omega, ?_⟩
      refine ⟨ls.eraseIdx k, fs ++ [ls[k]], _, rfl, ?_, ?_, ?_, by simp [lf], ?_, ?_⟩
      · rw [upd_ne (Ne.symm gl), upd_same, mapErase]
      · rw [upd_same, List.map_append]; rfl
      · refine List.Perm.trans ?_ pm
        rw [List.append_assoc]
        exact List.Perm.append_left fs (erasePerm lt)
      · obtain ⟨p0, p1, p2, e1, r⟩ := hp2
        exact ⟨p0, p1, p2, by rw [upd_ne (Ne.symm ga), upd_ne (Ne.symm la)]; exact e1, by simpa [Int.add_assoc] using r⟩
      · intro c o nc e
        have cl : c ≠ l := ne_of_none e nl
        have cg : c ≠ g := ne_of_none e ng0
        rw [upd_ne cg, upd_ne cl]
        exact b2 _ _ nc (but _ _ nc e)
    · rintro σ H1 ⟨ls, fs, p5, rfl, h1, h2, pm, lf, hp1, but⟩
      exact ⟨_, rfl, q g fs H1 but ng0 (hp1.mono (by omega)) h2 ⟨ls, pm⟩⟩
end
end Rf
end -- M11
section -- M12
set_option Elab.async false
set_option maxRecDepth 100000
set_option maxHeartbeats 4000000
set_option pp.maxSteps 600
set_option pp.deepTerms false
set_option linter.all false
namespace Rf
open PySem L2 PyProof.Rows StX
theorem But.sv {K : PySem.W.Frag} {a : Addr} {H H' : Hp} {n : Int} {s : Sy} {v : V} (b : But a H H') (p : Pot H a n) (h : Sv K H s v) : Sv K H' s v := h.but b p.flat
theorem But.upd {a b : Addr} {H : Hp} {o : HO} (h : H b = none) : But a H (upd H b o) := But.of_same (same_new h)
section
variable {P : Program} {w : World} {K : PySem.W.Frag} {mg : Str → Option Value} {base : Heap} {dL aL : Addr}
def spSay (K : PySem.W.Frag) (N : Nat) : Sp := fun vs H Q _ => ∃ (a : Addr) (n L m : Int), vs = [.ref a, .int L, .int m, .bl true] ∧ Pot H a n ∧ 1 ≤ L ∧ L ≤ 12 ∧ 1 ≤ m ∧ m ≤ 100 ∧ m ≤ N ∧ n + 5 * m ≤ 1000000 ∧
  ∀ v (s : Sy) H', But a H H' → Pot H' a (n + 5 * m) → Sv K H' s v → s.Good → (s.size : Int) ≤ m → Q v H'
theorem sign12 : ∀ k : Nat, k < 12 → ∃ c, ("abcdefghijkl" : Str).cps.toList[k]? = some c ∧ (⟨#[c]⟩ : Str) ∈ letV := by decide +kernel
theorem scSay : FnScope ["pot", "letters", "words", "but", "first", "word"] ["pot", "letters", "words", "but"] (defScope (top 41)) := ⟨rfl, rfl, rfl, by decide +kernel, rfl, by decide +kernel, by decide +kernel⟩
theorem ok_say (F : Fn K mg "_law_saying" (top 41)) (G1 : Cl P w K mg base CX0 1 "_law_take" spTake) (G2 : Cl P w K mg base CX0 2 "_law_of" spOf) : ∀ N, Cl P w K mg base CX0 (N + 3) "_law_saying" (spSay K N) := by
  have nd := scSay.nd
  intro N
  induction N with
  | zero =>
    refine F.cl scSay (fun vs H Q E h => ?_) (fun _ _ _ _ _ _ us hl => match us, hl with | [_, _, _, _], _ => rfl) (fun f cdv A outer s H vs Q E hr h => ?_)
    · obtain ⟨a, n, L, m, rfl, _⟩ := h; rfl
    · obtain ⟨a, n, L, m, rfl, hp, l1, l2, m1, m100, m2, _⟩ := h
      exact absurd m2 (by omega)
  | succ N ih =>
    refine F.cl scSay (fun vs H Q E h => ?_) (fun _ _ _ _ _ _ us hl => match us, hl with | [_, _, _, _], _ => rfl) (fun f cdv A outer s H vs Q E hr h => ?_)
    · obtain ⟨a, n, L, m, rfl, _⟩ := h; rfl
    · obtain ⟨a, n, L, m, rfl, hp, l1, l2, m1, m100, m2, hn, q⟩ := h
      refine ⟨_, pss_cons (ps_if (PW.pt (pw_or (pt_cmpR op_lt (pv 2) pe_int (nomark _)) (pw_or1 (pt_cmpR op_eq (pe_cl G1 (hr.mono (by omega)) (by rfl) (pa_cons (pv 0) (pa_cons pe_int pa_nil))) pe_int (nomark _)))))
          (pss_one (ps_ret (pe_tup (pa_cons pe_str (pa_cons (pe_ix ix_str pe_str (pe_cl G1 (hr.mono (by omega)) (by rfl) (pa_cons (pv 0) (pa_cons (pv 1) pa_nil))) (fun _ _ => rfl)) pa_nil))))) pss_nil)
        (pss_cons (ps_if (PW.pt (pw_or (pt_cmpR op_eq (pv 2) pe_int (nomark _)) (pw_or1 (pt_cmpR op_eq (pe_cl G1 (hr.mono (by omega)) (by rfl) (pa_cons (pv 0) (pa_cons pe_int pa_nil))) pe_int (nomark _)))))
          (pss_one (ps_ret (pe_tup (pa_cons pe_str (pa_cons (pe_cl ih hr (by rfl) (pa_cons (pv 0) (pa_cons (pv 1) (pa_cons (pe_op op_sub (pv 2) pe_int) (pa_cons (pv 3) pa_nil))))) pa_nil))))) pss_nil)
        (pss_cons (ps_set (i := 4) nd rfl (Or.inl rfl) (pe_op op_add pe_int (pe_cl G1 (hr.mono (by omega)) (by rfl) (pa_cons (pv 0) (pa_cons (pe_op op_sub (pv 2) pe_int) pa_nil)))))
        (pss_cons (ps_set (i := 5) nd rfl (Or.inl rfl) (pe_cl G2 (hr.mono (by omega)) (by rfl) (pa_cons (pv 0) (pa_cons (pe_lst (pa_cons pe_str (pa_cons pe_str (pa_cons pe_str (pa_cons pe_str (pa_cons (pe_ifExp (pt_val (pv 3)) pe_str pe_str) pa_nil)))))) pa_nil))))
        (pss_one (ps_ret (pe_tup (pa_cons (pv 5) (pa_cons (pe_cl ih hr (by rfl) (pa_cons (pv 0) (pa_cons (pv 1) (pa_cons (pv 4) (pa_cons (pv 3) pa_nil)))))
          (pa_cons (pe_cl ih hr (by rfl) (pa_cons (pv 0) (pa_cons (pv 1) (pa_cons (pe_op op_sub (pe_op op_sub (pv 2) pe_int) (pv 4)) (pa_cons (pv 3) pa_nil))))) pa_nil))))))))), ?_⟩
      -- a letter
      have letter : ∀ (H1 : Hp) (n1 : Int), But a H H1 → Pot H1 a n1 → n1 + 1 ≤ n + 5 * m →
          tTup (tCons (tC (.str "letter")) (tCons (tOp (rIxS) (tC (.str "abcdefghijkl")) (tCall spTake [] E0 (tCons (tVar 0) (tCons (tVar 1) tNil)))) tNil)) (L2.start ["pot", "letters", "words", "but", "first", "word"] [V.ref a, .int L, .int m, .bl true]) H1 Q := by
        intro H1 n1 b1 p1 le
        refine ⟨_, rfl, _, rfl, a, L, n1, rfl, p1, by omega, by omega, by omega, fun d H2 d0 d1 b2 p2 => ?_⟩
        obtain ⟨k, rfl⟩ := Int.eq_ofNat_of_zero_le d0
        obtain ⟨c, hc, hm⟩ := sign12 k (by omega)
        refine ⟨_, _, c, rfl, rfl, by decide, atI_nat hc, (by show 2 ≤ sizeLine; decide), fun t nt => ?_⟩
        have b3 := (b1.trans b2).trans (But.upd (o := .tup [.str "letter", .str ⟨#[c]⟩]) nt)
        exact q _ (.lt ⟨#[c]⟩) _ b3 ((p2.same (same_new nt)).mono le) ⟨t, rfl, SqT.of upd_same⟩ hm (by show ((1 : Nat) : Int) ≤ m; omega)
      refine ⟨_, rfl, _, _, rfl, rfl, _, rfl, ite2 (fun z => letter H n (But.refl) hp (by omega)) (fun z => ?_)⟩
      have m2' : 2 ≤ m := Int.not_lt.mp fun y => z (decide_eq_true y)
      refine ⟨_, rfl, ?_⟩
      refine ⟨a, 4, n, rfl, hp, by omega, by decide, by decide, fun d H1 d0 d1 b1 p1 => ⟨rfl, _, rfl, ite2 (fun z => letter H1 (n + 1) b1 p1 (by omega)) (fun z => ?_)⟩⟩
      clear letter
      have notb : ∀ (H1 : Hp) (n1 : Int), But a H H1 → Pot H1 a n1 → n1 + 5 * (m - 1) ≤ n + 5 * m →
          tTup (tCons (tC (.str "not")) (tCons (tCall (spSay K N) [] E0 (tCons (tVar 0) (tCons (tVar 1) (tCons (tOp (rI0 fun i j => V.int (i - j)) (tVar 2) (tC (V.int 1))) (tCons (tVar 3) tNil))))) tNil)) (L2.start ["pot", "letters", "words", "but", "first", "word"] [V.ref a, .int L, .int m, .bl true]) H1 Q := by
        intro H1 n1 b1 p1 le
        refine ⟨_, rfl, _, rfl, _, rfl, _, _, rfl, rfl, _, rfl, a, n1, L, m - 1, rfl, p1, l1, l2, by omega, by omega, by omega, by omega, fun v s H2 b2 p2 hs gs zs => ⟨(by show 2 ≤ sizeLine; decide), fun t nt => ?_⟩⟩
        have s3 : Same H2 (upd H2 t (.tup [.str "not", v])) := same_new nt
        exact q _ (.nt s) _ ((b1.trans b2).trans (But.of_same s3)) ((p2.same s3).mono le) ⟨t, v, rfl, SqT.of upd_same, hs.same s3⟩ gs (by show ((s.size + 1 : Nat) : Int) ≤ m; omega)
      refine ⟨_, rfl, rfl, _, rfl, ite2 (fun z => notb H1 (n + 1) b1 p1 (by omega)) (fun z3 => ?_)⟩
      have m3 : 3 ≤ m := by
        have : m ≠ 2 := fun y => z3 (decide_eq_true (by rw [y]))
        omega
      refine ⟨_, rfl, ?_⟩
      refine ⟨a, 4, n + 1, rfl, p1, by omega, by decide, by decide, fun d2 H2 d20 d21 b2 p2 => ⟨rfl, _, rfl, ite2 (fun z => notb H2 (n + 1 + 1) (b1.trans b2) p2 (by omega)) (fun z => ?_)⟩⟩
      clear notb
      refine ⟨_, rfl, _, rfl, _, _, rfl, rfl, a, m - 2, n + 1 + 1, rfl, p2, by omega, by omega, by omega, fun d3 H3 d30 d31 b3 p3 => ⟨_, _, rfl, rfl, ?_⟩⟩
      refine ⟨_, rfl, _, rfl, true, rfl, iteT ⟨(by show 5 ≤ sizeLine; decide), fun l nl => ?_⟩⟩
      have s4 : Same H3 (upd H3 l (.lst [.str "both", .str "either", .str "if", .str "if", .str "but"])) := same_new nl
      have hl4 : upd H3 l (.lst [.str "both", .str "either", .str "if", .str "if", .str "but"]) l = some (.lst [.str "both", .str "either", .str "if", .str "if", .str "but"]) := upd_same
      have p4 := p3.same s4
      have la : l ≠ a := p3.ne nl
      revert s4 hl4 p4
      generalize upd H3 l (.lst [.str "both", .str "either", .str "if", .str "if", .str "but"]) = H4
      intro s4 hl4 p4
      refine ⟨a, l, n + 1 + 1 + 1, _, rfl, p4, by omega, hl4, la, by show 0 < 5; decide, by show 5 < 1000000; decide, fun v H5 hv b5 p5 => ?_⟩
      obtain ⟨w0, rfl, hw⟩ : ∃ w0 : Str, v = .str w0 ∧ (w0 = "both" ∨ w0 = "either" ∨ w0 = "if" ∨ w0 = "but") := by
        simp only [List.mem_cons, List.not_mem_nil, or_false] at hv
        rcases hv with rfl | rfl | rfl | rfl | rfl
        · exact ⟨_, rfl, .inl rfl⟩
        · exact ⟨_, rfl, .inr (.inl rfl)⟩
        · exact ⟨_, rfl, .inr (.inr (.inl rfl))⟩
        · exact ⟨_, rfl, .inr (.inr (.inl rfl))⟩
        · exact ⟨_, rfl, .inr (.inr (.inr rfl))⟩
      refine ⟨_, rfl, _, rfl, _, rfl, _, rfl, _, rfl, a, n + 1 + 1 + 1 + 1, L, 1 + d3, rfl, p5, l1, l2, by omega, by omega, by omega, by omega, fun v1 x1 H6 b6 p6 hx1 g1 z1 => ?_⟩
      refine ⟨_, rfl, _, rfl, _, rfl, _, _, rfl, rfl, _, rfl, _, _, rfl, rfl, _, rfl, a, _, L, m - 1 - (1 + d3), rfl, p6, l1, l2, by omega, by omega, by omega, by omega, fun v2 x2 H7 b7 p7 hx2 g2 z2 => ⟨(by show 3 ≤ sizeLine; decide), fun t nt => ?_⟩⟩
      have s8 : Same H7 (upd H7 t (.tup [.str w0, v1, v2])) := same_new nt
      refine q _ (.bi w0 x1 x2) _ (((((((b1.trans b2).trans b3).trans (But.of_same s4)).trans b5).trans b6).trans b7).trans (But.of_same s8)) ((p7.same s8).mono (by omega)) ⟨t, v1, v2, rfl, SqT.of upd_same, (b7.sv p6 hx1).same s8, hx2.same s8⟩ ⟨hw, g1, g2⟩ ?_
      show ((x1.size + x2.size + 1 : Nat) : Int) ≤ m
      omega
end
end Rf
end -- M12
section -- M13
set_option Elab.async false
set_option maxRecDepth 100000
set_option maxHeartbeats 4000000
set_option pp.maxSteps 600
set_option pp.deepTerms false
set_option linter.all false
namespace Rf
open PySem L2 PyProof.Rows StX
/-- all parts, itself first -/
def Sy.allp : Sy → List Sy
  | .lt c => [.lt c]
  | .nt x => .nt x :: x.allp
  | .bi w x y => .bi w x y :: (x.allp ++ y.allp)
theorem Sy.allpLen : ∀ s : Sy, s.allp.length = s.size
  | .lt c => rfl
  | .nt x => by have := allpLen x; simp [allp, size, this]
  | .bi w x y => by have := allpLen x; have := allpLen y; simp [allp, size, *]
def allps : List Sy → List Sy
  | [] => []
  | p :: r => p.allp ++ allps r
theorem allps_app (a b : List Sy) : allps (a ++ b) = allps a ++ allps b := by
  induction a with
  | nil => rfl
  | cons p r ih => simp [allps, ih]
theorem Sy.allpEq (s : Sy) : s.allp = s :: allps s.parts := by cases s <;> simp [allp, parts, allps]
theorem allps_len (l : List Sy) : (allps l).length = szs l := by
  induction l with
  | nil => rfl
  | cons p r ih => simp [allps, szs, ih, Sy.allpLen]
theorem szs_take (l : List Sy) (i : Nat) : szs (l.take i) ≤ szs l := by
  have : szs l = szs (l.take i) + szs (l.drop i) := by rw [← szs_app, List.take_append_drop]
  omega
section
variable {P : Program} {w : World} {K : PySem.W.Frag} {mg : Str → Option Value} {base : Heap} {dL aL : Addr}
def spParts (K : PySem.W.Frag) (n : Nat) : Sp := fun vs H Q _ => ∃ s v, vs = [v] ∧ Sv K H s v ∧ s.Good ∧ s.depth ≤ n ∧ s.size ≤ 100000 ∧ ∀ q us H', Same H H' → H q = none → H' q = some (.lst us) → Svs K H' s.allp us → Q (.ref q) H'
theorem scParts : FnScope ["saying", "found", "part"] ["saying"] (defScope (top 42)) := ⟨rfl, rfl, rfl, by decide +kernel, rfl, by decide +kernel, by decide +kernel⟩
theorem Svs.bt {K : PySem.W.Frag} {p : Addr → Prop} {H H' : Hp} {ss : List Sy} {us : List V} (h : Bt p H H') (fl : ∀ b, p b → Flat H b) (q : Svs K H ss us) : Svs K H' ss us := Paired.mono (fun _ _ x => Sv.bt h fl x) q
theorem ok_parts (F : Fn K mg "_law_parts" (top 42)) : ∀ n, Cl P w K mg base CX0 (n + 1) "_law_parts" (spParts K n) := by
  have nd := scParts.nd
  intro n
  induction n with
  | zero =>
    refine F.cl scParts (fun vs H Q E h => ?_) (fun _ _ _ _ _ _ us hl => match us, hl with | [_], _ => rfl) (fun f cdv A outer s H vs Q E hr h => ?_)
    · obtain ⟨s, v, rfl, _⟩ := h; rfl
    · obtain ⟨y, v, rfl, hv, hg, hd, hz, q⟩ := h
      refine ⟨_, pss_cons (ps_set (i := 1) nd rfl (Or.inl rfl) (pe_lst (pa_cons (pv 0) pa_nil)))
        (pss_cons (ps_if (pt_cmpR op_ne (pe_ix ix_tup (pv 0) pe_int (fun _ _ => rfl)) pe_str (nomark _)) (pss_one ps_never) pss_nil) (pss_one (ps_ret (pv 1)))), ?_⟩
      cases y with
      | nt x => simp [Sy.depth] at hd
      | bi w x y => simp [Sy.depth] at hd
      | lt c =>
        refine ⟨_, rfl, (by show 1 ≤ sizeLine; decide), fun l nl => ?_⟩
        have s1 : Same H (upd H l (.lst [v])) := same_new nl
        have hv1 := hv.same s1
        obtain ⟨a, rfl, ht⟩ := hv1
        refine ⟨_, rfl, a, _, 0, _, rfl, rfl, ht, at0, rfl, _, rfl, iteF ⟨_, rfl, ?_⟩⟩
        exact q l _ _ s1 nl upd_same (.cons ⟨a, rfl, ht⟩ .nil)
  | succ n ih =>
    refine F.cl scParts (fun vs H Q E h => ?_) (fun _ _ _ _ _ _ us hl => match us, hl with | [_], _ => rfl) (fun f cdv A outer s H vs Q E hr h => ?_)
    · obtain ⟨s, v, rfl, _⟩ := h; rfl
    · obtain ⟨y, v, rfl, hv, hg, hd, hz, q⟩ := h
      refine ⟨_, pss_cons (ps_set (i := 1) nd rfl (Or.inl rfl) (pe_lst (pa_cons (pv 0) pa_nil)))
        (pss_cons (ps_if (pt_cmpR op_ne (pe_ix ix_tup (pv 0) pe_int (fun _ _ => rfl)) pe_str (nomark _))
          (pss_one (ps_for PassesOwn.never rfl (pi_tup (pe_slice sl_tup (pv 0) (po_some pe_int) po_none)) (pg_name (i := 2) nd rfl (.inl rfl))
            (pss_one (ps_expr (pe_bm PySem.F.plainAttrs_list PySem.F.slot_list_extend PySem.F.type_list_extend mt_extend (pv 1) (pa_cons (pe_cl ih hr (by rfl) (pa_cons (pv 2) pa_nil)) pa_nil)))))) pss_nil)
        (pss_one (ps_ret (pv 1)))), ?_⟩
      refine ⟨_, rfl, (by show 1 ≤ sizeLine; decide), fun l nl => ?_⟩
      have s1 : Same H (upd H l (.lst [v])) := same_new nl
      have hl1 : upd H l (.lst [v]) l = some (.lst [v]) := upd_same
      have hv1 := hv.same s1
      revert s1 hl1 hv1
      generalize upd H l (.lst [v]) = H1
      intro s1 hl1 hv1
      obtain ⟨a, x, xs, rfl, ht, h1, h2⟩ := hv1.tup
      refine ⟨_, rfl, a, _, 0, _, rfl, rfl, ht, at0, rfl, _, rfl, ?_⟩
      rw [wl hg]
      cases hlt : y.isLt with
      | true =>
        obtain ⟨c, rfl⟩ := lt_of hlt
        refine iteF ⟨_, rfl, q l _ _ s1 nl hl1 (.cons hv1 .nil)⟩
      | false =>
        have h3 := h2 (not_lt (by rw [hlt]; decide))
        have hlen := h3.length
        refine iteT ?_
        refine ⟨_, rfl, _, rfl, a, _, rfl, ht, cutN, fun p np => ?_⟩
        rw [cut1]
        have s2 : Same H1 (upd H1 p (.tup (x :: xs))) := same_new np
        have hp2 : upd H1 p (.tup (x :: xs)) p = some (.tup (x :: xs)) := upd_same
        revert s2 hp2
        generalize upd H1 p (.tup (x :: xs)) = H2
        intro s2 hp2
        refine ⟨p, rfl, ⟨_, SqT.of hp2⟩, ?_⟩
        refine for_tup (xs := x :: xs) (fun i σ H' => ∃ (us : List V) (p2 : Option V), σ = [some (.ref a), some (.ref l), p2] ∧ H' l = some (.lst us) ∧ Svs K H' (y :: allps (y.parts.take i)) us ∧ Bt (fun b => b = l) H2 H') ?_ ?_ ?_ ?_
        · exact ⟨[.ref a], none, rfl, s2 _ _ hl1, .cons (hv1.same s2) .nil, .of (Same.refl _)⟩
        · rintro i σ H' _ ⟨us, p2, rfl, hl, _, b⟩
          exact SqT.of (b _ _ (fun z => by subst z; rw [s2 _ _ hl1] at hp2; cases hp2) hp2)
        · rintro i x1 σ H3 hx ⟨us, p2, rfl, hl, hs, b⟩
          obtain ⟨s0, u0, k1, k2, k3⟩ := paired_at h3 (List.getElem?_eq_some_iff.mp hx).1
          rw [hx] at k2
          cases k2
          have hm := List.mem_of_getElem? k1
          have hdp := y.depthParts s0 hm
          have hsz : s0.size ≤ y.size := by
            have := szs_parts y
            have e0 : y.parts = y.parts.take i ++ s0 :: y.parts.drop (i + 1) := by
              obtain ⟨i1, i2⟩ := List.getElem?_eq_some_iff.mp k1
              rw [← i2, ← List.drop_eq_getElem_cons i1, List.take_append_drop]
            have := congrArg szs e0
            rw [szs_app] at this
            simp only [szs] at this
            omega
          have hx0 : Sv K H3 s0 x1 := (k3.same s2).bt b (fun c e => e ▸ flat_lst (s2 _ _ hl1))
          refine ⟨_, rfl, .inl ⟨rfl, _, SqL.of hl⟩, ?_⟩
          refine ⟨_, rfl, s0, x1, rfl, hx0, y.goodParts hg s0 hm, by omega, by omega, fun q2 us2 H4 s4 nq hq hs2 => ?_⟩
          have hl4 := s4 _ _ hl
          have len1 := hs.length
          have len2 := hs2.length
          have tk : y.parts.take (i + 1) = y.parts.take i ++ [s0] := by rw [List.take_succ, k1]; rfl
          have tot : us.length + us2.length ≤ y.size := by
            rw [← len1, ← len2, List.length_cons, allps_len, Sy.allpLen]
            have z1 := szs_take y.parts (i + 1)
            rw [tk, szs_app] at z1
            simp only [szs] at z1
            have := szs_parts y
            omega
          have big : 100000 < sizeLine := by decide
          refine ⟨l, q2, us, us2, rfl, rfl, hl4, hq, by omega, ?_⟩
          have b6 : Bt (fun b => b = l) H4 (upd H4 l (.lst (us ++ us2))) := fun b o n e => by rw [upd_ne n]; exact e
          have fl6 : ∀ b, b = l → Flat H4 b := fun b e => e ▸ flat_lst hl4
          refine ⟨us ++ us2, _, rfl, upd_same, ?_, (b.trans (.of s4)).trans b6⟩
          rw [tk, allps_app]
          have e9 : allps [s0] = s0.allp := by simp [allps]
          rw [e9]
          exact paired_app (l := y :: allps (y.parts.take i)) (Svs.bt b6 fl6 (Sv.sameAll s4 hs)) (Svs.bt b6 fl6 hs2)
        · rintro σ H3 ⟨us, p2, rfl, hl, hs, b⟩
          have e0 : (x :: xs).length = y.parts.length := hlen.symm
          rw [e0, List.take_length, ← y.allpEq] at hs
          refine ⟨_, rfl, q l us H3 (fun b' o e => b b' o (fun z => by rw [z, nl] at e; cases e) (s2 _ _ (s1 _ _ e))) nl hl hs⟩
end
end Rf
end -- M13
section -- M14
set_option Elab.async false
set_option maxRecDepth 100000
set_option maxHeartbeats 4000000
set_option pp.maxSteps 600
set_option pp.deepTerms false
set_option linter.all false
namespace Rf
open PySem L2 PyProof.Rows StX
section
variable {P : Program} {w : World} {K : PySem.W.Frag} {mg : Str → Option Value} {base : Heap} {dL aL : Addr}
theorem scLLed : FnScope ["saying", "leads", "part"] ["saying", "leads"] (defScope (top 43)) := ⟨rfl, rfl, rfl, by decide +kernel, rfl, by decide +kernel, by decide +kernel⟩
theorem ok_lled (F : Fn K mg "_law_led" (top 43)) (T : Tx K w mg dL aL) : ∀ n, Cl P w K mg base CX0 (n + 1) "_law_led" (spLed K n) := by
  have nd := scLLed.nd
  intro n
  induction n with
  | zero =>
    refine F.cl scLLed (fun vs H Q E h => ?_) (fun _ _ _ _ _ _ us hl => match us, hl with | [_, _], _ => rfl) (fun f cdv A outer s H vs Q E hr h => ?_)
    · obtain ⟨s, v, d, f, rfl, _⟩ := h; rfl
    · obtain ⟨y, v, d, g, rfl, hv, hg, hd, hl, q⟩ := h
      refine ⟨_, pss_cons (ps_if (pt_cmpR op_eq (pe_ix ix_tup (pv 0) pe_int (fun _ _ => rfl)) pe_str (nomark _))
        (pss_one (ps_ret (pe_dget2 (hu_of hr) (pv 1) (pe_ix ix_tup (pv 0) pe_int (fun _ _ => rfl)) (pv 0) ⟨rfl, rfl, rfl, rfl⟩))) pss_nil)
        (pss_one ps_never), ?_⟩
      cases y with
      | nt x => simp [Sy.depth] at hd
      | bi w x y => simp [Sy.depth] at hd
      | lt c =>
        obtain ⟨a, rfl, ht⟩ := hv
        obtain ⟨o, g1, g2, g3⟩ := led_lt hl ⟨a, rfl, ht⟩
        refine ⟨_, rfl, a, _, 0, _, rfl, rfl, ht, at0, rfl, _, rfl, iteT ?_⟩
        exact ⟨_, rfl, d, rfl, g2, _, rfl, a, _, 1, _, rfl, rfl, ht, at1, _, rfl, o, g1, q _ _ (Same.refl _) g3⟩
  | succ n ih =>
    refine F.cl scLLed (fun vs H Q E h => ?_) (fun _ _ _ _ _ _ us hl => match us, hl with | [_, _], _ => rfl) (fun f cdv A outer s H vs Q E hr h => ?_)
    · obtain ⟨s, v, d, f, rfl, _⟩ := h; rfl
    · obtain ⟨y, v, d, g, rfl, hv, hg, hd, hl, q⟩ := h
      refine ⟨_, pss_cons (ps_if (pt_cmpR op_eq (pe_ix ix_tup (pv 0) pe_int (fun _ _ => rfl)) pe_str (nomark _))
        (pss_one (ps_ret (pe_dget2 (hu_of hr) (pv 1) (pe_ix ix_tup (pv 0) pe_int (fun _ _ => rfl)) (pv 0) ⟨rfl, rfl, rfl, rfl⟩))) pss_nil)
        (pss_one (ps_ret (pe_op op_catT (pe_tup (pa_cons (pe_ix ix_tup (pv 0) pe_int (fun _ _ => rfl)) pa_nil)) (pe_callTy call_tuple_of (by rfl) T.tuple (by decide +kernel) (pa_cons
          (pe_lc (own := [("part", 2)]) (g := gName 2) (tt := tYes) (by rfl) nd (pi_tup (pe_slice sl_tup (pv 0) (po_some pe_int) po_none)) (blkOk_by (own := [("part", 2)]) (N := ["saying", "leads", "part"]) (sc := defScope (top 43)) (by decide +kernel)) (fun _ _ _ _ _ => pg_name (i := 2) nd rfl (.inl rfl)) (fun _ _ _ _ _ => pts_nil)
            (fun _ _ _ _ _ => pe_cl ih hr (by rfl) (pa_cons (pv 2) (pa_cons (pv 1) pa_nil)))) pa_nil))))), ?_⟩
      obtain ⟨a, x, xs, rfl, ht, h1, h2⟩ := hv.tup
      refine ⟨_, rfl, a, _, 0, _, rfl, rfl, ht, at0, rfl, _, rfl, ?_⟩
      rw [wl hg]
      refine ite2 (fun e => ?_) (fun e => ?_)
      · obtain ⟨c, rfl⟩ := lt_of e
        obtain ⟨o, g1, g2, g3⟩ := led_lt hl hv
        have e1 := h1 c rfl
        rw [e1] at ht
        exact ⟨_, rfl, d, rfl, g2, _, rfl, a, _, 1, _, rfl, rfl, ht, at1, _, rfl, o, g1, q _ _ (Same.refl _) g3⟩
      · have hnl := not_lt e
        have h3 := h2 hnl
        have hlen := h3.length
        have hpl := y.partsLen
        have big : 1000 < sizeLine := by decide
        refine ⟨_, rfl, a, _, 0, _, rfl, rfl, ht, at0, (by show 1 ≤ sizeLine; decide), fun p0 np0 => ?_⟩
        have s0 : Same H (upd H p0 (.tup [.str y.word])) := same_new np0
        have hp0 : upd H p0 (.tup [.str y.word]) p0 = some (.tup [.str y.word]) := upd_same
        revert s0 hp0
        generalize upd H p0 (.tup [.str y.word]) = H0
        intro s0 hp0
        refine ⟨_, rfl, _, rfl, a, _, rfl, same_tup s0 ht, cutN, fun p np => ?_⟩
        rw [cut1]
        have s1 : Same H0 (upd H0 p (.tup (x :: xs))) := same_new np
        have hp1 : upd H0 p (.tup (x :: xs)) p = some (.tup (x :: xs)) := upd_same
        revert s1 hp1
        generalize upd H0 p (.tup (x :: xs)) = H1
        intro s1 hp1
        have s01 := s0.trans s1
        refine ⟨p, rfl, ⟨_, SqT.of hp1⟩, fun D nD => ?_⟩
        have lenx : (x :: xs).length ≤ 2 := by omega
        refine mp_tup (ps := y.parts) (p := fun _ => False) (I := fun _ _ => True) (F := fun s y' H' => Sv K H' (s.sub g) y') ⟨nD, fun z => z, by omega, by omega, trivial, fun _ _ _ _ _ => trivial, ?_, ?_⟩ (fun i H' _ hb => SqT.of (hb.same _ _ hp1)) ?_
        · intro i x1 y1 H5 H6 acc _ hD hb hf
          exact hf.bt hb (fun b z => z.elim (fun z => z.elim) fun z => z ▸ flat_lst hD)
        · intro i x1 s1' H5 W Qe hx1 hs1 _ hb k kw
          obtain ⟨s0', u0, k1, k2, k3⟩ := paired_at h3 (List.getElem?_eq_some_iff.mp hx1).1
          have k2' : (x :: xs)[i]? = some u0 := k2
          rw [hx1] at k2'
          cases k2'
          rw [k1] at hs1
          cases hs1
          have hm := List.mem_of_getElem? k1
          have hdp := y.depthParts s1' hm
          exact kw _ _ rfl ⟨_, rfl, _, rfl, s1', x1, d, g, rfl, (k3.same s01).same hb.same, y.goodParts hg s1' hm, by omega, (hl.same s01).same hb.same, fun v' H6 s6 hv6 => k _ _ (.of s6) trivial hv6⟩
        · intro acc H5 _ hb hD hp6
          have s5 := hb.same
          have l6 := hp6.length
          have ne : acc ≠ [] := fun z => by rw [z] at l6; simp at l6; simp [l6] at hlen
          refine ⟨D, acc, rfl, .inl ⟨SqL.of hD, fun t nt => ?_⟩⟩
          have s6 : Same H5 (upd H5 t (.tup acc)) := same_new nt
          refine ⟨p0, t, [.str y.word], acc, rfl, rfl, SqT.of (s6 _ _ (s5 _ _ (s1 _ _ hp0))), SqT.of upd_same, by simp, by show 1 + acc.length ≤ sizeLine; omega, fun z => absurd z ne, fun _ t2 nt2 => ?_⟩
          have s7 : Same (upd H5 t (.tup acc)) (upd (upd H5 t (.tup acc)) t2 (.tup ([.str y.word] ++ acc))) := same_new nt2
          exact q _ _ (((s01.trans s5).trans s6).trans s7) (Sv.ofSub (us := acc) (SqT.of upd_same) hnl (Sv.sameAll (s6.trans s7) (svs_map hp6)))
def spDeep (K : PySem.W.Frag) (n : Nat) : Sp := fun vs H Q _ => ∃ s v, vs = [v] ∧ Sv K H s v ∧ s.Good ∧ s.depth ≤ n ∧ ∀ H', Same H H' → Q (.int (s.depth : Nat)) H'
theorem scDeep : FnScope ["saying", "part"] ["saying"] (defScope (top 44)) := ⟨rfl, rfl, rfl, by decide +kernel, rfl, by decide +kernel, by decide +kernel⟩
def dpt : List Sy → Nat
  | [] => 0
  | p :: r => max p.depth (dpt r)
theorem Sy.depthEq {s : Sy} (h : ∀ c, s ≠ .lt c) : s.depth = 1 + dpt s.parts := by
  cases s with
  | lt c => exact absurd rfl (h c)
  | nt x => simp [depth, parts, dpt]; omega
  | bi w x y => simp [depth, parts, dpt]; omega
theorem dpt_max {l : List Sy} {m : Int} (hm : m ∈ l.map fun s => ((s.depth : Nat) : Int)) (hx : ∀ y ∈ l.map fun s => ((s.depth : Nat) : Int), y ≤ m) : m = (dpt l : Nat) := by
  have up : ∀ l : List Sy, ∀ s ∈ l, s.depth ≤ dpt l := by
    intro l
    induction l with
    | nil => intro s h; cases h
    | cons p r ih =>
      intro s h
      rcases List.mem_cons.mp h with rfl | h
      · simp only [dpt]; omega
      · have := ih s h; simp only [dpt]; omega
  have lo : ∀ l : List Sy, (∀ y ∈ l.map fun s => ((s.depth : Nat) : Int), y ≤ m) → 0 ≤ m → (dpt l : Int) ≤ m := by
    intro l
    induction l with
    | nil => intro _ h; exact h
    | cons p r ih =>
      intro h h0
      have h1 := h (p.depth : Nat) (by simp)
      have h2 := ih (fun y hy => h y (by simp at hy ⊢; exact .inr hy)) h0
      simp only [dpt]
      omega
  obtain ⟨s, hs, rfl⟩ := List.mem_map.mp hm
  have h1 := up l s hs
  have h2 := lo l hx (by omega)
  omega
theorem ok_deep (F : Fn K mg "_law_deep" (top 44)) (T : Tx K w mg dL aL) : ∀ n, Cl P w K mg base CX0 (n + 1) "_law_deep" (spDeep K n) := by
  have nd := scDeep.nd
  intro n
  induction n with
  | zero =>
    refine F.cl scDeep (fun vs H Q E h => ?_) (fun _ _ _ _ _ _ us hl => match us, hl with | [_], _ => rfl) (fun f cdv A outer s H vs Q E hr h => ?_)
    · obtain ⟨s, v, rfl, _⟩ := h; rfl
    · obtain ⟨y, v, rfl, hv, hg, hd, q⟩ := h
      cases y with
      | nt x => simp [Sy.depth] at hd
      | bi w x y => simp [Sy.depth] at hd
      | lt c =>
        obtain ⟨a, rfl, ht⟩ := hv
        have pn : ∀ {X : Cx} {e : Expr}, PE X e (fun _ _ _ => False) := ⟨fun _ _ _ _ _ _ h => h.elim⟩
        refine ⟨_, pss_one (ps_ret (pe_ifExp (pt_cmpR op_eq (pe_ix ix_tup (pv 0) pe_int (fun _ _ => rfl)) pe_str (nomark _)) pe_int pn)), ?_⟩
        exact ⟨_, rfl, a, _, 0, _, rfl, rfl, ht, at0, rfl, _, rfl, iteT (q _ (Same.refl _))⟩
  | succ n ih =>
    refine F.cl scDeep (fun vs H Q E h => ?_) (fun _ _ _ _ _ _ us hl => match us, hl with | [_], _ => rfl) (fun f cdv A outer s H vs Q E hr h => ?_)
    · obtain ⟨s, v, rfl, _⟩ := h; rfl
    · obtain ⟨y, v, rfl, hv, hg, hd, q⟩ := h
      refine ⟨_, pss_one (ps_ret (pe_ifExp (pt_cmpR op_eq (pe_ix ix_tup (pv 0) pe_int (fun _ _ => rfl)) pe_str (nomark _)) pe_int
        (pe_op op_add pe_int (pe_callB (cr_max rfl) (by rfl) T.max (by decide +kernel) (pa_cons
          (pe_lc (own := [("part", 1)]) (g := gName 1) (tt := tYes) (by rfl) nd (pi_tup (pe_slice sl_tup (pv 0) (po_some pe_int) po_none)) (blkOk_by (own := [("part", 1)]) (N := ["saying", "part"]) (sc := defScope (top 44)) (by decide +kernel)) (fun _ _ _ _ _ => pg_name (i := 1) nd rfl (.inl rfl)) (fun _ _ _ _ _ => pts_nil)
            (fun _ _ _ _ _ => pe_cl ih hr (by rfl) (pa_cons (pv 1) pa_nil))) pa_nil))))), ?_⟩
      obtain ⟨a, x, xs, rfl, ht, h1, h2⟩ := hv.tup
      refine ⟨_, rfl, a, _, 0, _, rfl, rfl, ht, at0, rfl, _, rfl, ?_⟩
      rw [wl hg]
      refine ite2 (fun e => ?_) (fun e => ?_)
      · obtain ⟨c, rfl⟩ := lt_of e
        exact q _ (Same.refl _)
      · have hnl := not_lt e
        have h3 := h2 hnl
        have hlen := h3.length
        have hpl := y.partsLen
        have big : 1000 < sizeLine := by decide
        refine ⟨_, rfl, _, rfl, a, _, rfl, ht, cutN, fun p np => ?_⟩
        rw [cut1]
        have s1 : Same H (upd H p (.tup (x :: xs))) := same_new np
        have hp1 : upd H p (.tup (x :: xs)) p = some (.tup (x :: xs)) := upd_same
        revert s1 hp1
        generalize upd H p (.tup (x :: xs)) = H1
        intro s1 hp1
        refine ⟨p, rfl, ⟨_, SqT.of hp1⟩, fun D nD => ?_⟩
        have lenx : (x :: xs).length ≤ 2 := by omega
        refine mp_tup (ps := y.parts) (p := fun _ => False) (I := fun _ _ => True) (F := fun s y' _ => y' = V.int (s.depth : Nat)) ⟨nD, fun z => z, by omega, by omega, trivial, fun _ _ _ _ _ => trivial, fun _ _ _ _ _ _ _ _ _ e => e, ?_⟩ (fun i H' _ hb => SqT.of (hb.same _ _ hp1)) ?_
        · intro i x1 s1' H5 W Qe hx1 hs1 _ hb k kw
          obtain ⟨s0', u0, k1, k2, k3⟩ := paired_at h3 (List.getElem?_eq_some_iff.mp hx1).1
          have k2' : (x :: xs)[i]? = some u0 := k2
          rw [hx1] at k2'
          cases k2'
          rw [k1] at hs1
          cases hs1
          have hm := List.mem_of_getElem? k1
          have hdp := y.depthParts s1' hm
          exact kw _ _ rfl ⟨_, rfl, s1', x1, rfl, (k3.same s1).same hb.same, y.goodParts hg s1' hm, by omega, fun H6 s6 => k _ _ (.of s6) trivial rfl⟩
        · intro acc H5 _ hb hD hp6
          have e1 : acc = (y.parts.map fun s => ((s.depth : Nat) : Int)).map V.int := by rw [List.map_map]; exact paired_val (f := fun s : Sy => V.int (s.depth : Nat)) hp6
          rw [e1] at hD
          refine ⟨D, _, rfl, SqL.of hD, by rw [List.length_map]; simp at hlen; omega, fun m hm hx => ⟨_, _, rfl, rfl, ?_⟩⟩
          have := dpt_max hm hx
          have e2 := y.depthEq hnl
          have e3 : (1 + m : Int) = (y.depth : Nat) := by omega
          show Q (V.int (1 + m)) H5
          rw [e3]
          exact q _ (s1.trans hb.same)
end
end Rf
end -- M14
section -- En
set_option Elab.async false
set_option maxRecDepth 100000
set_option maxHeartbeats 4000000
set_option pp.maxSteps 600
set_option pp.deepTerms false
set_option linter.all false
namespace Rf
open PySem PySem.Spec PyProof.Rows L2 LamX
/-- a def's promise where no repr is under way -/
structure FnG (P : Program) (w : World) (K : PySem.W.Frag) (mg : Str → Option Value) (base : Heap) (k : Nat) (f : Addr) (fd : FuncData) (ps : List Str) (sp : Sp) : Prop where
  len : ∀ vs H Q E, sp vs H Q E → vs.length = ps.length
  run : ∀ (A : Around) (outer : List Env) (s : Shared) (H : Hp) (args : Args) (us : List Value) (vs : List V) (Q : VK) (E : XK), Room k A → A.guards = some [] → Env0 P w K mg base A outer s H → BindsTo s fd args (ps.zip us) → Vals vs us → sp vs H Q E →
    codeAny (model P w) A (.call (.ref f) args) (CR CX0 outer P w H s Q E) s
structure ClG (P : Program) (w : World) (K : PySem.W.Frag) (mg : Str → Option Value) (base : Heap) (k : Nat) (x : Str) (sp : Sp) : Prop where
  ex : ∃ (f : Addr) (fd : FuncData) (ps : List Str), FnG P w K mg base k f fd ps sp ∧ mg x = some (.ref f) ∧ PySem.W.keepIn K (.ref f) = true ∧ Binds K fd ps []
theorem fnG {P : Program} {w : World} {K : PySem.W.Frag} {mg : Str → Option Value} {base : Heap} {k : Nat} {sp : Sp} {x : Str} {st : Stmt} {N ps : List Str} {f : Addr} {fd : FuncData} (G : Fun K x x st f fd) (S : FnScope N ps (defScope st)) (len : ∀ vs H Q E, sp vs H Q E → vs.length = ps.length)
    (hbody : ∀ (cdv : Value) (A : Around) (outer : List Env) (s : Shared) (H : Hp) (vs : List V) (Q : VK) (E : XK), Room k (A.deeper (envOfC x (defScope st) s.heap.objs.size f cdv)) → A.guards = some [] → sp vs H Q E →
      (∃ oc od kV doc pm an ct osl, K.lookup f = some ⟨oc, od, .func (PySem.W.fnOf x x (defArgs st) (defBody st) (defScope st) .none kV doc pm an cdv ct), osl⟩) →
      ∃ t, PSs (cxOf CX0 P w K mg base N x (defScope st) f cdv A outer s H E).nox (defBody st) t ∧ t { nx := fun _ H' => Q .non H', rt := Q } (L2.start N vs) H) : FnG P w K mg base (k + 1) f fd ps sp := by
  obtain ⟨oc, od, kV, doc, pm, an, cdv, ct, osl, rfl, lk, hcd⟩ := G.ex
  refine ⟨len, fun A outer s H args us vs Q E hr hgd e0 hb r hsp => ?_⟩
  refine run_ofS lk hcd S hr e0 hb r (len _ _ _ _ hsp) fun hr' => ?_
  obtain ⟨t, ht, hq⟩ := hbody cdv A outer s H vs Q E hr' hgd hsp ⟨oc, od, kV, doc, pm, an, ct, osl, lk⟩
  exact ⟨t, ht.nox, hq⟩
section
variable {X : Cx} {k : Nat} {sp : Sp} {E : XK} {x : Str} {p pos : Pos} {e : Expr} {es : List Expr} {t : TA}
theorem pe_clG (c : ClG X.prog X.w X.K X.mg X.base k x sp) (hr : Room k X.A) (quiet : X.A.guards = some []) (hg : Gl X x) (ha : PA X (e :: es) t)
    (dbg : (x == ("__debug__" : Str)) = false := by decide) (tr : starEach (e :: es) X.env = (false, eval e X.env) :: starEach es X.env := by rfl) (plain : (backTo pos (starEach es X.env)).any (·.1) = false := by rfl) :
    PE X (.Call (.Name x p) (e :: es) [] pos) (tCall sp [] E0 t) := by
  obtain ⟨f, fd, ps, F, hm, keep, hb⟩ := c.ex
  refine ⟨fun pins s σ H Q I h => ?_⟩
  refine wpAny_Call_Name_kw (ld_glob I hg hm ?_ dbg)
  refine PySem.W.callWith_K (h₀ := X.base) I.ok.mod.kin keep (thn (ha.run pos pins s σ H _ I h) fun us s1 ⟨vs, H1, I1, rv, q⟩ => ⟨I1.kIn, ?_⟩) tr plain
  have q2 : sp vs H1 Q E0 := by rw [← List.append_nil vs]; exact q
  have hl : (us ++ []).length = ps.length := by rw [List.append_nil, ← rv.length]; exact F.len _ _ _ _ q2
  refine wpAny_call (codeAny_mono (F.run X.A X.stack s1 H1 ⟨us, []⟩ us vs Q E0 hr quiet I1.env0 (by have z := hb s1 us I1.kIn hl; rw [List.append_nil] at z; exact z) rv q2) fun r s' hq => ?_)
  rcases r with e | (u | _ | _ | _)
  · exact hq.elim
  · exact hq.elim
  · exact hq.elim
  · exact hq.elim
  · exact I1.after hq
/-- repr(x), x plain data, no repr under way -/
def rReprD (K : PySem.W.Frag) : List V → Hp → VK → Prop := fun xs H Q => ∃ (a : Addr) (d : PyData), xs = [.ref a] ∧ Dp K H (.ref a) d ∧ d.showable = true ∧ d.hasDict = false ∧ d.depth ≤ 100 ∧ d.shown.length ≤ sizeLine ∧ Q (.str d.shown) H
theorem call_reprD (quiet : X.A.guards = some []) (room : X.A.units + 200 < cLine) : CallR X (.builtin "repr") (rReprD X.K) := by
  intro pins s σ H xs us Q I r h
  obtain ⟨a, d, rfl, hd, hs, hn, hz, hl, q⟩ := h
  obtain ⟨u, rfl, ru⟩ := vals1 r
  obtain ⟨as, rd⟩ := Dp.reads I d _ u hd ru
  cases ru
  refine repr_of_reads' rd hs (fun e => by rw [hn] at e; cases e) quiet (by omega) (fun _ _ e => e) (fun h2 tk t2 kept => ?_) hl
  exact ⟨.str d.shown, H, I.kept kept, ⟨_, rfl⟩, q⟩
end
end Rf
end -- En
section -- Eg
set_option Elab.async false
set_option maxRecDepth 100000
set_option maxHeartbeats 4000000
set_option pp.maxSteps 600
set_option pp.deepTerms false
set_option linter.all false
namespace Rf
open PySem PySem.Spec PyProof.Rows L2 LamX
/-- the heap's view at the law's call: the table of code objects, and the script where the written part has it not -/
def seen0 (K : PySem.W.Frag) (tb a : Addr) (vs : List Value) (ns : List Int) : Hp := fun b =>
  if b = tb then some (.tbl #[]) else if b = a ∧ (K.lookup a).isNone = true then some (.frz { cls := .type "list", data := .seq vs.toArray } (.lst (ns.map V.int))) else none
theorem law_callG {P : Program} {w : World} {K : PySem.W.Frag} {mg mb : Str → Option Value} {k : Nat} {fa a c tb : Addr} {fd : FuncData} {x : Str} {sp : Sp} {s₁ : Shared} {vs : List Value} {ns : List Int}
    (kin : K.In s₁.heap) (gns : s₁.heap.Ns mainGlobals mg) (bns : s₁.heap.Ns builtinsNs mb) (boot : ∀ x : Str, x ≠ "__name__" → mb x = bootBuiltins x) (lim : s₁.heap.NoLimit) (gens : s₁.gens = #[])
    (tab : s₁.heap.get? tb = some { cls := .none, data := .fields #[] }) (ntab : K.lookup tb = none) (hd : PySem.W.CodeHd s₁.heap c tb)
    (bmain : ∃ (bm : Addr) (ob : Obj), mg "__builtins__" = some (.ref bm) ∧ bm ≠ builtinsNs ∧ s₁.heap.get? bm = some ob ∧ ob.cls = .type "module" ∧ ob.dict = some builtinsNs ∧ ob.data = .plain)
    (scr : s₁.heap.get? a = some { cls := .type "list", data := .seq vs.toArray }) (ints_ : IntsAre vs ns) (few : ns.length ≤ sizeLine) (room : Room k callerA)
    (F : ∀ base : Heap, K.In base → base.Ns mainGlobals mg → TabB base mg c tb → FnG P w K mg base k fa fd [x] sp) (bind : ∀ (s : Shared) (u : Value), BindsTo s fd ⟨[u], []⟩ [(x, u)])
    (prom : ∀ H : Hp, H tb = some (.tbl #[]) → SqL K H a (ns.map V.int) → sp [.ref a] H (fun v _ => v = .bl true) fun _ _ _ => False) :
    codeAny (model P w) callerA (.call (.ref fa) ⟨[.ref a], []⟩) (fun r s' => r = .ok (.ret (.bool true)) ∧ OldK s₁.heap s'.heap ∧ s'.os = s₁.os ∧ AllBare s'.gens) s₁ := by
  have rel := vals_ints ints_
  have len := ints_.length
  have ne : a ≠ tb := fun z => by
    rw [z, tab] at scr
    cases scr
  obtain ⟨H, eH⟩ : ∃ H, H = seen0 K tb a vs ns := ⟨_, rfl⟩
  have Htb : H tb = some (.tbl #[]) := by rw [eH]; exact if_pos rfl
  have Hcase : ∀ b u, H b = some u → (b = tb ∧ u = .tbl #[]) ∨ (b = a ∧ K.lookup a = none ∧ u = .frz { cls := .type "list", data := .seq vs.toArray } (.lst (ns.map V.int))) := fun b u e => by
    rw [eH] at e
    unfold seen0 at e
    split at e
    · rename_i z
      exact .inl ⟨z, (Option.some.inj e).symm⟩
    · split at e
      · rename_i z
        exact .inr ⟨z.1, by simpa using z.2, (Option.some.inj e).symm⟩
      · cases e
  have Hok : HOk P w H s₁.heap := fun b u e => by
    rcases Hcase b u e with ⟨rfl, rfl⟩ | ⟨rfl, _, rfl⟩
    · exact tab
    · exact ⟨scr, by rw [List.length_map]; exact few, vs, _, rel, scr⟩
  have Hseq : SqL K H a (ns.map V.int) := by
    cases e : K.lookup a with
    | none =>
      refine .inl (.inr ⟨{ cls := .type "list", data := .seq vs.toArray }, ?_⟩)
      rw [eH]
      unfold seen0
      rw [if_neg ne, if_pos ⟨rfl, by rw [e]; rfl⟩]
    | some o =>
      have q := kin a o e
      rw [scr] at q
      cases q
      exact .inr ⟨_, vs.toArray, _, e, rfl, rfl, rfl, by rw [List.size_toArray, len]; exact few, by simpa using rel⟩
  have plain : ∀ {b : Addr} {o : Obj}, s₁.heap.get? b = some o → (∀ vs n, o.data ≠ .seq vs n) → o.data ≠ .fields #[] → H b = none := fun {b o} e h1 h2 => by
    cases q : H b with
    | none => rfl
    | some u =>
      rcases Hcase b u q with ⟨rfl, _⟩ | ⟨rfl, _⟩
      · rw [tab] at e
        cases e
        exact absurd rfl h2
      · rw [scr] at e
        cases e
        exact absurd rfl (h1 _ _)
  have nsB : ∀ {b : Addr} {m : Str → Option Value}, s₁.heap.Ns b m → (hidT s₁.heap H).Ns b m := fun {b m} ⟨o, es, ep, e, d, r⟩ =>
    ⟨o, es, ep, hidT_get e (plain e (fun vs n z => by rw [d] at z; cases z) (fun z => by rw [d] at z; cases z)), d, r⟩
  have kinB : K.In (hidT s₁.heap H) := fun b o e => hidT_get (kin b o e) (by
    cases q : H b with
    | none => rfl
    | some u =>
      rcases Hcase b u q with ⟨rfl, _⟩ | ⟨rfl, h, _⟩
      · rw [ntab] at e
        cases e
      · rw [h] at e
        cases e)
  have M : L2.Mod K mg (hidT s₁.heap H) := by
    refine ⟨kinB, nsB gns, ⟨mb, nsB bns, boot⟩, ?_⟩
    obtain ⟨mc, h1, h2⟩ := lim
    exact ⟨mc, nsB h1, h2⟩
  have TB : TabB (hidT s₁.heap H) mg c tb := by
    refine ⟨?_, ?_, fun z => ?_⟩
    · obtain ⟨o, us, file, tf, flags, tg, inF, text, tt, e1, r1, r2, r3, rest⟩ := hd
      refine ⟨o, us, file, tf, flags, tg, inF, text, tt, hidT_get e1 (plain e1 (fun vs n z => ?_) fun z => ?_), r1, r2, r3, rest⟩
      · rw [r2] at z
        cases z
      · rw [r2] at z
        cases z
        simp at r3
    · obtain ⟨bm, ob, b1, b2, b3, b4, b5, b6⟩ := bmain
      refine ⟨bm, ob, b1, b2, fun z => ?_, fun z => ?_, hidT_get b3 (plain b3 (fun vs n z => ?_) fun z => ?_), b4, b5, b6⟩
      · obtain ⟨o, es, ep, e, dd, _⟩ := gns
        rw [z, e] at b3
        cases b3
        rw [dd] at b6
        cases b6
      · rw [z, tab] at b3
        cases b3
        cases b6
      · rw [b6] at z
        cases z
      · rw [b6] at z
        cases z
    · obtain ⟨o, es, ep, e, dd, _⟩ := gns
      rw [z, tab] at e
      cases e
      cases dd
  have e0 : Env0 P w K mg (hidT s₁.heap H) callerA [] s₁ H := ⟨rfl, M, fun b o e => of_hidT e, Nat.le_of_eq (hidT_size _ _), trivial, fun b hb => absurd (show b ∈ ([] : List Addr) from hb) (by simp), Hok, .of_eq gens⟩
  refine codeAny_mono ((F _ kinB (nsB gns) TB).run callerA [] s₁ H ⟨[.ref a], []⟩ [.ref a] [.ref a] _ _ room rfl e0 (bind s₁ (.ref a)) (.cons rfl .nil) (prom H Htb Hseq)) fun r s' h => ?_
  rcases r with e | (_ | _ | _ | u)
  · exact h.elim
  · exact h.elim
  · exact h.elim
  · exact h.elim
  · obtain ⟨v, H', os, bare, un, ok', rv, rfl⟩ := h
    obtain rfl : u = Value.bool true := rv
    have others : ∀ b o, b ≠ tb → s₁.heap.get? b = some o → s'.heap.get? b = some o := fun b o nb e => by
      cases q : H b with
      | none => exact un.keep b o e q (by intro z; exact absurd (show b ∈ ([] : List Addr) from z) (by simp)) (by simp)
      | some u =>
        rcases Hcase b u q with ⟨z, _⟩ | ⟨_, _, rfl⟩
        · exact absurd z nb
        · obtain ⟨e1, _⟩ := Hok b _ q
          obtain ⟨e2, _⟩ := ok' b _ (un.frzs b _ _ q)
          rw [e] at e1
          cases e1
          exact e2
    obtain ⟨more, z⟩ := un.tbls tb #[] Htb
    have grown := ok' tb _ z
    refine ⟨rfl, ⟨fun b o e => ?_, fun b o e => ?_⟩, os, bare⟩
    · by_cases hb : b = tb
      · subst hb
        rw [tab] at e
        cases e
        exact .inr (.inl ⟨(hd.tab tab).isCodeTable, rfl, #[], more, rfl, grown⟩)
      · exact .inl (others b o hb e)
    · by_cases hb : b = tb
      · subst hb
        exact ⟨_, grown⟩
      · exact ⟨o, others b o hb e⟩
/-- what is known of the law at the head's heap -/
def LawAtG (l : PySem.W.OpenLaw) (w : World) (K : PySem.W.Frag) (k n : Nat) (x : Str) (mg : Str → Option Value) (fa : Addr) (h : Heap) : Prop :=
  ∃ (fd : FuncData) (c tb : Addr) (sp : Sp), h.get? tb = some { cls := .none, data := .fields #[] } ∧ K.lookup tb = none ∧ PySem.W.CodeHd h c tb ∧ (∀ (s : Shared) (u : Value), BindsTo s fd ⟨[u], []⟩ [(x, u)]) ∧
    (∀ (H : Hp) (a : Addr) (ns : List Int), ns.length ≤ n → H tb = some (.tbl #[]) → SqL K H a (ns.map V.int) → sp [.ref a] H (fun v _ => v = .bl true) fun _ _ _ => False) ∧
    ∀ base : Heap, K.In base → base.Ns mainGlobals mg → TabB base mg c tb → FnG l.prog w K mg base k fa fd [x] sp
theorem walk_ofG {l : PySem.W.OpenLaw} {n k : Nat} {q : Program} {loose : List Str} {XP : (Str → Option Value) → Heap → Prop} {YP : World → Heap → Prop} {d : DefRec} {K : Params → PySem.W.Frag} {x : Str}
    (hn : l.most = some n) (hn2 : n ≤ sizeLine) (hdf : d.params.defaults = []) (room : Room k callerA) (hY : ∀ (w : World) (h : Heap), YP w h → (K w.params).In h)
    (F : ∀ (w : World) (mg : Str → Option Value) (fa : Addr) (h : Heap), YP w h → (K w.params).In h → h.Ns mainGlobals mg → mg d.name = some (.ref fa) → LawAtG l w (K w.params) k n x mg fa h) :
    PySem.W.WalkO q loose XP YP l.row.toRowW d [] (fun f vs => PySem.call f vs) := by
  refine Att.attach_callB hn hdf fun w s₀ s₁ mg mb fa o pm cd doc a vs ns G Y ho hd hcd hmg hobj hints hlen hbits hg => ?_
  obtain ⟨fd, c, tb, sp, t1, t2, t3, t4, t5, t6⟩ := F w mg fa _ Y (hY w _ Y) G.T.g hmg
  exact law_callG (hY w _ Y) G.T.g G.T.b G.T.builtins G.T.nolimit hg t1 t2 t3 G.T.bmain hobj hints (Nat.le_trans hlen hn2) room t6 t4 fun H h1 h2 => t5 H a ns hlen h1 h2
end Rf
end -- Eg
section -- Mt
set_option Elab.async false
set_option maxRecDepth 100000
set_option maxHeartbeats 4000000
set_option linter.all false
namespace Rf
open PySem L2 PyProof.Rows
theorem subDepth {f : Str → Option Sy} {D : Nat} (h : ∀ c s, f c = some s → s.depth ≤ D) : ∀ s : Sy, (s.sub f).depth ≤ s.depth + D
  | .lt c => by
    show ((f c).getD (.lt c)).depth ≤ 0 + D
    cases e : f c with
    | none => simp [Sy.depth]
    | some t => have := h c t e; simp; omega
  | .nt x => by have := subDepth h x; simp only [Sy.sub, Sy.depth]; omega
  | .bi w x y => by have := subDepth h x; have := subDepth h y; simp only [Sy.sub, Sy.depth]; omega
theorem subSize {f : Str → Option Sy} {B : Nat} (b1 : 1 ≤ B) (h : ∀ c s, f c = some s → s.size ≤ B) : ∀ s : Sy, (s.sub f).size ≤ s.size * B
  | .lt c => by
    show ((f c).getD (.lt c)).size ≤ 1 * B
    cases e : f c with
    | none => simp [Sy.size]; omega
    | some t => have := h c t e; simp; omega
  | .nt x => by
    have h1 := subSize b1 h x
    simp only [Sy.sub, Sy.size]
    rw [Nat.add_mul]
    omega
  | .bi w x y => by
    have h1 := subSize b1 h x
    have h2 := subSize b1 h y
    simp only [Sy.sub, Sy.size]
    rw [Nat.add_mul, Nat.add_mul]
    omega
theorem one1_eq {c d : Str} {o s : Sy} (h : one1 c o d = some s) : s = o := by
  unfold one1 put1 at h
  split at h
  · cases h; rfl
  · cases h
theorem subOne (c : Str) (o : Sy) : ∀ s : Sy, (s.sub (one1 c o)).size + s.many c = s.size + s.many c * o.size
  | .lt d => by
    show ((one1 c o d).getD (.lt d)).size + (if d = c then 1 else 0) = 1 + (if d = c then 1 else 0) * o.size
    unfold one1 put1
    by_cases e : c = d
    · subst e; simp; omega
    · have e' : ¬ d = c := fun z => e z.symm
      simp [e, e', map0, Sy.size]
  | .nt x => by
    have h1 := subOne c o x
    simp only [Sy.sub, Sy.size, Sy.many]
    omega
  | .bi w x y => by
    have h1 := subOne c o x
    have h2 := subOne c o y
    simp only [Sy.sub, Sy.size, Sy.many]
    rw [Nat.add_mul]
    omega
theorem subSame {c : Str} : ∀ s : Sy, s.sub (one1 c (.lt c)) = s
  | .lt d => by
    show (one1 c (.lt c) d).getD (.lt d) = .lt d
    unfold one1 put1
    by_cases e : c = d
    · subst e; simp
    · simp [e, map0]
  | .nt x => by simp only [Sy.sub, subSame x]
  | .bi w x y => by simp only [Sy.sub, subSame x, subSame y]
theorem subNil : ∀ s : Sy, s.sub (mapL []) = s
  | .lt d => rfl
  | .nt x => by simp only [Sy.sub, subNil x]
  | .bi w x y => by simp only [Sy.sub, subNil x, subNil y]
def ringP : List (Str × Str) := [("a", "b"), ("b", "c"), ("c", "d"), ("d", "a")]
def backP : List (Str × Str) := [("b", "a"), ("c", "b"), ("d", "c"), ("a", "d")]
theorem ringLet : ∀ c ∈ letV, (((mapL ringP c).getD (.lt c)).sub (mapL backP)) = .lt c := by decide +kernel
theorem ringBack : ∀ {s : Sy}, s.Good → (s.sub (mapL ringP)).sub (mapL backP) = s
  | .lt c, g => ringLet c g
  | .nt x, g => by simp only [Sy.sub, ringBack (s := x) g]
  | .bi w x y, g => by simp only [Sy.sub, ringBack (s := x) g.2.1, ringBack (s := y) g.2.2]
theorem mapL_lt {l : List (Str × Str)} {c : Str} {s : Sy} (e : mapL l c = some s) : ∃ d, s = .lt d := by
  have gen : ∀ (l : List (Str × Str)) (f : Str → Option Sy), (∀ c s, f c = some s → ∃ d, s = .lt d) → ∀ c s, l.foldl (fun f p => put1 f p.1 (.lt p.2)) f c = some s → ∃ d, s = .lt d := by
    intro l
    induction l with
    | nil => intro f h2 c s e; exact h2 c s e
    | cons p r ih =>
      intro f h2
      refine ih _ fun c s e => ?_
      replace e : (if p.1 = c then some (Sy.lt p.2) else f c) = some s := e
      by_cases q : p.1 = c
      · rw [if_pos q] at e
        cases e
        exact ⟨_, rfl⟩
      · rw [if_neg q] at e
        exact h2 c s e
  exact gen l map0 (fun c s e => by cases e) c s e
theorem renSize (l : List (Str × Str)) (s : Sy) : (s.sub (mapL l)).size ≤ s.size := by
  have := subSize (B := 1) (Nat.le_refl _) (fun c t e => by obtain ⟨d, rfl⟩ := mapL_lt e; exact Nat.le_refl _) s (f := mapL l)
  omega
theorem renDepth (l : List (Str × Str)) (s : Sy) : (s.sub (mapL l)).depth ≤ s.depth := by
  have := subDepth (D := 0) (fun c t e => by obtain ⟨d, rfl⟩ := mapL_lt e; exact Nat.le_refl _) s (f := mapL l)
  omega
theorem renFits {l : List (Str × Str)} {s : Sy} (h : s.fits = true) : (s.sub (mapL l)).fits = true := by
  have h1 := fits_iff.mp h
  have h2 := renSize l s
  have h3 := renDepth l s
  exact fits_iff.mpr ⟨by omega, by omega⟩
theorem eqvLt {c : Str} : ∀ {s : Sy}, s.Good → PyData.eqv s.data (Sy.lt c).data = decide (s = .lt c)
  | .lt d, _ => by
    simp only [Sy.data, PyData.eqv, PyData.eqvAll]
    by_cases e : d = c
    · subst e; simp
    · have : ¬ Sy.lt d = Sy.lt c := fun z => e (by cases z; rfl)
      simp [e, this]
  | .nt x, _ => by
    have : ¬ Sy.nt x = Sy.lt c := fun z => by cases z
    have w : ((("not" : Str)) == ("letter" : Str)) = false := by decide +kernel
    simp [Sy.data, PyData.eqv, PyData.eqvAll, this, w]
    try decide +kernel
  | .bi w x y, g => by
    have : ¬ Sy.bi w x y = Sy.lt c := fun z => by cases z
    have hw : (w == ("letter" : Str)) = false := by rcases g.1 with rfl | rfl | rfl | rfl <;> decide +kernel
    simp [Sy.data, PyData.eqv, PyData.eqvAll, this, hw]
def cnt (c : Str) : List Sy → Nat
  | [] => 0
  | p :: r => (if p = .lt c then 1 else 0) + cnt c r
theorem cnt_app (c : Str) (a b : List Sy) : cnt c (a ++ b) = cnt c a + cnt c b := by
  induction a with
  | nil => simp [cnt]
  | cons p r ih => simp only [List.cons_append, cnt, ih]; omega
theorem cntAll (c : Str) : ∀ s : Sy, cnt c s.allp = s.many c
  | .lt d => by
    show (if Sy.lt d = Sy.lt c then 1 else 0) + 0 = if d = c then 1 else 0
    by_cases e : d = c
    · subst e; simp
    · have : ¬ Sy.lt d = Sy.lt c := fun z => e (by cases z; rfl)
      simp [e, this]
  | .nt x => by
    have : ¬ Sy.nt x = Sy.lt c := fun z => by cases z
    simp [Sy.allp, cnt, cntAll c x, Sy.many, this]
  | .bi w x y => by
    have : ¬ Sy.bi w x y = Sy.lt c := fun z => by cases z
    simp [Sy.allp, cnt, cnt_app, cntAll c x, cntAll c y, Sy.many, this]
theorem goodAll : ∀ {s : Sy}, s.Good → ∀ p ∈ s.allp, p.Good
  | .lt d, g, p, h => by simp [Sy.allp] at h; subst h; exact g
  | .nt x, g, p, h => by
    rcases List.mem_cons.mp h with rfl | h
    · exact g
    · exact goodAll (s := x) g p h
  | .bi w x y, g, p, h => by
    rcases List.mem_cons.mp h with rfl | h
    · exact g
    · rcases List.mem_append.mp h with h | h
      · exact goodAll (s := x) g.2.1 p h
      · exact goodAll (s := y) g.2.2 p h
theorem depthAll : ∀ {s : Sy}, ∀ p ∈ s.allp, p.depth ≤ s.depth
  | .lt d, p, h => by simp [Sy.allp] at h; subst h; exact Nat.le_refl _
  | .nt x, p, h => by
    rcases List.mem_cons.mp h with rfl | h
    · exact Nat.le_refl _
    · have := depthAll (s := x) p h; simp only [Sy.depth]; omega
  | .bi w x y, p, h => by
    rcases List.mem_cons.mp h with rfl | h
    · exact Nat.le_refl _
    · rcases List.mem_append.mp h with h | h
      · have := depthAll (s := x) p h; simp only [Sy.depth]; omega
      · have := depthAll (s := y) p h; simp only [Sy.depth]; omega
theorem small12 {s : Sy} {m : Nat} (h : s.size ≤ m) (hm : m ≤ 41) : s.fits = true := by
  have := s.depth_lt_size
  exact fits_iff.mpr ⟨by omega, by omega⟩
end Rf
end -- Mt
section -- Cg
set_option Elab.async false
set_option maxRecDepth 100000
set_option maxHeartbeats 4000000
set_option pp.maxSteps 600
set_option pp.deepTerms false
set_option linter.all false
namespace Rf
open PySem PySem.Spec PyProof.Rows L2 LamX
/-! ### what a saying shows -/
theorem Sy.show_ : ∀ s : Sy, s.data.showable = true
  | .lt c => by simp [data, PyData.showable, PyData.showableAll]
  | .nt x => by have := show_ x; simp [data, PyData.showable, PyData.showableAll, this]
  | .bi w x y => by have := show_ x; have := show_ y; simp [data, PyData.showable, PyData.showableAll, *]
theorem letLen : ∀ c ∈ letV, (reprText c).length ≤ 10 := by decide +kernel
theorem wordLen : ∀ c ∈ (["letter", "not", "both", "either", "if", "but"] : List Str), (reprText c).length ≤ 10 := by decide +kernel
theorem Sy.shownLen : ∀ {s : Sy}, s.Good → s.data.shown.length ≤ 40 * s.size
  | .lt c, g => by
    have h1 := letLen c g
    have h2 := wordLen "letter" (by decide +kernel)
    have h3 := fmt_text [reprText "letter", reprText c]
    simp only [data, PyData.shown, PyData.shownAll, size]
    rw [piled_cons, piled_cons, piled_nil] at h3
    omega
  | .nt x, g => by
    have h1 := shownLen (s := x) g
    have h2 := wordLen "not" (by decide +kernel)
    have h3 := fmt_text [reprText "not", x.data.shown]
    simp only [data, PyData.shown, PyData.shownAll, size]
    rw [piled_cons, piled_cons, piled_nil] at h3
    omega
  | .bi w x y, g => by
    have h1 := shownLen (s := x) g.2.1
    have h0 := shownLen (s := y) g.2.2
    have h2 : (reprText w).length ≤ 10 := by rcases g.1 with rfl | rfl | rfl | rfl <;> exact wordLen _ (by decide +kernel)
    have h3 := fmt_text [reprText w, x.data.shown, y.data.shown]
    simp only [data, PyData.shown, PyData.shownAll, size]
    rw [piled_cons, piled_cons, piled_cons, piled_nil] at h3
    omega
section
variable {X : Cx}
def rReprS (K : PySem.W.Frag) : List V → Hp → VK → Prop := fun xs H Q => ∃ (s : Sy) (v : V), xs = [v] ∧ Sv K H s v ∧ s.Good ∧ s.depth ≤ 60 ∧ s.size ≤ 1000 ∧ Q (.str s.data.shown) H
theorem call_reprS (quiet : X.A.guards = some []) (room : X.A.units + 200 < cLine) : CallR X (.builtin "repr") (rReprS X.K) := by
  intro pins s σ H xs us Q I r h
  obtain ⟨y, v, rfl, hv, g, d, z, q⟩ := h
  obtain ⟨a, rfl⟩ := hv.ref
  have h1 := y.dataDepth
  have h2 := Sy.shownLen g
  have big : 100000 < sizeLine := by decide
  exact call_reprD quiet room pins s σ H _ us Q I r ⟨a, _, rfl, hv.dp, y.show_, y.noDict, by omega, by omega, q⟩
/-- isinstance(e, C), e of the class C itself -/
def rIsOwn : List V → Hp → VK → Prop := fun xs H Q => ∃ (a C : Addr) (d : Option Addr), xs = [.ref a, .ref C] ∧ H a = some (ExV (.ref C) d a) ∧ Q (.bl true) H
theorem call_isOwn : CallR X (.builtin "isinstance") rIsOwn := by
  intro pins s σ H xs us Q I r h
  obtain ⟨a, C, d, rfl, ha, q⟩ := h
  obtain ⟨⟨oe, vs, ho, hz, hd⟩, _, _⟩ := I.hok a _ ha
  cases r with
  | cons r1 rr =>
    cases rr with
    | cons r2 rr =>
      cases rr
      cases r1
      cases r2
      refine call_isinstance (S := fun _ R s => (∃ o, s.heap.get? a = some o ∧ o.cls = .ref C) ∧ R (.ok (.ret (.bool true))) s) (fun prog w A R s hs => isinstance_outer ?_ (by intro e; cases e)) ⟨⟨oe, ho, hz.1⟩, ⟨.bl true, H, I, rfl, q⟩⟩
      obtain ⟨⟨o, e1, e2⟩, hq⟩ := hs
      have LT : PySem.W.Looks (model prog w) s.heap (typeOf (.ref a)) (.ref C) := fun A Q E s k q => wpAny_typeOf_ref (k _ _ e1) (by rw [e2]; exact q)
      unfold Builtin.«isinstance.nested»
      refine wpAny_bind (LT.here ?_)
      rw [if_pos (beq_self_eq_true _)]
      first
        | exact wpAny_bind (wpAny_rule hq)
        | exact wpAny_bind (wpAny_rule (wpAny_pure hq))
        | ((repeat lk); exact hq)
/-- e.value of an own error that was given back -/
def tValue (C : Addr) (te : TE) : TE := fun σ H Q => te σ H fun x H1 => ∃ (a dd : Addr) (v : V), x = .ref a ∧ H1 a = some (ExV (.ref C) (some dd) a) ∧ H1 dd = some (.xd [(("value" : Str), v)]) ∧ Q v H1
theorem pe_value {nm : Str} {C D fI : Addr} {e : Expr} {te : TE} {pos : Pos} (T : FeTxt X.prog X.K X.mg nm C D fI) (he : PE X e te) (hb : attributeBase e "value" X.env (eval e X.env) = eval e X.env := by rfl) :
    PE X (.Attribute e "value" pos) (tValue C te) := by
  refine ⟨fun pins s σ H Q I h => ?_⟩
  refine attr_of hb (thn (he.run pins s σ H _ I h) fun u s1 hh => ?_)
  obtain ⟨x, H1, I1, rx, a, dd, v, rfl, ha, hdd, q⟩ := hh
  obtain rfl : u = Value.ref a := rx
  obtain ⟨⟨oe, vs, ho, hz, hd⟩, _, _⟩ := I1.hok a _ ha
  obtain ⟨mA, hns, hr⟩ := (show ObjOk X.prog X.w H1 s1.heap dd (.xd [(("value" : Str), v)]) from I1.hok dd _ hdd)
  obtain ⟨od, g1, g2⟩ := lookIn_ns hns
  have l : List.lookup ("value" : Str) [(("value" : Str), v)] = some v := by simp [List.lookup]
  obtain ⟨u, hu, ru⟩ := RelO.some_of (v := v) (o := mA "value") (by rw [← l]; exact hr "value")
  have J : PySem.W.InstAt s1.heap a oe C (some od) := ⟨ho, hz.1, by unfold PySem.W.notCls; rw [hd] <;> rfl, by rw [hz.2]; exact g1⟩
  exact HandSPX.exc_get I1.kIn J T.ga T.gg T.exC (PySem.W.findObj_own T.hdC T.noN rfl (by rw [g2, hu])) (handed_of ru) ⟨v, H1, I1.tok _, ru, q⟩
end
/-- what _law_caught makes of the call that it got -/
def TCaught (K : PySem.W.Frag) (D : Addr) : (XK → Hp → VK → Prop) → Hp → VK → Prop := fun tl H Q =>
  tl (fun cls d H' => ∃ b, PySem.W.exmOne K cls (.ref D) = some b ∧ (b = true → ∀ a, H' a = none → Q (.ref a) (upd H' a (ExV cls d a))) ∧ (b = false → False)) H fun _ H' => Q .non H'
theorem caught_gives {X : Cx} {Ng : List Str} {x a e n q : Str} {sg : Scope} {g D : Addr} {cdg : Value} {j i : Nat} {p1 p2 p3 p4 p5 p6 p7 p8 p9 p10 : Pos} (nd : Ng.Nodup) (hi : Ng[i]? = some n) (ln : sg.names.lookup n = some .local)
    (hge : sg.names.lookup e = some .globalImplicit) (hme : X.mg e = some (.ref D)) (hde : (e == ("__debug__" : Str)) = false) (hdn : (n == ("__debug__" : Str)) = false) (hcn : (n == ("__classdict__" : Str)) = false) (h0 : ∀ f : Addr, (L2.start Ng [V.ref f])[0]? = some (some (V.ref f))) :
    GivesTo X Ng x sg g cdg [.Try [.Expr (.Call (.Name a p1) [] [] p2) p3] [.ExceptHandler (some (.Name e p4)) (some n) [.Return (some (.Name n p5)) p6] p7] [] [] p8, .Return (some (.Constant .none j p9)) p10] a q (TCaught X.K D) := by
  intro f c' s H Q tl act hc h
  have hgl : Gl (cxOf C8.CX0 X.prog X.w X.K X.mg X.base Ng x sg g cdg X.A X.stack s H C8.E0).nox e := hge
  refine ⟨_, pss_cons (ps_give (X := (cxOf C8.CX0 X.prog X.w X.K X.mg X.base Ng x sg g cdg X.A X.stack s H C8.E0).nox) (c := .ref D) (i := i)
      (tb := fun W D σ H => ∃ Ech : XK, (∀ cls d σ' H', Ech cls d H' → W cls d σ' H') ∧ σ[0]? = some (some (.ref f)) ∧ H c' = some (CodeO c' q) ∧ tl Ech H fun _ H' => D.nx σ H')
      rfl rfl rfl nd hi ln ⟨hgl, hde, .inl hme⟩ L2.takes0 hdn hcn (fun W pn xe tk _ => ?_)) (pss_one (ps_ret pe_non)), ?_⟩
  · refine ⟨fun pins s' σ H' D I h' => ?_⟩
    obtain ⟨Ech, hW, h1, h2, h3⟩ := h'
    have hp := act W pn xe Ech p1 p2 tk hW
    have hq := pss_one (ps_expr (pos := p3) hp)
    exact hq.run pins s' σ H' D I ⟨h1, h2, h3⟩
  · exact ⟨fun cls d H' => ∃ b, PySem.W.exmOne X.K cls (.ref D) = some b ∧ (b = true → ∀ a, H' a = none → Q (.ref a) (upd H' a (ExV cls d a))) ∧ (b = false → False), fun cls d σ' H' ⟨b, e1, e2, e3⟩ => ⟨b, e1, fun hb a na => e2 hb a na, fun hb => e3 hb⟩, h0 f, hc, h⟩
end Rf
end -- Cg
section -- R1
set_option Elab.async false
set_option maxRecDepth 100000
set_option maxHeartbeats 8000000
set_option pp.maxSteps 600
set_option pp.deepTerms false
set_option linter.all false
namespace Rf
open PySem PySem.Spec PyProof.Rows L2 StX
open LamX (ExtN Tabs TabS CodeO TabB pe_lamcall lamS_by lamCx lamEnv)
abbrev NR : List Str := ["pot", "saying", "other", "firsts", "pairs", "ring", "back", "letter", "told", "many", "here", "lap", "due", "caught", "one", "its", "part"]
theorem scR : FnScope NR ["pot"] (defScope (top 45)) := ⟨rfl, rfl, rfl, by decide +kernel, rfl, by decide +kernel, by decide +kernel⟩
abbrev qR : Str := "_law_right.<locals>.<lambda>"
theorem extTup {K : PySem.W.Frag} {a : Addr} {H H' : Hp} {xs : List V} (h : ExtN H H') (q : SqT K H a xs) : SqT K H' a xs := by
  rcases q with (q | ⟨o, q⟩) | q
  · exact .inl (.inl (h _ _ q fun _ z => by cases z))
  · exact .inl (.inr ⟨o, h _ _ q fun _ z => by cases z⟩)
  · exact .inr q
theorem extSv {K : PySem.W.Frag} {H H' : Hp} (h : ExtN H H') : ∀ {s : Sy} {v : V}, Sv K H s v → Sv K H' s v
  | .lt _, _, ⟨b, e, q⟩ => ⟨b, e, extTup h q⟩
  | .nt _, _, ⟨b, u, e, q, r⟩ => ⟨b, u, e, extTup h q, extSv h r⟩
  | .bi _ _ _, _, ⟨b, u, t, e, q, r, s⟩ => ⟨b, u, t, e, extTup h q, extSv h r, extSv h s⟩
theorem extS {H H' : Hp} (h : Same H H') : ExtN H H' := ExtN.of h
theorem PSs.imp {X : Cx} {b : List Stmt} {t t' : TS} (h : PSs X b t) (k : ∀ D σ H, t' D σ H → t D σ H) : PSs X b t' := ⟨fun pins s σ H D I q => h.run pins s σ H D I (k D σ H q)⟩
abbrev XR (P : Program) (w : World) (K : PySem.W.Frag) (mg : Str → Option Value) (base : Heap) (f : Addr) (cdv : Value) (A : Around) (outer : List Env) (s : Shared) (H : Hp) (E : XK) : Cx := (cxOf CX0 P w K mg base NR "_law_right" (defScope (top 45)) f cdv A outer s H E).nox
theorem dispOne {K : PySem.W.Frag} {H : Hp} {c : Str} {u : V} {o : Sy} {p : Addr} (np : H p = none) (ho : Sv K H o u) :
    ∃ H1, upd (upd H p (.dK [])) p (.dK (mergeK [] [(Sum.inr c, u)])) = H1 ∧ Same H H1 ∧ Leads K H1 p (one1 c o) := by
  have e1 : upd (upd H p (.dK [])) p (.dK (mergeK [] [(Sum.inr c, u)])) = upd H p (.dK (putK [] (Sum.inr c) u)) := by
    funext b
    by_cases z : b = p
    · subst z; rw [upd_same, upd_same]; rfl
    · rw [upd_ne z, upd_ne z, upd_ne z]
  refine ⟨_, rfl, ?_, ?_⟩
  · rw [e1]; exact same_new np
  · rw [e1]
    exact (Rel.nil.put (ho.same (same_new np))).leads upd_same
/-- a test's answer told by a word of its own -/
def tCutT (t : TT) : TT := fun σ H Q => ∃ C : Bool → Hp → Prop, t σ H C ∧ ∀ b H1, C b H1 → Q b H1
theorem pt_cut {X : Cx} {e : Expr} {t : TT} (h : PT X e t) : PT X e (tCutT t) := by
  refine ⟨fun pins s σ H Q I hq => ?_⟩
  obtain ⟨C, h1, k⟩ := hq
  exact wpAny_mono (h.run pins s σ H C I h1) (fun b s1 ⟨H1, I1, q1⟩ => ⟨H1, I1, k _ _ q1⟩) fun _ _ z => z
theorem two00 : (toString (200 : Int) : Str) = "200" := by decide +kernel
theorem eqQ : (("_law_right" : Str) ++ ".<locals>.") ++ "<lambda>" = qR := by decide +kernel
section
variable {P : Program} {w : World} {K : PySem.W.Frag} {mg : Str → Option Value} {base : Heap} {dL aL : Addr}
/-- the laps, from the answer's state on -/
def condB (K : PySem.W.Frag) (tb : Addr) : TS := fun D σ H => ∃ (y : Sy) (v : V) (p0 p2 p3 p4 p5 p6 p7 p8 p9 p10 p11 p12 p13 p14 p15 p16 : Option V), σ = [p0, some v, p2, p3, p4, p5, p6, p7, p8, p9, p10, p11, p12, p13, p14, p15, p16] ∧
  Sv K H y v ∧ y.Good ∧ y.size ≤ 12 ∧ Tabs [(tb, qR)] H ∧ ∀ H', ExtN H H' → Tabs [(tb, qR)] H' → D.rt (.bl true) H'
theorem lapsOk {CT D fI tb c gC : Addr} {f : Addr} {A : Around} {outer : List Env} {s : Shared} {H : Hp} {E : XK} {fdC : FuncData} (T : Tx K w mg dL aL) (TT : FeTxt P K mg "TooGreat" CT D fI) (hr : Room 70 (A.deeper (envOfC "_law_right" (defScope (top 45)) s.heap.objs.size f (.ref c))))
    (GL : Cl P w K mg base CX0 41 "_law_led" (spLed K 40)) (GP : Cl P w K mg base CX0 61 "_law_parts" (spParts K 60)) (GD : Cl P w K mg base CX0 61 "_law_deep" (spDeep K 60)) (GI : Cl P w K mg base (L2.CX P w) 43 "put_in" (spPut K CT))
    (FC : Fun K "_law_caught" "_law_caught" (top 40) gC fdC) (hmC : mg "_law_caught" = some (.ref gC)) (TB : TabB base mg c tb) :
    PSs (XR P w K mg base f (.ref c) A outer s H E) ((defBody (top 45)).drop 12) (condB K tb) := by
  have nd := scR.nd
  obtain ⟨oc, od, kV, doc, pm, an, cdC, ct, osl, rfl, lkC, hcdC⟩ := FC.ex
  refine PSs.imp (pss_cons (ps_set (i := 10) nd rfl (Or.inr rfl) (pe_tup (pa_cons pe_str (pa_cons (pe_tup (pa_cons pe_str (pa_cons pe_str pa_nil))) (pa_cons (pe_tup (pa_cons pe_str (pa_cons pe_str pa_nil))) pa_nil)))))
    (pss_cons (ps_for PassesOwn.never rfl (pi_range1 (by rfl) T.range (pa_cons pe_int pa_nil)) (pg_name (i := 11) nd rfl (.inl rfl))
      (pss_cons (ps_set (i := 12) nd rfl (Or.inl rfl) (pe_cl GL (hr.mono (by decide)) (by rfl) (pa_cons (pv 10) (pa_cons (pe_disp (pps_cons pe_str (pv 1) pps_nil) (by rfl) (by rfl) (fun z => by cases z) (by decide)) pa_nil))))
      (pss_cons (ps_set (i := 13) nd rfl (Or.inl rfl) (pe_lamcall (a := "call") (T := [(tb, qR)]) (TT := TCaught K D) (k := 43) (Ng := ["call", "error"]) (by rfl) hmC FC.kp lkC hcdC (.all fun us hl => match us, hl with | [_], _ => rfl) ⟨rfl, rfl, rfl, by decide +kernel, rfl, by decide +kernel, by decide +kernel⟩ rfl (.inl rfl)
          (caught_gives (i := 1) (by decide) rfl rfl rfl TT.gD (by decide) (by decide) (by decide) (fun _ => rfl)) TB rfl (List.mem_singleton.mpr (congrArg (Prod.mk tb) eqQ)) (fun p hp _ => by rw [List.mem_singleton.mp hp]; exact eqQ.symm) (hr.mono (by decide)) (lamS_by (by show LamX.lamSB (defScope (top 45)) _ = true; decide +kernel)) rfl (fun _ _ _ _ _ => rfl)
          (fun A' outer' s' H' E' f' c' hr' => pe_clX GI hr' (by rfl) (passes_call (takes_of rfl rfl rfl rfl) (fun cls d σ H h => h)) (pa_cons (pv 10) (pa_cons pe_str (pa_cons (pv 1) pa_nil))))))
      (pss_cons (ps_if (pt_cut (PW.pt (pw_or (pt_cmpR op_gt (pe_callB call_len_seq (by rfl) T.len PySem.boot_len (pa_cons (pe_cl GP (hr.mono (by decide)) (by rfl) (pa_cons (pv 12) pa_nil)) pa_nil)) pe_int (nomark _)) (pw_or1 (pt_cmpR op_gt (pe_cl GD (hr.mono (by decide)) (by rfl) (pa_cons (pv 12) pa_nil)) pe_int (nomark _))))))
          (pss_cons (ps_if (PW.pt (pw_or (pt_not (pt_val (pe_callB call_isOwn (by rfl) T.isi (by decide +kernel) (pa_cons (pv 13) (pa_cons (pe_glob (v := .ref CT) (by rfl) TT.gC rfl) pa_nil)))))
              (pw_or1 (pt_cmpR op_ne (pe_callB SkE.call_repr_int (by rfl) T.repr (by decide +kernel) (pa_cons (pe_value TT (pv 13)) pa_nil)) pe_str (nomark _))))) (pss_one (ps_ret pe_bl)) pss_nil) (pss_one (ps_ret pe_bl))) pss_nil)
      (pss_cons (ps_if (PW.pt (pw_or (pt_cmpR op_notN (pv 13) pe_non (nomark _)) (pw_or1 (pt_cmpR (op_neD hr.units) (pe_clX GI (hr.mono (by decide)) (by rfl) passN (pa_cons (pv 10) (pa_cons pe_str (pa_cons (pv 1) pa_nil)))) (pv 12) (nomark _))))) (pss_one (ps_ret pe_bl)) pss_nil)
      (pss_cons (ps_if (pt_cut (PW.pt (pw_or (pt_cmpR op_gt (pe_callB call_len_seq (by rfl) T.len PySem.boot_len (pa_cons (pe_cl GP (hr.mono (by decide)) (by rfl) (pa_cons (pv 12) pa_nil)) pa_nil)) pe_int (nomark _)) (pw_or1 (pt_cmpR op_gt (pe_cl GD (hr.mono (by decide)) (by rfl) (pa_cons (pv 12) pa_nil)) pe_int (nomark _)))))) (pss_one (ps_ret pe_bl)) pss_nil)
      (pss_one (ps_set (i := 10) nd rfl (Or.inr rfl) (pe_tup (pa_cons pe_str (pa_cons (pv 12) (pa_cons (pe_tup (pa_cons pe_str (pa_cons pe_str pa_nil))) pa_nil))))))))))))
    (pss_one (ps_ret pe_bl)))) fun DD σ H1 h => ?_
  obtain ⟨y, v, p0, p2, p3, p4, p5, p6, p7, p8, p9, p10, p11, p12, p13, p14, p15, p16, rfl, hv, hg, hz, hT, q⟩ := h
  refine ⟨(by show 2 ≤ sizeLine; decide), fun t1 n1 => ⟨(by show 2 ≤ sizeLine; decide), fun t2 n2 => ⟨(by show 3 ≤ sizeLine; decide), fun t3 n3 => ?_⟩⟩⟩
  have sa := same_new (o := .tup [.str "letter", .str "a"]) n1
  have sb := same_new (o := .tup [.str "letter", .str "a"]) n2
  have sc := same_new (o := .tup [.str "both", .ref t1, .ref t2]) n3
  have here0 : Sv K (upd (upd (upd H1 t1 (.tup [.str "letter", .str "a"])) t2 (.tup [.str "letter", .str "a"])) t3 (.tup [.str "both", .ref t1, .ref t2])) (.bi "both" (.lt "a") (.lt "a")) (.ref t3) :=
    ⟨t3, _, _, rfl, SqT.of upd_same, Sv.same (sb.trans sc) ⟨t1, rfl, SqT.of upd_same⟩, Sv.same sc ⟨t2, rfl, SqT.of upd_same⟩⟩
  have e0 := extS ((sa.trans sb).trans sc)
  have T0 := hT.ext ((sa.trans sb).trans sc)
  have aLet : ("a" : Str) ∈ letV := by decide +kernel
  refine ⟨_, rfl, by decide, by decide, ?_⟩
  have yd := y.depth_lt_size
  have yfit : y.fits = true := small12 hz (by decide)
  refine for_range (n := 9) (fun i σ H' => ∃ (x : Sy) (xv : V) (p0 p2 p3 p4 p5 p6 p7 p8 p9 p11 p12 p13 p14 p15 p16 : Option V), σ = [p0, some v, p2, p3, p4, p5, p6, p7, p8, p9, some xv, p11, p12, p13, p14, p15, p16] ∧ Sv K H' x xv ∧ x.Good ∧ x.fits = true ∧ ExtN H1 H' ∧ Tabs [(tb, qR)] H') ?_ ?_ ?_
  · exact ⟨_, _, _, _, _, _, _, _, _, _, _, _, _, _, _, _, _, rfl, here0, ⟨.inl rfl, aLet, aLet⟩, by decide, e0, T0⟩
  · rintro i σ H2 hi ⟨x, xv, p0, p2, p3, p4, p5, p6, p7, p8, p9, p11, p12, p13, p14, p15, p16, rfl, hx, gx, fx, e2, T2⟩
    have hv2 := extSv e2 hv
    have fx' := fits_iff.mp fx
    refine ⟨_, rfl, fun p np => ⟨_, rfl, upd_same, [(Sum.inr "a", v)], rfl, by simp, ?_⟩⟩
    obtain ⟨H3, eH, s3, lead⟩ := dispOne (c := "a") np hv2
    rw [eH]
    refine ⟨x, xv, p, one1 "a" y, rfl, hx.same s3, gx, fx'.2, lead, fun dv H4 s4 hdv => ?_⟩
    obtain ⟨due, edue⟩ : ∃ due, due = x.sub (one1 "a" y) := ⟨_, rfl⟩
    have gdue : due.Good := by
      rw [edue]
      exact Sy.subGood (fun c t e => by rw [one1_eq e]; exact hg) gx
    have ddue : due.depth ≤ 52 := by
      have := subDepth (D := 12) (f := one1 "a" y) (fun c t e => by rw [one1_eq e]; omega) x
      rw [← edue] at this
      omega
    have zdue : due.size ≤ 2400 := by
      have := subSize (B := 12) (f := one1 "a" y) (by decide) (fun c t e => by rw [one1_eq e]; exact hz) x
      rw [← edue] at this
      have h2 : x.size * 12 ≤ 200 * 12 := Nat.mul_le_mul_right _ fx'.1
      omega
    rw [← edue] at hdv
    have s34 := s3.trans s4
    have T4 := T2.ext s34
    refine ⟨T4, fun H5 e5 T5 => ?_⟩
    have hx5 := extSv e5 (hx.same s34)
    have hv5 := extSv e5 (hv2.same s34)
    have hd5 := extSv e5 hdv
    have e15 := e2.trans ((extS s34).trans e5)
    refine ⟨_, rfl, _, rfl, x, xv, "a", y, v, rfl, hx5, gx, fx, hv5, hg, yfit, aLet, by rw [← edue]; omega, ?_, ?_⟩
    · rw [← edue]
      intro hfit v6 H6 s6 _
      have e6 := e15.trans (extS s6)
      have T6 := T5.ext s6
      have hd6 := hd5.same s6
      have ff := fits_iff.mp hfit
      refine ⟨fun b H7 => b = false ∧ Same H6 H7, ?_, ?_⟩
      · refine ⟨_, rfl, due, dv, rfl, hd6, gdue, by omega, by omega, fun l us H7 s7 nl hl hus => ⟨l, us, rfl, .inl (SqL.of hl), _, _, rfl, rfl, _, rfl, ?_⟩⟩
        have ln : us.length = due.size := by rw [← due.allpLen]; exact hus.length.symm
        rw [decide_eq_false (by omega)]
        refine iteF ⟨_, rfl, due, dv, rfl, hd6.same s7, gdue, by omega, fun H8 s8 => ⟨_, _, rfl, rfl, _, rfl, decide_eq_false (by omega), s7.trans s8⟩⟩
      rintro _ H7 ⟨rfl, s7⟩
      refine iteF ?_
      refine ⟨_, rfl, rfl, _, rfl, iteF ?_⟩
      have s67 := s6.trans s7
      refine ⟨_, rfl, _, rfl, x, xv, "a", y, v, rfl, hx5.same s67, gx, fx, hv5.same s67, hg, yfit, aLet, by rw [← edue]; omega, ?_, fun z => by rw [← edue, hfit] at z; cases z⟩
      rw [← edue]
      intro _ v8 H8 s8 hv8
      have hd8 := (hd6.same s7).same s8
      refine ⟨_, rfl, due.data, due.data, hv8.dp, hd8.dp, Sy.shaped gdue (by omega), Sy.shaped gdue (by omega), _, rfl, ?_⟩
      rw [due.selfEq gdue]
      refine iteF ?_
      have T8 := (T6.ext s7).ext s8
      have e8 := (e6.trans (extS s7)).trans (extS s8)
      refine ⟨fun b H9 => b = (decide (198 < due.size) || decide (39 < due.depth)) ∧ Same H8 H9, ?_, ?_⟩
      · refine ⟨_, rfl, due, dv, rfl, hd8, gdue, by omega, by omega, fun l us H9 s9 nl hl hus => ⟨l, us, rfl, .inl (SqL.of hl), _, _, rfl, rfl, _, rfl, ?_⟩⟩
        have ln : us.length = due.size := by rw [← due.allpLen]; exact hus.length.symm
        refine ite2 (fun z => ?_) (fun z => ?_)
        · refine ⟨?_, s9⟩
          rw [decide_eq_true (show 198 < due.size by have := of_decide_eq_true z; omega)]
          rfl
        · refine ⟨_, rfl, due, dv, rfl, hd8.same s9, gdue, by omega, fun H10 s10 => ⟨_, _, rfl, rfl, _, rfl, ?_, s9.trans s10⟩⟩
          have z2 : ¬ 198 < due.size := fun q => z (decide_eq_true (by omega))
          rw [decide_eq_false z2, Bool.false_or]
          rw [Bool.eq_iff_iff, decide_eq_true_iff, decide_eq_true_iff]
          omega
      rintro b H9 ⟨eb, s9⟩
      have T9 := T8.ext s9
      have e9 := e8.trans (extS s9)
      have hd9 := hd8.same s9
      refine ite2 (fun z => q _ e9 T9) (fun z => ?_)
      have zb : b = false := by simpa using z
      rw [zb] at eb
      have zz : ¬ 198 < due.size ∧ ¬ 39 < due.depth := by simpa using eb.symm
      refine ⟨_, rfl, (by show 2 ≤ sizeLine; decide), fun u1 m1 => ⟨(by show 3 ≤ sizeLine; decide), fun u2 m2 => ?_⟩⟩
      have s10 := same_new (o := .tup [.str "letter", .str "a"]) m1
      have s11 := same_new (o := .tup [.str "either", dv, .ref u1]) m2
      refine ⟨.bi "either" due (.lt "a"), .ref u2, _, _, _, _, _, _, _, _, _, _, _, _, _, _, _, rfl, ⟨u2, _, _, rfl, SqT.of upd_same, (hd9.same s10).same s11, Sv.same s11 ⟨u1, rfl, SqT.of upd_same⟩⟩, ⟨.inr (.inl rfl), gdue, aLet⟩, fits_iff.mpr ⟨?_, ?_⟩, e9.trans (extS (s10.trans s11)), T9.ext (s10.trans s11)⟩
      · show due.size + 1 + 1 ≤ 200
        omega
      · show max due.depth 0 + 1 ≤ 40
        omega
    · rw [← edue]
      intro hfit d H6 s6 nd6 hd6
      refine ⟨true, TT.te, fun _ e ne => ?_, fun z => by cases z⟩
      have s7 := same_new (o := ExV (.ref CT) (some d) e) ne
      have e7 := (e15.trans (extS s6)).trans (extS s7)
      have T7 := (T5.ext s6).ext s7
      have hd7 := (hd5.same s6).same s7
      have hE : upd H6 e (ExV (.ref CT) (some d) e) e = some (ExV (.ref CT) (some d) e) := upd_same
      have hX := s7 _ _ hd6
      revert s7 e7 T7 hd7 hE hX
      generalize upd H6 e (ExV (.ref CT) (some d) e) = H7
      intro s7 e7 T7 hd7 hE hX
      refine ⟨fun b H8 => b = true ∧ Same H7 H8, ?_, ?_⟩
      · refine ⟨_, rfl, due, dv, rfl, hd7, gdue, by omega, by omega, fun l us H8 s8 nl hl hus => ⟨l, us, rfl, .inl (SqL.of hl), _, _, rfl, rfl, _, rfl, ?_⟩⟩
        have ln : us.length = due.size := by rw [← due.allpLen]; exact hus.length.symm
        refine ite2 (fun z => ⟨rfl, s8⟩) (fun z => ?_)
        have z2 : ¬ 200 < due.size := fun q => z (decide_eq_true (by omega))
        refine ⟨_, rfl, due, dv, rfl, hd7.same s8, gdue, by omega, fun H9 s9 => ⟨_, _, rfl, rfl, _, rfl, decide_eq_true ?_, s8.trans s9⟩⟩
        have : ¬ due.fits = true := by rw [hfit]; decide
        have z3 : ¬ due.depth ≤ 40 := fun q => this (fits_iff.mpr ⟨by omega, q⟩)
        omega
      rintro _ H8 ⟨rfl, s8⟩
      refine iteT ?_
      refine ⟨_, rfl, e, CT, some d, rfl, s8 _ _ hE, true, rfl, iteF ?_⟩
      refine ⟨_, rfl, e, d, .int 200, rfl, s8 _ _ hE, s8 _ _ hX, 200, rfl, by decide +kernel, rfl, _, rfl, ?_⟩
      rw [two00]
      rw [decide_eq_true rfl]
      exact iteF (q _ (e7.trans (extS s8)) (T7.ext s8))
  · rintro σ H2 ⟨x, xv, p0, p2, p3, p4, p5, p6, p7, p8, p9, p11, p12, p13, p14, p15, p16, rfl, hx, gx, fx, e2, T2⟩
    exact q H2 e2 T2
end
end Rf
end -- R1
section -- R2
set_option Elab.async false
set_option maxRecDepth 100000
set_option maxHeartbeats 8000000
set_option pp.maxSteps 600
set_option pp.deepTerms false
set_option linter.all false
namespace Rf
open PySem PySem.Spec PyProof.Rows L2 StX
open LamX (ExtN Tabs TabS CodeO TabB pe_lamcall lamS_by lamCx lamEnv)
/-- a comprehension over zip of two texts -/
theorem lc_zipS {x y : Str} {g : TG} {tt : TT} {te : TE} {vs : List Nat} {σ : L2.St} {H1 : Hp} {D : Addr} {Qd : Hp → Prop} (len : x.cps.size = y.cps.size) (Pv : Nat → Hp → Prop) (h0 : Pv 0 (upd H1 D (.lst [])))
    (hs : ∀ i c d T H, x.cps[i]? = some c → y.cps[i]? = some d → H T = none → Pv i H → g (.ref T) (wipe σ vs) (upd H T (.tup [.str ⟨#[c]⟩, .str ⟨#[d]⟩])) fun σ2 H2 => wipe σ2 vs = wipe σ vs ∧ tt σ2 H2 fun b H3 =>
      if b = true then te σ2 H3 fun y H4 => ∃ acc, H4 D = some (.lst acc) ∧ acc.length < sizeLine ∧ Pv (i + 1) (upd H4 D (.lst (acc ++ [y]))) else Pv (i + 1) H3) (hd : ∀ H, Pv x.cps.size H → Qd H) :
    ∃ W : Nat → Nat → Hp → Prop, (∃ m, W 0 m (upd H1 D (.lst []))) ∧ ∀ i m H, W i m H →
      ((ItzS x y).stop i H ∧ Qd H) ∨ ((ItzS x y).go i H ∧ ∃ Nx : Hp → Prop, (∀ H', Nx H' → ∃ m', m' < m ∧ W (i + 1) m' H') ∧ ∀ v H', (ItzS x y).yld i H v H' → g v (wipe σ vs) H' fun σ2 H2 => wipe σ2 vs = wipe σ vs ∧ tt σ2 H2 fun b H3 =>
        if b = true then te σ2 H3 fun y H4 => ∃ acc, H4 D = some (.lst acc) ∧ acc.length < sizeLine ∧ Nx (upd H4 D (.lst (acc ++ [y]))) else Nx H3) := by
  refine ⟨fun i m H => m = x.cps.size - i ∧ i ≤ x.cps.size ∧ Pv i H, ⟨_, rfl, Nat.zero_le _, h0⟩, ?_⟩
  rintro i m H ⟨rfl, hi, p⟩
  rcases Nat.lt_or_ge i x.cps.size with lt | ge
  · refine .inr ⟨lt, Pv (i + 1), fun H' p' => ⟨x.cps.size - (i + 1), by omega, rfl, lt, p'⟩, ?_⟩
    rintro v H' ⟨T, c, d, rfl, hT, hc, hdd, rfl⟩
    exact hs i c d T H hc hdd hT p
  · cases (show i = x.cps.size by omega)
    exact .inl ⟨rfl, hd H p⟩
theorem tabsBut {T : List (Addr × Str)} {a : Addr} {n : Int} {H H' : Hp} (t : Tabs T H) (b : But a H H') (p : Pot H a n) : Tabs T H' := by
  intro q hq
  obtain ⟨ps, h1, h2, h3⟩ := t q hq
  obtain ⟨p0, p1, p2, e, _⟩ := p
  refine ⟨ps, b _ _ (fun z => by rw [z, e] at h1; cases h1) h1, h2, fun pos cv hc => ?_⟩
  obtain ⟨c, e1, e2⟩ := h3 pos cv hc
  exact ⟨c, e1, b _ _ (fun z => by rw [z, e] at e2; cases e2) e2⟩
/-- the pairs that a list of pairs tells, their seconds told somewhere -/
theorem pairs_of {K : PySem.W.Frag} {H : Hp} : ∀ {ys : List Str} {acc : List V}, Paired (fun (o : Str) u => ∃ t i, u = V.ref t ∧ SqT K H t [.str o, .str i] ∧ i ∈ letV) ys acc → ∃ ps : List (Str × Str), ps.map (·.1) = ys ∧ Paired (PrOk K H) ps acc ∧ ∀ p ∈ ps, p.2 ∈ letV
  | _, _, .nil => ⟨[], rfl, .nil, by simp⟩
  | _, _, .cons (a := o) h t => by
    obtain ⟨ps, e, q, m⟩ := pairs_of t
    obtain ⟨u, i, e1, e2, e3⟩ := h
    refine ⟨(o, i) :: ps, by simp [e], .cons ⟨u, e1, e2⟩ q, ?_⟩
    intro p hp
    rcases List.mem_cons.mp hp with rfl | hp
    · exact e3
    · exact m p hp
/-- the dict that a list of such pairs makes -/
theorem dict_of {K : PySem.W.Frag} {H : Hp} : ∀ {ps : List (Str × Str)} {acc : List V}, Paired (fun (p : Str × Str) u => ∃ t t2, u = V.ref t ∧ SqT K H t [.str p.1, .ref t2] ∧ SqT K H t2 [.str "letter", .str p.2]) ps acc →
    ∃ (as : List Addr) (kvs : List (Key × V)), acc = as.map V.ref ∧ Paired (fun a kv => SqT K H a [L2.kV kv.1, kv.2]) as kvs ∧ ∀ H', (∀ t xs, SqT K H t xs → SqT K H' t xs) → ∀ kvs0 f0, Rel K H' kvs0 f0 → Rel K H' (mergeK kvs0 kvs) (ps.foldl (fun f p => put1 f p.1 (.lt p.2)) f0)
  | _, _, .nil => ⟨[], [], rfl, .nil, fun _ _ _ _ h => h⟩
  | _, _, .cons (a := p) h t => by
    obtain ⟨as, kvs, e, q, m⟩ := dict_of t
    obtain ⟨u, t2, e1, e2, e3⟩ := h
    refine ⟨u :: as, (Sum.inr p.1, .ref t2) :: kvs, by simp [e, e1], .cons e2 q, fun H' st kvs0 f0 r => ?_⟩
    exact m H' st _ _ (r.put (s := .lt p.2) ⟨t2, rfl, st _ _ e3⟩)
theorem letA : (signs "abcdef").length = 6 ∧ (signs "abcdef").Nodup ∧ (∀ c ∈ signs "abcdef", c ∈ letV) := by decide +kernel
theorem letB : (signs "abcdefl").length = 7 ∧ (∀ c ∈ signs "abcdefl", c ∈ letV) := by decide +kernel
theorem letC : (signs "abcde").length = 5 ∧ (∀ c ∈ signs "abcde", c ∈ letV) := by decide +kernel
theorem ringAt : ∀ (i c d : Nat), ("abcd" : Str).cps[i]? = some c → ("bcda" : Str).cps[i]? = some d → ringP[i]? = some (⟨#[c]⟩, ⟨#[d]⟩) := by
  intro i c d h1 h2
  have lt : i < 4 := by
    have := (Array.getElem?_eq_some_iff.mp h1).1
    exact this
  have key : ∀ i < 4, ∀ (c d : Nat), ("abcd" : Str).cps[i]? = some c → ("bcda" : Str).cps[i]? = some d → ringP[i]? = some (⟨#[c]⟩, ⟨#[d]⟩) := by
    intro i hi c d h1 h2
    have : i = 0 ∨ i = 1 ∨ i = 2 ∨ i = 3 := by omega
    rcases this with rfl | rfl | rfl | rfl <;> (cases h1; cases h2; rfl)
  exact key i lt c d h1 h2
theorem prsRing {K : PySem.W.Frag} {H : Hp} {a : Addr} {us : List V} (h : SqT K H a us) (p : Paired (PrOk K H) ringP us) : Prs K H ringP (.ref a) :=
  ⟨⟨a, us, rfl, h, p⟩, by decide +kernel, by decide +kernel, by decide⟩
theorem prsBack {K : PySem.W.Frag} {H : Hp} {a : Addr} {us : List V} (h : SqT K H a us) (p : Paired (PrOk K H) backP us) : Prs K H backP (.ref a) :=
  ⟨⟨a, us, rfl, h, p⟩, by decide +kernel, by decide +kernel, by decide⟩
theorem backMap {K : PySem.W.Frag} {H : Hp} {us : List V} (p : Paired (fun (q : Str × Str) u => PrOk K H (q.2, q.1) u) ringP us) : Paired (PrOk K H) backP us := by
  have gen : ∀ {ps : List (Str × Str)} {us : List V}, Paired (fun (q : Str × Str) u => PrOk K H (q.2, q.1) u) ps us → Paired (PrOk K H) (ps.map fun q => (q.2, q.1)) us := by
    intro ps us h
    induction h with
    | nil => exact .nil
    | cons h t ih => exact .cons h ih
  exact gen p
section
variable {P : Program} {w : World} {K : PySem.W.Frag} {mg : Str → Option Value} {base : Heap} {dL aL : Addr}
def Ap (a : Addr) (H H' : Hp) : Prop := ∀ b o, b ≠ a → (∀ ps, o ≠ .tbl ps) → H b = some o → H' b = some o
theorem Ap.of {a : Addr} {H H' : Hp} (h : But a H H') : Ap a H H' := fun b o n _ e => h b o n e
theorem Ap.trans {a : Addr} {H H1 H2 : Hp} (h : Ap a H H1) (h' : Ap a H1 H2) : Ap a H H2 := fun b o n t e => h' b o n t (h b o n t e)
theorem Ap.ext {a : Addr} {H H' : Hp} (h : ExtN H H') : Ap a H H' := fun b o _ t e => h b o e t
theorem Pot.extN {a : Addr} {n : Int} {H H' : Hp} (h : ExtN H H') (p : Pot H a n) : Pot H' a n := by
  obtain ⟨p0, p1, p2, e, r⟩ := p
  exact ⟨p0, p1, p2, h _ _ e (fun _ z => by cases z), r⟩
def spRight (tb : Addr) : Sp := fun vs H Q _ => ∃ (a : Addr) (n : Int), vs = [.ref a] ∧ Pot H a n ∧ n + 300 ≤ 1000000 ∧ Tabs [(tb, qR)] H ∧ ∀ H', Ap a H H' → Pot H' a (n + 300) → Tabs [(tb, qR)] H' → Q (.bl true) H'
theorem ok_right {CT D fI tb c gC gR : Addr} {fdC fdR : FuncData} {oc1 : Value} {od1 : Option Addr} {kV1 doc1 pm1 : Value} {an1 : Option Addr} {ct1 : Value} {osl1 : Array (Option Value)} (T : Tx K w mg dL aL) (TT : FeTxt P K mg "TooGreat" CT D fI)
    (G1 : Cl P w K mg base CX0 1 "_law_take" spTake) (G2 : Cl P w K mg base CX0 2 "_law_of" spOf) (G3 : Cl P w K mg base CX0 2 "_law_some" spSome) (GS : Cl P w K mg base CX0 15 "_law_saying" (spSay K 12))
    (GR : ClK P w K mg base CX0 43 "renamed" ["saying", "pairs"] (spRen K)) (GI : ClK P w K mg base (L2.CX P w) 43 "put_in" ["saying", "letter", "other"] (spPut K CT)) (GZ : Cl P w K mg base CX0 6 "size_of" (spSize K))
    (GL : Cl P w K mg base CX0 41 "_law_led" (spLed K 40)) (GP : Cl P w K mg base CX0 61 "_law_parts" (spParts K 60)) (GD : Cl P w K mg base CX0 61 "_law_deep" (spDeep K 60))
    (FC : Fun K "_law_caught" "_law_caught" (top 40) gC fdC) (hmC : mg "_law_caught" = some (.ref gC)) (TB : TabB base mg c tb)
    (FR : Fun K "_law_right" "_law_right" (top 45) gR fdR) (hmR : mg "_law_right" = some (.ref gR))
    (lkR : K.lookup gR = some ⟨oc1, od1, .func (PySem.W.fnOf "_law_right" "_law_right" (defArgs (top 45)) (defBody (top 45)) (defScope (top 45)) .none kV1 doc1 pm1 an1 (.ref c) ct1), osl1⟩) : ClG P w K mg base 71 "_law_right" (spRight tb) := by
  have nd := scR.nd
  refine ⟨gR, fdR, ["pot"], fnG FR scR (fun vs H Q E h => ?_) (fun cdv A outer s H vs Q E hr quiet h ⟨oc, od, kV, doc, pm, an, ct, osl, lk⟩ => ?_), hmR, FR.kp, FR.binds (fun _ _ _ _ _ _ us hl => match us, hl with | [_], _ => rfl)⟩
  · obtain ⟨a, n, rfl, _⟩ := h; rfl
  obtain rfl : cdv = .ref c := by
    rw [lkR] at lk
    injection lk with lk
    injection lk with _ _ lk _
    injection lk with lk
    have := congrArg FuncData.code lk
    exact this.symm
  obtain ⟨a, n, rfl, hp, hn, hT, q⟩ := h
  have room : (A.deeper (envOfC "_law_right" (defScope (top 45)) s.heap.objs.size gR (.ref c))).units + 200 < cLine := by have := hr.un; omega
  refine ⟨_, pss_cons (ps_asg (pe_tup (pa_cons (pe_cl GS (hr.mono (by decide)) (by rfl) (pa_cons (pv 0) (pa_cons pe_int (pa_cons pe_int (pa_cons pe_bl pa_nil))))) (pa_cons (pe_cl GS (hr.mono (by decide)) (by rfl) (pa_cons (pv 0) (pa_cons pe_int (pa_cons pe_int (pa_cons pe_bl pa_nil))))) pa_nil)))
      (pg_tup (by rfl) (pgs_cons (pg_name (i := 1) nd rfl (.inr rfl)) (pgs_cons (pg_name (i := 2) nd rfl (.inl rfl)) pgs_nil))))
    (pss_cons (ps_set (i := 3) nd rfl (Or.inl rfl) (pe_cl G3 (hr.mono (by decide)) (by rfl) (pa_cons (pv 0) (pa_cons (pe_callTy (call_listS rfl) (by rfl) T.list (by decide +kernel) (pa_cons pe_str pa_nil)) (pa_cons (pe_cl G1 (hr.mono (by decide)) (by rfl) (pa_cons (pv 0) (pa_cons pe_int pa_nil))) pa_nil)))))
    (pss_cons (ps_set (i := 4) nd rfl (Or.inl rfl) (pe_callTy call_tuple_of (by rfl) T.tuple (by decide +kernel) (pa_cons
        (pe_lc (own := [("one", 14)]) (g := gName 14) (tt := tYes) (by rfl) nd (pi_list (pv 3)) (blkOk_by (own := [("one", 14)]) (N := NR) (sc := defScope (top 45)) (by decide +kernel)) (fun _ _ _ _ _ => pg_name (i := 14) nd rfl (.inl rfl)) (fun _ _ _ _ _ => pts_nil)
          (fun _ _ _ _ _ => pe_tup (pa_cons (pv 14) (pa_cons (pe_cl G2 (hr.mono (by decide)) (by rfl) (pa_cons (pv 0) (pa_cons (pe_callTy (call_listS rfl) (by rfl) T.list (by decide +kernel) (pa_cons pe_str pa_nil)) pa_nil))) pa_nil)))) pa_nil)))
    (pss_cons (ps_if (pt_cmpR op_ne (pe_callB (call_reprS quiet room) (by rfl) T.repr (by decide +kernel) (pa_cons (pe_kw GR (hr.mono (by decide)) (by rfl) pass0 (pk_cons (pv 1) (pk_cons (pv 4) pk_nil))) pa_nil))
        (pe_callB (call_reprS quiet room) (by rfl) T.repr (by decide +kernel) (pa_cons (pe_cl GL (hr.mono (by decide)) (by rfl) (pa_cons (pv 1) (pa_cons (pe_callTy (call_dictP rfl) (by rfl) T.dict (by decide +kernel) (pa_cons
          (pe_lc (own := [("one", 14), ("its", 15)]) (g := gTup K 2 (gCons (gName 14) (gCons (gName 15) gNil))) (tt := tYes) (by rfl) nd (pi_tup (pv 4)) (blkOk_by (own := [("one", 14), ("its", 15)]) (N := NR) (sc := defScope (top 45)) (by decide +kernel))
            (fun _ _ _ _ _ => pg_tup (by rfl) (pgs_cons (pg_name (i := 14) nd rfl (.inl rfl)) (pgs_cons (pg_name (i := 15) nd rfl (.inl rfl)) pgs_nil))) (fun _ _ _ _ _ => pts_nil)
            (fun _ _ _ _ _ => pe_tup (pa_cons (pv 14) (pa_cons (pe_tup (pa_cons pe_str (pa_cons (pv 15) pa_nil))) pa_nil)))) pa_nil)) pa_nil))) pa_nil)) (nomark _)) (pss_one (ps_ret pe_bl)) pss_nil)
    (pss_cons (ps_set (i := 5) nd rfl (Or.inl rfl) (pe_callTy call_tuple_of (by rfl) T.tuple (by decide +kernel) (pa_cons
        (pe_lc (own := [("one", 14), ("its", 15)]) (g := gTup K 2 (gCons (gName 14) (gCons (gName 15) gNil))) (tt := tYes) (by rfl) nd (pi_zipS (by rfl) T.zip (pa_cons pe_str (pa_cons pe_str pa_nil))) (blkOk_by (own := [("one", 14), ("its", 15)]) (N := NR) (sc := defScope (top 45)) (by decide +kernel))
            (fun _ _ _ _ _ => pg_tup (by rfl) (pgs_cons (pg_name (i := 14) nd rfl (.inl rfl)) (pgs_cons (pg_name (i := 15) nd rfl (.inl rfl)) pgs_nil))) (fun _ _ _ _ _ => pts_nil)
            (fun _ _ _ _ _ => pe_tup (pa_cons (pv 14) (pa_cons (pv 15) pa_nil)))) pa_nil)))
    (pss_cons (ps_set (i := 6) nd rfl (Or.inl rfl) (pe_callTy call_tuple_of (by rfl) T.tuple (by decide +kernel) (pa_cons
        (pe_lc (own := [("one", 14), ("its", 15)]) (g := gTup K 2 (gCons (gName 14) (gCons (gName 15) gNil))) (tt := tYes) (by rfl) nd (pi_tup (pv 5)) (blkOk_by (own := [("one", 14), ("its", 15)]) (N := NR) (sc := defScope (top 45)) (by decide +kernel))
            (fun _ _ _ _ _ => pg_tup (by rfl) (pgs_cons (pg_name (i := 14) nd rfl (.inl rfl)) (pgs_cons (pg_name (i := 15) nd rfl (.inl rfl)) pgs_nil))) (fun _ _ _ _ _ => pts_nil)
            (fun _ _ _ _ _ => pe_tup (pa_cons (pv 15) (pa_cons (pv 14) pa_nil)))) pa_nil)))
    (pss_cons (ps_if (PW.pt (pw_or (pt_cmpR (op_neD hr.units) (pe_cl GR.cl (hr.mono (by decide)) (by rfl) (pa_cons (pe_cl GR.cl (hr.mono (by decide)) (by rfl) (pa_cons (pv 1) (pa_cons (pv 5) pa_nil))) (pa_cons (pv 6) pa_nil))) (pv 1) (nomark _))
        (pw_or1 (pt_cmpR (op_neD hr.units) (pe_cl GR.cl (hr.mono (by decide)) (by rfl) (pa_cons (pv 1) (pa_cons (pe_tup pa_nil) pa_nil))) (pv 1) (nomark _))))) (pss_one (ps_ret pe_bl)) pss_nil)
    (pss_cons (ps_set (i := 7) nd rfl (Or.inr rfl) (pe_cl G2 (hr.mono (by decide)) (by rfl) (pa_cons (pv 0) (pa_cons (pe_callTy (call_listS rfl) (by rfl) T.list (by decide +kernel) (pa_cons pe_str pa_nil)) pa_nil))))
    (pss_cons (ps_set (i := 8) nd rfl (Or.inl rfl) (pe_kw GI (hr.mono (by decide)) (by rfl) passN (pk_cons (pv 1) (pk_cons (pv 7) (pk_cons (pv 2) pk_nil)))))
    (pss_cons (ps_if (pt_cmpR op_ne (pe_callB (call_reprS quiet room) (by rfl) T.repr (by decide +kernel) (pa_cons (pv 8) pa_nil))
        (pe_callB (call_reprS quiet room) (by rfl) T.repr (by decide +kernel) (pa_cons (pe_cl GL (hr.mono (by decide)) (by rfl) (pa_cons (pv 1) (pa_cons (pe_disp (pps_cons (pv 7) (pv 2) pps_nil) (by rfl) (by rfl) (fun z => by cases z) (by decide)) pa_nil))) pa_nil)) (nomark _)) (pss_one (ps_ret pe_bl)) pss_nil)
    (pss_cons (ps_set (i := 9) nd rfl (Or.inl rfl) (pe_callB call_len_seq (by rfl) T.len PySem.boot_len (pa_cons
        (pe_lc (own := [("part", 16)]) (g := gName 16) (tt := tTest (tOp (rEqD K) (tVar 16) (tTup (tCons (tC (.str "letter")) (tCons (tVar 7) tNil))))) (by rfl) nd (pi_list (pe_cl GP (hr.mono (by decide)) (by rfl) (pa_cons (pv 1) pa_nil))) (blkOk_by (own := [("part", 16)]) (N := NR) (sc := defScope (top 45)) (by decide +kernel)) (fun _ _ _ _ _ => pg_name (i := 16) nd rfl (.inl rfl))
          (fun _ _ _ _ _ => pts_one (pt_cmpR (r := rEqD K) (op_eqD hr.units) (pv 16) (pe_tup (pa_cons pe_str (pa_cons (pv 7) pa_nil))) (nomark _))) (fun _ _ _ _ _ => pv 16)) pa_nil)))
    (pss_cons (ps_if (PW.pt (pw_or (pt_cmpR op_ne (pe_cl GZ (hr.mono (by decide)) (by rfl) (pa_cons (pv 8) pa_nil))
        (pe_op op_add (pe_callB call_len_seq (by rfl) T.len PySem.boot_len (pa_cons (pe_cl GP (hr.mono (by decide)) (by rfl) (pa_cons (pv 1) pa_nil)) pa_nil))
          (pe_op op_mul (pv 9) (pe_op op_sub (pe_callB call_len_seq (by rfl) T.len PySem.boot_len (pa_cons (pe_cl GP (hr.mono (by decide)) (by rfl) (pa_cons (pv 2) pa_nil)) pa_nil)) pe_int))) (nomark _))
        (pw_or1 (pt_cmpR (op_neD hr.units) (pe_clX GI.cl (hr.mono (by decide)) (by rfl) passN (pa_cons (pv 1) (pa_cons (pv 7) (pa_cons (pe_tup (pa_cons pe_str (pa_cons (pv 7) pa_nil))) pa_nil)))) (pv 1) (nomark _))))) (pss_one (ps_ret pe_bl)) pss_nil)
    (show PSs (XR P w K mg base gR (.ref c) A outer s H E) ((defBody (top 45)).drop 12) (condB K tb) from lapsOk T TT hr GL GP GD GI.cl FC hmC TB)))))))))))), ?_⟩
  -- the two sayings
  refine ⟨_, rfl, a, n, 4, 12, rfl, hp, by decide, by decide, by decide, by decide, by decide, by omega, fun v1 y1 H1 b1 p1 hv1 g1 z1 => ?_⟩
  refine ⟨_, rfl, a, n + 5 * 12, 6, 9, rfl, p1, by decide, by decide, by decide, by decide, by decide, by omega, fun v2 y2 H2 b2 p2 hv2 g2 z2 => ⟨(by show 2 ≤ sizeLine; decide), fun t nt => ?_⟩⟩
  refine ⟨t, _, rfl, SqT.of upd_same, rfl, _, _, rfl, _, _, rfl, rfl, ?_⟩
  have s3 : Same H2 (upd H2 t (.tup [v1, v2])) := same_new nt
  revert s3
  generalize upd H2 t (.tup [v1, v2]) = H3
  intro s3
  have B3 : But a H H3 := (b1.trans b2).trans (But.of_same s3)
  have p3 := p2.same s3
  have hv1 := (b2.sv p1 hv1).same s3
  have hv2 := hv2.same s3
  have y1z : y1.size ≤ 12 := by omega
  have y2z : y2.size ≤ 9 := by omega
  have fit1 : y1.fits = true := small12 y1z (by decide)
  have fit2 : y2.fits = true := small12 y2z (by decide)
  have y1d := y1.depth_lt_size
  have y2d := y2.depth_lt_size
  have big : 1000 < sizeLine := by decide
  clear b1 b2 p1 p2 s3 nt
  -- the firsts
  refine ⟨_, rfl, "abcdef", rfl, by decide +kernel, fun l nl => ?_⟩
  have s4 : Same H3 (upd H3 l (.lst ((signs "abcdef").map V.str))) := same_new nl
  have hl4 : upd H3 l (.lst ((signs "abcdef").map V.str)) l = some (.lst ((signs "abcdef").map V.str)) := upd_same
  have la := p3.ne nl
  revert s4 hl4
  generalize upd H3 l (.lst ((signs "abcdef").map V.str)) = H4
  intro s4 hl4
  refine ⟨_, rfl, a, 5, _, rfl, p3.same s4, by omega, by decide, by decide, fun d H5 d0 d1 b5 p5 => ?_⟩
  refine ⟨a, l, _, signs "abcdef", d, rfl, p5, by omega, b5 _ _ la hl4, la, by rw [letA.1]; decide, d0, by omega, fun l3 ys H6 b6 nq p6 hq pmm => ?_⟩
  obtain ⟨zs, pm⟩ := pmm
  have B6' : But a H3 H6 := ((But.of_same s4).trans b5).trans b6
  have B6 := B3.trans B6'
  have hv1 := B6'.sv p3 hv1
  have hv2 := B6'.sv p3 hv2
  have l3a : l3 ≠ a := p5.ne nq
  have ynd : ys.Nodup := (List.nodup_append.mp (pm.symm.nodup letA.2.1)).1
  have ymem : ∀ x ∈ ys, x ∈ letV := fun x hx => letA.2.2 x (pm.subset (List.mem_append_left _ hx))
  have ylen : ys.length ≤ 6 := by
    have := pm.length_eq
    rw [List.length_append, letA.1] at this
    omega
  clear s4 hl4 b5 p5 b6 B6' nl la p3
  -- the pairs
  refine ⟨_, rfl, l3, rfl, ⟨_, SqL.of hq⟩, fun D nD => ?_⟩
  have Da : D ≠ a := p6.ne nD
  refine mp_list (ps := ys) (p := fun b => b = a) (I := fun i H' => Pot H' a (n + 5 * 12 + 5 * 9 + 1 + 8 + (i : Nat))) (F := fun o u H' => ∃ t i, u = V.ref t ∧ SqT K H' t [.str o, .str i] ∧ i ∈ letV) ⟨nD, Da, by rw [List.length_map]; omega, by rw [List.length_map], p6.mono (by simp), ?_, ?_, ?_⟩ (fun i H7 _ hb => SqL.of (hb _ _ l3a hq)) ?_
  · rintro i H7 H8 k ⟨q0, q1, q2, e, r⟩
    exact ⟨q0, q1, q2, k _ _ (Ne.symm Da) e, r⟩
  · rintro i o u H7 H8 acc hi hD hb ⟨t, j, e, h, m⟩
    exact ⟨t, j, e, hb.tup (fun b z => z.elim (fun z => z ▸ hi.flat) fun z => z ▸ flat_lst hD) h, m⟩
  · intro i x o H7 W Qe hx ho hi hb k kw
    have ex : x = .str o := by
      rw [List.getElem?_map, ho] at hx
      exact (Option.some.inj hx).symm
    subst ex
    have il : i < ys.length := (List.getElem?_eq_some_iff.mp ho).1
    refine kw _ _ rfl ⟨_, rfl, _, rfl, "abcdefl", rfl, by decide +kernel, fun l7 nl7 => ⟨a, l7, _, _, rfl, hi.same (same_new nl7), by omega, upd_same, hi.ne nl7, by rw [List.length_map, letB.1]; decide, by rw [List.length_map, letB.1]; decide, fun v H8 hv b8 p8 => ⟨(by show 2 ≤ sizeLine; decide), fun t nt => ?_⟩⟩⟩
    obtain ⟨j, hj, rfl⟩ := List.mem_map.mp hv
    exact k _ _ (fun b o' nb e => same_new nt b o' (b8 b o' nb (same_new nl7 b o' e))) ((p8.same (same_new nt)).mono (by omega)) ⟨t, j, rfl, SqT.of upd_same, letB.2 j hj⟩
  intro acc H7 hi hb hD hpr
  obtain ⟨ps, e1, e2, e3⟩ := pairs_of hpr
  refine ⟨D, acc, rfl, .inl ⟨SqL.of hD, fun t3 nt3 => ?_⟩⟩
  have s8 : Same H7 (upd H7 t3 (.tup acc)) := same_new nt3
  have ht3 : upd H7 t3 (.tup acc) t3 = some (.tup acc) := upd_same
  revert s8 ht3
  generalize upd H7 t3 (.tup acc) = H8
  intro s8 ht3
  have B8' : But a H6 H8 := fun b o nb e => s8 b o (hb b o nb e)
  have B8 := B6.trans B8'
  have hv1 := B8'.sv p6 hv1
  have hv2 := B8'.sv p6 hv2
  have p8 : Pot H8 a (n + 130) := (hi.same s8).mono (by rw [List.length_map]; omega)
  have pr8 : Paired (PrOk K H8) ps acc := Paired.mono (fun _ _ h => PrOk.same h s8) e2
  have prs : Prs K H8 ps (.ref t3) := by
    refine ⟨⟨t3, acc, rfl, SqT.of ht3, pr8⟩, fun p hp => ⟨ymem _ (by rw [← e1]; exact List.mem_map.mpr ⟨p, hp, rfl⟩), e3 p hp⟩, by rw [e1]; exact ynd, ?_⟩
    have := congrArg List.length e1
    rw [List.length_map] at this
    omega
  have psLen : ps.length ≤ 6 := by
    have := congrArg List.length e1
    rw [List.length_map] at this
    omega
  clear hi hb hD hpr s8 B8' nD Da hq l3a p6 B6
  -- renamed
  refine ⟨_, rfl, _, rfl, y1, v1, ps, .ref t3, rfl, hv1, g1, fit1, prs, fun v4 H9 s9 hv4 => ?_⟩
  have g4 : (y1.sub (mapL ps)).Good := Sy.subGood (fun c s e => mapL_mem e3 e) g1
  have d4 := renDepth ps y1
  have z4 := renSize ps y1
  refine ⟨_, v4, rfl, hv4, g4, by omega, by omega, ?_⟩
  have hv1 := hv1.same s9
  have hv2 := hv2.same s9
  have B9 := B8.trans (But.of_same s9)
  have p9 := p8.same s9
  have ht9 := s9 _ _ ht3
  have pr9 : Paired (PrOk K H9) ps acc := Paired.mono (fun _ _ h => PrOk.same h s9) pr8
  clear B8 p8 prs pr8 s9 ht3
  refine ⟨_, rfl, _, rfl, t3, rfl, ⟨_, SqT.of ht9⟩, fun D2 nD2 => ?_⟩
  have alen := pr9.length
  refine mp_tup (ps := ps) (p := fun _ => False) (I := fun _ _ => True) (F := fun p u H' => ∃ t t2, u = V.ref t ∧ SqT K H' t [.str p.1, .ref t2] ∧ SqT K H' t2 [.str "letter", .str p.2]) ⟨nD2, fun z => z, by omega, by omega, trivial, fun _ _ _ _ _ => trivial, ?_, ?_⟩ (fun i H' _ hb => SqT.of (hb.same _ _ ht9)) ?_
  · rintro i p u H10 H11 acc2 _ hD hb ⟨t, t2, e, h1, h2⟩
    have fl : ∀ b, (False ∨ b = D2) → Flat H10 b := fun b z => z.elim (fun z => z.elim) fun z => z ▸ flat_lst hD
    exact ⟨t, t2, e, hb.tup fl h1, hb.tup fl h2⟩
  · intro i x p H10 W Qe hx hp' _ hb k kw
    obtain ⟨pp, uu, k1, k2, t, e, h⟩ := paired_at pr9 (List.getElem?_eq_some_iff.mp hx).1
    rw [hx] at k2
    cases k2
    subst e
    rw [k1] at hp'
    cases hp'
    refine ⟨t, _, rfl, same_tup hb.same h, rfl, _, _, rfl, _, _, rfl, rfl, kw _ _ rfl ⟨_, rfl, _, rfl, (by show 2 ≤ sizeLine; decide), fun t2 n2 => ⟨(by show 2 ≤ sizeLine; decide), fun t1 n1 => ?_⟩⟩⟩
    exact k _ _ (.of ((same_new n2).trans (same_new n1))) trivial ⟨t1, t2, rfl, SqT.of upd_same, same_tup (same_new n1) (SqT.of upd_same)⟩
  intro acc2 H10 _ hb hD hpr
  have s10 := hb.same
  obtain ⟨as, kvs, ea, pa, dk⟩ := dict_of hpr
  refine ⟨D2, as, kvs, rfl, by rw [← ea]; exact SqL.of hD, pa, fun pd npd => ?_⟩
  have s11 : Same H10 (upd H10 pd (.dK (mergeK [] kvs))) := same_new npd
  have relD : Rel K (upd H10 pd (.dK (mergeK [] kvs))) (mergeK [] kvs) (mapL ps) := dk _ (fun t xs h => same_tup s11 h) [] map0 Rel.nil
  have lead := relD.leads (d := pd) upd_same
  revert s11 lead
  generalize upd H10 pd (.dK (mergeK [] kvs)) = H11
  intro s11 lead
  have s911 := s10.trans s11
  refine ⟨y1, v1, pd, mapL ps, rfl, hv1.same s911, g1, by omega, lead, fun v5 H12 s12 hv5 => ⟨_, v5, rfl, hv5, g4, by omega, by omega, rfl, _, rfl, ?_⟩⟩
  rw [decide_eq_true rfl]
  refine iteF ?_
  have s912 := s911.trans s12
  have hv1 := hv1.same s912
  have hv2 := hv2.same s912
  have B12 := B9.trans (But.of_same s912)
  have p12 := p9.same s912
  clear s10 s11 s12 s911 s912 relD lead hD hpr hb dk B9 p9 hv4 hv5 pr9 ht9
  -- the ring
  refine ⟨"abcd", "bcda", rfl, by decide +kernel, fun D3 nD3 => ?_⟩
  refine lc_zipS (by decide +kernel) (fun i H' => ∃ acc, H' D3 = some (.lst acc) ∧ acc.length = i ∧ i ≤ 4 ∧ Same H12 H' ∧ Paired (PrOk K H') (ringP.take i) acc) ⟨[], upd_same, rfl, by decide, same_new nD3, .nil⟩ ?_ ?_
  · rintro i c d T0 H' hc hd nT ⟨acc, hD, la, i4, sm, pr⟩
    have hri := ringAt i c d hc hd
    have i3 : i < 4 := (List.getElem?_eq_some_iff.mp hri).1
    refine ⟨T0, _, rfl, SqT.of upd_same, rfl, _, _, rfl, _, _, rfl, rfl, rfl, yesT (A := fun H3 => _) (B := fun H3 => _) ⟨_, rfl, _, rfl, (by show 2 ≤ sizeLine; decide), fun t nt => ?_⟩⟩
    have sT := same_new (o := .tup [.str ⟨#[c]⟩, .str ⟨#[d]⟩]) nT
    have st := same_new (o := .tup [.str ⟨#[c]⟩, .str ⟨#[d]⟩]) nt
    have sTt := sT.trans st
    have new : PrOk K (upd (upd H' T0 (.tup [.str ⟨#[c]⟩, .str ⟨#[d]⟩])) t (.tup [.str ⟨#[c]⟩, .str ⟨#[d]⟩])) (⟨#[c]⟩, ⟨#[d]⟩) (.ref t) := ⟨t, rfl, SqT.of upd_same⟩
    have hD2 := sTt _ _ hD
    revert sTt new hD2
    generalize upd (upd H' T0 (.tup [.str ⟨#[c]⟩, .str ⟨#[d]⟩])) t (.tup [.str ⟨#[c]⟩, .str ⟨#[d]⟩]) = H''
    intro sTt new hD2
    have b6 : Bt (fun b => b = D3) H'' (upd H'' D3 (.lst (acc ++ [.ref t]))) := fun b o n e => by rw [upd_ne n]; exact e
    have fl6 : ∀ b, b = D3 → Flat H'' b := fun b e => e ▸ flat_lst hD2
    refine ⟨acc, hD2, by omega, acc ++ [.ref t], upd_same, by simp [la], i3, fun b o e => by rw [upd_ne (ne_of_none e nD3)]; exact sTt _ _ (sm _ _ e), ?_⟩
    rw [List.take_succ, hri]
    exact Paired.snoc (Paired.mono (fun _ _ h => PrOk.bt (PrOk.same h sTt) b6 fl6) pr) (new.bt b6 fl6)
  rintro H13 ⟨acc3, hD3, la3, _, s13, pr13⟩
  have e13 : ringP.take ("abcd" : Str).cps.size = ringP := by decide +kernel
  rw [e13] at pr13
  refine ⟨D3, acc3, rfl, .inl ⟨SqL.of hD3, fun tr ntr => ?_⟩⟩
  have s14 : Same H13 (upd H13 tr (.tup acc3)) := same_new ntr
  have htr : upd H13 tr (.tup acc3) tr = some (.tup acc3) := upd_same
  revert s14 htr
  generalize upd H13 tr (.tup acc3) = H14
  intro s14 htr
  have pr14 : Paired (PrOk K H14) ringP acc3 := Paired.mono (fun _ _ h => PrOk.same h s14) pr13
  have len3 := pr14.length
  have s134 := s13.trans s14
  have hv1 := hv1.same s134
  have hv2 := hv2.same s134
  have B14 := B12.trans (But.of_same s134)
  have p14 := p12.same s134
  clear s13 s14 s134 pr13 hD3 la3 B12 p12 nD3
  have l4 : ringP.length = 4 := rfl
  -- and back
  refine ⟨_, rfl, tr, rfl, ⟨_, SqT.of htr⟩, fun D4 nD4 => ?_⟩
  refine mp_tup (ps := ringP) (p := fun _ => False) (I := fun _ _ => True) (F := fun p u H' => PrOk K H' (p.2, p.1) u) ⟨nD4, fun z => z, by omega, by omega, trivial, fun _ _ _ _ _ => trivial, ?_, ?_⟩ (fun i H' _ hb => SqT.of (hb.same _ _ htr)) ?_
  · intro i p u H10 H11 acc2 _ hD hb h
    exact h.bt hb (fun b z => z.elim (fun z => z.elim) fun z => z ▸ flat_lst hD)
  · intro i x p H10 W Qe hx hp' _ hb k kw
    obtain ⟨pp, uu, k1, k2, t, e, h⟩ := paired_at pr14 (List.getElem?_eq_some_iff.mp hx).1
    rw [hx] at k2
    cases k2
    subst e
    rw [k1] at hp'
    cases hp'
    exact ⟨t, _, rfl, same_tup hb.same h, rfl, _, _, rfl, _, _, rfl, rfl, kw _ _ rfl ⟨_, rfl, _, rfl, (by show 2 ≤ sizeLine; decide), fun t1 n1 => k _ _ (.of (same_new n1)) trivial ⟨t1, rfl, SqT.of upd_same⟩⟩⟩
  intro acc4 H15 _ hb4 hD4 hpr4
  have s15 := hb4.same
  refine ⟨D4, acc4, rfl, .inl ⟨SqL.of hD4, fun tk ntk => ?_⟩⟩
  have s16 : Same H15 (upd H15 tk (.tup acc4)) := same_new ntk
  have htk : upd H15 tk (.tup acc4) tk = some (.tup acc4) := upd_same
  revert s16 htk
  generalize upd H15 tk (.tup acc4) = H16
  intro s16 htk
  have s156 := s15.trans s16
  have prsB : Prs K H16 backP (.ref tk) := prsBack (SqT.of htk) (backMap (Paired.mono (fun _ _ h => PrOk.same h s16) hpr4))
  have prsR : Prs K H16 ringP (.ref tr) := prsRing (SqT.of (s156 _ _ htr)) (Paired.mono (fun _ _ h => PrOk.same h s156) pr14)
  have hv1 := hv1.same s156
  have hv2 := hv2.same s156
  have B16 := B14.trans (But.of_same s156)
  have p16 := p14.same s156
  clear s15 s16 s156 hpr4 hD4 hb4 B14 p14 pr14 htr nD4
  have dLe : ∀ l, (y1.sub (mapL l)).depth ≤ 11 := fun l => by have := renDepth l y1; omega
  -- renamed and back
  refine ⟨_, rfl, _, rfl, y1, v1, ringP, .ref tr, rfl, hv1, g1, fit1, prsR, fun v6 H17 s17 hv6 => ?_⟩
  have gr : (y1.sub (mapL ringP)).Good := Sy.subGood (fun c s e => mapL_mem (by decide +kernel) e) g1
  refine ⟨_, rfl, y1.sub (mapL ringP), v6, backP, .ref tk, rfl, hv6, gr, renFits fit1, prsB.same s17, fun v7 H18 s18 hv7 => ?_⟩
  rw [ringBack g1] at hv7
  have s178 := s17.trans s18
  have hv1 := hv1.same s178
  have hv2 := hv2.same s178
  have B18 := B16.trans (But.of_same s178)
  have p18 := p16.same s178
  clear s17 s18 s178 B16 p16 prsB prsR
  refine ⟨_, rfl, _, _, hv7.dp, hv1.dp, Sy.shaped g1 (by omega), Sy.shaped g1 (by omega), _, rfl, ?_⟩
  rw [y1.selfEq g1]
  refine iteF ?_
  refine ⟨_, rfl, (by show 0 ≤ sizeLine; decide), fun te nte => ?_⟩
  have s19 : Same H18 (upd H18 te (.tup [])) := same_new nte
  refine ⟨y1, v1, [], .ref te, rfl, hv1.same s19, g1, fit1, ⟨⟨te, [], rfl, SqT.of upd_same, .nil⟩, by simp, by simp, by simp⟩, fun v8 H19 s20 hv8 => ?_⟩
  rw [subNil] at hv8
  have s190 := s19.trans s20
  have hv1 := hv1.same s190
  have hv2 := hv2.same s190
  have B19 := B18.trans (But.of_same s190)
  have p19 := p18.same s190
  clear s19 s20 s190 B18 p18
  refine ⟨_, rfl, _, _, hv8.dp, hv1.dp, Sy.shaped g1 (by omega), Sy.shaped g1 (by omega), _, rfl, ?_⟩
  rw [y1.selfEq g1]
  refine iteF ?_
  -- a letter
  refine ⟨_, rfl, "abcde", rfl, by decide +kernel, fun l nl => ?_⟩
  refine ⟨a, l, n + 130, _, rfl, p19.same (same_new nl), by omega, upd_same, p19.ne nl, by rw [List.length_map, letC.1]; decide, by rw [List.length_map, letC.1]; decide, fun v H20 hv b20 p20 => ?_⟩
  obtain ⟨lc, hlc, rfl⟩ := List.mem_map.mp hv
  have lcM := letC.2 lc hlc
  have b20' : But a H19 H20 := (But.of_same (same_new nl)).trans b20
  have hv1 := b20'.sv p19 hv1
  have hv2 := b20'.sv p19 hv2
  have B20 := B19.trans b20'
  clear b20 b20' B19 p19 hv nl
  have gs : (y1.sub (one1 lc y2)).Good := Sy.subGood (fun c s e => by rw [one1_eq e]; exact g2) g1
  have ds : (y1.sub (one1 lc y2)).depth ≤ 20 := by
    have := subDepth (D := 8) (f := one1 lc y2) (fun c s e => by rw [one1_eq e]; omega) y1
    omega
  have zs2 : (y1.sub (one1 lc y2)).size ≤ 108 := by
    have := subSize (B := 9) (f := one1 lc y2) (by decide) (fun c s e => by rw [one1_eq e]; exact y2z) y1
    have h2 : y1.size * 9 ≤ 12 * 9 := Nat.mul_le_mul_right _ y1z
    omega
  have fs : (y1.sub (one1 lc y2)).fits = true := fits_iff.mpr ⟨by omega, by omega⟩
  -- told
  refine ⟨_, rfl, _, rfl, _, rfl, y1, v1, lc, y2, v2, rfl, hv1, g1, fit1, hv2, g2, fit2, lcM, by omega, fun _ v9 H21 s21 hv9 => ?_, fun z => by rw [fs] at z; cases z⟩
  have hv1 := hv1.same s21
  have hv2 := hv2.same s21
  have B21 := B20.trans (But.of_same s21)
  have p21 := p20.same s21
  clear s21 B20 p20
  refine ⟨_, rfl, _, v9, rfl, hv9, gs, by omega, by omega, ?_⟩
  refine ⟨_, rfl, fun pd npd => ⟨_, rfl, _, rfl, upd_same, [(Sum.inr lc, v2)], rfl, by simp, ?_⟩⟩
  obtain ⟨H22, eH, s22, lead⟩ := dispOne (c := lc) npd hv2
  rw [eH]
  refine ⟨y1, v1, pd, one1 lc y2, rfl, hv1.same s22, g1, by omega, lead, fun v10 H23 s23 hv10 => ⟨_, v10, rfl, hv10, gs, by omega, by omega, rfl, _, rfl, ?_⟩⟩
  rw [decide_eq_true rfl]
  refine iteF ?_
  have s223 := s22.trans s23
  have hv1 := hv1.same s223
  have hv2 := hv2.same s223
  have hv9 := hv9.same s223
  have B23 := B21.trans (But.of_same s223)
  have p23 := p21.same s223
  clear s22 s23 s223 lead eH B21 p21 hv10
  -- how often
  refine ⟨_, rfl, y1, v1, rfl, hv1, g1, by omega, by omega, fun lq us H24 s24 nlq hlq hus => ⟨lq, rfl, ⟨_, SqL.of hlq⟩, fun D5 nD5 => ?_⟩⟩
  have uslen := hus.length
  rw [y1.allpLen] at uslen
  refine lc_list (xs := us) (fun i H' => ∃ acc, H' D5 = some (.lst acc) ∧ acc.length = cnt lc (y1.allp.take i) ∧ acc.length ≤ i ∧ Same H24 H') ⟨[], upd_same, rfl, Nat.le_refl _, same_new nD5⟩ (fun i H' _ ⟨_, _, _, _, sm⟩ => SqL.of (sm _ _ hlq)) ?_ ?_
  · rintro i x H' hx ⟨acc, hD, la, li, sm⟩
    obtain ⟨pp, uu, k1, k2, k3⟩ := paired_at hus (List.getElem?_eq_some_iff.mp hx).1
    rw [hx] at k2
    cases k2
    have il : i < us.length := (List.getElem?_eq_some_iff.mp hx).1
    have hm := List.mem_of_getElem? k1
    have gp := goodAll g1 pp hm
    have dp := depthAll pp hm
    have tk1 : cnt lc (y1.allp.take (i + 1)) = cnt lc (y1.allp.take i) + (if pp = .lt lc then 1 else 0) := by
      rw [List.take_succ, k1, cnt_app]
      simp [cnt]
    refine ⟨rfl, _, rfl, _, rfl, (by show 2 ≤ sizeLine; decide), fun t nt => ?_⟩
    have st := same_new (o := .tup [.str "letter", .str lc]) nt
    have new : Sv K (upd H' t (.tup [.str "letter", .str lc])) (.lt lc) (.ref t) := ⟨t, rfl, SqT.of upd_same⟩
    refine ⟨_, _, (k3.same (sm.trans st)).dp, new.dp, Sy.shaped gp (by omega), Sy.shaped (s := .lt lc) lcM (by show 0 ≤ 60; decide), _, rfl, ?_⟩
    rw [eqvLt gp]
    have hD' := st _ _ hD
    refine ite2 (fun z => ?_) (fun z => ?_)
    · have zz : pp = .lt lc := of_decide_eq_true z
      refine ⟨_, rfl, acc, hD', by omega, acc ++ [x], upd_same, ?_, by simp; omega, fun b o e => by rw [upd_ne (ne_of_none e nD5)]; exact st _ _ (sm _ _ e)⟩
      rw [tk1, if_pos zz, List.length_append, la]
      rfl
    · have zz : ¬ pp = .lt lc := fun q => z (decide_eq_true q)
      refine ⟨acc, hD', ?_, by omega, sm.trans st⟩
      rw [tk1, if_neg zz, la]
      rfl
  rintro H25 ⟨acc5, hD5, la5, _, s25⟩
  have e25 : acc5.length = y1.many lc := by
    rw [la5, ← uslen, ← y1.allpLen, List.take_length, cntAll]
  refine ⟨D5, acc5, rfl, .inl (SqL.of hD5), ?_⟩
  have s245 := s24.trans s25
  have hv1 := hv1.same s245
  have hv2 := hv2.same s245
  have hv9 := hv9.same s245
  have B25 := B23.trans (But.of_same s245)
  have p25 := p23.same s245
  clear s24 s25 s245 B23 p23 hus hlq nlq nD5 hD5
  -- its size
  refine ⟨_, rfl, _, v9, rfl, hv9, gs, fs, fun H26 s26 => ?_⟩
  refine ⟨_, rfl, y1, v1, rfl, hv1.same s26, g1, by omega, by omega, fun l6 us6 H27 s27 _ hl6 hus6 => ⟨l6, us6, rfl, .inl (SqL.of hl6), ?_⟩⟩
  refine ⟨_, rfl, _, rfl, y2, v2, rfl, (hv2.same s26).same s27, g2, by omega, by omega, fun l7 us7 H28 s28 _ hl7 hus7 => ⟨l7, us7, rfl, .inl (SqL.of hl7), _, _, rfl, rfl, _, _, rfl, rfl, ?_⟩⟩
  have u6 := hus6.length
  have u7 := hus7.length
  rw [y1.allpLen] at u6
  rw [y2.allpLen] at u7
  have manyLe : y1.many lc ≤ 12 := by
    have := cntAll lc y1
    have h2 : cnt lc y1.allp ≤ y1.allp.length := by
      have gen : ∀ l : List Sy, cnt lc l ≤ l.length := by
        intro l
        induction l with
        | nil => exact Nat.le_refl _
        | cons p r ih => simp only [cnt, List.length_cons]; split <;> omega
      exact gen _
    rw [y1.allpLen] at h2
    omega
  refine ⟨.inl ⟨by omega, by omega⟩, _, _, rfl, rfl, rfl, _, rfl, ?_⟩
  have sum : ((y1.sub (one1 lc y2)).size : Int) = (us6.length : Int) + (acc5.length : Int) * ((us7.length : Int) - 1) := by
    have h1 := subOne lc y2 y1
    rw [e25, ← u6, ← u7, Int.mul_sub, Int.mul_one]
    have h2 : ((y1.many lc * y2.size : Nat) : Int) = (y1.many lc : Int) * (y2.size : Int) := Int.natCast_mul _ _
    omega
  rw [decide_eq_true (congrArg V.int sum)]
  refine iteF ?_
  have s268 := (s26.trans s27).trans s28
  have hv1 := hv1.same s268
  have B28 := B25.trans (But.of_same s268)
  have p28 := p25.same s268
  clear s26 s27 s28 s268 B25 p25 hv9 hv2
  refine ⟨_, rfl, _, rfl, _, rfl, (by show 2 ≤ sizeLine; decide), fun tl ntl => ?_⟩
  have s29 : Same H28 (upd H28 tl (.tup [.str "letter", .str lc])) := same_new ntl
  have lfit : (Sy.lt lc).fits = true := by rfl
  refine ⟨y1, v1, lc, .lt lc, .ref tl, rfl, hv1.same s29, g1, fit1, ⟨tl, rfl, SqT.of upd_same⟩, lcM, lfit, lcM, by rw [subSame]; omega, fun _ v11 H30 s30 hv11 => ?_, fun z => by rw [subSame, fit1] at z; cases z⟩
  rw [subSame] at hv11
  have s290 := s29.trans s30
  have hv1 := hv1.same s290
  have B30 := B28.trans (But.of_same s290)
  have p30 := p28.same s290
  refine ⟨_, rfl, _, _, hv11.dp, hv1.dp, Sy.shaped g1 (by omega), Sy.shaped g1 (by omega), _, rfl, ?_⟩
  rw [y1.selfEq g1]
  refine iteF ?_
  refine ⟨y1, v1, _, _, _, _, _, _, _, _, _, _, _, _, _, _, _, _, rfl, hv1, g1, y1z, tabsBut hT B30 hp, fun H' e T' => ?_⟩
  exact q H' ((Ap.of B30).trans (Ap.ext e)) ((Pot.extN e p30).mono (by omega)) T'
end
end Rf
end -- R2
section -- L1
set_option Elab.async false
set_option maxRecDepth 100000
set_option maxHeartbeats 8000000
set_option pp.maxSteps 600
set_option pp.deepTerms false
set_option linter.all false
namespace Rf
open PySem PySem.Spec PyProof.Rows L2 StX
open LamX (ExtN Tabs TabS CodeO TabB)
theorem seqAp {K : PySem.W.Frag} {H H' : Hp} {a p : Addr} {xs : List V} (hp : H p = none) (h : SqL K H a xs) (k : Ap p H H') : SqL K H' a xs := by
  rcases h with (h | ⟨o, h⟩) | h
  · exact .inl (.inl (k _ _ (ne_of_none h hp) (fun _ z => by cases z) h))
  · exact .inl (.inr ⟨o, k _ _ (ne_of_none h hp) (fun _ z => by cases z) h⟩)
  · exact .inr h
section
variable {P : Program} {w : World} {K : PySem.W.Frag} {mg : Str → Option Value} {base : Heap} {dL aL : Addr}
def spLaw (K : PySem.W.Frag) (tb : Addr) : Sp := fun vs H Q _ => ∃ (a : Addr) (ns : List Int), vs = [.ref a] ∧ SqL K H a (ns.map V.int) ∧ Tabs [(tb, qR)] H ∧ ∀ H', Q (.bl true) H'
theorem scL : FnScope ["script", "place", "pot", "lap"] ["script"] (defScope (top 46)) := ⟨rfl, rfl, rfl, by decide +kernel, rfl, by decide +kernel, by decide +kernel⟩
theorem ok_law {tb gF : Addr} {fdF : FuncData} (T : Tx K w mg dL aL) (GC : Cl P w K mg base CX0 1 "_law_cells" (spCells K)) (GO : Cl P w K mg base CX0 1 "_law_pot" (spPot K)) (GR : ClG P w K mg base 71 "_law_right" (spRight tb))
    (FL : Fun K "law" "law" (top 46) gF fdF) : FnG P w K mg base 72 gF fdF ["script"] (spLaw K tb) := by
  have nd := scL.nd
  refine fnG FL scL (fun vs H Q E h => ?_) (fun cdv A outer s H vs Q E hr quiet h _ => ?_)
  · obtain ⟨a, ns, rfl, _⟩ := h; rfl
  obtain ⟨a, ns, rfl, ha, hT, q⟩ := h
  refine ⟨_, pss_cons (ps_for PassesOwn.never rfl (pi_list (pe_cl GC (hr.mono (by decide)) (by rfl) (pa_cons (pv 0) (pa_cons pe_int pa_nil)))) (pg_name (i := 1) nd rfl (.inl rfl))
      (pss_cons (ps_set (i := 2) nd rfl (Or.inr rfl) (pe_cl GO (hr.mono (by decide)) (by rfl) (pa_cons (pv 0) (pa_cons (pv 1) pa_nil))))
      (pss_one (ps_if (pt_not (pt_val (pe_callB (cr_all rfl) (by rfl) T.all (by decide +kernel) (pa_cons
        (pe_lc (own := [("lap", 3)]) (g := gName 3) (tt := tYes) (by rfl) nd (pi_range1 (by rfl) T.range (pa_cons pe_int pa_nil)) (blkOk_by (own := [("lap", 3)]) (N := ["script", "place", "pot", "lap"]) (sc := defScope (top 46)) (by decide +kernel)) (fun _ _ _ _ _ => pg_name (i := 3) nd rfl (.inl rfl)) (fun _ _ _ _ _ => pts_nil)
          (fun _ _ _ _ _ => pe_clG GR hr quiet (by rfl) (pa_cons (pv 2) pa_nil))) pa_nil)))) (pss_one (ps_ret pe_bl)) pss_nil))))
    (pss_one (ps_ret pe_bl)), ?_⟩
  refine ⟨_, rfl, a, ns, rfl, ha, fun l ys H1 s1 nl hl ylen yall => ⟨l, rfl, ⟨_, SqL.of hl⟩, ?_⟩⟩
  refine for_list (xs := ys) (fun i σ H' => ∃ (p1 p2 p3 : Option V), σ = [some (.ref a), p1, p2, p3] ∧ SqL K H' a (ns.map V.int) ∧ H' l = some (.lst ys) ∧ Tabs [(tb, qR)] H') ?_ ?_ ?_ ?_
  · exact ⟨_, _, _, rfl, s1.seq ha, hl, hT.ext s1⟩
  · rintro i σ H' _ ⟨p1, p2, p3, rfl, _, h, _⟩
    exact SqL.of h
  · rintro i x σ H2 hx ⟨p1, p2, p3, rfl, ha2, hl2, T2⟩
    obtain ⟨pl, p3', rfl⟩ := yall x (List.mem_of_getElem? hx)
    refine ⟨_, rfl, _, rfl, a, ns, pl, rfl, ha2, p3', fun pq H3 s3 npq pot3 => ?_⟩
    refine ⟨_, rfl, by decide, by decide, fun D nD => ?_⟩
    have T3 := T2.ext s3
    have Dp_ : D ≠ pq := pot3.ne nD
    refine lc_range (n := 6) (fun i H' => H' D = some (.lst ((List.replicate i true).map V.bl)) ∧ Pot H' pq (300 * (i : Nat)) ∧ Tabs [(tb, qR)] H' ∧ Ap pq H3 H') ?_ ?_ ?_
    · exact ⟨upd_same, (pot3.same (same_new nD)).mono (by simp), T3.ext (same_new nD), Ap.of (But.of_same (same_new nD))⟩
    · rintro i H4 hi ⟨hD, hp, T4, ap⟩
      refine ⟨rfl, yesT (A := fun H3 => _) (B := fun H3 => _) ⟨_, rfl, pq, _, rfl, hp, by omega, T4, fun H5 ap5 hp5 T5 => ?_⟩⟩
      have hD5 := ap5 _ _ Dp_ (fun _ z => by cases z) hD
      refine ⟨_, hD5, by rw [List.length_map, List.length_replicate]; have : 1000 < sizeLine := by decide
                         omega, ?_, ?_, ?_, ?_⟩
      · rw [upd_same, List.replicate_succ']
        simp
      · obtain ⟨q0, q1, q2, e, r1, r2, r3, r4⟩ := hp5
        exact ⟨q0, q1, q2, by rw [upd_ne (Ne.symm Dp_)]; exact e, r1, r2, r3, by push_cast; omega⟩
      · intro t ht
        obtain ⟨ps, h1, h2, h3⟩ := T5 t ht
        have up : ∀ {b o}, (∀ xs, o ≠ HO.lst xs) → H5 b = some o → upd H5 D (.lst ((List.replicate i true).map V.bl ++ [.bl true])) b = some o := fun {b o} no e => by
          rw [upd_ne (fun z => by rw [z, hD5] at e; exact no _ (Option.some.inj e).symm)]
          exact e
        refine ⟨ps, up (fun _ z => by cases z) h1, h2, fun pos cv hc => ?_⟩
        obtain ⟨c, e1, e2⟩ := h3 pos cv hc
        exact ⟨c, e1, up (fun _ z => by unfold CodeO at z; cases z) e2⟩
      · intro b o nb t e
        rw [upd_ne (ne_of_none e nD)]
        exact ap5 b o nb t (ap b o nb t e)
    rintro H6 ⟨hD, hp, T6, ap⟩
    refine ⟨D, _, rfl, SqL.of hD, true, by decide, iteF ?_⟩
    have apx : Ap pq H2 H6 := (Ap.of (But.of_same s3)).trans ap
    exact ⟨_, _, _, rfl, seqAp npq ha2 apx, apx _ _ (ne_of_none hl2 npq) (fun _ z => by cases z) hl2, T6⟩
  · rintro σ H' ⟨p1, p2, p3, rfl, _⟩
    exact q H'
end
end Rf
end -- L1
section -- Jn
set_option Elab.async false
set_option maxRecDepth 100000
set_option maxHeartbeats 8000000
set_option pp.maxSteps 600
set_option pp.deepTerms false
set_option linter.all false
namespace Rf
open PySem PySem.Spec PySem.W PyProof.Rows L2 HandSPX
section
variable {P : Program} {w : World} {K : Frag} {mg : Str → Option Value} {h : Heap}
theorem fn_mk {x : Str} {st : Stmt} {f : Addr} {oc : Value} {od an : Option Addr} {osl : Array (Option Value)} {kV doc pm cdv ct : Value} (X : K.In h) (G : h.Ns mainGlobals mg) (a : nsIn K mainGlobals x = some (some (.ref f)))
    (l : K.lookup f = some ⟨oc, od, .func (fnOf x x (defArgs st) (defBody st) (defScope st) .none kV doc pm an cdv ct), osl⟩) (c : codeIn K cdv x = true) (k : keepIn K (.ref f) = true) : Fn K mg x st :=
  ⟨f, _, fun_mk l c k, mg_of X G a⟩
theorem tup_mk {a : Addr} {o : Obj} {n : Nat} {t1 t2 t3 t4 t5 t6 t7 t8 t9 t10 t11 t12 : Tok} (l : K.lookup a = some o) (c : o.cls = .type "tuple")
    (d : o.data = .seq #[.str "a" t1, .str "b" t2, .str "c" t3, .str "d" t4, .str "e" t5, .str "f" t6, .str "g" t7, .str "h" t8, .str "i" t9, .str "j" t10, .str "k" t11, .str "l" t12] n) (H : Hp) : SqT K H a (letV.map V.str) :=
  .inr ⟨o, _, n, l, c, d, (by show 12 ≤ sizeLine; decide), .cons ⟨_, rfl⟩ (.cons ⟨_, rfl⟩ (.cons ⟨_, rfl⟩ (.cons ⟨_, rfl⟩ (.cons ⟨_, rfl⟩ (.cons ⟨_, rfl⟩ (.cons ⟨_, rfl⟩ (.cons ⟨_, rfl⟩ (.cons ⟨_, rfl⟩ (.cons ⟨_, rfl⟩ (.cons ⟨_, rfl⟩ (.cons ⟨_, rfl⟩ .nil)))))))))))⟩
theorem tx_mk {dL aL : Addr} {tl t1 t2 k1 k2 k3 k4 k5 k6 : Tok} (X : K.In h) (G : h.Ns mainGlobals mg)
    (z0 : nsIn K mainGlobals "isinstance" = some none)
    (z1 : nsIn K mainGlobals "tuple" = some none)
    (z2 : nsIn K mainGlobals "str" = some none)
    (z3 : nsIn K mainGlobals "len" = some none)
    (z4 : nsIn K mainGlobals "int" = some none)
    (z5 : nsIn K mainGlobals "list" = some none)
    (z6 : nsIn K mainGlobals "all" = some none)
    (z7 : nsIn K mainGlobals "set" = some none)
    (z8 : nsIn K mainGlobals "range" = some none)
    (z9 : nsIn K mainGlobals "min" = some none)
    (z10 : nsIn K mainGlobals "max" = some none)
    (z11 : nsIn K mainGlobals "abs" = some none)
    (z12 : nsIn K mainGlobals "sum" = some none)
    (z13 : nsIn K mainGlobals "dict" = some none)
    (z14 : nsIn K mainGlobals "repr" = some none)
    (z15 : nsIn K mainGlobals "zip" = some none)
    (a1 : nsIn K mainGlobals "LETTERS" = some (some (.ref aL))) (a2 : nsIn K mainGlobals "LENGTHS" = some (some (.ref dL))) (a3 : nsIn K mainGlobals "LETTER" = some (some (.str "letter" tl))) (a4 : nsIn K mainGlobals "MOST_WORDS" = some (some (.int 200 t1))) (a5 : nsIn K mainGlobals "MOST_DEEP" = some (some (.int 40 t2)))
    (tp : ∀ H, SqT K H aL (letV.map V.str)) (dc : ∃ es n, KDict K w dL es n)
    (e1 : nsIn K dL "letter" = some (some (.int 2 k1))) (e2 : nsIn K dL "not" = some (some (.int 2 k2))) (e3 : nsIn K dL "both" = some (some (.int 3 k3))) (e4 : nsIn K dL "either" = some (some (.int 3 k4))) (e5 : nsIn K dL "if" = some (some (.int 3 k5))) (e6 : nsIn K dL "but" = some (some (.int 3 k6))) :
    Tx K w mg dL aL where
  isi := mg_none_of X G z0
  tuple := mg_none_of X G z1
  str := mg_none_of X G z2
  len := mg_none_of X G z3
  int := mg_none_of X G z4
  list := mg_none_of X G z5
  all := mg_none_of X G z6
  set := mg_none_of X G z7
  range := mg_none_of X G z8
  min := mg_none_of X G z9
  max := mg_none_of X G z10
  abs := mg_none_of X G z11
  sum := mg_none_of X G z12
  dict := mg_none_of X G z13
  repr := mg_none_of X G z14
  zip := mg_none_of X G z15
  LETTERS := mg_of X G a1
  LENGTHS := mg_of X G a2
  LETTER := ⟨_, mg_of X G a3⟩
  MOSTW := ⟨_, mg_of X G a4⟩
  MOSTD := ⟨_, mg_of X G a5⟩
  tup := tp
  dic := dc
  d2 := fun z hz => by rcases hz with rfl | rfl <;> exact ⟨_, by assumption⟩
  d3 := fun z hz => by rcases hz with rfl | rfl | rfl | rfl <;> exact ⟨_, by assumption⟩
theorem fe_mk {nm nm' q : Str} {C D fI N cda cc : Addr} {bs bm : List Value} {sn : List Str} {sub : List Value} {ab : Bool} {col : Option Bool} {dd od an cdd cld : Option Addr} {k0 k1 k2 k3 k5 : Option Value} {oc doc pm ct ccl cl : Value} {osl ccs csl : Array (Option Value)} {vs : Array Value} {file : Str} {tf : Tok}
    (X : K.In h) (G : h.Ns mainGlobals mg) (a1 : nsIn K mainGlobals nm = some (some (.ref C))) (a2 : nsIn K mainGlobals "FindingError" = some (some (.ref D)))
    (l1 : K.lookup C = some (excClassObj nm' q C N bs bm true sn sub ab col dd k0 k1 k2 k3 k5 "ValueError.__new__")) (r1 : refsVE bm = true)
    (sa : findIn K (.ref C) "__setattr__" = some (some (.builtin "object.__setattr__"))) (ga : findIn K (.ref C) "__getattribute__" = some (some (.builtin "BaseException.__getattribute__"))) (gg : findIn K (.ref C) "__getattr__" = some none) (noN : findIn K (.ref C) "value" = some none)
    (iC : findIn K (.ref C) "__init__" = some (some (.ref fI))) (tC : typeIn K (.ref fI) = some (.type "function")) (kC : keepIn K (.ref C) = true) (exC : subIn K (.ref C) (.type "BaseException") = some true) (veC : subIn K (.ref C) (.type "ValueError") = some true) (tyC : typeIn K (.ref C) = some (.type "type")) (hdC : hasDictIn K C = true)
    (exD : subIn K (.ref D) (.type "BaseException") = some true) (hdD : hasDictIn K D = true) (tyD : typeIn K (.ref D) = some (.type "type")) (cD : subIn K (.ref C) (.ref D) = some true)
    (sup : ks_superIn K C D "__init__" = some (some (.builtin "ValueError.__init__"))) (subD : mroIn K C (.ref D) = some true) (isD : isClsIn K D = true) (opq : nsIn K cStatics "thirdparty.any" = some none) (s0 : nsIn K mainGlobals "super" = some none) (tp : (P.main.scope.names.lookup ("super" : Str)).isSome = false)
    (l2 : K.lookup fI = some ⟨oc, od, .func (ksFn "__init__" "FindingError.__init__" feA feB feS .none .none doc pm an (.ref cda) ct cc), osl⟩) (c2 : codeIn K (.ref cda) "FindingError.__init__" = true)
    (l3 : K.lookup cda = some ⟨ccl, cdd, .fields vs, ccs⟩) (v3 : vs[2]? = some (.str file tf)) (fl : ((P.main.file : Str) == file) = true) (l4 : K.lookup cc = some ⟨cl, cld, .cell (some (.ref D)), csl⟩) : FeTxt P K mg nm C D fI where
  gC := mg_of X G a1
  gD := mg_of X G a2
  cls := ⟨nm', q, N, bs, bm, sn, sub, ab, col, dd, k0, k1, k2, k3, k5, l1, r1⟩
  sa := sa
  ga := ga
  gg := gg
  noN := noN
  iC := iC
  tC := tC
  kC := kC
  exC := exC
  veC := veC
  tyC := tyC
  hdC := hdC
  te := exm_ref exD hdD tyD cD
  sup := sup
  subD := subD
  clsD := Option.isSome_iff_exists.mp isD
  opq := opq
  sup0 := mg_none_of X G s0
  top := tp
  fn := ⟨oc, od, doc, pm, an, cda, cc, ct, osl, ccl, cl, cdd, cld, vs, ccs, csl, file, tf, l2, c2, l3, v3, fl, l4⟩
/-- the law from what the top has written -/
theorem join {dL aL CT D fI tb c gR gL : Addr} {oc1 oc2 : Value} {od1 od2 an1 an2 : Option Addr} {kV1 doc1 pm1 ct1 kV2 doc2 pm2 cd2 ct2 : Value} {osl1 osl2 : Array (Option Value)} (X : K.In h) (G : h.Ns mainGlobals mg) (T : Tx K w mg dL aL) (TT : FeTxt P K mg "TooGreat" CT D fI)
    (F8 : Fn K mg "is_tuple" (top 8))
    (F9 : Fn K mg "is_text" (top 9))
    (F10 : Fn K mg "is_letter" (top 10))
    (F21 : Fn K mg "inner_of" (top 21))
    (F22 : Fn K mg "is_saying" (top 22))
    (F23 : Fn K mg "check_saying" (top 23))
    (F24 : Fn K mg "check_letter" (top 24))
    (F25 : Fn K mg "every_part" (top 25))
    (F26 : Fn K mg "size_of" (top 26))
    (F27 : Fn K mg "are_pairs" (top 27))
    (F28 : Fn K mg "check_pairs" (top 28))
    (F29 : Fn K mg "led_by" (top 29))
    (F30 : Fn K mg "renamed_by" (top 30))
    (F31 : Fn K mg "renamed" (top 31))
    (F32 : Fn K mg "put_in" (top 32))
    (F33 : Fn K mg "let_put" (top 33))
    (F35 : Fn K mg "_law_pot" (top 35))
    (F36 : Fn K mg "_law_take" (top 36))
    (F37 : Fn K mg "_law_of" (top 37))
    (F38 : Fn K mg "_law_cells" (top 38))
    (F39 : Fn K mg "_law_some" (top 39))
    (F40 : Fn K mg "_law_caught" (top 40))
    (F41 : Fn K mg "_law_saying" (top 41))
    (F42 : Fn K mg "_law_parts" (top 42))
    (F43 : Fn K mg "_law_led" (top 43))
    (F44 : Fn K mg "_law_deep" (top 44))
    (aR : nsIn K mainGlobals "_law_right" = some (some (.ref gR))) (lR : K.lookup gR = some ⟨oc1, od1, .func (fnOf "_law_right" "_law_right" (defArgs (top 45)) (defBody (top 45)) (defScope (top 45)) .none kV1 doc1 pm1 an1 (.ref c) ct1), osl1⟩) (cR : codeIn K (.ref c) "_law_right" = true) (kR : keepIn K (.ref gR) = true)
    (lL : K.lookup gL = some ⟨oc2, od2, .func (fnOf "law" "law" (defArgs (top 46)) (defBody (top 46)) (defScope (top 46)) .none kV2 doc2 pm2 an2 cd2 ct2), osl2⟩) (cL : codeIn K cd2 "law" = true) (kL : keepIn K (.ref gL) = true) :
    ∃ fd : FuncData, (∀ (s : Shared) (u : Value), BindsTo s fd ⟨[u], []⟩ [("script", u)]) ∧ ∀ base : Heap, LamX.TabB base mg c tb → FnG P w K mg base 72 gL fd ["script"] (spLaw K tb) := by
  refine ⟨fnOf "law" "law" (defArgs (top 46)) (defBody (top 46)) (defScope (top 46)) .none kV2 doc2 pm2 an2 cd2 ct2, fun s u => .of_eq rfl, fun base TB => ?_⟩
  obtain ⟨gC, fdC, FC, hmC⟩ := F40.ex
  have t9 := ok_text (P := P) (base := base) F9 T
  have t8 := ok_tuple (P := P) (base := base) F8 T
  have t10 := ok_letter F10 T t9
  have t21 := ok_inner F21 T t9 t10
  have t22 := ok_saying F22 T t21
  have t23 := ok_check F23 t22
  have t24 := ok_checkL F24 t10
  have t25 := ok_every (P := P) (base := base) F25 T
  have t26 := ok_size F26 T t23 t25
  have t27 := ok_pairs F27 T t8 t10
  have t28 := ok_chPairs F28 t27
  have t29 := ok_led (P := P) (base := base) F29 T 40
  have t30 := ok_renBy F30 T t29
  have t31 := ok_ren F31 t23 t28 t30
  have t33 := ok_let F33 T TT t29 t22
  have t32 := ok_put F32 t23 t24 t33
  have t36 := ok_take (P := P) (base := base) F36 T
  have t35 := ok_pot (P := P) (base := base) F35 T
  have t37 := ok_of F37 T t36
  have t38 := ok_cells (P := P) (base := base) F38 T
  have t39 := ok_some F39 T t36
  have t41 := ok_say F41 t36 t37 12
  have t42 := ok_parts (P := P) (w := w) (base := base) F42 60
  have t43 := ok_lled (P := P) (base := base) F43 T 40
  have t44 := ok_deep (P := P) (base := base) F44 T 60
  have t45 := ok_right T TT t36 t37 t39 t41 t31 t32 t26 t43 t42 t44 FC hmC TB (fun_mk lR cR kR) (mg_of X G aR) lR
  exact ok_law T t38 t35 t45 (fun_mk lL cL kL)
theorem law_ns {x : Str} {g : Addr} (X : K.In h) (G : h.Ns mainGlobals mg) (e : nsIn K mainGlobals x = some (some (.ref g))) : mg x = some (.ref g) := mg_of X G e
theorem law_at {l : PySem.W.OpenLaw} {tb c g : Addr} {n : Nat} (X : K.In h) (J : ∃ fd : FuncData, (∀ (s : Shared) (u : Value), BindsTo s fd ⟨[u], []⟩ [("script", u)]) ∧ ∀ base : Heap, LamX.TabB base mg c tb → FnG l.prog w K mg base 72 g fd ["script"] (spLaw K tb))
    (hT : h.get? tb = some { cls := .none, data := .fields #[] }) (nT : K.lookup tb = none) (hc : codeHdIn K c tb = true) : LawAtG l w K 72 n "script" mg g h := by
  obtain ⟨fd, bd, F⟩ := J
  exact ⟨fd, c, tb, spLaw K tb, hT, nT, codeHd_of_K X hc, bd, fun H a ns _ htb hs => ⟨a, ns, rfl, hs, (fun p hp => by rw [List.mem_singleton.mp hp]; exact LamX.TabS.nil htb), fun _ => rfl⟩, fun base _ _ TB => F base TB⟩
end
end Rf
end -- Jn
section -- Head02
open PySem PySem.W PyProof.Rows
set_option Elab.async false
set_option maxRecDepth 100000
set_option maxHeartbeats 0
open_top hd for PySem.Challenge.rw_refutedaswell_k02_whole_sayings_renamed
end -- Head02
section -- Fin
set_option Elab.async false
set_option maxRecDepth 100000
set_option maxHeartbeats 0
set_option linter.all false
open PySem PySem.W PyProof.Rows L2
theorem PySem.Challenge.cw_refutedaswell_k02_whole_sayings_renamed_holds : PySem.Challenge.rw_refutedaswell_k02_whole_sayings_renamed.Holds :=
  hd (by
  k_fill
  refine Rf.walk_ofG (l := PySem.Challenge.rw_refutedaswell_k02_whole_sayings_renamed) (x := "script") (n := 63) (k := 72) rfl (by decide) rfl ⟨rfl, by decide, by decide⟩ (fun w h Y => PySem.W.km_in_of Y) ?F
  intro w mg fa h Y KX G hmg
  have hT := PySem.W.km_tabs_of Y 258 (by simp)
  have F8 := Rf.fn_mk (x := "is_tuple") (st := Rf.top 8) KX G (by k_is) (by k_is) (by k_is) (by k_is)
  have F9 := Rf.fn_mk (x := "is_text") (st := Rf.top 9) KX G (by k_is) (by k_is) (by k_is) (by k_is)
  have F10 := Rf.fn_mk (x := "is_letter") (st := Rf.top 10) KX G (by k_is) (by k_is) (by k_is) (by k_is)
  have F21 := Rf.fn_mk (x := "inner_of") (st := Rf.top 21) KX G (by k_is) (by k_is) (by k_is) (by k_is)
  have F22 := Rf.fn_mk (x := "is_saying") (st := Rf.top 22) KX G (by k_is) (by k_is) (by k_is) (by k_is)
  have F23 := Rf.fn_mk (x := "check_saying") (st := Rf.top 23) KX G (by k_is) (by k_is) (by k_is) (by k_is)
  have F24 := Rf.fn_mk (x := "check_letter") (st := Rf.top 24) KX G (by k_is) (by k_is) (by k_is) (by k_is)
  have F25 := Rf.fn_mk (x := "every_part") (st := Rf.top 25) KX G (by k_is) (by k_is) (by k_is) (by k_is)
  have F26 := Rf.fn_mk (x := "size_of") (st := Rf.top 26) KX G (by k_is) (by k_is) (by k_is) (by k_is)
  have F27 := Rf.fn_mk (x := "are_pairs") (st := Rf.top 27) KX G (by k_is) (by k_is) (by k_is) (by k_is)
  have F28 := Rf.fn_mk (x := "check_pairs") (st := Rf.top 28) KX G (by k_is) (by k_is) (by k_is) (by k_is)
  have F29 := Rf.fn_mk (x := "led_by") (st := Rf.top 29) KX G (by k_is) (by k_is) (by k_is) (by k_is)
  have F30 := Rf.fn_mk (x := "renamed_by") (st := Rf.top 30) KX G (by k_is) (by k_is) (by k_is) (by k_is)
  have F31 := Rf.fn_mk (x := "renamed") (st := Rf.top 31) KX G (by k_is) (by k_is) (by k_is) (by k_is)
  have F32 := Rf.fn_mk (x := "put_in") (st := Rf.top 32) KX G (by k_is) (by k_is) (by k_is) (by k_is)
  have F33 := Rf.fn_mk (x := "let_put") (st := Rf.top 33) KX G (by k_is) (by k_is) (by k_is) (by k_is)
  have F35 := Rf.fn_mk (x := "_law_pot") (st := Rf.top 35) KX G (by k_is) (by k_is) (by k_is) (by k_is)
  have F36 := Rf.fn_mk (x := "_law_take") (st := Rf.top 36) KX G (by k_is) (by k_is) (by k_is) (by k_is)
  have F37 := Rf.fn_mk (x := "_law_of") (st := Rf.top 37) KX G (by k_is) (by k_is) (by k_is) (by k_is)
  have F38 := Rf.fn_mk (x := "_law_cells") (st := Rf.top 38) KX G (by k_is) (by k_is) (by k_is) (by k_is)
  have F39 := Rf.fn_mk (x := "_law_some") (st := Rf.top 39) KX G (by k_is) (by k_is) (by k_is) (by k_is)
  have F40 := Rf.fn_mk (x := "_law_caught") (st := Rf.top 40) KX G (by k_is) (by k_is) (by k_is) (by k_is)
  have F41 := Rf.fn_mk (x := "_law_saying") (st := Rf.top 41) KX G (by k_is) (by k_is) (by k_is) (by k_is)
  have F42 := Rf.fn_mk (x := "_law_parts") (st := Rf.top 42) KX G (by k_is) (by k_is) (by k_is) (by k_is)
  have F43 := Rf.fn_mk (x := "_law_led") (st := Rf.top 43) KX G (by k_is) (by k_is) (by k_is) (by k_is)
  have F44 := Rf.fn_mk (x := "_law_deep") (st := Rf.top 44) KX G (by k_is) (by k_is) (by k_is) (by k_is)
  have hDic : ∃ es n, KDict (hd.heap_39 w.params) w 107 es n := He.dicW_ok (ks := ["letter", "not", "both", "either", "if", "but"]) (by first | rfl | kernel_rfl)
  have hTup := Rf.tup_mk (K := hd.heap_39 w.params) (a := 85) (by k_is) rfl rfl
  have T := Rf.tx_mk (w := w) (dL := 107) (aL := 85) KX G (by k_is) (by k_is) (by k_is) (by k_is) (by k_is) (by k_is) (by k_is) (by k_is) (by k_is) (by k_is) (by k_is) (by k_is) (by k_is) (by k_is) (by k_is) (by k_is)
    (by k_is) (by k_is) (by k_is) (by k_is) (by k_is) hTup hDic (by k_is) (by k_is) (by k_is) (by k_is) (by k_is) (by k_is)
  have TT := Rf.fe_mk (P := PySem.Challenge.rw_refutedaswell_k02_whole_sayings_renamed.prog) (nm := "TooGreat") KX G (by k_is) (by k_is)
    (by k_is) (by first | rfl | decide | kernel_rfl) (by k_is) (by k_is) (by k_is) (by k_is)
    (by k_is) (by k_is) (by k_is) (by k_is) (by k_is) (by k_is) (by k_is)
    (by k_is) (by k_is) (by k_is) (by k_is) (by first | ks_is | rfl | kernel_rfl) (by k_is) (by k_is) (by k_is) (by k_is) (by first | rfl | decide +kernel)
    (by k_is) (by k_is) (by k_is) rfl (by first | rfl | decide +kernel) (by k_is)
  have mL := Rf.law_ns (x := "law") KX G (by k_is)
  obtain rfl := Value.ref.inj (Option.some.inj (hmg.symm.trans mL))
  exact Rf.law_at (tb := 258) KX (Rf.join KX G T TT F8 F9 F10 F21 F22 F23 F24 F25 F26 F27 F28 F29 F30 F31 F32 F33 F35 F36 F37 F38 F39 F40 F41 F42 F43 F44 (by k_is) (by k_is) (by k_is) (by k_is) (by k_is) (by k_is) (by k_is)) hT (by first | k_is | rfl | kernel_rfl) (by first | k_is | rfl | kernel_rfl))
end -- Fin
