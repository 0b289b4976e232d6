import PyProof.Rows.All
import Wide.All
import OpenK.AllK
import Wide.FinOn
import HandS.ForMost
import HandS.ForExc
import HandS.Flow
import HandS.Style
import HandS.Codes
import HandS.IsInst
import HandS.Defaults
import HandS.Star
import HandS.Conv
import HandS.ExcInit
import HandS.ExcIs
import HandS.Lambda
import HandS.Nested
import HandS.EndBits
import HandS.EndTab
import HandS.HeadWalk
import HandS.HeadHook4
import HandS.CallLocal
import HandS.OwnEq
import HandS.TryOnly
import KE.KExcSuper
import HandS.ExcField
import HandS.RaiseMore
import HandS.Iter
import HandS.Walk
import HandS.Deep
import HandS.Text
import KE.KStateDown
import HandS.Head0
import HandS.Head1
import HandS.Head2
import PySem.Challenge.RW_waitingpairs_k75_texts_of_logs_and_steps
set_option Elab.async false
set_option linter.all false
set_option maxRecDepth 100000
set_option maxHeartbeats 4000000
/-! own layer, part 1: defs, methods, classes called where errors may come out -/
namespace XB
open PySem PySem.Spec PyProof.Rows L2
/-- a def of the module that may be called by its name; errors as the promise tells -/
structure Cal (P : Program) (w : World) (K : PySem.W.Frag) (mg : Str → Option Value) (base : Heap) (k : Nat) (x : Str) (sp : Sp) : Prop where
  ex : ∃ (f : Addr) (fd : FuncData) (ps : List Str), FnOk P w K mg base (L2.CX P w) k f fd ps sp ∧ mg x = some (.ref f) ∧ PySem.W.keepIn K (.ref f) = true ∧ Binds K fd ps []
/-- the same with its address told -/
structure CalA (P : Program) (w : World) (K : PySem.W.Frag) (mg : Str → Option Value) (base : Heap) (k : Nat) (f : Addr) (sp : Sp) : Prop where
  ex : ∃ (fd : FuncData) (ps : List Str), FnOk P w K mg base (L2.CX P w) k f fd ps sp ∧ PySem.W.keepIn K (.ref f) = true ∧ Binds K fd ps []
/-- a method -/
structure Met (P : Program) (w : World) (K : PySem.W.Frag) (mg : Str → Option Value) (base : Heap) (k : Nat) (C : Addr) (m : Str) (sp : Sp) : Prop where
  ex : ∃ (f : Addr) (fd : FuncData) (ps : List Str), Cls K C ∧ Meth K C m f ∧ FnOk P w K mg base (L2.CX P w) k f fd ps sp ∧ Binds K fd ps []
/-- a class that is called; sp: its __init__ -/
structure Mak (P : Program) (w : World) (K : PySem.W.Frag) (mg : Str → Option Value) (base : Heap) (k : Nat) (x : Str) (C : Addr) (sp : Sp) : Prop where
  ex : ∃ (f : Addr) (fd : FuncData) (ps : List Str), L2.Mk K C f ∧ FnOk P w K mg base (L2.CX P w) k f fd ps sp ∧ mg x = some (.ref C) ∧ Binds K fd ps []
section
variable {P : Program} {w : World} {K : PySem.W.Frag} {mg : Str → Option Value} {base : Heap} {k j : Nat} {x m : Str} {C f : Addr} {sp : Sp}
theorem Cal.mono (c : Cal P w K mg base k x sp) (h : k ≤ j) : Cal P w K mg base j x sp := by
  obtain ⟨f, fd, ps, F, r⟩ := c.ex
  exact ⟨f, fd, ps, F.mono h, r⟩
theorem CalA.mono (c : CalA P w K mg base k f sp) (h : k ≤ j) : CalA P w K mg base j f sp := by
  obtain ⟨fd, ps, F, r⟩ := c.ex
  exact ⟨fd, ps, F.mono h, r⟩
theorem CalA.cal (c : CalA P w K mg base k f sp) (hm : mg x = some (.ref f)) : Cal P w K mg base k x sp := by
  obtain ⟨fd, ps, F, kp, b⟩ := c.ex
  exact ⟨f, fd, ps, F, hm, kp, b⟩
theorem Met.mono (c : Met P w K mg base k C m sp) (h : k ≤ j) : Met P w K mg base j C m sp := by
  obtain ⟨f, fd, ps, a, b, F, r⟩ := c.ex
  exact ⟨f, fd, ps, a, b, F.mono h, r⟩
theorem Mak.mono (c : Mak P w K mg base k x C sp) (h : k ≤ j) : Mak P w K mg base j x C sp := by
  obtain ⟨f, fd, ps, a, F, r⟩ := c.ex
  exact ⟨f, fd, ps, a, F.mono h, r⟩
end
section
variable {X : Cx} {k : Nat} {C : Addr} {x m : Str} {sp : Sp} {E : XK} {p pos apos : Pos} {e o : Expr} {es : List Expr} {ta : TE} {t : TA}
/-- x(e, ..) -/
theorem pe_c (c : Cal X.prog X.w X.K X.mg X.base k x sp) (hr : Room k X.A) (hx : Passes (L2.CX X.prog X.w) X E) (hg : Gl X x) (ha : PA X (e :: es) t)
    (hdb : (x == ("__debug__" : Str)) = false := by decide) (he : starEach (e :: es) X.env = (false, eval e X.env) :: starEach es X.env := by rfl) (hpl : (backTo pos (starEach es X.env)).any (·.1) = false := by rfl) :
    PE X (.Call (.Name x p) (e :: es) [] pos) (tCall sp [] E t) := by
  obtain ⟨f, fd, ps, F, hm, kp, b⟩ := c.ex
  exact pe_call F hr hg hm kp b .nil hx ha hdb he hpl
/-- o.m(e, ..) -/
theorem pe_mt {pl : Sem Bool} (c : Met X.prog X.w X.K X.mg X.base k C m sp) (hr : Room k X.A) (hx : Passes (L2.CX X.prog X.w) X E) (he : PE X o ta) (ha : PA X (e :: es) t)
    (hst : starEach (e :: es) X.env = (false, eval e X.env) :: starEach es X.env := by rfl) (hpl : (backTo pos (starEach es X.env)).any (·.1) = false := by rfl)
    (ht : eval (.Call (.Attribute o m apos) (e :: es) [] pos) X.env = (do
      let ov ← eval o X.env
      standAt apos.atName
      let (f, first) ← holding [ov] (getMethod ov m pl)
      callWith pos f first (backTo pos (starEach (e :: es) X.env)) (backToKw pos (keywordEach [] X.env))) := by rfl) :
    PE X (.Call (.Attribute o m apos) (e :: es) [] pos) (tMeth C m sp [] E ta t) := by
  obtain ⟨f, fd, ps, hc, hm, F, b⟩ := c.ex
  exact pe_meth (pl := pl) he hc hm F hr b .nil hx ha hst hpl ht
theorem pe_mt0 {pl : Sem Bool} (c : Met X.prog X.w X.K X.mg X.base k C m sp) (hr : Room k X.A) (hx : Passes (L2.CX X.prog X.w) X E) (he : PE X o ta)
    (ht : eval (.Call (.Attribute o m apos) [] [] pos) X.env = (do
      let ov ← eval o X.env
      standAt apos.atName
      let (f, first) ← holding [ov] (getMethod ov m pl)
      callWith pos f first (backTo pos (starEach [] X.env)) (backToKw pos (keywordEach [] X.env))) := by rfl) :
    PE X (.Call (.Attribute o m apos) [] [] pos) (tMeth C m sp [] E ta tNil) := by
  obtain ⟨f, fd, ps, hc, hm, F, b⟩ := c.ex
  exact pe_meth0 (pl := pl) he hc hm F hr b .nil hx ht
/-- C(e, ..) -/
theorem pe_mk (c : Mak X.prog X.w X.K X.mg X.base k x C sp) (hr : Room (k + 1) X.A) (hx : Passes (L2.CX X.prog X.w) X E) (hg : Gl X x) (ha : PA X (e :: es) t)
    (hdb : (x == ("__debug__" : Str)) = false := by decide) (he : starEach (e :: es) X.env = (false, eval e X.env) :: starEach es X.env := by rfl) (hpl : (backTo pos (starEach es X.env)).any (·.1) = false := by rfl) :
    PE X (.Call (.Name x p) (e :: es) [] pos) (tMake C sp [] E t) := by
  obtain ⟨f, fd, ps, M, F, hm, b⟩ := c.ex
  exact pe_make M F hr hg hm b .nil hx ha hdb he hpl
/-- a local name that holds a def at f of the module -/
theorem pe_cl {i : Nat} {f : Addr} (c : CalA X.prog X.w X.K X.mg X.base k f sp) (hr : Room k X.A) (hx : Passes (L2.CX X.prog X.w) X E) (hN : X.N[i]? = some x) (hv : Vis X.env.scope x) (ha : PA X (e :: es) t)
    (hdb : (x == ("__debug__" : Str)) = false := by decide) (hcd : (x == ("__classdict__" : Str)) = false := by decide)
    (he : starEach (e :: es) X.env = (false, eval e X.env) :: starEach es X.env := by rfl) (hpl : (backTo pos (starEach es X.env)).any (·.1) = false := by rfl) :
    PE X (.Call (.Name x p) (e :: es) [] pos) (tCallL i f sp [] E t) := by
  obtain ⟨fd, ps, F, kp, b⟩ := c.ex
  exact pe_callL F hr hN hv kp b .nil hx ha hdb hcd he hpl
end
/-- the own errors of a def that may raise reach what is asked of the def -/
theorem pX {P : Program} {w : World} {K : PySem.W.Frag} {mg : Str → Option Value} {base : Heap} {N : List Str} {qual : Str} {scope : Scope} {f : Addr} {cd : Value} {A : Around} {outer : List Env} {s : Shared} {H : Hp} {E : XK} :
    Passes (L2.CX P w) (cxOf (L2.CX P w) P w K mg base N qual scope f cd A outer s H E) E := fun pins σ H1 s1 e s' I c =>
  passes_call (X := cxOf (L2.CX P w) P w K mg base N qual scope f cd A outer s H E) (takes_of rfl rfl rfl rfl) (fun _ _ _ _ h => h) pins σ H1 s1 e s' I c
theorem tkX {P : Program} {w : World} {K : PySem.W.Frag} {mg : Str → Option Value} {base : Heap} {N : List Str} {qual : Str} {scope : Scope} {f : Addr} {cd : Value} {A : Around} {outer : List Env} {s : Shared} {H : Hp} {E : XK} :
    Takes (cxOf (L2.CX P w) P w K mg base N qual scope f cd A outer s H E) (fun cls d _ H' => E cls d H') := takes_of rfl rfl rfl rfl
theorem poX {P : Program} {w : World} {K : PySem.W.Frag} {mg : Str → Option Value} {base : Heap} {N : List Str} {qual : Str} {scope : Scope} {f : Addr} {cd : Value} {A : Around} {outer : List Env} {s : Shared} {H : Hp} {E : XK} :
    PassesOwn (model P w) (cxOf (L2.CX P w) P w K mg base N qual scope f cd A outer s H E).A (cxOf (L2.CX P w) P w K mg base N qual scope f cd A outer s H E).env (cxOf (L2.CX P w) P w K mg base N qual scope f cd A outer s H E).xe :=
  passes_of rfl
end XB

/-! own layer, part 2: data, types of data, walks over a list or a tuple -/
namespace XB
open PySem PySem.Spec PyProof.Rows L2
/-! ### what stands goes on standing -/
theorem rd_same {H H' : Hp} {a : Addr} {u : HO} (e : Same H H') (h : Rd H a u) : Rd H' a u := by
  rcases h with h | ⟨o, h⟩
  · exact .inl (e _ _ h)
  · exact .inr ⟨o, e _ _ h⟩
theorem sqT_same {K : PySem.W.Frag} {H H' : Hp} {a : Addr} {xs : List V} (e : Same H H') (h : SqT K H a xs) : SqT K H' a xs := by
  rcases h with h | h
  · exact .inl (rd_same e h)
  · exact .inr h
theorem same_new {H : Hp} {p : Addr} {o : HO} (h : H p = none) : Same H (upd H p o) := fun b u e => by
  rw [upd_ne (ne_of_none e h)]
  exact e
theorem same_new' {H H1 : Hp} {p : Addr} {o : HO} (s : Same H H1) (h : H1 p = none) : Same H (upd H1 p o) := s.trans (same_new h)
/-- an object that came later is changed -/
theorem same_mut {H H1 : Hp} {p : Addr} {o : HO} (s : Same H H1) (h : H p = none) : Same H (upd H1 p o) := fun b u e => by
  rw [upd_ne (ne_of_none e h)]
  exact s b u e
/-- all but p stands as it stood -/
def But (p : Addr) (H H' : Hp) : Prop := ∀ b o, H b = some o → b ≠ p → H' b = some o
theorem But.refl (p : Addr) (H : Hp) : But p H H := fun _ _ h _ => h
theorem Same.but {p : Addr} {H H' : Hp} (s : Same H H') : But p H H' := fun b o h _ => s b o h
theorem But.trans {p : Addr} {H H1 H2 : Hp} (a : But p H H1) (b : But p H1 H2) : But p H H2 := fun c o h n => b c o (a c o h n) n
theorem but_upd {p : Addr} {H : Hp} {o : HO} : But p H (upd H p o) := fun b u e n => by
  rw [upd_ne n]
  exact e
theorem But.new {p q : Addr} {H H1 : Hp} {o : HO} (a : But p H H1) (h : H1 q = none) : But p H (upd H1 q o) := a.trans (Same.but (same_new h))
theorem But.same {p : Addr} {H H1 : Hp} (a : But p H H1) (h : H p = none) : Same H H1 := fun b o e => a b o e (ne_of_none e h)
/-! ### data -/
mutual
theorem dp_same {K : PySem.W.Frag} {H H' : Hp} (e : Same H H') : ∀ {v : V} {d : PyData}, Dp K H v d → Dp K H' v d
  | _, _, .non => .non
  | _, _, .bl b => .bl b
  | _, _, .int i => .int i
  | _, _, .str x => .str x
  | _, _, .lst h r => .lst (e.seq h) (dps_same e r)
  | _, _, .tup h r => .tup (sqT_same e h) (dps_same e r)
theorem dps_same {K : PySem.W.Frag} {H H' : Hp} (e : Same H H') : ∀ {vs : List V} {ds : List PyData}, DpAll K H vs ds → DpAll K H' vs ds
  | _, _, .nil => .nil
  | _, _, .cons h r => .cons (dp_same e h) (dps_same e r)
end
theorem dps_len {K : PySem.W.Frag} {H : Hp} : ∀ {vs : List V} {ds : List PyData}, DpAll K H vs ds → vs.length = ds.length
  | _, _, .nil => rfl
  | _, _, .cons _ r => congrArg Nat.succ (dps_len r)
theorem dps_at {K : PySem.W.Frag} {H : Hp} : ∀ {vs : List V} {ds : List PyData} {i : Nat} {v : V}, DpAll K H vs ds → vs[i]? = some v → ∃ d, ds[i]? = some d ∧ Dp K H v d
  | _, _, _, _, .nil, e => by simp at e
  | _, _, 0, _, .cons h _, e => by
    simp at e
    subst e
    exact ⟨_, rfl, h⟩
  | _, _, i + 1, v, .cons _ r, e => by
    obtain ⟨d, e1, e2⟩ := dps_at (i := i) (v := v) r (by simpa using e)
    exact ⟨d, by simpa using e1, e2⟩
theorem dps_snoc {K : PySem.W.Frag} {H : Hp} {v : V} {d : PyData} : ∀ {vs : List V} {ds : List PyData}, DpAll K H vs ds → Dp K H v d → DpAll K H (vs ++ [v]) (ds ++ [d])
  | _, _, .nil, h => .cons h .nil
  | _, _, .cons a r, h => .cons a (dps_snoc r h)
theorem dps_ints {K : PySem.W.Frag} {H : Hp} : ∀ ns : List Int, DpAll K H (ns.map V.int) (ns.map PyData.int)
  | [] => .nil
  | n :: r => .cons (.int n) (dps_ints r)
theorem dps_strs {K : PySem.W.Frag} {H : Hp} : ∀ ns : List Str, DpAll K H (ns.map V.str) (ns.map PyData.str)
  | [] => .nil
  | n :: r => .cons (.str n) (dps_strs r)
/-- the list or tuple at an address -/
theorem dp_ref {K : PySem.W.Frag} {H : Hp} {a : Addr} {d : PyData} (h : Dp K H (.ref a) d) : (∃ xs ds, d = .list ds ∧ SqL K H a xs ∧ DpAll K H xs ds) ∨ ∃ xs ds, d = .tuple ds ∧ SqT K H a xs ∧ DpAll K H xs ds := by
  cases h with
  | lst h r => exact .inl ⟨_, _, rfl, h, r⟩
  | tup h r => exact .inr ⟨_, _, rfl, h, r⟩
/-! ### the types of data -/
def tyD : PyData → String
  | .none => "NoneType"
  | .bool _ => "bool"
  | .int _ => "int"
  | .str _ => "str"
  | .list _ => "list"
  | .tuple _ => "tuple"
  | .dict _ => "dict"
theorem tyx_list {K : PySem.W.Frag} {H : Hp} {a : Addr} {xs : List V} (h : SqL K H a xs) : TyX K H (.ref a) (.type "list") := by
  rcases h with (h | ⟨o, h⟩) | ⟨o, its, n, h, c, _⟩
  · exact .base (.lst h)
  · exact .base (.frz h)
  · exact .kList h c
theorem tyx_tup {K : PySem.W.Frag} {H : Hp} {a : Addr} {xs : List V} (h : SqT K H a xs) : TyX K H (.ref a) (.type "tuple") := by
  rcases h with (h | ⟨o, h⟩) | ⟨o, its, n, h, c, _⟩
  · exact .base (.tup h)
  · exact .fTuple h
  · exact .kTuple h c
theorem tyx_of {K : PySem.W.Frag} {H : Hp} {v : V} {d : PyData} (h : Dp K H v d) : TyX K H v (.type (tyD d)) := by
  cases h with
  | non => exact .base .non
  | bl b => exact .base (.bl b)
  | int i => exact .base (.int i)
  | str x => exact .base (.str x)
  | lst h _ => exact tyx_list h
  | tup h _ => exact tyx_tup h
/-! ### either of two readings of what a for walks -/
theorem pi_or {X : Cx} {tg e : Expr} {w1 w2 : TI} (h1 : PI X tg e w1) (h2 : PI X tg e w2) : PI X tg e (fun σ H R => w1 σ H R ∨ w2 σ H R) :=
  ⟨fun pins s σ H R I h => h.elim (fun q => h1.run pins s σ H R I q) fun q => h2.run pins s σ H R I q⟩
/-- over a list or a tuple -/
theorem pi_seq {X : Cx} {tg e : Expr} {te : TE} (h : PE X e te) : PI X tg e (fun σ H R => iList X.K te σ H R ∨ iTup X.K te σ H R) := pi_or (pi_list h) (pi_tup h)
/-! ### isinstance, two built-in classes -/
theorem kit2 {K : PySem.W.Frag} {n a b : String} {x y : Bool} (h1 : kitB n a = some x) (h2 : kitB n b = some y) : PySem.W.kitAny K (.type n) [.type a, .type b] = some (x || y) := by
  refine kitAny_cons (kit_ty h1) (fun e => kitAny_cons (kit_ty h2) (fun e2 => ?_) fun e2 => ?_) fun e => ?_
  · rw [e, e2]
    exact kitAny_nil
  · rw [e, e2]
    rfl
  · rw [e]
    rfl
/-- the answers of isinstance of data -/
def isInt : PyData → Bool
  | .int _ => true
  | .bool _ => true
  | _ => false
def isBool : PyData → Bool
  | .bool _ => true
  | _ => false
def isSeq : PyData → Bool
  | .list _ => true
  | .tuple _ => true
  | _ => false
def isTup : PyData → Bool
  | .tuple _ => true
  | _ => false
def isStr : PyData → Bool
  | .str _ => true
  | _ => false
theorem kit_int (d : PyData) : kitB (tyD d) "int" = some (isInt d) := by
  cases d
  · exact (by decide +kernel : kitB "NoneType" "int" = some false)
  · exact (by decide +kernel : kitB "bool" "int" = some true)
  · exact (by decide +kernel : kitB "int" "int" = some true)
  · exact (by decide +kernel : kitB "str" "int" = some false)
  · exact (by decide +kernel : kitB "list" "int" = some false)
  · exact (by decide +kernel : kitB "tuple" "int" = some false)
  · exact (by decide +kernel : kitB "dict" "int" = some false)
theorem kit_bool (d : PyData) : kitB (tyD d) "bool" = some (isBool d) := by
  cases d
  · exact (by decide +kernel : kitB "NoneType" "bool" = some false)
  · exact (by decide +kernel : kitB "bool" "bool" = some true)
  · exact (by decide +kernel : kitB "int" "bool" = some false)
  · exact (by decide +kernel : kitB "str" "bool" = some false)
  · exact (by decide +kernel : kitB "list" "bool" = some false)
  · exact (by decide +kernel : kitB "tuple" "bool" = some false)
  · exact (by decide +kernel : kitB "dict" "bool" = some false)
theorem kit_str (d : PyData) : kitB (tyD d) "str" = some (isStr d) := by
  cases d
  · exact (by decide +kernel : kitB "NoneType" "str" = some false)
  · exact (by decide +kernel : kitB "bool" "str" = some false)
  · exact (by decide +kernel : kitB "int" "str" = some false)
  · exact (by decide +kernel : kitB "str" "str" = some true)
  · exact (by decide +kernel : kitB "list" "str" = some false)
  · exact (by decide +kernel : kitB "tuple" "str" = some false)
  · exact (by decide +kernel : kitB "dict" "str" = some false)
theorem kit_tup (d : PyData) : kitB (tyD d) "tuple" = some (isTup d) := by
  cases d
  · exact (by decide +kernel : kitB "NoneType" "tuple" = some false)
  · exact (by decide +kernel : kitB "bool" "tuple" = some false)
  · exact (by decide +kernel : kitB "int" "tuple" = some false)
  · exact (by decide +kernel : kitB "str" "tuple" = some false)
  · exact (by decide +kernel : kitB "list" "tuple" = some false)
  · exact (by decide +kernel : kitB "tuple" "tuple" = some true)
  · exact (by decide +kernel : kitB "dict" "tuple" = some false)
theorem kit_list (d : PyData) : kitB (tyD d) "list" = some (isSeq d && !isTup d) := by
  cases d
  · exact (by decide +kernel : kitB "NoneType" "list" = some false)
  · exact (by decide +kernel : kitB "bool" "list" = some false)
  · exact (by decide +kernel : kitB "int" "list" = some false)
  · exact (by decide +kernel : kitB "str" "list" = some false)
  · exact (by decide +kernel : kitB "list" "list" = some true)
  · exact (by decide +kernel : kitB "tuple" "list" = some false)
  · exact (by decide +kernel : kitB "dict" "list" = some false)
theorem kit_seq {K : PySem.W.Frag} (d : PyData) : PySem.W.kitAny K (.type (tyD d)) [.type "list", .type "tuple"] = some (isSeq d) := by
  rw [kit2 (kit_list d) (kit_tup d)]
  cases d <;> rfl
/-- a value of which the class alone is known: data, or a dict -/
inductive Tk (K : PySem.W.Frag) (H : Hp) (v : V) (d : PyData) : Prop where
  | dat (h : Dp K H v d)
  | dic (h : ∃ a kvs, v = .ref a ∧ H a = some (.dK kvs)) (e : d = .dict [])
theorem Tk.ty {K : PySem.W.Frag} {H : Hp} {v : V} {d : PyData} (h : Tk K H v d) : TyX K H v (.type (tyD d)) := by
  cases h with
  | dat h => exact tyx_of h
  | dic h e =>
    obtain ⟨a, kvs, rfl, h⟩ := h
    subst e
    exact .base (.dK h)
theorem Tk.same {K : PySem.W.Frag} {H H' : Hp} {v : V} {d : PyData} (e : Same H H') (h : Tk K H v d) : Tk K H' v d := by
  cases h with
  | dat h => exact .dat (dp_same e h)
  | dic h q =>
    obtain ⟨a, kvs, r, h⟩ := h
    exact .dic ⟨a, kvs, r, e _ _ h⟩ q
theorem tkInt {K : PySem.W.Frag} {H : Hp} {v : V} {i : Int} (h : Tk K H v (.int i)) : v = .int i := by
  cases h with
  | dat h =>
    cases h
    rfl
  | dic h e => cases e
/-- a comprehension without a test -/
theorem yes_if {A B : Hp → Prop} {σ : L2.St} {H : Hp} (h : A H) : tYes σ H (fun b H3 => if b = true then A H3 else B H3) := by
  show if true = true then A H else B H
  rw [if_pos rfl]
  exact h
end XB

/-! own layer, part 3: values that may be called; lambdas (with parameters, with defaults) handed on -/
namespace XB
open PySem PySem.Spec PyProof.Rows L2 LamX NdefX
/-! ### what may be called -/
/-- the value at f may be called over base: its promise -/
structure CalV (P : Program) (w : World) (K : PySem.W.Frag) (mg : Str → Option Value) (base : Heap) (k : Nat) (f : Addr) (sp : Sp) : Prop where
  kp : ∀ h : Heap, (∀ b o, base.get? b = some o → h.get? b = some o) → ∃ kk, (kk = Keeper.frame ∨ kk = Keeper.machine ∨ kk = Keeper.boundFrame) ∧ PySem.W.Looks (model P w) h (keeperOf (.ref f)) kk
  run : ∀ (A : Around) (outer : List Env) (s : Shared) (H : Hp) (us : List Value) (vs : List V) (Q : VK) (E : XK), Room k A → Env0 P w K mg base A outer s H → Vals vs us → sp vs H Q E →
    codeAny (model P w) A (.call (.ref f) ⟨us, []⟩) (CR (L2.CX P w) outer P w H s Q E) s
section
variable {P : Program} {w : World} {K : PySem.W.Frag} {mg : Str → Option Value} {base : Heap} {k j : Nat} {f : Addr} {sp sp' : Sp}
theorem CalV.mono (c : CalV P w K mg base k f sp) (h : k ≤ j) : CalV P w K mg base j f sp := ⟨c.kp, fun A o s H us vs Q E hr => c.run A o s H us vs Q E (hr.mono h)⟩
theorem CalV.imp (c : CalV P w K mg base k f sp) (h : ∀ vs H Q E, sp' vs H Q E → sp vs H Q E) : CalV P w K mg base k f sp' := ⟨c.kp, fun A o s H us vs Q E hr e0 r q => c.run A o s H us vs Q E hr e0 r (h _ _ _ _ q)⟩
/-- a def of the module -/
theorem CalA.v (c : CalA P w K mg base k f sp) (kin : K.In base) : CalV P w K mg base k f sp := by
  obtain ⟨fd, ps, F, kk, b⟩ := c.ex
  refine ⟨fun h hb => PySem.W.keeps_K kk h (kin.keeps hb), fun A o s H us vs Q E hr e0 r q => ?_⟩
  have ln : (us ++ []).length = ps.length := by
    rw [List.append_nil, ← r.length]
    exact F.len _ _ _ _ q
  have bb := b s us (e0.mod.kin.keeps fun x y e => (e0.bs x y e).1) ln
  rw [List.append_nil] at bb
  exact F.run A o s H ⟨us, []⟩ us vs Q E hr e0 bb r q
end
section
variable {X : Cx} {k i : Nat} {f : Addr} {x : Str} {sp : Sp} {E : XK} {p pos : Pos} {e : Expr} {es : List Expr} {t : TA}
theorem run_v {pins : List (Addr × Obj)} {σ : L2.St} {H : Hp} {s : Shared} {Q : VK} {us : List Value} {vs : List V} (c : CalV X.prog X.w X.K X.mg X.base k f sp) (hr : Room k X.A) (hx : Passes (L2.CX X.prog X.w) X E) (I : Inv X pins σ H s) (r : Vals vs us) (q : sp vs H Q E) :
    wpAny (model X.prog X.w) X.A (call (.ref f) us) (EP X pins σ Q) X.xe s := by
  refine wpAny_call (codeAny_mono (c.run X.A X.stack s H us vs Q E hr I.env0 r q) fun res s' hq => ?_)
  cases res with
  | error er => exact hx pins σ H s er s' I hq
  | ok fl =>
    cases fl with
    | ret u => exact I.after hq
    | next => exact hq.elim
    | brk => exact hq.elim
    | cont => exact hq.elim
/-- x(), slot i holds it -/
theorem pe_cv0 (c : CalV X.prog X.w X.K X.mg X.base k f sp) (hr : Room k X.A) (hx : Passes (L2.CX X.prog X.w) X E) (hN : X.N[i]? = some x) (hv : Vis X.env.scope x)
    (hdb : (x == ("__debug__" : Str)) = false := by decide) (hcd : (x == ("__classdict__" : Str)) = false := by decide) :
    PE X (.Call (.Name x p) [] [] pos) (fun σ H Q => σ[i]? = some (some (.ref f)) ∧ sp [] H Q E) := by
  refine ⟨fun pins s σ H Q I h => ?_⟩
  obtain ⟨hs, hq⟩ := h
  refine wpAny_Call_Name_kw (thn ((pe_var (pos := p) hN hv hdb hcd).run pins s σ H (fun v H1 => v = .ref f ∧ H1 = H) I ⟨.ref f, hs, rfl, rfl⟩) fun u s1 ⟨v, H1, I1, r1, q1⟩ => ?_)
  obtain ⟨rfl, rfl⟩ := q1
  cases r1
  exact PySem.W.callWith_of (P := fun h => ∀ b o, X.base.get? b = some o → h.get? b = some o) rfl c.kp (evalArgs_nil3 ⟨I1.bk, run_v c hr hx I1 .nil hq⟩)
/-- x(e, ..), slot i holds it -/
theorem pe_cv (c : CalV X.prog X.w X.K X.mg X.base k f sp) (hr : Room k X.A) (hx : Passes (L2.CX X.prog X.w) X E) (hN : X.N[i]? = some x) (hv : Vis X.env.scope x) (ha : PA X (e :: es) t)
    (hdb : (x == ("__debug__" : Str)) = false := by decide) (hcd : (x == ("__classdict__" : Str)) = false := by decide)
    (he : starEach (e :: es) X.env = (false, eval e X.env) :: starEach es X.env := by rfl) (hpl : (backTo pos (starEach es X.env)).any (·.1) = false := by rfl) :
    PE X (.Call (.Name x p) (e :: es) [] pos) (fun σ H Q => σ[i]? = some (some (.ref f)) ∧ t σ H fun vs H1 => sp vs H1 Q E) := by
  refine ⟨fun pins s σ H Q I h => ?_⟩
  obtain ⟨hs, hq⟩ := h
  refine wpAny_Call_Name_kw (thn ((pe_var (pos := p) hN hv hdb hcd).run pins s σ H (fun v H1 => v = .ref f ∧ H1 = H) I ⟨.ref f, hs, rfl, rfl⟩) fun u s1 ⟨v, H1, I1, r1, q1⟩ => ?_)
  obtain ⟨rfl, rfl⟩ := q1
  cases r1
  have ar : wpAny (model X.prog X.w) X.A (spliced (backTo pos (starEach (e :: es) X.env))) (fun us s2 => (∀ b o, X.base.get? b = some o → s2.heap.get? b = some o) ∧ wpAny (model X.prog X.w) X.A (call (.ref f) us) (EP X pins σ Q) X.xe s2) X.xe s1 :=
    thn (ha.run pos pins s1 σ _ _ I1 hq) fun us s2 ⟨vs, H2, I2, r, q⟩ => ⟨I2.bk, run_v c hr hx I2 r q⟩
  rw [he] at ar ⊢
  exact PySem.W.callWith_of (P := fun h => ∀ b o, X.base.get? b = some o → h.get? b = some o) (by show ((false || (backTo pos (starEach es X.env)).any (·.1)) || false) = false; rw [hpl]; rfl) c.kp (PySem.Calls.evalArgs_plain ar)
end
/-! ### another base: what goes on standing during a call -/
theorem rebase {X : Cx} {pins : List (Addr × Obj)} {σ : L2.St} {H : Hp} {s : Shared} (I : Inv X pins σ H s) (l : List Addr) (hl : ∀ a ∈ l, H a = none ∧ a ∉ frs X.stack) :
    ∃ G : Heap, Env0 X.prog X.w X.K X.mg G X.A X.stack s H ∧ (∀ b o, X.base.get? b = some o → G.get? b = some o) ∧ ∀ a ∈ l, ∀ o, s.heap.get? a = some o → G.get? a = some o := by
  obtain ⟨z, hz⟩ : ∃ z : List Addr, z = (List.range s.heap.objs.size).filter fun b => decide (X.base.get? b = none) && decide (b ∉ l) := ⟨_, rfl⟩
  have inz : ∀ b, b ∈ z → X.base.get? b = none ∧ b ∉ l := fun b hb => by
    rw [hz] at hb
    simpa using (List.mem_filter.mp hb).2
  have toz : ∀ b o, s.heap.get? b = some o → X.base.get? b = none → b ∉ l → b ∈ z := fun b o e h1 h2 => by
    rw [hz]
    exact List.mem_filter.mpr ⟨List.mem_range.mpr (Heap.lt_size e), by simp [h1, h2]⟩
  have kb : ∀ b o, X.base.get? b = some o → (PySem.W.hideAll s.heap z).get? b = some o := fun b o e => PySem.W.hideAll_get z (I.bk b o e) fun hb => by
    rw [(inz b hb).1] at e
    cases e
  have kl : ∀ a ∈ l, ∀ o, s.heap.get? a = some o → (PySem.W.hideAll s.heap z).get? a = some o := fun a ha o e => PySem.W.hideAll_get z e fun hb => (inz a hb).2 ha
  have from_ : ∀ b o, (PySem.W.hideAll s.heap z).get? b = some o → s.heap.get? b = some o ∧ ((∃ o', X.base.get? b = some o') ∨ b ∈ l) := fun b o e => by
    have e1 := PySem.W.of_hideAll z e
    refine ⟨e1, ?_⟩
    cases hb : X.base.get? b with
    | some o' => exact .inl ⟨o', rfl⟩
    | none =>
      by_cases hm : b ∈ l
      · exact .inr hm
      · rw [PySem.W.hideAll_none z (toz b o e1 hb hm)] at e
        cases e
  obtain ⟨mb, nb, hmb⟩ := I.mod.blt
  refine ⟨PySem.W.hideAll s.heap z, ⟨I.ok.frames, ⟨I.mod.kin.keeps kb, I.mod.glob.keeps kb, ⟨mb, nb.keeps kb, hmb⟩, I.mod.nolimit.keeps kb⟩, fun b o e => ?_, Nat.le_of_eq (PySem.W.hideAll_size _ _), ?_, I.stkFree, I.hok, I.bare⟩, kb, kl⟩
  · obtain ⟨e1, h | h⟩ := from_ b o e
    · obtain ⟨o', h⟩ := h
      exact ⟨e1, (I.bs b o' h).2⟩
    · exact ⟨e1, (hl b h).1⟩
  · refine funFrames_none I.stack fun L hL => ?_
    cases e : (PySem.W.hideAll s.heap z).get? L with
    | none => rfl
    | some o =>
      obtain ⟨_, h | h⟩ := from_ L o e
      · obtain ⟨o', h⟩ := h
        have n := (I.stack.mem hL).1
        rw [h] at n
        cases n
      · exact absurd hL (hl L h).2
/-! ### a lambda is made -/
abbrev lmF (q : Str) (ar : Arguments) (ex : Expr) (sc : Scope) (cl : List (Str × Addr)) (dV pm cv ct : Value) : FuncData :=
  { name := "<lambda>", qualname := q, params := ar, body := .expr ex, scope := sc, globals := mainGlobals, closure := cl, closureTuple := ct, code := cv, builtins := builtinsNs, defaults := dV, kwdefaults := .none, annotations := none, pyModule := pm, doc := .none }
abbrev lmO (q : Str) (ar : Arguments) (ex : Expr) (sc : Scope) (cl : List (Str × Addr)) (dV pm cv ct : Value) : Obj := { cls := .type "function", data := .func (lmF q ar ex sc cl dV pm cv ct) }
section
variable {M : Model} {A : Around} {E : Value → Shared → Prop} {s : Shared} {q : Str} {ar : Arguments} {ex : Expr} {sc : Scope} {env : Env} {dV : Value} {ps : Pos} {n : Nat} {mg : Str → Option Value} {P : Addr} {cl : List (Str × Addr)} {Q : Value → Shared → Prop}
/-- behind its code object -/
theorem lm_tail (hcl : closureFor sc env = pure cl) (hgl : env.globals = mainGlobals)
    (hfc : ∀ h1 : Heap, (∀ b o, s.heap.get? b = some o → h1.get? b = some o) → s.heap.objs.size ≤ h1.objs.size →
      wpAny M A (functionCode env ps n "<lambda>" q ar sc (.expr ex)) (fun cv s2 => s2.heap.Ns mainGlobals mg ∧ s2.heap.BuiltinsAt mg P ∧ ∀ ct, Q (.ref s2.heap.objs.size) { s2 with heap := s2.heap.push (lmO q ar ex sc cl dV ((mg "__name__").getD .none) cv ct) }) E { s with heap := h1 }) :
    wpAny M A (makeTail "<lambda>" q ar (.expr ex) sc env dV .none none ps n) Q E s := by
  unfold makeTail
  rw [hcl, hgl]
  refine wpAny_bind (wpAny_pure ?_)
  cases cl with
  | nil =>
    simp only [List.isEmpty_nil, if_true]
    refine wpAny_bind (wpAny_pure (wpAny_bind (wpAny_mono (hfc s.heap (fun _ _ e => e) (Nat.le_refl _)) (fun cv s2 hh => ?_) fun _ _ x => x)))
    obtain ⟨ng, ⟨bm, ob, b1, b2, _, _, b3, b4, b5, b6⟩, hq⟩ := hh
    exact wpAny_bind (wpAny_builtinsFor ng b1 b2 b3 b4 b5 b6 (wpAny_bind (wpAny_nsGet ng (wpAny_bind (wpAny_pure (wpAny_newObj_type (hq .none) (by size_fits)))))))
  | cons y r =>
    simp only [List.isEmpty_cons, Bool.false_eq_true, if_false]
    refine wpAny_bind (wpAny_newTextTuple (wpAny_bind (wpAny_mono (hfc _ (fun b o e => Heap.get?_push_of_some _ e) (by rw [Heap.size_push]; omega)) (fun cv s2 hh => ?_) fun _ _ x => x)))
    obtain ⟨ng, ⟨bm, ob, b1, b2, _, _, b3, b4, b5, b6⟩, hq⟩ := hh
    exact wpAny_bind (wpAny_builtinsFor ng b1 b2 b3 b4 b5 b6 (wpAny_bind (wpAny_nsGet ng (wpAny_bind (wpAny_pure (wpAny_newObj_type (hq _) (by size_fits)))))))
end
/-- the defaults as they stand: none, or a tuple of them -/
def DfAt (h : Heap) (dV : Value) (ds : List Value) : Prop := (ds = [] ∧ dV = .none) ∨ (ds ≠ [] ∧ ∃ (T : Addr) (o : Obj), dV = .ref T ∧ h.get? T = some o ∧ ∃ n, o.data = .seq ds.toArray n)
/-- the lambda's words -/
structure LmW where
  q : Str
  ar : Arguments
  ex : Expr
  sc : Scope
/-- the values of the defaults: none, or one whole number -/
def DflE (ar : Arguments) (env : Env) (vs : List V) : Prop :=
  ((defaultsOf ar env) = ([], []) ∧ vs = []) ∨ ∃ (i : Int) (j : Nat) (p : Pos), (defaultsOf ar env) = ([eval (.Constant (.int i) j p) env], []) ∧ vs = [.int i]
section
variable {X : Cx} {pins : List (Addr × Obj)} {σ : L2.St} {H : Hp} {s : Shared}
theorem lm_make {T : List (Addr × Str)} {c P : Addr} {ar : Arguments} {ex : Expr} {sc : Scope} {pos : Pos} {dvs : List V} {E : Value → Shared → Prop} {Q : Value → Shared → Prop} (I : Inv X pins σ H s) (TB : TabB X.base X.mg c P) (hcode : X.env.code = .ref c)
    (hm : (P, X.env.qual ++ "<lambda>") ∈ T) (hu : ∀ p ∈ T, p.1 = P → p.2 = X.env.qual ++ "<lambda>") (hT : Tabs T H) (hdef : DflE ar X.env dvs) (hfree : ∀ y ∈ sc.names, y.2 = .free → ∃ c, X.env.cells.lookup y.1 = some c)
    (h : ∀ (f c' : Addr) (dV pm ct : Value) (ds : List Value) (l : List Addr) (H1 : Hp) (s' : Shared), Inv X pins σ H1 s' → ExtN H H1 → Tabs T H1 → (∀ b, H1 b = none → H b = none) →
      s'.heap.get? f = some (lmO (X.env.qual ++ "<lambda>") ar ex sc (cloFrom X.env.cells sc.names []) dV pm (.ref c') ct) → (∀ a ∈ f :: l, H1 a = none ∧ a ∉ frs X.stack) → (∀ G : Heap, (∀ a ∈ l, ∀ o, s'.heap.get? a = some o → G.get? a = some o) → DfAt G dV ds) → Vals dvs ds →
      H1 c' = some (CodeO c' (X.env.qual ++ "<lambda>")) → Q (.ref f) s') :
    wpAny (model X.prog X.w) X.A (eval (.Lambda ar ex sc pos) X.env) Q E s := by
  -- behind the defaults
  have go : ∀ (dV : Value) (ds : List Value) (l : List Addr) (s0 : Shared), Inv X pins σ H s0 → Vals dvs ds → (∀ a ∈ l, H a = none ∧ a ∉ frs X.stack ∧ a < s0.heap.objs.size) → (∀ G : Heap, (∀ a ∈ l, ∀ o, s0.heap.get? a = some o → G.get? a = some o) → DfAt G dV ds) →
      (∀ a ∈ l, ∃ o, s0.heap.get? a = some o) →
      wpAny (model X.prog X.w) X.A (makeTail "<lambda>" (X.env.qual ++ "<lambda>") ar (.expr ex) sc X.env dV .none none pos pos.line) Q E s0 := by
    intro dV ds l s0 I0 rd hl hd hex
    obtain ⟨ps, hP, ht, ha⟩ := hT _ hm
    have nofr : ∀ (I9 : Inv X pins σ H s0) (f : Addr), s0.heap.objs.size ≤ f → f ∉ frs X.stack := fun I9 f hf z => by
      rcases List.mem_cons.mp (I9.stkSub _ z) with e | e
      · have h1 := I9.lt
        rw [← e] at h1
        exact Nat.lt_irrefl _ (Nat.lt_of_lt_of_le h1 hf)
      · exact I9.nofs hf e
    have hP0 : s0.heap.get? P = some { cls := .none, data := .fields ps } := I0.hok P _ hP
    refine lm_tail (mg := X.mg) (P := P) (closure_ok hfree) I0.ok.glob fun h1 k1 z1 => ?_
    have I1 : Inv X pins σ H { s0 with heap := h1 } := I0.kept (t' := s0.toks) k1
    have hP1 := k1 _ _ hP0
    have C1 := (TB.code.keeps I0.bk).keeps k1
    have ng1 : h1.Ns mainGlobals X.mg := I1.mod.glob.keeps I1.bk
    cases hc : codeAmong pos ps.toList with
    | some cv =>
      obtain ⟨c', e, hco⟩ := ha pos cv hc
      subst e
      refine wpAny_functionCode_hit hcode (C1.code hP1 ht) hc ⟨ng1, TB.bm.keeps I1.bk, fun ct => ?_⟩
      have I2 : Inv X pins σ H { s0 with heap := h1.push (lmO (X.env.qual ++ "<lambda>") ar ex sc (cloFrom X.env.cells sc.names []) dV ((X.mg "__name__").getD .none) (.ref c') ct) } := I1.kept (t' := s0.toks) fun b o e => Heap.get?_push_of_some _ e
      refine h h1.objs.size c' dV _ ct ds l H _ I2 (ExtN.refl H) hT (fun _ e => e) (Heap.get?_push_size _ rfl) (fun a hm2 => ?_) (fun G hG => hd G fun a hm2 o e => ?_) rd hco
      · rcases List.mem_cons.mp hm2 with e | e
        · rw [e]
          exact ⟨I1.hok.fresh (Nat.le_refl _), nofr I0 _ z1⟩
        · exact ⟨(hl a e).1, (hl a e).2.1⟩
      · exact hG a hm2 o (Heap.get?_push_of_some _ (k1 a o e))
    | none =>
      refine wpAny_functionCodeX hcode (C1.code hP1 ht) (C1.tab hP1) hc fun c' h2 tk hx hge hlt _ hrec htb _ => ?_
      obtain ⟨c2, oc, vs, t, e2, hoc, hdc, hv⟩ := hrec
      cases e2
      have hP2 := htb.2
      have nC : H c' = none := I1.hok.fresh hge
      have I2 := inv_table (t' := tk) (more := #[rawInt pos.line, rawInt pos.col, .ref c']) (h' := h2) I1 hP (fun b o hb e => hx b o hb e) hP2 hge ⟨oc, vs, t, hoc, hdc, hv⟩
      have hE : ExtN H (upd (upd H P (.tbl (ps ++ #[rawInt pos.line, rawInt pos.col, .ref c']))) c' (CodeO c' (X.env.qual ++ "<lambda>"))) := fun b o e n => by
        rw [upd_ne (ne_of_none e nC), upd_ne (fun z => n ps (Option.some.inj (e.symm.trans (by rw [z]; exact hP))))]
        exact e
      have eL : (ps ++ #[rawInt pos.line, rawInt pos.col, .ref c']).toList = ps.toList ++ [rawInt pos.line, rawInt pos.col, .ref c'] := by simp
      refine ⟨I2.mod.glob.keeps I2.bk, TB.bm.keeps I2.bk, fun ct => ?_⟩
      have up0 : ∀ b, H b = none → b ≠ c' → upd (upd H P (.tbl (ps ++ #[rawInt pos.line, rawInt pos.col, .ref c']))) c' (CodeO c' (X.env.qual ++ "<lambda>")) b = none := fun b n nc => by
        rw [upd_ne nc, upd_ne (fun z => by rw [z, hP] at n; cases n)]
        exact n
      have I3 := I2.kept (t' := tk) (h' := h2.push (lmO (X.env.qual ++ "<lambda>") ar ex sc (cloFrom X.env.cells sc.names []) dV ((X.mg "__name__").getD .none) (.ref c') ct)) fun b o e => Heap.get?_push_of_some _ e
      refine h h2.objs.size c' dV _ ct ds l _ _ I3 hE (fun p hp => ?_) (fun b e => upd_none (upd_none e)) (Heap.get?_push_size _ rfl) (fun a hm2 => ?_) (fun G hG => hd G fun a hm2 o e => ?_) rd upd_same
      · by_cases hb : p.1 = P
        · rw [hu p hp hb, hb]
          refine ⟨_, by rw [upd_ne (ne_of_none hP nC), upd_same], by rw [eL]; exact PySem.TriplesOk_snoc _ _ _ _ ht, fun p' cv hcv => ?_⟩
          rw [eL] at hcv
          rcases among_app _ ht hcv with z | z
          · obtain ⟨c0, e1, e2⟩ := ha p' cv z
            exact ⟨c0, e1, hE _ _ e2 codeO_ne⟩
          · exact ⟨c', z, upd_same⟩
        · obtain ⟨ps', a1, a2, a3⟩ := hT p hp
          refine ⟨ps', by rw [upd_ne (ne_of_none a1 nC), upd_ne hb]; exact a1, a2, fun p' cv hcv => ?_⟩
          obtain ⟨c0, e1, e2⟩ := a3 p' cv hcv
          exact ⟨c0, e1, hE _ _ e2 codeO_ne⟩
      · rcases List.mem_cons.mp hm2 with e | e
        · rw [e]
          exact ⟨I2.hok.fresh (Nat.le_refl _), nofr I0 _ (Nat.le_trans z1 (Nat.le_trans hge (Nat.le_of_lt hlt)))⟩
        · exact ⟨up0 a (hl a e).1 (Nat.ne_of_lt (Nat.lt_of_lt_of_le (hl a e).2.2 (Nat.le_trans z1 hge))), (hl a e).2.1⟩
      · refine hG a hm2 o (Heap.get?_push_of_some _ (hx a o (fun z => ?_) (k1 a o e)))
        have z2 := (hl a hm2).1
        rw [z, hP] at z2
        cases z2
  rw [arm_eval_Lambda]
  rcases hdef with ⟨e, ev⟩ | ⟨i, j, p, e, ev⟩
  · subst ev
    rw [e]
    show wpAny _ _ (do let dv ← evalAll []; let kdv ← holding dv (evalAllOpt []); makeFunction "<lambda>" (X.env.qual ++ "<lambda>") ar (.expr ex) sc X.env dv kdv [] pos pos.line) Q E s
    refine wpAny_bind (wpAny_pure (wpAny_bind (wpAny_holding (wpAny_pure ?_))))
    rw [makeFunction_eq]
    simp only [List.zip_nil_right, List.filterMap_nil, List.isEmpty_nil, if_true, pure_bind]
    exact go .none [] [] s I .nil (fun a hm => absurd hm (by simp)) (fun G _ => .inl ⟨rfl, rfl⟩) fun a hm => absurd hm (by simp)
  · subst ev
    rw [e]
    show wpAny _ _ (do let dv ← evalAll [eval (.Constant (.int i) j p) X.env]; let kdv ← holding dv (evalAllOpt []); makeFunction "<lambda>" (X.env.qual ++ "<lambda>") ar (.expr ex) sc X.env dv kdv [] pos pos.line) Q E s
    refine wpAny_bind (wpAny_bind (wpAny_Constant_int (wpAny_bind (wpAny_holding (wpAny_pure (wpAny_pure ?_))))))
    refine wpAny_bind (wpAny_holding (wpAny_pure ?_))
    rw [makeFunction_eq]
    simp only [List.zip_nil_right, List.filterMap_nil, List.isEmpty_nil, List.isEmpty_cons, Bool.false_eq_true, if_false, if_true, pure_bind]
    refine wpAny_bind (wpAny_newTextTuple ?_)
    have I1 := (I.tok (s.toks + 1)).kept (t' := s.toks + 1) (h' := s.heap.push { cls := .type "tuple", data := .seq [Value.int i s.toks].toArray }) fun b o e => Heap.get?_push_of_some _ e
    have nfr : s.heap.objs.size ∉ frs X.stack := fun z => by
      rcases List.mem_cons.mp (I.stkSub _ z) with e | e
      · have h1 := I.lt
        rw [← e] at h1
        exact Nat.lt_irrefl _ h1
      · exact I.nofs (Nat.le_refl _) e
    refine go (.ref s.heap.objs.size) [Value.int i s.toks] [s.heap.objs.size] _ I1 (.cons ⟨_, rfl⟩ .nil) (fun a hm => ?_) (fun G hG => .inr ⟨by simp, _, _, rfl, hG _ (by simp) _ (Heap.get?_push_size _ rfl), _, rfl⟩) (fun a hm => ?_)
    · rw [List.mem_singleton.mp hm]
      exact ⟨I.hok.fresh (Nat.le_refl _), nfr, Heap.lt_size (Heap.get?_push_size _ rfl)⟩
    · rw [List.mem_singleton.mp hm]
      exact ⟨_, Heap.get?_push_size _ rfl⟩
end
end XB

/-! own layer, part 4: a lambda handed to a def or a method -/
namespace XB
open PySem PySem.Spec PyProof.Rows L2 LamX NdefX
/-- the lambda as a function within a def -/
abbrev lmN (q : Str) (sc : Scope) (cl : List (Str × Addr)) (c' : Addr) : NF := ⟨"<lambda>", q, { posonlyargs := [], args := [], vararg := none, kwonlyargs := [], kw_defaults := [], kwarg := none, defaults := [] }, [], sc, cl, c'⟩
theorem cells_base {cl : List (Str × Addr)} {fr : List Str} {ws : List (Option V)} {h G : Heap} {H : Hp} (C : CellsAt cl fr ws h H) (hG : ∀ y c, cl.lookup y = some c → ∀ o, h.get? c = some o → G.get? c = some o) :
    ∀ (h2 : Heap) (H2 : Hp), (∀ b o, G.get? b = some o → h2.get? b = some o ∧ H2 b = none) → CellsAt cl fr ws h2 H2 := fun h2 H2 hk => by
  have st : ∀ y c, cl.lookup y = some c → ∀ v, h.IsCell c v → h2.IsCell c v ∧ H2 c = none := fun y c e v ⟨o, ho, hd⟩ => ⟨⟨o, (hk _ _ (hG y c e o ho)).1, hd⟩, (hk _ _ (hG y c e o ho)).2⟩
  refine ⟨C.len, fun y c e => ?_, C.inj, fun i y e => ?_⟩
  · obtain ⟨_, v, z⟩ := C.all y c e
    exact ⟨(st y c e v z).2, v, (st y c e v z).1⟩
  · obtain ⟨c, hc, hv⟩ := C.has i y e
    refine ⟨c, hc, fun v ev => ?_⟩
    obtain ⟨u, r, z⟩ := hv v ev
    exact ⟨u, r, (st y c hc _ z).1⟩
section
variable {P : Program} {w : World} {K : PySem.W.Frag} {mg : Str → Option Value} {G : Heap} {N ps fr : List Str} {q : Str} {ar : Arguments} {ex : Expr} {sc : Scope} {cl : List (Str × Addr)} {f c' : Addr} {dV pm ct : Value} {ds : List Value} {dvs : List V} {ws : List (Option V)} {k : Nat} {spl : Sp}
/-- a lambda's promise over a base that holds it -/
theorem lam_cal (S : NScope N ps fr sc) (hf : G.get? f = some (lmO q ar ex sc cl dV pm (.ref c') ct)) (hcl : ∀ (h2 : Heap) (H2 : Hp), (∀ b o, G.get? b = some o → h2.get? b = some o ∧ H2 b = none) → CellsAt cl fr ws h2 H2)
    (rd : Vals dvs ds) (hd : ∀ h2 : Heap, (∀ b o, G.get? b = some o → h2.get? b = some o) → DfAt h2 dV ds)
    (hb : ∀ (s : Shared) (us : List Value), DfAt s.heap dV ds → (us ++ ds).length = ps.length → BindsTo s (lmF q ar ex sc cl dV pm (.ref c') ct) ⟨us, []⟩ (ps.zip (us ++ ds)))
    (len : ∀ vs H Q E, spl vs H Q E → vs.length = ps.length)
    (hbody : ∀ (A : Around) (outer : List Env) (s : Shared) (H : Hp) (vs : List V) (Q : VK) (E : XK), Room k (A.deeper (envF (lmN q sc cl c') f s.heap.objs.size)) → spl vs H Q E →
      ∃ t, PE (ncx (L2.CX P w) P w K mg G N (lmN q sc cl c') f A outer s H E) ex t ∧ t (startF N vs ws) H Q) :
    CalV P w K mg G (k + 1) f (fun vs H Q E => H c' = some (CodeO c' q) ∧ spl (vs ++ dvs) H Q E) := by
  refine ⟨fun h hh => PySem.W.keeps_F h ⟨_, _, _, _, hh _ _ hf⟩, fun A outer s H us vs Q E hr e0 r hq => ?_⟩
  obtain ⟨hc, hsp⟩ := hq
  have r2 := r.append rd
  have ln : (us ++ ds).length = ps.length := by
    rw [← r2.length]
    exact len _ _ _ _ hsp
  have lim : s.heap.NoLimit := e0.mod.nolimit.keeps fun b o e => (e0.bs b o e).1
  refine PySem.W.kla_callFunE hr.depth (e0.bs _ _ hf).1 rfl S.co S.gen rfl (codeO_at e0.hok hc) (hb s us (hd _ fun b o e => (e0.bs b o e).1) ln _ _ _ _ ?_)
  refine wpAny_newFunctionEnv S.nocell (fun ⟨n, _⟩ hy => S.par n (List.of_mem_zip hy).1) (fun h₁ hns hsb => ⟨lim.fresh _ hsb, ?_⟩) S.kind
  show codeAny _ _ (.expr ex (envF (lmN q sc cl c') f s.heap.objs.size)) _ _
  have kp : ∀ b o, s.heap.get? b = some o → h₁.get? b = some o := fun b o e => hsb.extBut b o (Nat.ne_of_lt (Heap.lt_size e)) (Heap.get?_push_of_some _ e)
  obtain ⟨t, ht, hq2⟩ := hbody A outer s H (vs ++ dvs) Q E (hr.deeper _) hsp
  have J : Inv (ncx (L2.CX P w) P w K mg G N (lmN q sc cl c') f A outer s H E) [] (startF N (vs ++ dvs) ws) H { s with heap := h₁, toks := s.toks + (ps.zip (us ++ ds)).length } :=
    inv_startN S hr.hd e0 (by rw [r2.length]; exact ln) r2 (hcl s.heap H fun b o e => e0.bs b o e) hns kp
  refine PySem.W.kla_codeExpr (wpAny_mono (ht.run [] _ _ H Q J hq2) (fun v s' hs => ?_) fun e s' hs => hs)
  obtain ⟨v', H', J', rv, q'⟩ := hs
  exact ⟨v', H', J'.os, J'.bare, J'.base, J'.hok, rv, q'⟩
end
/-- the static looks at a lambda in a def -/
structure LmS (X : Cx) (T : List (Addr × Str)) (ar : Arguments) (sc : Scope) (N ps fr : List Str) (js : List Nat) (dvs : List V) : Prop where
  nsc : NScope N ps fr sc
  fn : ∀ x, X.fn x = true
  fre : ∀ y ∈ sc.names, y.2 = .free → X.env.scope.names.lookup y.1 = some .cell ∨ X.env.scope.names.lookup y.1 = some .free
  frm : ∀ y ∈ fr, (y, NameKind.free) ∈ sc.names
  at_ : js.map (fun j => X.N[j]?) = fr.map some
  dfl : DflE ar X.env dvs
  bnd : ∀ (q : Str) (ex : Expr) (cl : List (Str × Addr)) (dV pm cv ct : Value) (s : Shared) (us ds : List Value), DfAt s.heap dV ds → Vals dvs ds → (us ++ ds).length = ps.length → BindsTo s (lmF q ar ex sc cl dV pm cv ct) ⟨us, []⟩ (ps.zip (us ++ ds))
  tab : ∃ c P : Addr, TabB X.base X.mg c P ∧ X.env.code = .ref c ∧ (P, X.env.qual ++ "<lambda>") ∈ T ∧ ∀ p ∈ T, p.1 = P → p.2 = X.env.qual ++ "<lambda>"
/-- what the lambda's body promises, wherever it is called: ws what its captured names hold -/
def LmB (X : Cx) (ex : Expr) (sc : Scope) (N ps fr : List Str) (k : Nat) (spl : List (Option V) → Sp) : Prop :=
  (∀ ws vs H Q E, spl ws vs H Q E → vs.length = ps.length) ∧
  ∀ (G : Heap) (cl : List (Str × Addr)) (f c' : Addr) (A : Around) (outer : List Env) (s : Shared) (H : Hp) (vs : List V) (ws : List (Option V)) (Q : VK) (E : XK), (∀ b o, X.base.get? b = some o → G.get? b = some o) →
    Room k (A.deeper (envF (lmN (X.env.qual ++ "<lambda>") sc cl c') f s.heap.objs.size)) → X.K.In G → spl ws vs H Q E →
    ∃ t, PE (ncx (L2.CX X.prog X.w) X.prog X.w X.K X.mg G N (lmN (X.env.qual ++ "<lambda>") sc cl c') f A outer s H E) ex t ∧ t (startF N vs ws) H Q
section
variable {X : Cx} {T : List (Addr × Str)} {ar : Arguments} {ex : Expr} {sc : Scope} {N ps fr : List Str} {js : List Nat} {dvs : List V} {kl k : Nat} {spl : List (Option V) → Sp} {E : XK}
/-- made: a value that may be called over some base -/
theorem lm_give {pins : List (Addr × Obj)} {σ : L2.St} {H : Hp} {s : Shared} {pos : Pos} {Q : Value → Shared → Prop} {E0 : Value → Shared → Prop} (I : Inv X pins σ H s) (L : LmS X T ar sc N ps fr js dvs) (B : LmB X ex sc N ps fr kl spl) (hT : Tabs T H)
    (h : ∀ (G : Heap) (f c' : Addr) (H1 : Hp) (s' : Shared), Inv X pins σ H1 s' → ExtN H H1 → Tabs T H1 → (∀ b, H1 b = none → H b = none) → H1 c' = some (CodeO c' (X.env.qual ++ "<lambda>")) → Env0 X.prog X.w X.K X.mg G X.A X.stack s' H1 → (∀ b o, X.base.get? b = some o → G.get? b = some o) →
      CalV X.prog X.w X.K X.mg G (kl + 1) f (fun vs H Q E => H c' = some (CodeO c' (X.env.qual ++ "<lambda>")) ∧ spl (js.map (slotAt σ)) (vs ++ dvs) H Q E) → Q (.ref f) s') :
    wpAny (model X.prog X.w) X.A (eval (.Lambda ar ex sc pos) X.env) Q E0 s := by
  obtain ⟨c, P, tb, hcd, hm, hu⟩ := L.tab
  have fre : ∀ y ∈ sc.names, y.2 = .free → ∃ c, X.env.cells.lookup y.1 = some c := fun y hy e => (L.fre y hy e).elim (fun z => I.ok.has _ (.inl z)) fun z => I.ok.has _ (.inr z)
  refine lm_make I tb hcd hm hu hT L.dfl fre fun f c' dV pm ct ds l H1 s' I1 eN T1 gn hf hn hdf rd hco => ?_
  have cp := Caps.made (scope := sc) (fr := fr) (js := js) I1.ok L.fre L.frm L.at_
  have C := cells_of I1 cp
  have cin : ∀ y c0, (cloFrom X.env.cells sc.names []).lookup y = some c0 → c0 ∈ (cloFrom X.env.cells sc.names []).map (·.2) := fun y c0 e => List.mem_map.mpr ⟨(y, c0), PySem.mem_of_lookup e, rfl⟩
  have cell_nofr : ∀ p ∈ cloFrom X.env.cells sc.names [], H1 p.2 = none ∧ p.2 ∉ frs X.stack := fun p hp => by
    have e1 : X.env.cells.lookup p.1 = some p.2 := by
      rcases cloFrom_mem hp with hm2 | ⟨h1, h2⟩
      · cases hm2
      · obtain ⟨c1, hc1⟩ := fre _ h1 rfl
        have hc2 : X.env.cells.lookup p.1 = some c1 := hc1
        rw [h2, hc2] <;> rfl
    refine ⟨I1.freeC _ _ e1, fun z => ?_⟩
    obtain ⟨v, o, ho, hdv⟩ := I1.cell _ _ e1
    rcases List.mem_cons.mp (I1.stkSub _ z) with e | e
    · exact I1.cne _ _ e1 e
    · obtain ⟨_, o', ho', _⟩ := I1.ok.funs.mem e
      have h1 := I1.ok.cab _ _ (L.fn p.1) e1
      exact Nat.lt_irrefl _ (Nat.lt_of_lt_of_le (Heap.lt_size ho') h1)
  obtain ⟨G, e0, k1, k2⟩ := rebase I1 (f :: (l ++ (cloFrom X.env.cells sc.names []).map (·.2))) fun a ha => by
    rcases List.mem_cons.mp ha with e | e
    · rw [e]
      exact hn f List.mem_cons_self
    · rcases List.mem_append.mp e with e | e
      · exact hn a (List.mem_cons_of_mem _ e)
      · obtain ⟨p, hp, rfl⟩ := List.mem_map.mp e
        exact cell_nofr p hp
  refine h G f c' H1 s' I1 eN T1 gn hco e0 k1 ?_
  have hdG : DfAt G dV ds := hdf G fun a ha o e => k2 a (List.mem_cons_of_mem _ (List.mem_append_left _ ha)) o e
  refine lam_cal L.nsc (k2 f List.mem_cons_self _ hf) (cells_base C fun y c0 e o ho => k2 c0 (List.mem_cons_of_mem _ (List.mem_append_right _ (cin y c0 e))) o ho) rd (fun h2 hk => ?_) (fun s2 us hd2 hl => L.bnd _ ex _ dV pm _ ct s2 us ds hd2 rd hl) (B.1 _)
    fun A outer s2 H2 vs Q2 E2 hr hq => B.2 G _ f c' A outer s2 H2 vs _ Q2 E2 k1 hr e0.mod.kin hq
  rcases hdG with ⟨e1, e2⟩ | ⟨ne, Td, o, e1, e2, n, e3⟩
  · exact .inl ⟨e1, e2⟩
  · exact .inr ⟨ne, Td, o, e1, hk _ _ e2, n, e3⟩
/-- the promise of the lambda at f, its code object at c', made where the names were σ -/
abbrev spLam (q : Str) (c' : Addr) (ws : List (Option V)) (dvs : List V) (spl : List (Option V) → Sp) : Sp := fun vs H Q E => H c' = some (CodeO c' q) ∧ spl ws (vs ++ dvs) H Q E
theorem run_vG {pins : List (Addr × Obj)} {σ : L2.St} {H : Hp} {s : Shared} {Q : VK} {us : List Value} {vs : List V} {G : Heap} {g : Addr} {sp : Sp} (c : CalV X.prog X.w X.K X.mg G k g sp) (hr : Room k X.A) (hx : Passes (L2.CX X.prog X.w) X E) (I : Inv X pins σ H s) (e0 : Env0 X.prog X.w X.K X.mg G X.A X.stack s H) (r : Vals vs us) (q : sp vs H Q E) :
    wpAny (model X.prog X.w) X.A (call (.ref g) us) (EP X pins σ Q) X.xe s := by
  refine wpAny_call (codeAny_mono (c.run X.A X.stack s H us vs Q E hr e0 r q) fun res s' hq => ?_)
  cases res with
  | error er => exact hx pins σ H s er s' I hq
  | ok fl =>
    cases fl with
    | ret u => exact I.after hq
    | next => exact hq.elim
    | brk => exact hq.elim
    | cont => exact hq.elim
/-- x(lambda ..: ..), x a def of the module -/
theorem pe_lamC {g : Addr} {x : Str} {p lpos pos : Pos} {TT : Addr → Sp → Sp} (hg : Gl X x) (hm : X.mg x = some (.ref g)) (kk : PySem.W.keepIn X.K (.ref g) = true)
    (hc : ∀ (G : Heap) (f : Addr) (spf : Sp), (∀ b o, X.base.get? b = some o → G.get? b = some o) → X.K.In G → CalV X.prog X.w X.K X.mg G (kl + 1) f spf → CalV X.prog X.w X.K X.mg G k g (TT f spf)) (hr : Room k X.A) (hx : Passes (L2.CX X.prog X.w) X E) (L : LmS X T ar sc N ps fr js dvs) (B : LmB X ex sc N ps fr kl spl)
    (hdb : (x == ("__debug__" : Str)) = false := by decide) :
    PE X (.Call (.Name x p) [.Lambda ar ex sc lpos] [] pos) (fun σ H Q => Tabs T H ∧ ∀ f c' H1, ExtN H H1 → Tabs T H1 → (∀ b, H1 b = none → H b = none) → H1 c' = some (CodeO c' (X.env.qual ++ "<lambda>")) → TT f (spLam (X.env.qual ++ "<lambda>") c' (js.map (slotAt σ)) dvs spl) [.ref f] H1 Q E) := by
  refine ⟨fun pins s σ H Q I h => ?_⟩
  obtain ⟨hT, h⟩ := h
  refine wpAny_Call_Name_kw (ld_glob I hg hm ?_ hdb)
  refine PySem.W.callWith_K (h₀ := X.base) I.ok.mod.kin kk ?_ (by rfl) (by rfl)
  show wpAny _ _ (spliced ((false, eval (.Lambda ar ex sc lpos) X.env) :: backTo pos (starEach [] X.env))) _ _ s
  refine Calls.spliced_cons (lm_give I L B hT fun G f c' H1 s' I1 eN T1 gn hco e0 k1 cv => ?_)
  refine Calls.spliced_nil ⟨I1.kIn, ?_⟩
  exact run_vG (us := [.ref f]) (vs := [.ref f]) (hc G f _ k1 e0.mod.kin cv) hr hx I1 e0 (.cons rfl .nil) (h f c' H1 eN T1 gn hco)
/-- o.m(lambda ..: ..) -/
theorem pe_lamM {g C : Addr} {m : Str} {o : Expr} {ta : TE} {lpos apos pos : Pos} {pl : Sem Bool} {TT : Addr → Sp → Sp} (he : PE X o ta) (c : Cls X.K C) (hm : Meth X.K C m g)
    (hc : ∀ (G : Heap) (f : Addr) (spf : Sp), (∀ b o, X.base.get? b = some o → G.get? b = some o) → X.K.In G → CalV X.prog X.w X.K X.mg G (kl + 1) f spf → CalV X.prog X.w X.K X.mg G k g (TT f spf)) (hr : Room k X.A) (hx : Passes (L2.CX X.prog X.w) X E) (L : LmS X T ar sc N ps fr js dvs) (B : LmB X ex sc N ps fr kl spl)
    (ht : eval (.Call (.Attribute o m apos) [.Lambda ar ex sc lpos] [] pos) X.env = (do
      let ov ← eval o X.env
      standAt apos.atName
      let (f, first) ← holding [ov] (getMethod ov m pl)
      callWith pos f first (backTo pos (starEach [.Lambda ar ex sc lpos] X.env)) (backToKw pos (keywordEach [] X.env))) := by rfl) :
    PE X (.Call (.Attribute o m apos) [.Lambda ar ex sc lpos] [] pos) (fun σ H Q => ta σ H fun x H0 => ∃ a dx fs, x = .ref a ∧ H0 a = some (.ins C dx fs) ∧ fs.lookup m = none ∧ Tabs T H0 ∧
      ∀ f c' H1, ExtN H0 H1 → Tabs T H1 → (∀ b, H1 b = none → H0 b = none) → H1 c' = some (CodeO c' (X.env.qual ++ "<lambda>")) → TT f (spLam (X.env.qual ++ "<lambda>") c' (js.map (slotAt σ)) dvs spl) [.ref a, .ref f] H1 Q E) := by
  refine ⟨fun pins s σ H Q I h => ?_⟩
  refine PySem.W.methodCall_KW (pl := pl) (thn (he.run pins s σ H _ I h) fun u s1 ⟨x, H1, I1, rx, a, dx, fs, ex, ea, l, hT, q⟩ => ?_) ht
  subst ex
  obtain rfl : u = Value.ref a := rx
  refine getmeth_ok I1 ea c hm l ?_
  refine PySem.W.callWith_K (first := [.ref a]) (h₀ := X.base) I.ok.mod.kin hm.kp ?_ (by rfl) (by rfl)
  show wpAny _ _ (spliced ((false, eval (.Lambda ar _ sc lpos) X.env) :: backTo pos (starEach [] X.env))) _ _ s1
  refine Calls.spliced_cons (lm_give I1 L B hT fun G f c' H2 s' I2 eN T1 gn hco e0 k1 cv => ?_)
  refine Calls.spliced_nil ⟨I2.kIn, ?_⟩
  exact run_vG (us := [.ref a, .ref f]) (vs := [.ref a, .ref f]) (hc G f _ k1 e0.mod.kin cv) hr hx I2 e0 (.cons rfl (.cons rfl .nil)) (q f c' H2 eN T1 gn hco)
end
/-- a lambda without defaults: what it binds -/
theorem bnd_all {ar : Arguments} {sc : Scope} {ps : List Str} (h : ∀ (q : Str) (ex : Expr) (cl : List (Str × Addr)) (pm cv ct : Value) (us : List Value), us.length = ps.length → bindArgs (lmF q ar ex sc cl .none pm cv ct) ⟨us, []⟩ = pure (ps.zip us)) :
    ∀ (q : Str) (ex : Expr) (cl : List (Str × Addr)) (dV pm cv ct : Value) (s : Shared) (us ds : List Value), DfAt s.heap dV ds → Vals [] ds → (us ++ ds).length = ps.length → BindsTo s (lmF q ar ex sc cl dV pm cv ct) ⟨us, []⟩ (ps.zip (us ++ ds)) := by
  intro q ex cl dV pm cv ct s us ds hd r hl
  cases r
  rcases hd with ⟨_, e⟩ | ⟨ne, _⟩
  · subst e
    rw [List.append_nil] at hl ⊢
    exact .of_eq (h q ex cl pm cv ct us hl)
  · exact absurd rfl ne
/-- one parameter, with a default, not given -/
theorem bnd_dfl {ar : Arguments} {sc : Scope} {a : Str} {v : V} (h : ∀ (q : Str) (ex : Expr) (cl : List (Str × Addr)) (Td : Addr) (pm cv ct u : Value), ∃ k, bindArgs (lmF q ar ex sc cl (.ref Td) pm cv ct) ⟨[], []⟩ = seqItems? (.ref Td) >>= k ∧ k (some #[u]) = pure [(a, u)]) :
    ∀ (q : Str) (ex : Expr) (cl : List (Str × Addr)) (dV pm cv ct : Value) (s : Shared) (us ds : List Value), DfAt s.heap dV ds → Vals [v] ds → (us ++ ds).length = ([a] : List Str).length → BindsTo s (lmF q ar ex sc cl dV pm cv ct) ⟨us, []⟩ (([a] : List Str).zip (us ++ ds)) := by
  intro q ex cl dV pm cv ct s us ds hd r hl
  cases r with
  | @cons _ u _ _ rv rr =>
    cases rr
    cases us with
    | cons x y => simp at hl
    | nil =>
      rcases hd with ⟨e, _⟩ | ⟨_, Td, o, e, e2, n, e3⟩
      · cases e
      · subst e
        obtain ⟨k, h1, h2⟩ := h q ex cl Td pm cv ct u
        exact BindsTo.of_defaults (T := Td) rfl e2 e3 h1 h2
end XB

/-! own layer, part 5: an own exception whose __init__ says super().__init__(..) over an own base over ValueError -/
namespace XB
open PySem PySem.Spec PyProof.Rows L2 LamX NdefX
theorem lookup_put' {α : Type} (f g : Str) (y : α) (fs : List (Str × α)) : ((f, y) :: fs).lookup g = if g = f then some y else fs.lookup g := by
  by_cases h : g = f
  · subst h
    simp [List.lookup]
  · have e : (g == f) = false := by simpa using h
    rw [if_neg h]
    simp [List.lookup, e]
/-- what the written part says of such a class, at C, and of its __init__, at fI; file: the program's file -/
structure SupX (K : PySem.W.Frag) (C fI : Addr) (name qual : Str) (ar : Arguments) (body : List Stmt) (sc : Scope) (file : Str) : Prop where
  cls : OexC K C
  sup : PySem.W.ks_superIn K C C "__init__" = some (some (.builtin "ValueError.__init__"))
  thr : PySem.W.nsIn K cStatics "thirdparty.any" = some none
  val : PySem.W.subIn K (.ref C) (.type "ValueError") = some true
  init : PySem.W.findIn K (.ref C) "__init__" = some (some (.ref fI))
  tyI : PySem.W.typeIn K (.ref fI) = some (.type "function")
  fn : ∃ (oc : Value) (od : Option Addr) (osl : Array (Option Value)) (doc pm ct : Value) (an : Option Addr) (kV : Value) (cc c : Addr) (oCell oCode : Obj) (vs : Array Value) (tf : Tok),
    K.lookup fI = some ⟨oc, od, .func (PySem.W.fnX name qual ar body sc [("__class__", cc)] .none kV doc pm an (.ref c) ct), osl⟩ ∧ K.lookup cc = some oCell ∧ oCell.data = .cell (some (.ref C)) ∧
    K.lookup c = some oCode ∧ oCode.data = .fields vs ∧ vs[2]? = some (.str file tf) ∧ PySem.W.codeIn K (.ref c) qual = true
section
variable {X : Cx} {pins : List (Addr × Obj)} {σ : L2.St} {H : Hp} {s : Shared} {a C : Addr} {Q : Value → Shared → Prop} {E : Value → Shared → Prop}
/-- the method-wrapper is called: ValueError.__init__ -/
theorem mw_ok {u : Addr} {us : List Value} (T : OexC X.K C) (I : Inv X pins σ H s) (e : H a = some (exo a C none)) (hu : s.heap.get? u = some (PySem.W.kxs_mw "ValueError.__init__" a)) (hl : us.length ≤ sizeLine) (h : ∀ s', Inv X pins σ H s' → Q .none s') :
    wpAny (model X.prog X.w) X.A (call (.ref u) us) Q E s := by
  obtain ⟨nm, q, N, bs, bm, sn, sub, ab, col, dd, k0, k1, k2, k3, k5, hC, hbm⟩ := T.cls
  obtain ⟨t1, ho⟩ := exo_at I.hok e
  have hC' := I.kIn _ _ hC
  refine wpAny_call (codeAny_of_tree ?_)
  show wpAny _ X.A.in1 (callAny (.ref u) ⟨us, []⟩) _ _ _
  simp only [callAny]
  refine wpAny_bind (wpAny_load hu ?_)
  simp only [PySem.W.kxs_mw, show (Value.type "method-wrapper" == Value.type "method" || Value.type "method-wrapper" == Value.type "builtin_function_or_method" || Value.type "method-wrapper" == Value.type "method-wrapper") = true by decide, if_true]
  refine PySem.W.KFB.if_so (by decide) ?_
  obtain ⟨hp, g, d, t, os⟩ := s
  refine wpAny_bind (PySem.W.check_bound_init F.excBase_ValueError.toExcCallFacts hC' ho rfl ?_)
  refine wpAny_bind (wpAny_pure (wpAny_pure ?_))
  refine ⟨plainId_quiet F.excBase_ValueError.init.plain _, codeAny_builtin F.excBase_ValueError.initEntry ?_⟩
  refine PySem.W.exc_init_tree (cls := .ref C) (t0 := t1) (dv := none) (c2 := .none) (c3 := .none) (b4 := .bool false) ho hl fun h' k hx _ => ?_
  have J := I.write (t' := t) (x := a) (e := a) (o := exo a C none) (by rw [e]; exact True.intro) (.inl rfl) k ⟨_, hx⟩ (exo_ok hx)
  have eu : upd H a (exo a C none) = H := by
    funext b
    by_cases hb : b = a
    · rw [hb, upd_same, e]
    · rw [upd_ne hb]
  rw [eu] at J
  exact h _ J
/-- what the frame of such an __init__ has -/
structure SupEnv (X : Cx) (C f c cc : Addr) (fd : FuncData) (file : Str) : Prop where
  ks : X.env.kindOf "super" = some .globalImplicit
  kc : X.env.kindOf "__class__" = some .free
  cel : X.env.cells.lookup ("__class__" : Str) = some cc
  fu : X.env.func = some f
  co : X.env.code = .ref c
  fn : ∃ o, X.K.lookup f = some o ∧ o.data = .func fd
  cell : ∃ o, X.K.lookup cc = some o ∧ o.data = .cell (some (.ref C))
  rec_ : ∃ o vs tf, X.K.lookup c = some o ∧ o.data = .fields vs ∧ vs[2]? = some (.str file tf)
  par : ∃ ar, (fd.params.posonlyargs ++ fd.params.args).head? = some ar ∧ X.N[0]? = some ar.arg ∧ X.env.kindOf ar.arg = some .local
  file : ((X.prog.main.file : Str) == file) = true
  top : (X.prog.main.scope.names.lookup ("super" : Str)).isSome = false
  mgs : X.mg "super" = none
/-- super().__init__(e, ..) -/
theorem sup_ok {f c cc : Addr} {fd : FuncData} {file : Str} {body : List Stmt} {es : List Expr} {e : Expr} {ta : TA} {p0 p1 p2 p3 p4 : Pos} {QH : Hp → Prop} (V : SupEnv X C f c cc fd file) (T : OexC X.K C)
    (sup : PySem.W.ks_superIn X.K C C "__init__" = some (some (.builtin "ValueError.__init__"))) (thr : PySem.W.nsIn X.K cStatics "thirdparty.any" = some none) (val : PySem.W.subIn X.K (.ref C) (.type "ValueError") = some true)
    (I : Inv X pins σ H s) (h0 : σ[0]? = some (some (.ref a))) (he0 : H a = some (exo a C none)) (ha : PA X (e :: es) ta) (h : ta σ H (fun vs H1 => H1 a = some (exo a C none) ∧ vs.length ≤ 1000 ∧ QH H1))
    (hs : starEach (e :: es) X.env = (false, eval e X.env) :: starEach es X.env := by rfl) (hpl : (backTo p3 (starEach es X.env)).any (·.1) = false := by rfl)
    (hev : eval (.Call (.Attribute (.Call (.Name "super" p0) [] [] p1) "__init__" p2) (e :: es) [] p3) X.env = (do
      let ov ← attributeBase (.Call (.Name "super" p0) [] [] p1) "__init__" X.env (eval (.Call (.Name "super" p0) [] [] p1) X.env)
      standAt p2.atName
      let (f, first) ← holding [ov] (getMethod ov "__init__" (pure false))
      callWith p3 f first (backTo p3 (starEach (e :: es) X.env)) []) := by rfl)
    (hint : interactive X.env = false := by rfl) (hsw : swapsWith (.Call (.Attribute (.Call (.Name "super" p0) [] [] p1) "__init__" p2) (e :: es) [] p3) none p4.line X.env = pure false := by rfl) :
    PySem.wpAt (model X.prog X.w) X.A (.func body X.env) (exec (.Expr (.Call (.Attribute (.Call (.Name "super" p0) [] [] p1) "__init__" p2) (e :: es) [] p3) p4) X.env) (fun fl s' => fl = .next ∧ ∃ H1, Inv X pins σ H1 s' ∧ QH H1) X.xe s := by
  obtain ⟨oF, lF, dF⟩ := V.fn
  obtain ⟨oc, lc, dc⟩ := V.cell
  obtain ⟨oR, vs, tf, lR, dR, vR⟩ := V.rec_
  obtain ⟨ar, hp, hN0, kl⟩ := V.par
  obtain ⟨nm, q, N, bs, bm, sn, sub, ab, col, dd, k0, k1, k2, k3, k5, hC, hbm⟩ := T.cls
  have hcl : PySem.W.clsIn X.K C = some { name := nm, bases := bs, mro := .ref C :: bm, ns := N, qualname := q, hasDict := true, slotNames := sn, subclasses := sub, abstract := ab, collection := col, hasDel := false } := by unfold PySem.W.clsIn; rw [hC] <;> rfl
  have hC' := I.kIn _ _ hC
  obtain ⟨m, hn, hlk⟩ := id I.loc
  obtain ⟨mb, nb, hmb⟩ := I.mod.blt
  obtain ⟨t1, ho⟩ := exo_at I.hok he0
  have selfV : m ar.arg = some (.ref a) := by
    obtain ⟨u, ru, hl⟩ := hlk 0 ar.arg (.ref a) hN0 h0 (.inl kl)
    obtain rfl : u = Value.ref a := ru
    rcases hl with ⟨_, e2⟩ | ⟨k2, _⟩
    · exact e2
    · rcases k2 with k2 | k2 <;> rw [kl] at k2 <;> cases k2
  have hfun := I.ok.kind
  refine PySem.ks_wpAt_Expr_any ?_ hint hsw
  refine PySem.ks_wpAt_MethodCall (pl := pure false) ?_ hev
  refine PySem.ks_wpAt_super_base V.ks V.kc (by decide) V.fu (I.kIn _ _ lF) dF hp V.co (I.kIn _ _ lR) dR vR V.file V.top ?_
  refine PySem.W.ks_loadName_global hfun V.ks (PySem.Calls.loadGlobal_builtin (mg := X.mg) (mb := mb) ?_ V.mgs ?_ (v := .type "super") ?_ ⟨rfl, ?_⟩)
  · rw [I.ok.glob]
    exact I.mod.glob.keeps I.bk
  · rw [I.ok.blt]
    exact nb.keeps I.bk
  · rw [hmb _ (by decide)]
    exact PyProof.Rows.Boot.«super»
  refine wpAny_loadName_free hfun V.kc V.cel ⟨oc, I.kIn _ _ lc, dc⟩ ?_
  refine wpAny_loadName_local hfun kl hn selfV ?_
  have subCC : PySem.W.Looks (model X.prog X.w) s.heap (isSubtype (.ref C) (.ref C)) true := by
    refine PySem.W.looks_subIn I.kIn ?_
    show PySem.W.mroIn X.K C (.ref C) = some true
    unfold PySem.W.mroIn
    rw [hcl, Option.bind_some, if_neg (by simp)]
    simp
  obtain ⟨hpp, g, d, t, os⟩ := s
  refine PySem.ks_wpAny_isType_cls hC' rfl ⟨rfl, ?_⟩
  refine PySem.ks_wpAny_call_super hC' rfl ho rfl (fun c z => by cases z) subCC fun h1 hso k1 => ?_
  have I1 := I.kept (t' := t) (h' := h1) k1
  have hI : PySem.W.Looks (model X.prog X.w) h1 (isInstance (.ref a) (.type "ValueError")) true :=
    PySem.W.Looks.andThen (fun A Q E s k q => wpAny_typeOf_ref (k _ _ (k1 _ _ ho)) q) (PySem.W.looks_subIn I1.kIn val)
  have haC : a ≠ C := fun z => by
    have e1 : hpp.get? C = _ := hC'
    rw [← z, ho] at e1
    cases e1
  have sup2 := sup
  unfold PySem.W.ks_superIn at sup2
  rw [hcl] at sup2
  refine PySem.W.kxs_getMethod PySem.W.kxs_ValueError hso (PySem.W.looks_opaque I1.kIn thr) (l₀ := .ref C :: bm) (fun A Q E s k q => wpAny_bind ((PySem.W.looks_clsIn I1.kIn hcl) A _ E s k (wpAny_pure q))) rfl I1.kIn sup2 hI haC (by decide) ?_
  have I2 := I1.kept (t' := t + 1) (h' := h1.push (PySem.W.kxs_mw "ValueError.__init__" a)) fun b o e => Heap.get?_push_of_some _ e
  have hmw : (h1.push (PySem.W.kxs_mw "ValueError.__init__" a)).get? h1.objs.size = some (PySem.W.kxs_mw "ValueError.__init__" a) := Heap.get?_push_size _ rfl
  have nmw : H h1.objs.size = none := I1.hok.fresh (Nat.le_refl _)
  have nfr : h1.objs.size ≠ X.env.locals ∧ h1.objs.size ∉ X.fs := ⟨Nat.ne_of_gt I1.lt, I1.nofs (Nat.le_refl _)⟩
  have I3 : Inv X ((h1.objs.size, PySem.W.kxs_mw "ValueError.__init__" a) :: pins) σ H _ := ⟨I2.ok, I2.os, I2.bare, I2.base, I2.loc, I2.cell, I2.free, I2.freeC, fun p hp => by
    rcases List.mem_append.mp hp with z | z
    · exact I2.pin p (List.mem_append_left _ z)
    · rcases List.mem_cons.mp z with z | z
      · rw [z]
        exact ⟨hmw, nmw, nfr.1, nfr.2, fun v y => by cases y⟩
      · exact I2.pin p (List.mem_append_right _ z), I2.hok, I2.len⟩
  have ar := thn (ha.run p3 _ _ σ H _ I3 h) fun us s2 ⟨vs, H2, J2, r, e2, l2, q2⟩ => show PySem.W.KxsAt "ValueError.__init__" h1.objs.size a s2.heap ∧ wpAny (model X.prog X.w) X.A (call (.ref h1.objs.size) us) (fun _ s' => ∃ H1, Inv X pins σ H1 s' ∧ QH H1) X.xe s2 from by
    have hu2 := (J2.pin (h1.objs.size, PySem.W.kxs_mw "ValueError.__init__" a) (List.mem_append_right _ List.mem_cons_self)).1
    refine ⟨hu2, mw_ok T J2 e2 hu2 (by rw [← Paired.length r, sizeLine_eq]; omega) fun s' J3 => ⟨H2, ?_, q2⟩⟩
    exact ⟨J3.ok, J3.os, J3.bare, J3.base, J3.loc, J3.cell, J3.free, J3.freeC, fun p hp => J3.pin p (by
      rcases List.mem_append.mp hp with z | z
      · exact List.mem_append_left _ z
      · exact List.mem_append_right _ (List.mem_cons_of_mem _ z)), J3.hok, J3.len⟩
  rw [hs] at ar ⊢
  refine PySem.W.kxs_callWith (i := "ValueError.__init__") (x := a) (by show (false || (backTo p3 (starEach es X.env)).any (·.1)) = false; rw [hpl]; rfl) (PySem.Calls.evalArgs_plain (wpAny_mono ar (fun us s2 z => ⟨z.1, wpAny_mono z.2 (fun v s' q => ⟨rfl, q⟩) fun _ _ y => y⟩) fun _ _ y => y))
end
section
variable {P : Program} {w : World} {K : PySem.W.Frag} {mg : Str → Option Value} {base : Heap} {C fI : Addr} {name qual file : Str} {ar : Arguments} {rest : List Stmt} {sc : Scope} {N ps : List Str} {k : Nat} {sp : Sp} {e : Expr} {es : List Expr} {p0 p1 p2 p3 p4 : Pos}
/-- the statement super().__init__(e, ..) -/
abbrev supSt (e : Expr) (es : List Expr) (p0 p1 p2 p3 p4 : Pos) : Stmt := .Expr (.Call (.Attribute (.Call (.Name "super" p0) [] [] p1) "__init__" p2) (e :: es) [] p3) p4
/-- the looks at the text -/
structure SupT (ar : Arguments) (sc : Scope) (N ps : List Str) : Prop where
  ns : NScope N ps ["__class__"] sc
  par : ∃ a, (ar.posonlyargs ++ ar.args).head? = some a ∧ N[0]? = some a.arg ∧ sc.names.lookup a.arg = some .local
  sup : sc.names.lookup ("super" : Str) = some .globalImplicit
  cls : sc.names.lookup ("__class__" : Str) = some .free
/-- THE RULE for such an __init__ -/
theorem ini_ok (S : SupX K C fI name qual ar (supSt e es p0 p1 p2 p3 p4 :: rest) sc file) (VT : SupT ar sc N ps) (hfile : ((P.main.file : Str) == file) = true) (htop : (P.main.scope.names.lookup ("super" : Str)).isSome = false) (hms : mg "super" = none)
    (len : ∀ vs H Q E, sp vs H Q E → vs.length = ps.length)
    (hbd : ∀ (cl : List (Str × Addr)) (kV doc pm : Value) (an : Option Addr) (cdv ct : Value) (us : List Value), us.length = ps.length → bindArgs (PySem.W.fnX name qual ar (supSt e es p0 p1 p2 p3 p4 :: rest) sc cl .none kV doc pm an cdv ct) ⟨us, []⟩ = pure (ps.zip us))
    (hbody : ∀ (cc c : Addr) (A : Around) (outer : List Env) (s : Shared) (H : Hp) (vs : List V) (Q : VK) (E : XK), sp vs H Q E →
      let X := ncx (L2.CX P w) P w K mg base N ⟨name, qual, ar, supSt e es p0 p1 p2 p3 p4 :: rest, sc, [("__class__", cc)], c⟩ fI A outer s H E
      ∃ (ta : TA) (tr : TS) (a : Addr), PA X (e :: es) ta ∧ PSs X rest tr ∧ vs[0]? = some (.ref a) ∧ H a = some (exo a C none) ∧
        ta (startF N vs [some (.ref C)]) H (fun vs1 H1 => H1 a = some (exo a C none) ∧ vs1.length ≤ 1000 ∧ tr { nx := fun _ H' => Q .non H', rt := Q } (startF N vs [some (.ref C)]) H1))
    (hs : ∀ env, starEach (e :: es) env = (false, eval e env) :: starEach es env := by intro _; rfl) (hpl : ∀ env, (backTo p3 (starEach es env)).any (·.1) = false := by intro _; rfl)
    (hev : ∀ env, eval (.Call (.Attribute (.Call (.Name "super" p0) [] [] p1) "__init__" p2) (e :: es) [] p3) env = (do
      let ov ← attributeBase (.Call (.Name "super" p0) [] [] p1) "__init__" env (eval (.Call (.Name "super" p0) [] [] p1) env)
      standAt p2.atName
      let (f, first) ← holding [ov] (getMethod ov "__init__" (pure false))
      callWith p3 f first (backTo p3 (starEach (e :: es) env)) []) := by intro _; rfl)
    (hsw : ∀ env, swapsWith (.Call (.Attribute (.Call (.Name "super" p0) [] [] p1) "__init__" p2) (e :: es) [] p3) none p4.line env = pure false := by intro _; rfl) :
    ∃ fd, FnOk P w K mg base (L2.CX P w) (k + 1) fI fd ps sp ∧ Binds K fd ps [] := by
  obtain ⟨oc, od, osl, doc, pm, ct, an, kV, cc, c, oCell, oCode, vsc, tf, lk, lc, dc, lr, dr, vr, hcd⟩ := S.fn
  refine ⟨_, ⟨len, fun A outer s H args us vs Q E hr e0 hb r hsp => ?_⟩, .all (hbd [("__class__", cc)] kV doc pm an (.ref c) ct)⟩
  have KX : K.In s.heap := e0.mod.kin.keeps fun b o e => (e0.bs b o e).1
  have lim : s.heap.NoLimit := e0.mod.nolimit.keeps fun b o e => (e0.bs b o e).1
  have hl := len _ _ _ _ hsp
  obtain ⟨ta, tr, a, hpa, hpr, hv0, hHa, hta⟩ := hbody cc c A outer s H vs Q E hsp
  have C0 : CellsAt [("__class__", cc)] ["__class__"] [some (V.ref C)] s.heap H := by
    have hc1 := e0.mod.kin _ _ lc
    have hc2 := e0.bs _ _ hc1
    refine ⟨rfl, fun y c1 e1 => ?_, fun x y c1 e1 e2 => ?_, fun i y e1 => ?_⟩
    · rw [lookup_put'] at e1
      split at e1
      · cases e1
        exact ⟨hc2.2, _, oCell, hc2.1, dc⟩
      · cases e1
    · rw [lookup_put'] at e1 e2
      split at e1
      · rename_i h1
        split at e2
        · rename_i h2
          rw [h1, h2]
        · cases e2
      · cases e1
    · cases i with
      | zero =>
        have e2 : y = ("__class__" : Str) := (Option.some.inj e1).symm
        subst e2
        exact ⟨cc, rfl, fun v ev => ⟨_, show RelV v (.ref C) from by cases (Option.some.inj (Option.some.inj ev)); rfl, oCell, hc2.1, dc⟩⟩
      | succ i => simp at e1
  refine PySem.ks_codeAny_call_defAt hr.depth (KX _ _ lk) rfl lim (PySem.W.codeRec_of KX hcd) rfl hb VT.ns.nocell (fun ⟨n, _⟩ hy => VT.ns.par n (List.of_mem_zip hy).1) (fun h₁ hns kp => ?_) VT.ns.co VT.ns.gen VT.ns.kind
  have J : Inv (ncx (L2.CX P w) P w K mg base N ⟨name, qual, ar, supSt e es p0 p1 p2 p3 p4 :: rest, sc, [("__class__", cc)], c⟩ fI A outer s H E) [] (startF N vs [some (.ref C)]) H { s with heap := h₁, toks := s.toks + (ps.zip us).length } :=
    inv_startN (F := ⟨name, qual, ar, supSt e es p0 p1 p2 p3 p4 :: rest, sc, [("__class__", cc)], c⟩) VT.ns hr.hd e0 hl r C0 hns kp
  have SE : SupEnv (ncx (L2.CX P w) P w K mg base N ⟨name, qual, ar, supSt e es p0 p1 p2 p3 p4 :: rest, sc, [("__class__", cc)], c⟩ fI A outer s H E) C fI c cc (PySem.W.fnX name qual ar (supSt e es p0 p1 p2 p3 p4 :: rest) sc [("__class__", cc)] .none kV doc pm an (.ref c) ct) file :=
    ⟨VT.sup, VT.cls, rfl, rfl, rfl, ⟨_, lk, rfl⟩, ⟨_, lc, dc⟩, ⟨_, _, _, lr, dr, vr⟩, VT.par, hfile, htop, hms⟩
  have s0 : (startF N vs [some (V.ref C)])[0]? = some (some (.ref a)) := by
    unfold startF
    cases vs with
    | nil => cases hv0
    | cons x y =>
      cases hv0
      rfl
  show PySem.wpAt _ _ (.func _ (envF ⟨name, qual, ar, supSt e es p0 p1 p2 p3 p4 :: rest, sc, [("__class__", cc)], c⟩ fI s.heap.objs.size)) (execs _ (envF ⟨name, qual, ar, supSt e es p0 p1 p2 p3 p4 :: rest, sc, [("__class__", cc)], c⟩ fI s.heap.objs.size)) _ _ _
  refine PySem.ks_wpAt_execs_cons (ks_wpAt_mono (sup_ok (body := supSt e es p0 p1 p2 p3 p4 :: rest) (QH := fun H1 => tr { nx := fun _ H' => Q .non H', rt := Q } (startF N vs [some (.ref C)]) H1) SE S.cls S.sup S.thr S.val J s0 hHa hpa hta (hs _) (hpl _) (hev _) (by show (sc.kind == .module && _) = false; rw [VT.ns.kind]; rfl) (hsw _)) (fun fl s' hh => ?_) fun _ _ y => y)
  obtain ⟨rfl, H1, J1, q1⟩ := hh
  refine PySem.wpAt_of_wpAny (wpAny_mono (hpr.run [] s' _ H1 _ J1 q1) (fun fl s2 hs2 => ?_) fun _ _ y => y)
  have fin : ∀ {σ' : L2.St} {H' : Hp} {v : V} {u : Value}, Inv (ncx (L2.CX P w) P w K mg base N ⟨name, qual, ar, supSt e es p0 p1 p2 p3 p4 :: rest, sc, [("__class__", cc)], c⟩ fI A outer s H E) [] σ' H' s2 → L2.RelV v u → Q v H' → CE outer P w H s Q u s2 :=
    fun {σ' H' v u} J' rv q => ⟨v, H', J'.os, J'.bare, J'.base, J'.hok, rv, q⟩
  cases fl with
  | ret u =>
    obtain ⟨v, σ', H', J', rv, q⟩ := hs2
    exact fin J' rv q
  | next =>
    obtain ⟨σ', H', J', q⟩ := hs2
    exact fin (v := V.non) (u := Value.none) J' rfl q
  | brk =>
    obtain ⟨_, _, _, q⟩ := hs2
    exact q.elim
  | cont =>
    obtain ⟨_, _, _, q⟩ := hs2
    exact q.elim
end
end XB

/-! own layer, part 6: what the end leans on: defs, tables of code objects, own errors whose __init__ says super().__init__ -/
namespace XB
open PySem PySem.Spec PyProof.Rows L2 He
/-- an own error: its class's name, its __init__ in words, its fields -/
structure ExD where
  x : Str
  qual : Str
  params : Arguments
  body : List Stmt
  scope : Scope
  fields : List Str
abbrev FnC : Type := Option (Str × Str × Arguments × FuncBody × Scope × Addr × List Str × Value × Addr)
def fnC (K : PySem.W.Frag) (a : Addr) : FnC := match K.lookup a with
  | some ⟨_, _, .func fd, _⟩ => some (fd.name, fd.qualname, fd.params, fd.body, fd.scope, fd.globals, fd.closure.map (·.1), fd.defaults, fd.builtins)
  | _ => none
def ExD.val (d : ExD) : FnC := some ("__init__", d.qual, d.params, .stmts d.body, d.scope, mainGlobals, ["__class__"], .none, builtinsNs)
/-- the class's slots -/
def slB : List (Option Value) → Bool
  | [_, _, _, _, some (.builtin n), _] => decide (n = "ValueError.__new__")
  | _ => false
theorem slB_ok {l : List (Option Value)} (h : slB l = true) : ∃ k0 k1 k2 k3 k5, l = [k0, k1, k2, k3, some (.builtin "ValueError.__new__"), k5] := by
  unfold slB at h
  split at h
  · rename_i k0 k1 k2 k3 n k5
    have e : n = "ValueError.__new__" := of_decide_eq_true h
    exact ⟨k0, k1, k2, k3, k5, by rw [e]⟩
  · cases h
/-- the class -/
def oexB (K : PySem.W.Frag) (C : Addr) : Bool := (match K.lookup C with
  | some ⟨.type t, _, .cls cd, sl⟩ => decide (t = "type") && (decide (cd.mro.head? = some (.ref C)) && (HandSPX.refsVE cd.mro.tail && (cd.hasDict && (!cd.hasDel && slB sl.toList))))
  | _ => false) && (eqO (PySem.W.findIn K (.ref C) "__setattr__") (some (some (.builtin "object.__setattr__"))) && (decide (PySem.W.subIn K (.ref C) (.type "BaseException") = some true) && (decide (PySem.W.typeIn K (.ref C) = some (.type "type")) && PySem.W.keepIn K (.ref C))))
theorem oexB_ok {K : PySem.W.Frag} {C : Addr} (h : oexB K C = true) : OexC K C := by
  obtain ⟨h1, h⟩ := ba h
  obtain ⟨h2, h⟩ := ba h
  obtain ⟨h3, h⟩ := ba h
  obtain ⟨h4, h5⟩ := ba h
  refine ⟨?_, eqO_ok h2, of_decide_eq_true h3, of_decide_eq_true h4, h5⟩
  cases q : K.lookup C with
  | none =>
    rw [q] at h1
    cases h1
  | some o =>
    obtain ⟨oc, od, dt, sl⟩ := o
    rw [q] at h1
    cases oc with
    | type t =>
      cases dt with
      | cls cd =>
        obtain ⟨a1, a⟩ := ba h1
        obtain ⟨a2, a⟩ := ba a
        obtain ⟨a3, a⟩ := ba a
        obtain ⟨a4, a⟩ := ba a
        obtain ⟨a5, a6⟩ := ba a
        obtain ⟨nm, bs, mro, ns, qn, hd, sn, sb, ab, col, del⟩ := cd
        dsimp only at a2 a3 a4 a5
        have e1 : t = "type" := of_decide_eq_true a1
        have e2 : mro.head? = some (.ref C) := of_decide_eq_true a2
        cases mro with
        | nil => cases e2
        | cons m0 mr =>
          obtain rfl : m0 = Value.ref C := Option.some.inj e2
          obtain rfl : hd = true := a4
          have e5 : del = false := by
            cases del with
            | false => rfl
            | true => cases a5
          subst e1 e5
          obtain ⟨ls⟩ := sl
          obtain ⟨k0, k1, k2, k3, k5, el⟩ := slB_ok a6
          have el2 : ls = _ := el
          subst el2
          exact ⟨nm, qn, ns, bs, mr, sn, sb, ab, col, od, k0, k1, k2, k3, k5, rfl, a3⟩
      | _ => cases h1
    | _ => cases dt <;> cases h1
/-- the third of them is that text -/
def fileB (vs : Array Value) (file : Str) : Bool := match vs[2]? with
  | some (Value.str g _) => decide (g = file)
  | _ => false
theorem fileB_ok {vs : Array Value} {file : Str} (h : fileB vs file = true) : ∃ t, vs[2]? = some (.str file t) := by
  unfold fileB at h
  cases q : vs[2]? with
  | none =>
    rw [q] at h
    cases h
  | some u =>
    rw [q] at h
    cases u with
    | str g t =>
      have eg : g = file := of_decide_eq_true h
      rw [eg]
      exact ⟨t, rfl⟩
    | _ => cases h
/-- the __init__: its cell, its code -/
def iniB (K : PySem.W.Frag) (C f : Addr) (qual file : Str) : Bool := match K.lookup f with
  | some ⟨_, _, .func fd, _⟩ => (match fd.closure with
    | [(_, cc)] => (match K.lookup cc with
      | some ⟨_, _, .cell (some (.ref c2)), _⟩ => decide (c2 = C)
      | _ => false)
    | _ => false) && (PySem.W.codeIn K fd.code qual && (match fd.code with
    | .ref c => (match K.lookup c with
      | some ⟨_, _, .fields vs, _⟩ => fileB vs file
      | _ => false)
    | _ => false))
  | _ => false
def exdB (K : PySem.W.Frag) (file : Str) (d : ExD) : Bool :=
  oexB K (ga K d.x) && (decide (PySem.W.ks_superIn K (ga K d.x) (ga K d.x) "__init__" = some (some (.builtin "ValueError.__init__"))) && (decide (PySem.W.nsIn K cStatics "thirdparty.any" = some none) && (decide (PySem.W.subIn K (.ref (ga K d.x)) (.type "ValueError") = some true) &&
    (eqO (PySem.W.findIn K (.ref (ga K d.x)) "__init__") (some (some (.ref (ma K (ga K d.x) "__init__")))) && (decide (PySem.W.typeIn K (.ref (ma K (ga K d.x) "__init__")) = some (.type "function")) && (iniB K (ga K d.x) (ma K (ga K d.x) "__init__") d.qual file &&
      d.fields.all fun f => eqO (PySem.W.findIn K (.ref (ga K d.x)) f) (some none)))))))
structure ExF (K : PySem.W.Frag) (file : Str) (d : ExD) : Prop where
  sup : SupX K (ga K d.x) (ma K (ga K d.x) "__init__") "__init__" d.qual d.params d.body d.scope file
  no : ∀ f ∈ d.fields, PySem.W.findIn K (.ref (ga K d.x)) f = some none
theorem exd_ok {K : PySem.W.Frag} {file : Str} {d : ExD} (e : fnC K (ma K (ga K d.x) "__init__") = d.val) (h : exdB K file d = true) : ExF K file d := by
  obtain ⟨h1, h⟩ := ba h
  obtain ⟨h2, h⟩ := ba h
  obtain ⟨h3, h⟩ := ba h
  obtain ⟨h4, h⟩ := ba h
  obtain ⟨h5, h⟩ := ba h
  obtain ⟨h6, h⟩ := ba h
  obtain ⟨h7, h8⟩ := ba h
  refine ⟨⟨oexB_ok h1, of_decide_eq_true h2, of_decide_eq_true h3, of_decide_eq_true h4, eqO_ok h5, of_decide_eq_true h6, ?_⟩, fun f hf => eqO_ok (List.all_eq_true.mp h8 f hf)⟩
  unfold fnC at e
  unfold iniB at h7
  cases q : K.lookup (ma K (ga K d.x) "__init__") with
  | none =>
    rw [q] at h7
    cases h7
  | some o =>
    obtain ⟨oc, od, dt, osl⟩ := o
    rw [q] at e h7
    cases dt with
    | func fd =>
      obtain ⟨n1, n2, n3, n4, n5, n6, n7, n8, n9, n10, n11, n12, n13, n14, n15⟩ := fd
      have e2 : (some (n1, n2, n3, n4, n5, n6, n7.map (·.1), n8, n15) : FnC) = d.val := e
      unfold ExD.val at e2
      simp only [Option.some.injEq, Prod.mk.injEq] at e2
      obtain ⟨r1, r2, r3, r4, r5, r6, r7, r8, r9⟩ := e2
      subst r1 r2 r3 r4 r5 r6 r8 r9
      obtain ⟨k1, k⟩ := ba h7
      obtain ⟨k2, k3⟩ := ba k
      cases n7 with
      | nil => cases r7
      | cons y ys =>
        cases ys with
        | cons y2 ys2 => exact absurd (congrArg List.length r7) (by simp)
        | nil =>
          obtain ⟨yn, cc⟩ := y
          have ey : yn = ("__class__" : Str) := by simpa using r7
          subst ey
          have k1' : (match K.lookup cc with
            | some ⟨_, _, .cell (some (.ref c2)), _⟩ => decide (c2 = ga K d.x)
            | _ => false) = true := k1
          cases qc : K.lookup cc with
          | none =>
            rw [qc] at k1'
            cases k1'
          | some oC =>
            rw [qc] at k1'
            have hcell : oC.data = .cell (some (.ref (ga K d.x))) := by
              obtain ⟨c1, c2, c3, c4⟩ := oC
              cases c3 with
              | cell v =>
                cases v with
                | none => cases k1'
                | some v =>
                  cases v with
                  | ref r =>
                    have er : r = ga K d.x := of_decide_eq_true k1'
                    rw [er]
                  | _ => cases k1'
              | _ => cases k1'
            obtain ⟨c, rfl⟩ := codeIn_ref k2
            have k3' : (match K.lookup c with
              | some ⟨_, _, .fields vs, _⟩ => fileB vs file
              | _ => false) = true := k3
            cases qr : K.lookup c with
            | none =>
              rw [qr] at k3'
              cases k3'
            | some oR =>
              obtain ⟨c1, c2, c3, c4⟩ := oR
              rw [qr] at k3'
              cases c3 with
              | fields vs =>
                obtain ⟨t, qv⟩ := fileB_ok k3'
                exact ⟨oc, od, osl, n10, n11, n14, n12, n9, cc, c, oC, _, vs, t, rfl, qc, hcell, qr, rfl, qv, k2⟩
              | _ => cases k3'
    | _ => cases h7
/-- the facts that isinstance and a field's look ask of an own error -/
def ecB (K : PySem.W.Frag) (D : Addr) : Bool :=
  eqO (PySem.W.findIn K (.ref D) "__getattribute__") (some (some (.builtin "BaseException.__getattribute__"))) && (eqO (PySem.W.findIn K (.ref D) "__getattr__") (some none) && (decide (PySem.W.subIn K (.ref D) (.type "BaseException") = some true) && (PySem.W.hasDictIn K D &&
    (eqO (PySem.W.findIn K (.ref D) "__class__") (some (some (.builtin "object.__class__"))) && (eqO (PySem.W.specialIn K (.builtin "object.__class__") "__get__") (some (some (.builtin "getset_descriptor.__get__"))) && (decide (PySem.W.takesIn K (.builtin "object.__class__") = some true) && decide (PySem.W.mroIn K D (.type "object") = some true)))))))
theorem ecB_ok {K : PySem.W.Frag} {D : Addr} (h : ecB K D = true) : ExcC K D := by
  obtain ⟨h1, h⟩ := ba h
  obtain ⟨h2, h⟩ := ba h
  obtain ⟨h3, h⟩ := ba h
  obtain ⟨h4, h⟩ := ba h
  obtain ⟨h5, h⟩ := ba h
  obtain ⟨h6, h⟩ := ba h
  obtain ⟨h7, h8⟩ := ba h
  exact ⟨eqO_ok h1, eqO_ok h2, of_decide_eq_true h3, h4, eqO_ok h5, eqO_ok h6, of_decide_eq_true h7, of_decide_eq_true h8⟩
/-- all that is asked beside the defs -/
structure EY where
  file : Str
  exs : List ExD
  ecs : List Str
  kits : List (Str × Str × Bool)
  more : List (PySem.W.Frag → Bool) := []
/-- what isinstance asks of an own class -/
def insB (C : Str) (K : PySem.W.Frag) : Bool := eqO (PySem.W.findIn K (.ref (ga K C)) "__class__") (some (some (.builtin "object.__class__"))) && (eqO (PySem.W.specialIn K (.builtin "object.__class__") "__get__") (some (some (.builtin "getset_descriptor.__get__"))) && (decide (PySem.W.takesIn K (.builtin "object.__class__") = some true) &&
  (decide (PySem.W.mroIn K (ga K C) (.type "object") = some true) && decide (PySem.W.kitOne K (.ref (ga K C)) (.ref (ga K C)) = some true))))
theorem insB_ok {K : PySem.W.Frag} {C : Str} (c : Cls K (ga K C)) (h : insB C K = true) : C8.InsC K (ga K C) := by
  obtain ⟨h1, h⟩ := ba h
  obtain ⟨h2, h⟩ := ba h
  obtain ⟨h3, h⟩ := ba h
  obtain ⟨h4, h5⟩ := ba h
  exact ⟨c, eqO_ok h1, eqO_ok h2, of_decide_eq_true h3, of_decide_eq_true h4, of_decide_eq_true h5⟩
/-- != is object's own -/
def neB (C : Str) (K : PySem.W.Frag) : Bool := eqO (PySem.W.findIn K (.ref (ga K C)) "__ne__") (some (some (.builtin "object.__ne__")))
/-- values of that built-in type are no instances of the class -/
def notB (T : String) (C : Str) (K : PySem.W.Frag) : Bool := decide (PySem.W.kitOne K (.type T) (.ref (ga K C)) = some false)
def eyB (Y : EY) (K : PySem.W.Frag) : Bool := (Y.more.all fun b => b K) && ((Y.exs.all fun d => exdB K Y.file d) && ((Y.ecs.all fun x => ecB K (ga K x)) && Y.kits.all fun t => decide (PySem.W.kitOne K (.ref (ga K t.1)) (.ref (ga K t.2.1)) = some t.2.2)))
/-! ### the Hook -/
abbrev AlY : Type := AlD × (Bool × List FnC)
def asY (g : Addr → Option Obj) (n : Nat) : List Addr := cStatics :: asD g n
def obsY (n : Nat) (fa : List Fa) (fn : List DefD) (tf : List Defn) (Y : EY) (g : Addr → Option Obj) : AlY :=
  let K := frT g (asY g n)
  (obsD fa fn K, (eyB Y K && (tabsB g tf K && decide ((tf.map fun p => (cT K p).2).Nodup)), Y.exs.map fun d => fnC K (ma K (ga K d.x) "__init__")))
def valY (fn : List DefD) (Y : EY) : AlY := (valD fn, (true, Y.exs.map ExD.val))
structure SaysY (fa : List Fa) (fn : List DefD) (tf : List Defn) (Y : EY) (h : Heap) (K : PySem.W.Frag) : Prop where
  d : SaysD fa fn K
  more : eyB Y K = true
  fns : (Y.exs.map fun d => fnC K (ma K (ga K d.x) "__init__")) = Y.exs.map ExD.val
  hd : ∀ p ∈ tf, PySem.W.codeHdIn K (cT K p).1 (cT K p).2 = true
  out : ∀ p ∈ tf, K.lookup (cT K p).2 = none
  empty : ∀ p ∈ tf, h.get? (cT K p).2 = some { cls := .none, data := .fields #[] }
  apart : (tf.map fun p => (cT K p).2).Nodup
theorem saysY_of {n : Nat} {fa : List Fa} {fn : List DefD} {tf : List Defn} {Y : EY} {h : Heap} (e : obsY n fa fn tf Y h.get? = valY fn Y) : SaysY fa fn tf Y h (frT h.get? (asY h.get? n)) := by
  have e1 : obsD fa fn (frT h.get? (asY h.get? n)) = valD fn := congrArg (fun z : AlY => z.1) e
  have e2 : (eyB Y (frT h.get? (asY h.get? n)) && (tabsB h.get? tf (frT h.get? (asY h.get? n)) && decide ((tf.map fun p => (cT (frT h.get? (asY h.get? n)) p).2).Nodup))) = true := congrArg (fun z : AlY => z.2.1) e
  have e3 := congrArg (fun z : AlY => z.2.2) e
  obtain ⟨m1, m⟩ := ba e2
  obtain ⟨m2, m3⟩ := ba m
  have tb : ∀ p ∈ tf, PySem.W.codeHdIn (frT h.get? (asY h.get? n)) (cT (frT h.get? (asY h.get? n)) p).1 (cT (frT h.get? (asY h.get? n)) p).2 = true ∧ ∃ o, h.get? (cT (frT h.get? (asY h.get? n)) p).2 = some o ∧ emptyTab o = true := by
    intro p hp
    obtain ⟨a, b⟩ := ba (List.all_eq_true.mp m2 p hp)
    cases q : h.get? (cT (frT h.get? (asY h.get? n)) p).2 with
    | none =>
      rw [q] at b
      cases b
    | some o =>
      rw [q] at b
      exact ⟨a, o, rfl, b⟩
  refine ⟨e1, m1, e3, fun p hp => (tb p hp).1, fun p hp => ?_, fun p hp => ?_, of_decide_eq_true m3⟩
  · obtain ⟨_, o, q, z⟩ := tb p hp
    exact frT_none q z
  · obtain ⟨_, o, q, z⟩ := tb p hp
    rw [q, emptyTab_eq z]
def hookY (n : Nat) (fa : List Fa) (fn : List DefD) (tf : List Defn) (Y : EY) : PySem.W.Hook where
  α := AlY
  obs := fun s => obsY n fa fn tf Y s.heap.get?
  val := fun _ => valY fn Y
  says := fun _ h => ∃ K : PySem.W.Frag, K.In h ∧ SaysY fa fn tf Y h K
  of := fun _ _ e => ⟨_, frT_in, saysY_of e⟩
  keeps := fun _ _ _ ⟨K, hK, c⟩ k => ⟨K, PySem.W.Frag.In.keeps hK k, ⟨c.d, c.more, c.fns, c.hd, c.out, fun p hp => k _ _ (c.empty p hp), c.apart⟩⟩
theorem obsY_eq {n : Nat} {fa : List Fa} {fn : List DefD} {tf : List Defn} {Y : EY} {g : Addr → Option Obj} {s : Shared} (h : ∀ a, g a = s.heap.get? a) : obsY n fa fn tf Y g = (hookY n fa fn tf Y).obs s := by
  have e : g = s.heap.get? := funext h
  rw [e] <;> rfl
section
variable {fa : List Fa} {fn : List DefD} {tf : List Defn} {Y : EY} {h : Heap} {K : PySem.W.Frag}
theorem SaysY.exf (c : SaysY fa fn tf Y h K) (i : Nat) {d : ExD} (hi : Y.exs[i]? = some d := by rfl) : ExF K Y.file d := by
  have m := (ba (show ((Y.exs.all fun d => exdB K Y.file d) && _) = true from (ba c.more).2)).1
  have e : (Y.exs.map fun d => fnC K (ma K (ga K d.x) "__init__"))[i]? = (Y.exs.map ExD.val)[i]? := by rw [c.fns]
  rw [List.getElem?_map, List.getElem?_map, hi] at e
  exact exd_ok (Option.some.inj e) (List.all_eq_true.mp m d (List.mem_of_getElem? hi))
theorem SaysY.fact (c : SaysY fa fn tf Y h K) (i : Nat) {b : PySem.W.Frag → Bool} (hi : Y.more[i]? = some b := by rfl) : b K = true :=
  List.all_eq_true.mp (ba c.more).1 b (List.mem_of_getElem? hi)
theorem SaysY.ec (c : SaysY fa fn tf Y h K) (i : Nat) {x : Str} (hi : Y.ecs[i]? = some x := by rfl) : ExcC K (ga K x) := by
  have m := (ba (show (_ && ((Y.ecs.all fun x => ecB K (ga K x)) && _)) = true from (ba c.more).2)).2
  exact ecB_ok (List.all_eq_true.mp (ba m).1 x (List.mem_of_getElem? hi))
theorem SaysY.kit (c : SaysY fa fn tf Y h K) (i : Nat) {t : Str × Str × Bool} (hi : Y.kits[i]? = some t := by rfl) : PySem.W.kitOne K (.ref (ga K t.1)) (.ref (ga K t.2.1)) = some t.2.2 := by
  have m := (ba (show (_ && (_ && Y.kits.all fun t => decide (PySem.W.kitOne K (.ref (ga K t.1)) (.ref (ga K t.2.1)) = some t.2.2))) = true from (ba c.more).2)).2
  exact of_decide_eq_true (List.all_eq_true.mp (ba m).2 t (List.mem_of_getElem? hi))
end
/-- a def whose frame knows its code object -/
theorem fn_okc {P : Program} {w : World} {K : PySem.W.Frag} {mg : Str → Option Value} {base : Heap} {CX : CXT} {N ps : List Str} {k : Nat} {sp : Sp} {x qual : Str} {params : Arguments} {body : List Stmt} {scope : Scope} {dvs : List V} {kws : List (Str × V)} {p : Defn} {fd : FuncData}
    (F : FunD K x qual params body scope dvs kws (fAd K p) fd) (S : FnScope N ps scope) (len : ∀ vs H Q E, sp vs H Q E → vs.length = ps.length)
    (hbody : ∀ (A : Around) (outer : List Env) (s : Shared) (H : Hp) (vs : List V) (Q : VK) (E : XK), Room k (A.deeper (envOfC qual scope s.heap.objs.size (fAd K p) (.ref (codeOf K p)))) → sp vs H Q E →
      ∃ t, PSs (cxOf CX P w K mg base N qual scope (fAd K p) (.ref (codeOf K p)) A outer s H E) body t ∧ t { nx := fun _ H' => Q .non H', rt := Q } (start N vs) H) : FnOk P w K mg base CX (k + 1) (fAd K p) fd ps sp := by
  obtain ⟨oc, od, dV, kV, doc, pm, an, cdv, ct, osl, rfl, lk, hcd, _, _⟩ := F.ex
  obtain ⟨c, rfl⟩ := codeIn_ref hcd
  have ec : codeOf K p = c := codeOf_eq lk rfl
  rw [ec] at hbody
  exact fn_of lk hcd S len fun A outer s H vs Q E hr hsp => hbody A outer s H vs Q E hr hsp
end XB

/-! own layer, part 7: a caught error that is kept behind the suite: isinstance, its fields -/
namespace XB
open PySem PySem.Spec PyProof.Rows L2
/-- at a: an exception that was caught, of the class cls, its dict d -/
def exv (a : Addr) (cls : Value) (d : Option Addr) : HO := .ext fun h => ∃ oe : Obj, h.get? a = some oe ∧ oe.cls = cls ∧ oe.dict = d ∧ ∃ vs, oe.data = .fields vs
theorem exv_at {P : Program} {w : World} {H : Hp} {h : Heap} {a : Addr} {cls : Value} {d : Option Addr} (hok : HOk P w H h) (e : H a = some (exv a cls d)) : ∃ oe : Obj, h.get? a = some oe ∧ oe.cls = cls ∧ oe.dict = d ∧ ∃ vs, oe.data = .fields vs := by
  have x : ObjOk P w H h a (.ext fun h => ∃ oe : Obj, h.get? a = some oe ∧ oe.cls = cls ∧ oe.dict = d ∧ ∃ vs, oe.data = .fields vs) := hok a _ e
  exact x.1
section
variable {X : Cx} {pins : List (Addr × Obj)} {σ : L2.St} {H : Hp} {s : Shared}
/-- a pinned exception is tracked from now on -/
theorem inv_track {a : Addr} {oe : Obj} {cls : Value} {d : Option Addr} (I : Inv X ((a, oe) :: pins) σ H s) (n0 : X.s_0.heap.get? a = none) (np : ∀ p ∈ X.pn ++ pins, p.1 ≠ a) (hz : Zc cls d oe) (hf : ∃ vs, oe.data = .fields vs) : Inv X pins σ (upd H a (exv a cls d)) s := by
  obtain ⟨ha, na, nL, _, nc⟩ := I.pin (a, oe) (List.mem_append_right _ List.mem_cons_self)
  have ne0 : ∀ {b : Addr} {o : Obj}, X.s_0.heap.get? b = some o → b ≠ a := fun {b o} e z => by
    rw [z, n0] at e
    cases e
  have neH : ∀ {b : Addr} {o : HO}, H b = some o → b ≠ a := fun {b o} e z => by
    have na' : H a = none := na
    rw [z, na'] at e
    cases e
  have B := I.base
  refine ⟨I.ok, I.os, I.bare, ⟨B.keep, B.slot, fun b o e n hx => ?_, B.there, fun b xs e => ?_, fun b o u e => ?_, fun b ps e => ?_⟩, I.loc, I.cell, ?_, fun x c e => ?_, fun p hp => ?_, fun b o e => ?_, I.len⟩
  · rw [upd_ne (ne0 e)]
    exact B.free b o e n hx
  · have z := B.tups b xs e
    rw [upd_ne (neH z)]
    exact z
  · have z := B.frzs b o u e
    rw [upd_ne (neH z)]
    exact z
  · obtain ⟨more, z⟩ := B.tbls b ps e
    exact ⟨more, by rw [upd_ne (neH z)]; exact z⟩
  · rw [upd_ne (Ne.symm nL)]
    exact I.free
  · have nca : c ≠ a := fun z => by
      obtain ⟨v, o, ho, hd⟩ := I.cell x c e
      rw [z] at ho
      have z2 : oe = o := Option.some.inj (ha.symm.trans ho)
      exact nc v (by show oe.data = _; rw [z2]; exact hd)
    rw [upd_ne nca]
    exact I.freeC x c e
  · have q := I.pin p (by
      rcases List.mem_append.mp hp with z | z
      · exact List.mem_append_left _ z
      · exact List.mem_append_right _ (List.mem_cons_of_mem _ z))
    exact ⟨q.1, by rw [upd_ne (np p hp)]; exact q.2.1, q.2.2⟩
  · by_cases hb : b = a
    · rw [hb, upd_same] at e
      cases e
      rw [hb]
      have pr : ∃ oe : Obj, s.heap.get? a = some oe ∧ oe.cls = cls ∧ oe.dict = d ∧ ∃ vs, oe.data = .fields vs := ⟨oe, ha, hz.1, hz.2, hf⟩
      exact ⟨pr, ⟨oe, ha⟩, fun h1 h2 ⟨o, z1, z2⟩ st => ⟨o, st _ z1, z2⟩⟩
    · rw [upd_ne hb] at e
      exact (I.hok b o e).stay (fun c u hc z => z) (fun c hc => by rw [upd_ne (neH hc)]; exact hc) fun c xs hc => by rw [upd_ne (neH hc)]; exact hc
end
/-- what the clause 'except x as n' wishes, where the error is kept: behind the suite it is tracked -/
def wKeep (K : PySem.W.Frag) (c : Value) (i : Nat) (ts : Addr → Value → Option Addr → TS) (Wout : WX) (D : Ends) : WX := fun cls d σ H =>
  ∃ b, PySem.W.exmOne K cls c = some b ∧ (b = true → ∀ a, H a = none → ts a cls d { nx := fun σ' H' => H' a = none → D.nx (σ'.set i none) (upd H' a (exv a cls d)), rt := fun _ _ => False } (σ.set i (some (.ref a))) H) ∧
    (b = false → Wout cls d σ H)
section
variable {X : Cx} {x n : Str} {c : Value} {i : Nat} {body suite : List Stmt} {b₀ : Stmt} {np pos pos' : Pos} {tb : WX → TS} {ts : Addr → Value → Option Addr → TS} {Wout : WX}
theorem ps_try_keep (hst : X.stack = X.env :: X.outer) (hfr0 : X.env.frame = some X.env.locals) (hex : X.ex = []) (hN : X.N.Nodup) (hi : X.N[i]? = some n) (hln : X.env.kindOf n = some .local) (hc : Names X x c) (tk : Takes X Wout)
    (hbody : ∀ (W : WX) (pn : List (Addr × Obj)) (xe : Value → Shared → Prop), Takes (X.tr pn xe) W → PassesOwn (model X.prog X.w) X.A X.env xe → PSs (X.tr pn xe) body (tb W))
    (hsuite : ∀ (a : Addr) (oe : Obj) (cls : Value) (d : Option Addr) (pn : List (Addr × Obj)), Zc cls d oe → (∃ vs, oe.data = .fields vs) → PSs (X.suite a ((a, oe) :: pn)) (b₀ :: suite) (ts a cls d)) :
    PS X (.Try body [.ExceptHandler (some (.Name x np)) (some n) (b₀ :: suite) pos'] [] [] pos) (fun D σ H => tb (wKeep X.K c i ts Wout D) D σ H) := by
  refine ⟨fun pins s σ H D I hyp => ?_⟩
  have okX := I.ok
  have hA : X.A.frames = some (X.env :: X.outer) := by rw [okX.frames, hst]
  refine wpAny_Try_except ?_
  have bodyRun := hbody (wKeep X.K c i ts Wout D) (X.pn ++ pins) (fun er sa => wpAny (model X.prog X.w) X.A (noteFrame er X.env) (fun _ sb => wpAny (model X.prog X.w) X.A (setFlight er none) (fun _ sc =>
    wpAny (model X.prog X.w) X.A (handleBy er X.env [.ExceptHandler (some (.Name x np)) (some n) (b₀ :: suite) pos']) (SP X pins D) X.xe sc) X.xe sb) X.xe sa) ?_ PassesOwn.looking
  · refine wpAny_mono (bodyRun.run [] s σ H D (I.toTry _) hyp) (fun fl s1 hsp => ?_) fun er s1 he => he
    cases fl with
    | next =>
      obtain ⟨σ1, H1, J1, q⟩ := hsp
      exact wpAny_execs_nil ⟨σ1, H1, J1.ofTry okX, q⟩
    | ret u =>
      obtain ⟨v, σ1, H1, J1, r, q⟩ := hsp
      exact ⟨v, σ1, H1, J1.ofTry okX, r, q⟩
    | brk =>
      obtain ⟨σ1, H1, J1, q⟩ := hsp
      exact ⟨σ1, H1, J1.ofTry okX, q⟩
    | cont =>
      obtain ⟨σ1, H1, J1, q⟩ := hsp
      exact ⟨σ1, H1, J1.ofTry okX, q⟩
  · intro u s' xx
    obtain ⟨a, B, sI, pins0, σ0, H0, cls, d, rfl, JT, nb, up, sky, na, os, ag, b, hb1, yes, no⟩ := xx
    have J : Inv X pins σ0 H0 sI := JT.ofTry okX
    rw [show (X.tr (X.pn ++ pins) _).stack = X.env :: X.outer from hst] at sky
    show wpAny (model X.prog X.w) X.A (noteFrame (.ref a) X.env) _ _ _
    refine Sky.land Zc.steady hA hfr0 sky fun h3 fl3 up3 => ?_
    have J3 : Inv X pins σ0 H0 { s' with heap := h3 } := J.landed nb fl3.1 (up.trans up3) os ag
    obtain ⟨oe3, vs3, he3, hz3, hd3⟩ := fl3.there
    have nfr : a ∉ frs (X.env :: X.outer) := fun hm => by
      obtain ⟨_, o9, e9, h9⟩ := fl3.2.2.1.mem hm
      rw [he3] at e9
      cases e9
      exact h9 _ hd3
    have nL : a ≠ X.env.locals := fun z => nfr (List.mem_filterMap.mpr ⟨X.env, List.mem_cons_self, by rw [hfr0, z]⟩)
    have nF : a ∉ X.fs := fun hm => by
      obtain ⟨e9, h9, q9⟩ := List.mem_filterMap.mp hm
      exact nfr (List.mem_filterMap.mpr ⟨e9, List.mem_cons_of_mem _ h9, q9⟩)
    have nI : sI.heap.get? a = none := by
      cases e : sI.heap.get? a with
      | none => rfl
      | some o =>
        have z := nb a o e (by rw [hst]; exact nfr)
        rw [fl3.2.1] at z
        cases z
    have n0 : X.s_0.heap.get? a = none := by
      cases e : X.s_0.heap.get? a with
      | none => rfl
      | some o =>
        obtain ⟨o2, z⟩ := J.base.there a o e (by rw [hex]; simp)
        rw [nI] at z
        cases z
    have npin : ∀ p ∈ X.pn ++ pins, p.1 ≠ a := fun p hp z => by
      have q := (J.pin p hp).1
      rw [z, nI] at q
      cases q
    have S3 := J3.suite he3 hd3 na nL nF
    refine wpAny_handleBy_cons (codeAny_handlers_test ?_) (by intro q; cases q)
    have LT : PySem.W.Looks (model X.prog X.w) h3 (typeOf (.ref a)) cls := fun A Q E s k q => wpAny_typeOf_ref (k _ _ he3) (by rw [hz3.1]; exact q)
    have LM := PySem.W.exm_one (M := model X.prog X.w) J3.kIn LT hb1
    have look : ∀ {Q : Value → Shared → Prop} {E : Value → Shared → Prop}, Q c { s' with heap := h3 } → wpAny (model X.prog X.w) (X.A.mark (some (.ref a))) (eval (.Name x np) X.env) Q E { s' with heap := h3 } := fun {Q E} q => by
      obtain ⟨g1, g2, g3⟩ := hc
      rcases g3 with g3 | ⟨g3, g4, g5⟩
      · exact ld_glob (X := X.suite a ((a, oe3) :: (X.pn ++ pins))) S3 g1 g3 q g2
      · exact ld_blt (X := X.suite a ((a, oe3) :: (X.pn ++ pins))) S3 g1 g3 g4 q g5 g2
    refine look (LM.here ?_)
    cases b with
    | false =>
      show wpAny _ X.A (handleBy (.ref a) X.env []) _ _ _
      refine wpAny_handleBy_nil ?_
      obtain ⟨z1, z2, z3, oe9, vs9, T9, oT9, ts9, he9, hz9, hd9, h19, hr9⟩ := id fl3
      unfold PySem.passOn
      refine wpAny_bind (wpAny_field he9 hd9 h19 ?_)
      rw [if_neg (show ¬ ((Value.ref T9 == Value.none) = true) from by simp)]
      have on : wpAny (model X.prog X.w) X.A (setFlight (.ref a) X.env.frame) (fun _ s4 => wpAny (model X.prog X.w) X.A (throw (.ref a) : Sem Flow) (SP X pins D) X.xe s4) X.xe { s' with heap := h3 } := by
        rw [hfr0]
        refine HandSPX.setFlight_upZ fl3 fun h4 hh4 up4 => wpAny_throw (tk _ _ ⟨a, B, sI, pins, σ0, H0, cls, d, rfl, J, nb, (up.trans up3).trans up4, .inr (.inr (by rw [hst]; exact hh4)), na, os, ag, no rfl⟩)
      first
        | exact wpAny_bind (wpAny_pure (wpAny_bind on))
        | exact wpAny_bind on
    | true =>
      refine codeAny_handlers_suite_as ?_
      refine HandSPX.lands_againZ fl3 fun h4 fl4 up4 => ?_
      have J4 : Inv X pins σ0 H0 { s' with heap := h4 } := J.landed nb fl4.1 ((up.trans up3).trans up4) os ag
      obtain ⟨oe4, vs4, he4, hz4, hd4⟩ := fl4.there
      have S4 := J4.suite he4 hd4 na nL nF
      refine store_ok (X := X.suite a ((a, oe4) :: (X.pn ++ pins))) (v := .ref a) S4 hN hi (.inl hln) rfl (fun s5 S5 => ?_) (.inr hln)
      refine wpAny_mono ((hsuite a oe4 cls d (X.pn ++ pins) hz4 ⟨_, hd4⟩).run [] s5 _ H0 _ S5 (yes rfl a na)) (fun fl s6 hsp => ?_) fun _ _ z => False.elim z
      cases fl with
      | next =>
        obtain ⟨σ6, H6, S6, q6⟩ := hsp
        have P6 : Inv X ((a, oe4) :: pins) σ6 H6 s6 := ⟨okX, S6.os, S6.bare, S6.base, S6.loc, S6.cell, S6.free, S6.freeC, fun p hp => S6.pin p (by
          rw [List.append_nil]
          rcases List.mem_append.mp hp with z | z
          · exact List.mem_cons_of_mem _ (List.mem_append_left _ z)
          · rcases List.mem_cons.mp z with z | z
            · rw [z]
              exact List.mem_cons_self
            · exact List.mem_cons_of_mem _ (List.mem_append_right _ z)), S6.hok, S6.len⟩
        refine gone_ok P6 hN hi hln fun s7 J7 => ⟨_, _, inv_track J7 n0 npin hz4 ⟨_, hd4⟩, q6 (J7.pin (a, oe4) (List.mem_append_right _ List.mem_cons_self)).2.1⟩
      | ret u =>
        obtain ⟨_, _, _, _, _, q6⟩ := hsp
        exact q6.elim
      | brk =>
        obtain ⟨_, _, _, q6⟩ := hsp
        exact q6.elim
      | cont =>
        obtain ⟨_, _, _, q6⟩ := hsp
        exact q6.elim
end
end XB

/-! own layer, part 8: isinstance of a kept error, its fields; raise of an own error -/
namespace PySem.W
open PySem PySem.Spec PySem.Calls PyProof.Rows
section
variable {prog : Program} {w : World} {A : Around} {E : Value → Shared → Prop} {s : Shared} {K : Frag} {x D : Addr} {ox : Obj} {od : Option Obj}
theorem xb_findObj {C : Addr} {nm : Str} {a g : Value} (c : (clsIn K C).isSome = true) (ha : findIn K (.ref C) nm = some (some a)) (hg : specialIn K a "__get__" = some (some g)) (ht : takesIn K a = some true) : findObj K C od nm = some (.bind g a) := by
  obtain ⟨cd, e⟩ := Option.isSome_iff_exists.mp c
  unfold findObj
  rw [e, Option.bind_some, ha, Option.bind_some]
  simp [hg, ht]
/-- x.__class__, x an exception with or without its dict -/
theorem xb_class {Q : Option Value → Shared → Prop} (c : L2.ExcC K D) (X : K.In s.heap) (J : InstAt s.heap x ox D od) (h : Q (some (.ref D)) { s with toks := s.toks + 1 }) : wpAny (model prog w) A (getAttr? (.ref x) "__class__") Q E s := by
  have f : findObj K D od "__class__" = some (.bind (.builtin "getset_descriptor.__get__") (.builtin "object.__class__")) := xb_findObj (by obtain ⟨cd, e, _⟩ := any_some c.hd; rw [e]; rfl) c.ha c.hn c.ht
  obtain ⟨hp, gs, dr, tk, osv⟩ := s
  have T0 := J.type (M := model prog w)
  have T1 := looks_findIn (M := model prog w) X c.hg
  have T2 := looks_findIn (M := model prog w) X c.hk
  have T3 := looks_find (M := model prog w) X J f
  have isB : Looks (model prog w) hp (isInstance (.ref x) (.type "BaseException")) true := T0.andThen (looks_subIn X c.hs)
  have ng : (Value.builtin "BaseException.__getattribute__" == Value.builtin "object.__getattribute__") = false := by decide +kernel
  have n1 : (onTheHeap (Value.ref D) && Value.builtin "BaseException.__getattribute__" == Value.builtin "object.__getattribute__") = false := by rw [ng]; rfl
  have n2 : (false && onTheHeap (Value.builtin "BaseException.__getattribute__")) = false := rfl
  unfold getAttr? getAttrBy? getAttrBy
  refine wpAny_bind (wpAny_mkText (wpAny_bind (wpAny_attempt (wpAny_holding (wpAny_bind (T0.at (wpAny_bind (T1.at ?_))))))))
  show wpAny _ _ (if (onTheHeap (Value.ref D) && Value.builtin "BaseException.__getattribute__" == Value.builtin "object.__getattribute__") = true then _ else _) _ _ _
  rw [n1, if_neg Bool.false_ne_true]
  unfold getAttrByItsOwn hookBefore
  refine wpAny_bind ?_
  rw [if_pos (show onTheHeap (Value.ref D) = true from rfl)]
  refine T2.at (wpAny_bind (wpAny_attempt (wpAny_holding ?_)))
  unfold callGetattribute
  rw [n2, if_neg Bool.false_ne_true]
  unfold boundAndCalled
  rw [PySem.F.excAttr_ValueError.ga.bind (.ref x)]
  refine wpAny_bind (wpAny_pure ?_)
  show wpAny _ _ (call (.builtin "BaseException.__getattribute__") [.ref x, .str "__class__" tk]) _ _ _
  refine wpAny_call (codeAny_call_builtin PySem.F.excAttr_ValueError.ga.plain PySem.F.entry_bexc_ga ?_)
  refine @check_slot (model prog w) _ _ ⟨hp, gs, dr, tk + 1, osv⟩ "BaseException.__getattribute__" "BaseException" "__getattribute__" (.ref x) [.str "__class__" tk] [] _ (by decide +kernel) (by decide +kernel) isB (PySem.F.args_bexc_ga (.ref x) (.str "__class__" tk)) ?_
  unfold Builtin.«object.__getattribute__»
  refine wpAny_bind (wpAny_of_eq (a := ((Value.ref x : Value), [Value.str "__class__" tk])) (by first | rfl | (simp only [slotArgs]; rfl)) ?_)
  refine wpAny_bind (wpAny_pure (wpAny_bind (T0.at (wpAny_bind (T3.at ?_)))))
  show wpAny _ _ (holding [Value.builtin "object.__class__"] (call (.builtin "getset_descriptor.__get__") [.builtin "object.__class__", .ref x, .ref D]) >>= ret) _ _ _
  refine wpAny_bind (wpAny_holding (wpAny_call (class_get (s := ⟨hp, gs, dr, tk + 1, osv⟩) (ox := ox) (od := od) X J c.hm ?_)))
  refine wpAny_pure ?_
  show wpAny _ _ (handedOut (.ref D)) _ _ _
  rw [handedOut_of (v := .ref D) rfl]
  first
    | exact wpAny_pure (wpAny_pure h)
    | exact wpAny_pure h
    | exact wpAny_pure (wpAny_bind (wpAny_pure (wpAny_pure h)))
theorem xb_kit (c : L2.ExcC K D) : KitX K (.ref x) (.ref D) (fun h => ∃ ox od, InstAt h x ox D od) where
  ty := fun _ _ _ ⟨_, _, J⟩ => J.type
  it := fun M h X _ => by
    obtain ⟨cd, e, _⟩ := any_some c.hd
    unfold clsIn at e
    split at e
    · rename_i c1 d1 cd1 s1 hC
      exact fun A1 Q1 E1 s2 k q => wpAny_bind (wpAny_loadPart (k _ _ (X _ _ hC)) (wpAny_pure q))
    · cases e
  ne := fun h tp dd its n sl X e => (handS_kitx_exc (x := x) (ox := { cls := .none, data := .plain }) c.hg c.hk c.hs c.hd c.ha c.hn c.ht c.hm).ne h tp dd its n sl X e
  ca := fun X ⟨_, _, J⟩ k => xb_class c X J k
end
end PySem.W
namespace XB
open PySem PySem.Spec PyProof.Rows L2
section
variable {X : Cx}
/-- the kept error at a, with its fields -/
structure Kept (K : PySem.W.Frag) (H : Hp) (a D : Addr) (fs : List (Str × V)) : Prop where
  ex : ∃ dd : Addr, H a = some (exv a (.ref D) (some dd)) ∧ H dd = some (.xd fs)
  cls : ExcC K D
theorem Kept.inst {pins : List (Addr × Obj)} {σ : L2.St} {H : Hp} {s : Shared} {a D : Addr} {fs : List (Str × V)} (I : Inv X pins σ H s) (k : Kept X.K H a D fs) :
    ∃ (oe od : Obj) (mA : Str → Option Value), PySem.W.InstAt s.heap a oe D (some od) ∧ (∀ f, RelO (fs.lookup f) (mA f)) ∧ ∀ y, PySem.W.lookIn y od = some (mA y) := by
  obtain ⟨dd, e1, e2⟩ := k.ex
  obtain ⟨oe, h1, h2, h3, vs, h4⟩ := exv_at I.hok e1
  have hx : ObjOk X.prog X.w H s.heap dd (.xd fs) := I.hok dd _ e2
  obtain ⟨mA, hns, hr⟩ := hx
  obtain ⟨od, ho, hl⟩ := lookIn_ns hns
  exact ⟨oe, od, mA, ⟨h1, h2, by unfold PySem.W.notCls; rw [h4] <;> rfl, by rw [h3]; exact ho⟩, hr, hl⟩
/-- isinstance(e, C), e a kept error -/
def rIsV (K : PySem.W.Frag) : List V → Hp → VK → Prop := fun xs H Q => ∃ (a D : Addr) (fs : List (Str × V)) (c : V) (u : Value) (b : Bool), xs = [.ref a, c] ∧ Kept K H a D fs ∧ ClsV c u ∧ PySem.W.kitOne K (.ref D) u = some b ∧ Q (.bl b) H
theorem call_isV : CallR X (.builtin "isinstance") (rIsV X.K) := by
  intro pins s σ H xs us Q I r h
  obtain ⟨a, D, fs, c, u, b, rfl, kp, k, e, q⟩ := h
  obtain ⟨u1, u2, rfl, r1, r2⟩ := vals2 r
  have e2 := k.eq r2
  subst e2
  obtain rfl : u1 = Value.ref a := r1
  obtain ⟨oe, od, _, J, _⟩ := kp.inst I
  exact PySem.W.kia_one (PySem.W.xb_kit kp.cls) I.kIn ⟨oe, some od, J⟩ e (fun z => nomatch z) fun tk => ⟨.bl b, H, I.tok tk, rfl, q⟩
/-- .. a tuple of classes -/
def rIsVT (K : PySem.W.Frag) : List V → Hp → VK → Prop := fun xs H Q => ∃ (a D tp : Addr) (fs : List (Str × V)) (cs : List V) (us : List Value) (b : Bool), xs = [.ref a, .ref tp] ∧ Kept K H a D fs ∧ H tp = some (.tup cs) ∧ Paired ClsV cs us ∧ PySem.W.kitAny K (.ref D) us = some b ∧ Q (.bl b) H
theorem call_isVT : CallR X (.builtin "isinstance") (rIsVT X.K) := by
  intro pins s σ H xs us Q I r h
  obtain ⟨a, D, tp, fs, cs, ws, b, rfl, kp, hT, k, e, q⟩ := h
  obtain ⟨u1, u2, rfl, r1, r2⟩ := vals2 r
  cases (show u2 = Value.ref tp from r2)
  obtain rfl : u1 = Value.ref a := r1
  obtain ⟨oe, od, _, J, _⟩ := kp.inst I
  obtain ⟨_, its, rv, o, h1, h2, n, h3⟩ := (show ObjOk X.prog X.w H s.heap tp (.tup cs) from I.hok tp _ hT)
  have e3 := ClsV.all k rv
  subst e3
  obtain ⟨oc, od2, dt, sl⟩ := o
  dsimp only at h2 h3
  subst h2 h3
  exact PySem.W.kia_tup (PySem.W.xb_kit kp.cls) I.kIn ⟨oe, some od, J⟩ h1 e (fun z => nomatch z) fun tk => ⟨.bl b, H, I.tok tk, rfl, q⟩
/-- e.f -/
theorem pe_xv {e : Expr} {te : TE} {pos : Pos} {n : Str} (he : PE X e te) (hb : attributeBase e n X.env (eval e X.env) = eval e X.env := by rfl) :
    PE X (.Attribute e n pos) (fun σ H Q => te σ H fun x H1 => ∃ a D fs v, x = .ref a ∧ Kept X.K H1 a D fs ∧ PySem.W.findIn X.K (.ref D) n = some none ∧ fs.lookup n = some v ∧ Q v H1) := by
  refine ⟨fun pins s σ H Q I h => ?_⟩
  refine attr_of hb (thn (he.run pins s σ H _ I h) fun u s1 ⟨x, H1, I1, rx, a, D, fs, v, ex, kp, no, l, q⟩ => ?_)
  subst ex
  obtain rfl : u = Value.ref a := rx
  obtain ⟨oe, od, mA, J, hr, hl⟩ := kp.inst I1
  obtain ⟨u, hu, ru⟩ := RelO.some_of (v := v) (o := mA n) (by rw [← l]; exact hr n)
  exact HandSPX.exc_get I1.kIn J kp.cls.hg kp.cls.hk kp.cls.hs (PySem.W.findObj_own kp.cls.hd no rfl (by rw [hl, hu])) (handed_of ru) ⟨v, H1, I1.tok _, ru, q⟩
end
/-! ### raise C(..) -/
/-- what the __init__ of an own error leaves: its dict with the fields -/
def spI (C : Addr) (fl : List Str) : Sp := fun vs H Q _ => ∃ a ws, vs = .ref a :: ws ∧ ws.length = fl.length ∧ H a = some (exo a C none) ∧
  ∀ d H', H d = none → d ≠ a → H' a = some (exo a C (some d)) → H' d = some (exd d (fl.zip ws).reverse) → (∀ b, b ≠ a → b ≠ d → H' b = H b) → Q .non H'
/-- a class whose instances are raised -/
structure OwnX (P : Program) (w : World) (K : PySem.W.Frag) (mg : Str → Option Value) (base : Heap) (k : Nat) (x : Str) (C : Addr) (fl : List Str) : Prop where
  ex : ∃ (fI : Addr) (fd : FuncData) (ps : List Str), OexC K C ∧ PySem.W.findIn K (.ref C) "__init__" = some (some (.ref fI)) ∧ PySem.W.typeIn K (.ref fI) = some (.type "function") ∧ FnOk P w K mg base (L2.CX P w) k fI fd ps (spI C fl) ∧ Binds K fd ps [] ∧ mg x = some (.ref C)
theorem OwnX.mono {P : Program} {w : World} {K : PySem.W.Frag} {mg : Str → Option Value} {base : Heap} {k j : Nat} {x : Str} {C : Addr} {fl : List Str} (c : OwnX P w K mg base k x C fl) (h : k ≤ j) : OwnX P w K mg base j x C fl := by
  obtain ⟨fI, fd, ps, a, b, t, F, r⟩ := c.ex
  exact ⟨fI, fd, ps, a, b, t, F.mono h, r⟩
section
variable {X : Cx} {k : Nat} {C : Addr} {x : Str} {fl : List Str} {e : Expr} {es : List Expr} {ta : TA} {p pos pos2 : Pos} {W : WX}
theorem ps_rs (c : OwnX X.prog X.w X.K X.mg X.base k x C fl) (hr : Room (k + 1) X.A) (hx : Passes (L2.CX X.prog X.w) X (fun _ _ _ => False)) (hc : X.calm = true) (tk : Takes X W) (hg : Gl X x) (ha : PA X (e :: es) ta)
    (hdb : (x == ("__debug__" : Str)) = false := by decide) (he : starEach (e :: es) X.env = (false, eval e X.env) :: starEach es X.env := by rfl) (hpl : (backTo pos (starEach es X.env)).any (·.1) = false := by rfl) :
    PS X (.Raise (some (.Call (.Name x p) (e :: es) [] pos)) none pos2) (fun _ σ H => ta σ H fun vs H1 => vs.length = fl.length ∧ fl.length ≤ 900 ∧ ∀ d H', H1 d = none → Same H1 H' → H' d = some (.xd (fl.zip vs).reverse) → W (.ref C) (some d) σ H') := by
  obtain ⟨fI, fd, ps, T, iC, tI, F, b, hm⟩ := c.ex
  have ha' : PA X (e :: es) (fun σ H Q => ∃ Q0 : List V → Hp → Prop, ta σ H Q0 ∧ ∀ vs H1, Q0 vs H1 → Q vs H1) := ⟨fun pos pins s σ H Q I ⟨Q0, h0, hq⟩ => wpAny_mono (ha.run pos pins s σ H Q0 I h0) (fun us s' ⟨vs, H1, I1, r, q⟩ => ⟨vs, H1, I1, r, hq _ _ q⟩) fun _ _ y => y⟩
  have pm := pmk_oex (p := p) (dvs := []) (ds := []) T iC tI F hr b .nil hx hg hm ha' hdb he hpl
  refine ⟨fun pins s σ H D I h => (ps_raise hc tk pm).run pins s σ H D I ?_⟩
  refine ⟨_, h, fun vs H1 hq => ?_⟩
  obtain ⟨l1, l2, hq⟩ := hq
  refine ⟨by omega, fun a ha0 => ?_⟩
  rw [List.append_nil]
  refine ⟨a, vs, rfl, l1, upd_same, fun d H' hd hda e1 e2 e3 => ⟨rfl, d, _, e1, e2, ?_, ?_⟩⟩
  · rw [upd_ne hda] at hd
    exact hd
  · rw [upd_ne hda] at hd
    refine hq d _ hd (fun b o e => ?_) upd_same
    have nb : b ≠ d := ne_of_none e hd
    have na : b ≠ a := ne_of_none e ha0
    rw [upd_ne nb, del_ne na, e3 b na nb, upd_ne na]
    exact e
end
end XB

/-! own layer, part 9: what a call keeps; data that stands; either of two readings of a call -/
namespace XB
open PySem PySem.Spec PyProof.Rows L2 LamX
/-- all but S and the tables stay -/
def Kp (S : List Addr) (H H' : Hp) : Prop := ∀ b o, H b = some o → b ∉ S → (∀ ps, o ≠ .tbl ps) → H' b = some o
section
variable {S S' : List Addr} {H H1 H2 : Hp} {a b p : Addr} {o : HO}
theorem Kp.refl : Kp S H H := fun _ _ h _ _ => h
theorem Kp.trans (x : Kp S H H1) (y : Kp S H1 H2) : Kp S H H2 := fun c o h n t => y c o (x c o h n t) n t
theorem Kp.sub (x : Kp S H H1) (h : ∀ c ∈ S, c ∈ S') : Kp S' H H1 := fun c o e n t => x c o e (fun z => n (h c z)) t
theorem Kp.of0 (x : Kp [] H H1) : Kp S H H1 := x.sub fun c z => absurd z (by simp)
theorem Kp.same (x : Same H H1) : Kp S H H1 := fun c o e _ _ => x c o e
theorem Kp.ext (x : ExtN H H1) : Kp S H H1 := fun c o e _ t => x c o e t
theorem Kp.toExt (x : Kp [] H H1) : ExtN H H1 := fun c o e t => x c o e (by simp) t
theorem Kp.new (x : Kp S H H1) (h : H1 p = none) : Kp S H (upd H1 p o) := x.trans (.same (same_new h))
theorem Kp.mut (x : Kp S H H1) (h : a ∈ S) : Kp S H (upd H1 a o) := x.trans fun c u e n _ => by
  rw [upd_ne (fun z => n (by rw [z]; exact h))]
  exact e
/-- what came later may be changed -/
theorem Kp.mutNew (x : Kp S H H1) (h : H a = none) : Kp S H (upd H1 a o) := fun c u e n t => by
  rw [upd_ne (ne_of_none e h)]
  exact x c u e n t
theorem Kp.drop (x : Kp (a :: S) H H1) (h : H a = none) : Kp S H H1 := fun c u e n t => x c u e (by
  intro z
  rcases List.mem_cons.mp z with z | z
  · rw [z, h] at e
    cases e
  · exact n z) t
/-- no list, no tuple, no table stands in S -/
def Ins (H : Hp) (S : List Addr) : Prop := ∀ a ∈ S, ∃ C dx fs, H a = some (.ins C dx fs)
theorem Ins.nil : Ins H [] := fun a h => absurd h (by simp)
theorem Ins.one {C dx : Addr} {fs : List (Str × V)} (h : H a = some (.ins C dx fs)) : Ins H [a] := fun c hc => by
  rw [List.mem_singleton.mp hc]
  exact ⟨C, dx, fs, h⟩
theorem Ins.out {S : List Addr} {u : HO} (i : Ins H S) (h : H b = some u) (n : ∀ C dx fs, u ≠ .ins C dx fs) : b ∉ S := fun z => by
  obtain ⟨C, dx, fs, e⟩ := i b z
  rw [h] at e
  exact n C dx fs (Option.some.inj e)
end
section
variable {K : PySem.W.Frag} {S : List Addr} {H H' : Hp} {a : Addr} {xs : List V}
theorem sqL_kp (i : Ins H S) (k : Kp S H H') (h : SqL K H a xs) : SqL K H' a xs := by
  rcases h with (h | ⟨o, h⟩) | h
  · exact .inl (.inl (k _ _ h (i.out h (by intro _ _ _ z; cases z)) (by intro _ z; cases z)))
  · exact .inl (.inr ⟨o, k _ _ h (i.out h (by intro _ _ _ z; cases z)) (by intro _ z; cases z)⟩)
  · exact .inr h
theorem sqT_kp (i : Ins H S) (k : Kp S H H') (h : SqT K H a xs) : SqT K H' a xs := by
  rcases h with (h | ⟨o, h⟩) | h
  · exact .inl (.inl (k _ _ h (i.out h (by intro _ _ _ z; cases z)) (by intro _ z; cases z)))
  · exact .inl (.inr ⟨o, k _ _ h (i.out h (by intro _ _ _ z; cases z)) (by intro _ z; cases z)⟩)
  · exact .inr h
mutual
theorem dp_kp (i : Ins H S) (k : Kp S H H') : ∀ {v : V} {d : PyData}, Dp K H v d → Dp K H' v d
  | _, _, .non => .non
  | _, _, .bl b => .bl b
  | _, _, .int i => .int i
  | _, _, .str x => .str x
  | _, _, .lst h r => .lst (sqL_kp i k h) (dps_kp i k r)
  | _, _, .tup h r => .tup (sqT_kp i k h) (dps_kp i k r)
theorem dps_kp (i : Ins H S) (k : Kp S H H') : ∀ {vs : List V} {ds : List PyData}, DpAll K H vs ds → DpAll K H' vs ds
  | _, _, .nil => .nil
  | _, _, .cons h r => .cons (dp_kp i k h) (dps_kp i k r)
end
theorem ins_kp {C dx : Addr} {fs : List (Str × V)} (k : Kp S H H') (n : a ∉ S) (h : H a = some (.ins C dx fs)) : H' a = some (.ins C dx fs) := k _ _ h n (by intro _ z; cases z)
theorem lst_kp (i : Ins H S) (k : Kp S H H') (h : H a = some (.lst xs)) : H' a = some (.lst xs) := k _ _ h (i.out h (by intro _ _ _ z; cases z)) (by intro _ z; cases z)
theorem code_kp {c : Addr} {q : Str} (i : Ins H S) (k : Kp S H H') (h : H c = some (CodeO c q)) : H' c = some (CodeO c q) := k _ _ h (i.out h (by intro _ _ _ z; unfold CodeO at z; cases z)) (by intro _ z; exact codeO_ne _ z)
end
/-- all but S and the tables stay; the tables go on telling -/
structure Kt (T : List (Addr × Str)) (S : List Addr) (H H' : Hp) : Prop where
  k : Kp S H H'
  t : Tabs T H → Tabs T H'
  g : ∀ b, H' b = none → H b = none
section
variable {T : List (Addr × Str)} {S S' : List Addr} {H H1 H2 : Hp} {a b p : Addr} {o u : HO}
theorem Kt.refl : Kt T S H H := ⟨.refl, id, fun _ e => e⟩
theorem Kt.trans (x : Kt T S H H1) (y : Kt T S H1 H2) : Kt T S H H2 := ⟨x.k.trans y.k, fun h => y.t (x.t h), fun b e => x.g b (y.g b e)⟩
theorem Kt.sub (x : Kt T S H H1) (h : ∀ c ∈ S, c ∈ S') : Kt T S' H H1 := ⟨x.k.sub h, x.t, x.g⟩
theorem Kt.of0 (x : Kt T [] H H1) : Kt T S H H1 := x.sub fun c z => absurd z (by simp)
theorem Kt.same (x : Same H H1) : Kt T S H H1 := ⟨.same x, fun h => h.ext x, fun b e => by
  cases q : H b with
  | none => rfl
  | some u =>
    rw [x b u q] at e
    cases e⟩
theorem Kt.ext (x : ExtN H H1) (h : Tabs T H1) (g : ∀ b, H1 b = none → H b = none) : Kt T S H H1 := ⟨.ext x, fun _ => h, g⟩
theorem Kt.new (x : Kt T S H H1) (h : H1 p = none) : Kt T S H (upd H1 p o) := x.trans (.same (same_new h))
/-- what tables and code objects are not -/
def Soft (u : HO) : Prop := (∀ ps, u ≠ .tbl ps) ∧ ∀ c q, u ≠ CodeO c q
theorem soft_ins {C dx : Addr} {fs : List (Str × V)} : Soft (.ins C dx fs) := ⟨fun _ z => (by cases z), fun c q z => (by unfold CodeO at z; cases z)⟩
theorem soft_lst {xs : List V} : Soft (.lst xs) := ⟨fun _ z => (by cases z), fun c q z => (by unfold CodeO at z; cases z)⟩
theorem tabs_upd (h : Tabs T H) (e : H a = some u) (su : Soft u) : Tabs T (upd H a o) := fun q hq => by
  obtain ⟨ps, h1, h2, h3⟩ := h q hq
  refine ⟨ps, by rw [upd_ne (fun z => by rw [z, e] at h1; exact su.1 _ (Option.some.inj h1))]; exact h1, h2, fun pos cv hc => ?_⟩
  obtain ⟨c, e1, e2⟩ := h3 pos cv hc
  exact ⟨c, e1, by rw [upd_ne (fun z => by rw [z, e] at e2; exact su.2 _ _ (Option.some.inj e2))]; exact e2⟩
theorem Kt.mut (x : Kt T S H H1) (h : a ∈ S) (e : H1 a = some u) (su : Soft u) : Kt T S H (upd H1 a o) := ⟨x.k.mut h, fun z => tabs_upd (x.t z) e su, fun b e2 => x.g b (NdefX.upd_none e2)⟩
theorem Kt.mutNew (x : Kt T S H H1) (h : H a = none) (e : H1 a = some u) (su : Soft u) : Kt T S H (upd H1 a o) := ⟨x.k.mutNew h, fun z => tabs_upd (x.t z) e su, fun b e2 => x.g b (NdefX.upd_none e2)⟩
theorem Kt.drop (x : Kt T (a :: S) H H1) (h : H a = none) : Kt T S H H1 := ⟨x.k.drop h, x.t, x.g⟩
end
/-- the lists of data: one value behind the other -/
theorem dps_get {K : PySem.W.Frag} {H : Hp} : ∀ {vs : List V} {ds : List PyData} {i : Nat} {d : PyData}, DpAll K H vs ds → ds[i]? = some d → ∃ v, vs[i]? = some v ∧ Dp K H v d
  | _, _, _, _, .nil, e => by simp at e
  | _, _, 0, _, .cons h _, e => by
    simp at e
    subst e
    exact ⟨_, rfl, h⟩
  | _, _, i + 1, d, .cons _ r, e => by
    obtain ⟨v, e1, e2⟩ := dps_get (i := i) (d := d) r (by simpa using e)
    exact ⟨v, by simpa using e1, e2⟩
theorem dps_str {K : PySem.W.Frag} {H : Hp} : ∀ {vs : List V} {ws : List Str}, DpAll K H vs (ws.map PyData.str) → vs = ws.map V.str
  | _, [], .nil => rfl
  | _, w :: ws, .cons h r => by
    cases h
    rw [dps_str r, List.map_cons]
theorem dps_int {K : PySem.W.Frag} {H : Hp} : ∀ {vs : List V} {ws : List Int}, DpAll K H vs (ws.map PyData.int) → vs = ws.map V.int
  | _, [], .nil => rfl
  | _, w :: ws, .cons h r => by
    cases h
    rw [dps_int r, List.map_cons]
/-- either of two readings -/
theorem call_or {X : Cx} {f : Value} {r1 r2 : List V → Hp → VK → Prop} (h1 : CallR X f r1) (h2 : CallR X f r2) : CallR X f (fun xs H Q => r1 xs H Q ∨ r2 xs H Q) := fun pins s σ H xs us Q I r h => h.elim (fun q => h1 pins s σ H xs us Q I r q) fun q => h2 pins s σ H xs us Q I r q
theorem op_or {X : Cx} {f : Value → Value → Sem Value} {r1 r2 : V → V → Hp → VK → Prop} (h1 : OpR X f r1) (h2 : OpR X f r2) : OpR X f (fun x y H Q => r1 x y H Q ∨ r2 x y H Q) := fun pins s σ H x y u v Q I ru rv h => h.elim (fun q => h1 pins s σ H x y u v Q I ru rv q) fun q => h2 pins s σ H x y u v Q I ru rv q
theorem putF_len (f : Str) (v : V) : ∀ fs : List (Str × V), (putF f v fs).length ≤ fs.length + 1
  | [] => Nat.le_refl _
  | (g, x) :: r => by
    unfold putF
    split
    · simp
    · have := putF_len f v r
      simp
      omega
/-- .. within a comprehension's block -/
theorem pi_tupK {X : Cx} {K : PySem.W.Frag} {tg e : Expr} {te : TE} (hK : X.K = K) (h : PE X e te) : PI X tg e (iTup K te) := by
  subst hK
  exact pi_tup h
theorem pi_listK {X : Cx} {K : PySem.W.Frag} {tg e : Expr} {te : TE} (hK : X.K = K) (h : PE X e te) : PI X tg e (iList K te) := by
  subst hK
  exact pi_list h
section
variable {X : Cx} {o e : Expr} {to te : TE} {apos pos : Pos}
/-- join, split: every premise is written (so that what is wished is known when the parts are looked at) -/
theorem pe_jn {K : PySem.W.Frag} (hK : X.K = K) (hs : starEach [e] X.env = [(false, eval e X.env)]) (hbase : attributeBase o "join" X.env (eval o X.env) = eval o X.env) (hline : (apos.endLine == pos.line) = true) (ho : PE X o to) (he : PE X e te) :
    PE X (.Call (.Attribute o "join" apos) [e] [] pos) (tM1 (fun x xs H Q => ∃ a p, ∃ ys : List Str, x = .str a ∧ xs = [.ref p] ∧ (SqL K H p (ys.map V.str) ∨ SqT K H p (ys.map V.str)) ∧ (ys.map (·.length)).sum + ys.length * a.length ≤ 16777216 ∧ Q (.str (Txt.join a ys)) H) to te) := by
  subst hK
  exact pe_join ho he hs hbase hline
theorem pe_sp (hs : starEach [e] X.env = [(false, eval e X.env)]) (hbase : attributeBase o "split" X.env (eval o X.env) = eval o X.env) (hline : (apos.endLine == pos.line) = true) (ho : PE X o to) (he : PE X e te) :
    PE X (.Call (.Attribute o "split" apos) [e] [] pos) (tM1 (fun x xs H Q => ∃ a b, x = .str a ∧ xs = [.str b] ∧ (b.length == 0) = false ∧ a.length + 2 ≤ sizeLine ∧ rNewStrs (Txt.split a b) H Q) to te) :=
  pe_split ho he hs hbase hline
end
/-- a method as a value -/
theorem met_v {P : Program} {w : World} {K : PySem.W.Frag} {mg : Str → Option Value} {base : Heap} {k : Nat} {C g : Addr} {m : Str} {sp : Sp} (c : Met P w K mg base k C m sp) (h : Meth K C m g) (kin : K.In base) : CalV P w K mg base k g sp := by
  obtain ⟨f, fd, ps, _, hm, F, b⟩ := c.ex
  have e : f = g := by
    have z := hm.at_.symm.trans h.at_
    simpa using z
  subst e
  exact CalA.v ⟨fd, ps, F, hm.kp, b⟩ kin
/-- the value of a text that may lack -/
def vO : Option Str → V
  | some w => .str w
  | none => .non
/-- nothing that comes out is no matter -/
theorem pX0 {P : Program} {w : World} {K : PySem.W.Frag} {mg : Str → Option Value} {base : Heap} {N : List Str} {qual : Str} {scope : Scope} {f : Addr} {cd : Value} {A : Around} {outer : List Env} {s : Shared} {H : Hp} {E : XK} :
    Passes (L2.CX P w) (cxOf (L2.CX P w) P w K mg base N qual scope f cd A outer s H E) (fun _ _ _ => False) := fun pins σ H1 s1 e s' I c =>
  passes_call (X := cxOf (L2.CX P w) P w K mg base N qual scope f cd A outer s H E) (takes_of rfl rfl rfl rfl) (fun _ _ _ _ h => h.elim) pins σ H1 s1 e s' I c
/-- within a lambda's frame: own errors come out -/
theorem pXn {P : Program} {w : World} {K : PySem.W.Frag} {mg : Str → Option Value} {base : Heap} {N : List Str} {F : NdefX.NF} {f : Addr} {A : Around} {outer : List Env} {s : Shared} {H : Hp} {E : XK} :
    Passes (L2.CX P w) (NdefX.ncx (L2.CX P w) P w K mg base N F f A outer s H E) E := fun pins σ H1 s1 e s' I c =>
  passes_call (X := NdefX.ncx (L2.CX P w) P w K mg base N F f A outer s H E) (takes_of rfl rfl rfl rfl) (fun _ _ _ _ h => h) pins σ H1 s1 e s' I c
end XB

/-! own layer, part 10: what a comprehension has gathered so far -/
namespace XB
open PySem PySem.Spec PyProof.Rows L2 LamX
theorem it1 {A B : Prop} (h : A) : if true = true then A else B := by
  rw [if_pos rfl]
  exact h
theorem it0 {A B : Prop} (h : B) : if false = true then A else B := by
  rw [if_neg Bool.false_ne_true]
  exact h
theorem map_range_getD {α β : Type} (l : List α) (d : α) (f : α → β) : (List.range l.length).map (fun i => f (l.getD i d)) = l.map f := by
  refine List.ext_getElem? fun i => ?_
  rw [List.getElem?_map, List.getElem?_map]
  by_cases h : i < l.length
  · rw [List.getElem?_range h, List.getElem?_eq_getElem h]
    show some (f (l.getD i d)) = some (f l[i])
    rw [List.getD_eq_getElem?_getD, List.getElem?_eq_getElem h]
    rfl
  · rw [List.getElem?_eq_none (by simpa using h), List.getElem?_eq_none (by simpa using h)]
    rfl
/-- a walk with any body -/
theorem walk_W {J : It} {n : Nat} {G : Hp → Prop} {Y : Nat → Hp → V → Hp → Prop} (w : Walk J n G Y) {H1 : Hp} {Qd : Hp → Prop} {Body : (Hp → Prop) → V → Hp → Prop} (Pv : Nat → Hp → Prop) (h0 : Pv 0 H1) (hG : ∀ i H, i ≤ n → Pv i H → G H)
    (hs : ∀ i x H H', i < n → Pv i H → Y i H x H' → Body (Pv (i + 1)) x H') (hd : ∀ H, Pv n H → Qd H) :
    ∃ W : Nat → Nat → Hp → Prop, (∃ m, W 0 m H1) ∧ ∀ i m H, W i m H → (J.stop i H ∧ Qd H) ∨ (J.go i H ∧ ∃ Nx : Hp → Prop, (∀ H', Nx H' → ∃ m', m' < m ∧ W (i + 1) m' H') ∧ ∀ x H', J.yld i H x H' → Body Nx x H') := by
  refine ⟨fun i m H => m = n - i ∧ i ≤ n ∧ Pv i H, ⟨n, by simp, Nat.zero_le _, h0⟩, ?_⟩
  rintro i m H ⟨rfl, hi, p⟩
  rcases Nat.lt_or_ge i n with hlt | hge
  · exact .inr ⟨w.goes i H hlt (hG i H hi p), Pv (i + 1), fun H' p' => ⟨n - (i + 1), by omega, rfl, hlt, p'⟩, fun x H' y => hs i x H H' hlt p (w.yields i H x H' hlt (hG i H hi p) y)⟩
  · obtain rfl : i = n := by omega
    exact .inl ⟨w.stops H (hG _ H hi p), hd H p⟩
theorem range_snoc {α : Type} (F : Nat → α) (i : Nat) : (List.range (i + 1)).map F = (List.range i).map F ++ [F i] := by
  rw [List.range_succ, List.map_append]
  rfl
section
variable {K : PySem.W.Frag} {T : List (Addr × Str)} {S : List Addr} {H0 H H4 : Hp} {D : Addr} {i : Nat} {y : V}
theorem fresh_out (s : Ins H0 S) (h : H0 D = none) : D ∉ S := fun z => by
  obtain ⟨_, _, _, e⟩ := s D z
  rw [h] at e
  cases e
theorem lst_stay {xs : List V} (s : Ins H0 S) (hD : H0 D = none) (k : Kt T S H H4) (h : H D = some (.lst xs)) : H4 D = some (.lst xs) := k.k _ _ h (fresh_out s hD) (by intro _ z; cases z)
/-- flat values, F by the turn -/
structure FlatP (T : List (Addr × Str)) (S : List Addr) (H0 : Hp) (D : Addr) (F : Nat → V) (i : Nat) (H : Hp) : Prop where
  d : H D = some (.lst ((List.range i).map F))
  k : Kt T S H0 H
theorem flat_0 {F : Nat → V} (hD : H0 D = none) : FlatP T S H0 D F 0 (upd H0 D (.lst [])) := ⟨upd_same, Kt.refl.new hD⟩
theorem flat_step {F : Nat → V} (p : FlatP T S H0 D F i H) (k : Kt T S H H4) (s : Ins H0 S) (hD : H0 D = none) (hi : i < sizeLine) (e : y = F i) :
    ∃ acc, H4 D = some (.lst acc) ∧ acc.length < sizeLine ∧ FlatP T S H0 D F (i + 1) (upd H4 D (.lst (acc ++ [y]))) := by
  have h4 := lst_stay s hD k p.d
  refine ⟨_, h4, by simpa using hi, ⟨by rw [upd_same, range_snoc, e], (p.k.trans k).mutNew hD h4 soft_lst⟩⟩
/-- flat values, told -/
structure FlP (T : List (Addr × Str)) (S : List Addr) (H0 : Hp) (D : Addr) (l : List V) (H : Hp) : Prop where
  d : H D = some (.lst l)
  k : Kt T S H0 H
theorem flp_0 (hD : H0 D = none) : FlP T S H0 D [] (upd H0 D (.lst [])) := ⟨upd_same, Kt.refl.new hD⟩
theorem flp_step {l : List V} (p : FlP T S H0 D l H) (k : Kt T S H H4) (s : Ins H0 S) (hD : H0 D = none) (hi : l.length < sizeLine) : ∃ acc, H4 D = some (.lst acc) ∧ acc.length < sizeLine ∧ FlP T S H0 D (l ++ [y]) (upd H4 D (.lst (acc ++ [y]))) := by
  have h4 := lst_stay s hD k p.d
  exact ⟨_, h4, hi, ⟨upd_same, (p.k.trans k).mutNew hD h4 soft_lst⟩⟩
/-- flat values of the turns that pass -/
structure FiltP (T : List (Addr × Str)) (S : List Addr) (H0 : Hp) (D : Addr) (F : Nat → V) (b : Nat → Bool) (i : Nat) (H : Hp) : Prop where
  d : H D = some (.lst (((List.range i).filter b).map F))
  k : Kt T S H0 H
theorem filt_0 {F : Nat → V} {b : Nat → Bool} (hD : H0 D = none) : FiltP T S H0 D F b 0 (upd H0 D (.lst [])) := ⟨upd_same, Kt.refl.new hD⟩
theorem filt_no {F : Nat → V} {b : Nat → Bool} (p : FiltP T S H0 D F b i H) (k : Kt T S H H4) (s : Ins H0 S) (hD : H0 D = none) (e : b i = false) : FiltP T S H0 D F b (i + 1) H4 :=
  ⟨by rw [List.range_succ, List.filter_append, List.filter_cons_of_neg (by rw [e]; simp), List.filter_nil, List.append_nil]; exact lst_stay s hD k p.d, p.k.trans k⟩
theorem filt_yes {F : Nat → V} {b : Nat → Bool} (p : FiltP T S H0 D F b i H) (k : Kt T S H H4) (s : Ins H0 S) (hD : H0 D = none) (hi : i < sizeLine) (e : b i = true) (ey : y = F i) :
    ∃ acc, H4 D = some (.lst acc) ∧ acc.length < sizeLine ∧ FiltP T S H0 D F b (i + 1) (upd H4 D (.lst (acc ++ [y]))) := by
  have h4 := lst_stay s hD k p.d
  refine ⟨_, h4, ?_, ⟨?_, (p.k.trans k).mutNew hD h4 soft_lst⟩⟩
  · rw [List.length_map]
    exact Nat.lt_of_le_of_lt (by simpa using List.length_filter_le b (List.range i)) hi
  · rw [upd_same, List.range_succ, List.filter_append, List.filter_cons_of_pos (by rw [e]), List.filter_nil, List.map_append, ey]
    rfl
/-- new lists, R by the turn -/
structure RowsP (T : List (Addr × Str)) (S : List Addr) (H0 : Hp) (D : Addr) (R : Nat → List V) (i : Nat) (H : Hp) : Prop where
  d : ∃ ls : List Addr, H D = some (.lst (ls.map V.ref)) ∧ ls.length = i ∧ ∀ j l, ls[j]? = some l → l ≠ D ∧ H l = some (.lst (R j))
  k : Kt T S H0 H
theorem rows_0 {R : Nat → List V} (hD : H0 D = none) : RowsP T S H0 D R 0 (upd H0 D (.lst [])) := ⟨⟨[], upd_same, rfl, fun j l e => by simp at e⟩, Kt.refl.new hD⟩
theorem rows_step {R : Nat → List V} {l : Addr} (p : RowsP T S H0 D R i H) (k : Kt T S H H4) (s : Ins H S) (hD : H0 D = none) (hi : i < sizeLine) (l0 : H l = none) (e : H4 l = some (.lst (R i))) :
    ∃ acc, H4 D = some (.lst acc) ∧ acc.length < sizeLine ∧ RowsP T S H0 D R (i + 1) (upd H4 D (.lst (acc ++ [.ref l]))) := by
  obtain ⟨ls, e1, e2, e3⟩ := p.d
  have h4 := k.k _ _ e1 (s.out e1 (by intro _ _ _ z; cases z)) (by intro _ z; cases z)
  have lD : l ≠ D := fun z => by
    rw [z, e1] at l0
    cases l0
  refine ⟨_, h4, by rw [List.length_map, e2]; exact hi, ⟨⟨ls ++ [l], by rw [upd_same, List.map_append]; rfl, by simp [e2], fun j m hm => ?_⟩, (p.k.trans k).mutNew hD h4 soft_lst⟩⟩
  by_cases hj : j < ls.length
  · rw [List.getElem?_append_left hj] at hm
    obtain ⟨f1, f2⟩ := e3 j m hm
    refine ⟨f1, ?_⟩
    rw [upd_ne f1]
    exact k.k _ _ f2 (s.out f2 (by intro _ _ _ z; cases z)) (by intro _ z; cases z)
  · rw [List.getElem?_append_right (by omega)] at hm
    have hj2 : j = i := by
      have := (List.getElem?_eq_some_iff.mp hm).1
      simp at this
      omega
    subst hj2
    rw [e2] at hm
    simp at hm
    subst hm
    exact ⟨lD, by rw [upd_ne lD]; exact e⟩
/-- behind the walk: as data (rows of texts) -/
theorem rows_dp {ws : List (List Str)} {n : Nat} (p : RowsP T S H0 D (fun j => (ws.getD j []).map V.str) n H) (hn : n = ws.length) : Dp K H (.ref D) (.list (ws.map fun r => .list (r.map PyData.str))) := by
  obtain ⟨ls, e1, e2, e3⟩ := p.d
  refine .lst (.of e1) (dpAll_of (by simp [e2, hn]) fun i v d h1 h2 => ?_)
  rw [List.getElem?_map] at h1 h2
  cases q : ls[i]? with
  | none =>
    rw [q] at h1
    cases h1
  | some l =>
    rw [q] at h1
    cases h1
    cases q2 : ws[i]? with
    | none =>
      rw [q2] at h2
      cases h2
    | some r =>
      rw [q2] at h2
      cases h2
      obtain ⟨_, f⟩ := e3 i l q
      rw [List.getD_eq_getElem?_getD, q2] at f
      exact .lst (.of f) (dps_strs r)
where
  dpAll_of {K : PySem.W.Frag} {H : Hp} : ∀ {vs : List V} {ds : List PyData}, vs.length = ds.length → (∀ (i : Nat) (v : V) (d : PyData), vs[i]? = some v → ds[i]? = some d → Dp K H v d) → DpAll K H vs ds
    | [], [], _, _ => .nil
    | v :: vs, d :: ds, e, h => .cons (h 0 v d rfl rfl) (dpAll_of (by simpa using e) fun i v' d' h1 h2 => h (i + 1) v' d' (by simpa using h1) (by simpa using h2))
    | [], _ :: _, e, _ => by simp at e
    | _ :: _, [], e, _ => by simp at e
end
/-! ### no list within: what stands goes on standing beside a changed list -/
mutual
def noLi : PyData → Bool
  | .list _ => false
  | .tuple ds => noLis ds
  | _ => true
def noLis : List PyData → Bool
  | [] => true
  | d :: ds => noLi d && noLis ds
end
/-- lists and instances alone stand in S -/
def Lis (H : Hp) (S : List Addr) : Prop := ∀ a ∈ S, (∃ C dx fs, H a = some (.ins C dx fs)) ∨ ∃ xs, H a = some (.lst xs)
theorem Lis.out {H : Hp} {S : List Addr} {b : Addr} {u : HO} (i : Lis H S) (h : H b = some u) (n1 : ∀ C dx fs, u ≠ .ins C dx fs) (n2 : ∀ xs, u ≠ .lst xs) : b ∉ S := fun z => by
  rcases i b z with ⟨C, dx, fs, e⟩ | ⟨xs, e⟩
  · rw [h] at e
    exact n1 C dx fs (Option.some.inj e)
  · rw [h] at e
    exact n2 xs (Option.some.inj e)
section
variable {K : PySem.W.Frag} {S : List Addr} {H H' : Hp} {a : Addr} {xs : List V}
theorem sqT_lis (i : Lis H S) (k : Kp S H H') (h : SqT K H a xs) : SqT K H' a xs := by
  rcases h with (h | ⟨o, h⟩) | h
  · exact .inl (.inl (k _ _ h (i.out h (by intro _ _ _ z; cases z) (by intro _ z; cases z)) (by intro _ z; cases z)))
  · exact .inl (.inr ⟨o, k _ _ h (i.out h (by intro _ _ _ z; cases z) (by intro _ z; cases z)) (by intro _ z; cases z)⟩)
  · exact .inr h
mutual
theorem dp_lis (i : Lis H S) (k : Kp S H H') : ∀ {v : V} {d : PyData}, noLi d = true → Dp K H v d → Dp K H' v d
  | _, _, _, .non => .non
  | _, _, _, .bl b => .bl b
  | _, _, _, .int i => .int i
  | _, _, _, .str x => .str x
  | _, _, n, .lst h r => by
    rw [noLi] at n
    cases n
  | _, _, n, .tup h r => .tup (sqT_lis i k h) (dps_lis i k (by rw [noLi] at n; exact n) r)
theorem dps_lis (i : Lis H S) (k : Kp S H H') : ∀ {vs : List V} {ds : List PyData}, noLis ds = true → DpAll K H vs ds → DpAll K H' vs ds
  | _, _, _, .nil => .nil
  | _, _, n, .cons h r => by
    rw [noLis] at n
    exact .cons (dp_lis i k (Bool.and_eq_true_iff.mp n).1 h) (dps_lis i k (Bool.and_eq_true_iff.mp n).2 r)
end
end
section
variable {K : PySem.W.Frag} {T : List (Addr × Str)} {S : List Addr} {H0 H H4 : Hp} {D : Addr} {i : Nat} {y : V}
/-- data without lists, F by the turn -/
structure DatP (K : PySem.W.Frag) (T : List (Addr × Str)) (S : List Addr) (H0 : Hp) (D : Addr) (F : Nat → PyData) (i : Nat) (H : Hp) : Prop where
  d : ∃ acc, H D = some (.lst acc) ∧ acc.length = i ∧ DpAll K H acc ((List.range i).map F)
  k : Kt T S H0 H
theorem dat_0 {F : Nat → PyData} (hD : H0 D = none) : DatP K T S H0 D F 0 (upd H0 D (.lst [])) := ⟨⟨[], upd_same, rfl, .nil⟩, Kt.refl.new hD⟩
theorem noLis_range {F : Nat → PyData} (h : ∀ j, noLi (F j) = true) : ∀ l : List Nat, noLis (l.map F) = true
  | [] => rfl
  | j :: r => by rw [List.map_cons, noLis, h j, noLis_range h r] <;> rfl
/-- one more, behind another -/
theorem dat_add {F : Nat → PyData} {acc : List V} {ds : List PyData} (hd : H4 D = some (.lst acc)) (r : DpAll K H4 acc ds) (n : noLis ds = true) (hy : Dp K H4 y (F i)) (ny : noLi (F i) = true) : DpAll K (upd H4 D (.lst (acc ++ [y]))) (acc ++ [y]) (ds ++ [F i]) := by
  have li : Lis H4 [D] := fun a ha => by
    rw [List.mem_singleton.mp ha]
    exact .inr ⟨_, hd⟩
  have k : Kp [D] H4 (upd H4 D (.lst (acc ++ [y]))) := Kp.refl.mut (by simp)
  exact dps_snoc (dps_lis li k n r) (dp_lis li k ny hy)
theorem dat_step {F : Nat → PyData} (p : DatP K T S H0 D F i H) (k : Kt T S H H4) (s : Ins H S) (hD : H0 D = none) (hDS : D ∉ S) (hi : i < sizeLine) (nl : ∀ j, noLi (F j) = true) (hy : Dp K H4 y (F i)) :
    ∃ acc, H4 D = some (.lst acc) ∧ acc.length < sizeLine ∧ DatP K T S H0 D F (i + 1) (upd H4 D (.lst (acc ++ [y]))) := by
  obtain ⟨acc, e1, e2, e3⟩ := p.d
  have h4 : H4 D = some (.lst acc) := k.k _ _ e1 hDS (by intro _ z; cases z)
  refine ⟨acc, h4, by omega, ⟨⟨acc ++ [y], upd_same, by simp [e2], ?_⟩, (p.k.trans k).mutNew hD h4 soft_lst⟩⟩
  rw [range_snoc]
  exact dat_add h4 (dps_kp s k.k e3) (noLis_range nl _) hy (nl i)
end
end XB

/-! own layer, part 11: texts cut at one sign -/
namespace XB
open PySem PySem.Spec PyProof.Rows L2
theorem spl1_hit {c : Nat} {acc r : List Nat} : TL.spl [c] 0 acc (c :: r) = acc :: TL.spl [c] 0 [] r := TL.spl_hit (by simp [TL.pre])
theorem spl1_miss {c d : Nat} {acc r : List Nat} (h : d ≠ c) : TL.spl [c] 0 acc (d :: r) = TL.spl [c] 0 (acc ++ [d]) r := TL.spl_miss (by simp [TL.pre, h])
theorem spl1_ne {c : Nat} : ∀ (l acc : List Nat), TL.spl [c] 0 acc l ≠ []
  | [], acc => by rw [TL.spl_nil]; simp
  | d :: r, acc => by
    by_cases h : d = c
    · rw [h, spl1_hit]
      simp
    · rw [spl1_miss h]
      exact spl1_ne r _
theorem spl1_len {c : Nat} : ∀ (l acc : List Nat), ∀ p ∈ TL.spl [c] 0 acc l, p.length ≤ acc.length + l.length
  | [], acc, p, hp => by
    rw [TL.spl_nil] at hp
    rw [List.mem_singleton.mp hp]
    omega
  | d :: r, acc, p, hp => by
    by_cases h : d = c
    · rw [h, spl1_hit] at hp
      rcases List.mem_cons.mp hp with z | z
      · rw [z]
        omega
      · have := spl1_len r [] p z
        simp at this ⊢
        omega
    · rw [spl1_miss h] at hp
      have := spl1_len r _ p hp
      simp at this ⊢
      omega
theorem spl1_count {c : Nat} : ∀ (l acc : List Nat), (TL.spl [c] 0 acc l).length ≤ l.length + 1
  | [], acc => by rw [TL.spl_nil]; simp
  | d :: r, acc => by
    by_cases h : d = c
    · rw [h, spl1_hit]
      have := spl1_count (c := c) r []
      simp at this ⊢
      omega
    · rw [spl1_miss h]
      have := spl1_count (c := c) r (acc ++ [d])
      simp at this ⊢
      omega
theorem spl1_one {c : Nat} : ∀ (l acc p : List Nat), TL.spl [c] 0 acc l = [p] → p = acc ++ l
  | [], acc, p, h => by
    rw [TL.spl_nil] at h
    simp at h
    rw [← h]
    simp
  | d :: r, acc, p, h => by
    by_cases e : d = c
    · rw [e, spl1_hit] at h
      exact absurd (List.cons.inj h).2 (spl1_ne r [])
    · rw [spl1_miss e] at h
      rw [spl1_one r _ p h]
      simp
/-- the separators -/
def nlS : Str := "\n"
def spS : Str := " "
theorem nl_tl : TL.tl nlS = [10] := by decide +kernel
theorem sp_tl : TL.tl spS = [32] := by decide +kernel
theorem split_tl {c : Nat} {z y : Str} (h : TL.tl y = [c]) (hk : y.cps.all (· < 256) = true) : (Txt.split z y).map TL.tl = TL.spl [c] 0 [] (TL.tl z) := by
  rw [← h]
  exact TL.split_spl z y (by rw [h]; simp) (TL.kind_ok hk)
theorem tl_len (z : Str) : (TL.tl z).length = z.length := by
  show z.cps.toList.length = z.cps.size
  simp
section
variable {c : Nat} {z y : Str}
theorem split1_ne (h : TL.tl y = [c]) (hk : y.cps.all (· < 256) = true) : Txt.split z y ≠ [] := fun e => by
  have q := split_tl (z := z) h hk
  rw [e] at q
  exact spl1_ne _ _ q.symm
theorem split1_len (h : TL.tl y = [c]) (hk : y.cps.all (· < 256) = true) : ∀ p ∈ Txt.split z y, p.length ≤ z.length := fun p hp => by
  have q := split_tl (z := z) h hk
  have m : TL.tl p ∈ TL.spl [c] 0 [] (TL.tl z) := by
    rw [← q]
    exact List.mem_map.mpr ⟨p, hp, rfl⟩
  have := spl1_len _ _ _ m
  rw [tl_len, tl_len] at this
  simpa using this
theorem split1_count (h : TL.tl y = [c]) (hk : y.cps.all (· < 256) = true) : (Txt.split z y).length ≤ z.length + 1 := by
  have q := congrArg List.length (split_tl (z := z) h hk)
  rw [List.length_map] at q
  rw [q]
  have := spl1_count (c := c) (TL.tl z) []
  rw [tl_len] at this
  exact this
theorem split1_one {p : Str} (h : TL.tl y = [c]) (hk : y.cps.all (· < 256) = true) (e : Txt.split z y = [p]) : p = z := by
  have q := split_tl (z := z) h hk
  rw [e] at q
  have r := spl1_one _ _ _ q.symm
  exact TL.ext_tl (by rw [r]; simp)
end
/-- the rows of words of a text -/
def rowsOf (z : Str) : List (List Str) := (Txt.split z nlS).map fun l => Txt.split l spS
theorem rowsOf_ne (z : Str) : rowsOf z ≠ [] := by
  unfold rowsOf
  intro e
  exact split1_ne (z := z) nl_tl (by decide +kernel) (List.map_eq_nil_iff.mp e)
theorem rowsOf_row {z : Str} {r : List Str} (h : r ∈ rowsOf z) : r ≠ [] := by
  obtain ⟨l, _, rfl⟩ := List.mem_map.mp h
  exact split1_ne sp_tl (by decide +kernel)
theorem rowsOf_word {z w : Str} {r : List Str} (h : r ∈ rowsOf z) (hw : w ∈ r) : w.length ≤ z.length := by
  obtain ⟨l, hl, rfl⟩ := List.mem_map.mp h
  exact Nat.le_trans (split1_len sp_tl (by decide +kernel) w hw) (split1_len nl_tl (by decide +kernel) l hl)
theorem rowsOf_len {z : Str} : (rowsOf z).length ≤ z.length + 1 := by
  unfold rowsOf
  rw [List.length_map]
  exact split1_count nl_tl (by decide +kernel)
theorem rowsOf_rlen {z : Str} {r : List Str} (h : r ∈ rowsOf z) : r.length ≤ z.length + 1 := by
  obtain ⟨l, hl, rfl⟩ := List.mem_map.mp h
  exact Nat.le_trans (split1_count sp_tl (by decide +kernel)) (Nat.succ_le_succ (split1_len nl_tl (by decide +kernel) l hl))
/-- one row of one word: the text itself -/
theorem rowsOf_one {z w : Str} (h : rowsOf z = [[w]]) : z = w := by
  unfold rowsOf at h
  cases e : Txt.split z nlS with
  | nil =>
    rw [e] at h
    cases h
  | cons l r =>
    rw [e, List.map_cons] at h
    obtain ⟨h1, h2⟩ := List.cons.inj h
    have r0 : r = [] := List.map_eq_nil_iff.mp h2
    rw [r0] at e
    have e1 := split1_one nl_tl (by decide +kernel) e
    have e2 := split1_one sp_tl (by decide +kernel) h1
    rw [← e1, ← e2]
end XB

/-! own layer, part 12: != of instances with an own __eq__ (object.__ne__), of lists of them -/
namespace GQ
open PySem PySem.SeqAt
open AutoSeq1 (wpAny_loadPart')
open MeetsSeq MeetsSeq2 MeetsSeq3 SeqRoads2
section
variable {prog : Program} {w : World} {A : Around} {R : Result → Shared → Prop}
/-- the loop of !=, every pair equal -/
theorem xbNeLoop (l b : Addr) (N : Nat) (I : Nat → Shared → Prop) (hl : ListI prog w A (fun er s1 => R (.error er) s1) l b N I) (done : ∀ s, I N s → R (.ok (.ret (.bool false))) s) :
    ∀ (k i : Nat), N - i = k → i ≤ N → ∀ s, I i s → wpAny (model prog w) A.in1 (Builtin.«list.__eq__.loop» ⟨[.ref l, .ref b, rawInt i, rawInt 3], []⟩) (FinOf prog w A R) (fun er s1 => R (.error er) s1) s
  | 0, i, hk, hi, s, h => by
    obtain ⟨us, vs, cu, cv, gl, gb, zl, zb, _⟩ := hl _ _ h
    have ei : i = N := by omega
    have last : R (.ok (.ret (.bool false))) s := done s (ei ▸ h)
    obtain ⟨hp, gs, dr, tk, osv⟩ := s
    wp_walk using wpAny_loadPart' gl, wpAny_loadPart' gb
    have nu : us[((i : Nat) : Int).toNat]? = none := by simp; omega
    have nv : vs[((i : Nat) : Int).toNat]? = none := by simp; omega
    rw [nu, nv]
    wp_walk using wpAny_loadPart' gl, wpAny_loadPart' gb
    show R (.ok (.ret (.bool (us.size != vs.size)))) _
    rw [zl, zb]
    simpa using last
  | k + 1, i, hk, hi, s, h => by
    obtain ⟨us, vs, cu, cv, gl, gb, zl, zb, go⟩ := hl _ _ h
    have iu : i < us.size := by omega
    have iv : i < vs.size := by omega
    have now := go iu iv
    have next := fun s2 h2 => xbNeLoop l b N I hl done k (i + 1) (by omega) (by omega) s2 h2
    obtain ⟨hp, gs, dr, tk, osv⟩ := s
    wp_walk using wpAny_loadPart' gl, wpAny_loadPart' gb
    have eu : us[((i : Nat) : Int).toNat]? = some us[i] := by simp [iu]
    have ev : vs[((i : Nat) : Int).toNat]? = some vs[i] := by simp [iv]
    have ec : ((i : Int) + 1) = ((i + 1 : Nat) : Int) := by omega
    rw [eu, ev]
    refine wpAny_bind (wpAny_mono now (fun r s2 q => ?_) fun _ _ y => y)
    obtain ⟨hr, q⟩ := q
    subst hr
    have rec_ := next s2 q
    obtain ⟨hp2, gs2, dr2, tk2, os2⟩ := s2
    wp_walk
    rw [ec]
    exact ⟨plainId_quiet plain_eq_loop _, codeAny_builtin entry_eq_loop (by
      rw [Around.under_plainId plain_eq_loop _]
      exact rec_)⟩
theorem xbListNe (l b : Addr) (N : Nat) (I : Nat → Shared → Prop) (hl : ListI prog w A (fun er s1 => R (.error er) s1) l b N I) (done : ∀ s, I N s → R (.ok (.ret (.bool false))) s) {s : Shared} (h : I 0 s) :
    wpAny (model prog w) A.in1 (Builtin.«list.__ne__» ⟨[.ref l, .ref b], []⟩) (FinOf prog w A R) (fun er s1 => R (.error er) s1) s := by
  obtain ⟨us, vs, cu, cv, gl, gb, zl, zb, _⟩ := hl _ _ h
  have rec_ := xbNeLoop (A := A) (R := R) l b N I hl done _ 0 rfl (Nat.zero_le _) s h
  obtain ⟨hp, gs, dr, tk, osv⟩ := s
  have ll := AutoSeq1.sub_list_list
  have ne : ¬ (us.size != vs.size) = true := by simp [zl, zb]
  wp_walk using wpAny_loadPart' gl, wpAny_loadPart' gb
  exact ⟨plainId_quiet plain_eq_loop _, codeAny_builtin entry_eq_loop (by
    rw [Around.under_plainId plain_eq_loop _]
    exact rec_)⟩
end
section
variable {prog : Program} {w : World} {A : Around} {E : Value → Shared → Prop} {s : Shared}
theorem xbRcListNe {l b : Addr} {N : Nat} {Q : Value → Shared → Prop} (hu : A.units < cLine) (I : Nat → Shared → Prop) (hl : ListI prog w A E l b N I) (done : ∀ s, I N s → Q (.bool false) s) (h : I 0 s) :
    wpAny (model prog w) A (richCompare .NotEq (.ref l) (.ref b)) Q E s := by
  obtain ⟨us, vs, cu, cv, gl, gb, _, _, _⟩ := hl _ _ h
  refine wpAny_richCompare_same_room (op := .NotEq) ⟨_, gl, rfl⟩ ⟨_, gb, rfl⟩ F.slot_list_ne (call_here F.slot_list_ne ⟨_, gl, rfl⟩ F.entry_list_ne (F.args_list_ne_2 _ _) ?_) hu
  exact xbListNe (R := wants (fun v s1 => v ≠ .notImplemented ∧ Q v s1) E) l b N I hl (fun s1 q => ⟨(fun x => nomatch x), done s1 q⟩) h
end
end GQ
namespace XB
open PySem PySem.Spec PyProof.Rows L2
section
variable {M : Model} {prog : Program} {w : World} {A : Around} {E : Value → Shared → Prop} {s : Shared} {K : PySem.W.Frag} {x C : Addr} {ox : Obj} {od : Option Obj}
/-- x.__ne__, object's own -/
theorem ne_bound {args : List Value} {Q : Option Value → Shared → Prop} (X : K.In s.heap) (I : PySem.W.InstAt s.heap x ox C od) (hs : PySem.W.findIn K (.ref C) "__ne__" = some (some (.builtin "object.__ne__")))
    (h : wpAny M A (call (.builtin "object.__ne__") (.ref x :: args)) (fun v => Q (some v)) E s) : wpAny M A (callSpecialIfBound? (.ref x) "__ne__" args) Q E s := by
  simp only [callSpecialIfBound?, bindSpecialIfBound?]
  refine wpAny_holding (wpAny_bind (wpAny_bind (wpAny_bind (I.type.here ((PySem.W.looks_findIn X hs).here ?_)))))
  refine wpAny_bind (wpAny_askSetting (wpAny_ite ?_))
  have tail : wpAny M A (call (.builtin "object.__ne__") ([.ref x] ++ args) >>= fun v => pure (some v)) Q E s := wpAny_bind (wpAny_mono h (fun v s' q => wpAny_pure q) fun _ _ q => q)
  split
  · exact wpAny_bind (wpAny_of_eq (F.cmp_object.ne.bind _) (wpAny_pure (by exact tail)))
  · exact wpAny_tryCatch (wpAny_bind (wpAny_of_eq (F.cmp_object.ne.bind _) (wpAny_pure (by exact tail))))
theorem ne_body {f y : Addr} {Q : Fin → Shared → Prop} (hu : A.units < cLine) (X : K.In s.heap) (I : PySem.W.InstAt s.heap x ox C od) (hs : PySem.W.findIn K (.ref C) "__eq__" = some (some (.ref f))) (hf : PySem.W.isFn K (.ref f) = true)
    (h : wpAny (model prog w) A (call (.ref f) [.ref x, .ref y]) (fun v s' => v = .bool true ∧ Q (.done (.ret (.bool false))) s') E s) : wpAny (model prog w) A (Builtin.«object.__ne__» ⟨[.ref x, .ref y], []⟩) Q E s := by
  unfold Builtin.«object.__ne__»
  repeat (first
    | with_reducible refine wpAny_cRoomFor hu ?_
    | (refine wpAny_bind (m := callSpecialIfBound? (.ref x) (Str.ofString "__eq__") [.ref y]) (PySem.W.ifBound_K X I hs hf (wpAny_mono h (fun r s' hr => by
          obtain ⟨hr1, hr2⟩ := hr
          subst hr1
          repeat (first | exact hr2 | exact wpAny_pure hr2 | (refine wpAny_bind (m := truthy (.bool _)) (wpAny_truthy_bool ?_)) | wp_step)) fun _ _ e => e)))
    | wp_step)
/-- x != y, both of the class at C, whose own == says True -/
theorem ne_rich {f y : Addr} {oy : Obj} {Q : Value → Shared → Prop} (hu : A.units + 1 < cLine) (X : K.In s.heap) (I : PySem.W.InstAt s.heap x ox C od) (hy : s.heap.get? y = some oy) (hyc : oy.cls = .ref C) (hm : PySem.W.mroIn K C (.type "object") = some true)
    (hn : PySem.W.findIn K (.ref C) "__ne__" = some (some (.builtin "object.__ne__"))) (hs : PySem.W.findIn K (.ref C) "__eq__" = some (some (.ref f))) (hf : PySem.W.isFn K (.ref f) = true)
    (h : wpAny (model prog w) A.in1 (call (.ref f) [.ref x, .ref y]) (fun v s' => v = .bool true ∧ Q (.bool false) s') E s) : wpAny (model prog w) A (richCompare .NotEq (.ref x) (.ref y)) Q E s := by
  have one : wpAny (model prog w) A (tryCompare (.ref x) "__ne__" (.ref y)) (fun r s' => r = some (.bool false) ∧ Q (.bool false) s') E s := by
    unfold tryCompare
    refine wpAny_bind (ne_bound X I hn (wpAny_call (codeAny_call_builtin F.cmp_object.ne.plain F.cmpEntry_ne (PySem.W.check_slot F.cmpKind_ne F.cmpSplit_ne (I.type.andThen (PySem.W.looks_mroIn X hm)) (F.cmpArgs_ne _ _)
      (ne_body (A := A.in1) (Nat.lt_of_succ_lt_succ (Nat.succ_lt_succ (by show A.units + 1 < cLine; exact hu))) X I hs hf (wpAny_mono h (fun v s' hv => ?_) fun _ _ e => e))))))
    obtain ⟨e1, q⟩ := hv
    first | exact ⟨e1, wpAny_pure ⟨rfl, q⟩⟩ | exact ⟨e1, wpAny_pure (wpAny_pure ⟨rfl, q⟩)⟩ | exact ⟨e1, rfl, q⟩
  unfold richCompare
  simp only [oneThing_ref]
  refine wpAny_holding (wpAny_bind (wpAny_cRoomFor (Nat.lt_of_succ_lt hu) ?_))
  rw [cmpInfo_NotEq]
  dsimp only
  refine wpAny_bind (I.type.here (wpAny_bind (wpAny_typeOf_ref hy ?_)))
  rw [hyc, show (Value.ref C != Value.ref C) = false from by simp]
  simp only [Bool.false_eq_true, if_false]
  refine wpAny_bind (wpAny_pure ?_)
  simp only [Bool.false_eq_true, if_false]
  refine wpAny_bind (wpAny_mono one (fun r s' z => ?_) fun _ _ e => e)
  obtain ⟨rfl, q⟩ := z
  exact wpAny_pure q
end
/-- != gives False for what D says, and only makes objects -/
def RcN (X : Cx) (n : Nat) (D : Eqv) : Prop :=
  ∀ (A : Around) (pins : List (Addr × Obj)) (s : Shared) (σ : L2.St) (H : Hp) (x y : V) (u v : Value), Sub X n A → Inv X pins σ H s → RelV x u → RelV y v → D x y H →
    wpAny (model X.prog X.w) A (richCompare .NotEq u v) (fun r s' => r = .bool false ∧ ∃ H', Inv X pins σ H' s' ∧ Ext H H') X.xe s
section
variable {X : Cx} {n : Nat} {D : Eqv}
theorem rcN_ins {CX : CXT} {C f : Addr} {fd : FuncData} {ps : List Str} {R : Addr → Addr → Hp → Prop} {E : XK} (G : FnOk X.prog X.w X.K X.mg X.base CX n f fd ps (spEq R)) (hm : PySem.W.mroIn X.K C (.type "object") = some true)
    (hn : PySem.W.findIn X.K (.ref C) "__ne__" = some (some (.builtin "object.__ne__"))) (hs : PySem.W.findIn X.K (.ref C) "__eq__" = some (some (.ref f))) (hf : PySem.W.isFn X.K (.ref f) = true) (hb : Binds X.K fd ps []) (hx : Passes CX X E) : RcN X (n + 1) (DIns C R) := by
  intro A pins s σ H x y u v sb I rx ry d
  obtain ⟨a, b, dx, dy, fs, gs, rfl, rfl, ha, hb', hr⟩ := d
  cases rx
  cases ry
  obtain ⟨mA, JA, _⟩ := ins_get I.hok ha
  obtain ⟨mB, JB, _⟩ := ins_get I.hok hb'
  obtain ⟨oA, JA, _⟩ := JA.look
  obtain ⟨oB, JB, _⟩ := JB.look
  have un := sb.room.un
  refine ne_rich (by omega) I.kIn JA JB.at_ JB.cls hm hn hs hf ?_
  have want : spEq R [.ref a, .ref b] H (fun v H' => v = .bl true ∧ Ext H H') E := ⟨a, b, rfl, hr, fun H' e => ⟨rfl, e⟩⟩
  have e0 : Env0 X.prog X.w X.K X.mg X.base A.in1 X.stack s H := by
    have e := I.env0
    exact ⟨by show A.frames = _; rw [sb.fr]; exact e.frames, e.mod, e.bs, e.bsz, e.funs, e.frf, e.hok, e.bare⟩
  have hl := G.len _ _ _ _ want
  have r2 : Vals [V.ref a, V.ref b] [Value.ref a, Value.ref b] := .cons rfl (.cons rfl .nil)
  refine wpAny_call (codeAny_mono (G.run A.in1 X.stack s H ⟨[.ref a, .ref b], []⟩ [.ref a, .ref b] [.ref a, .ref b] _ E sb.room.in1 e0 (by
    have q := hb s [.ref a, .ref b] I.kIn (by simpa using hl)
    simpa using q) r2 want) fun r s' hq => ?_)
  cases r with
  | error er => exact hx pins σ H s er s' I hq
  | ok fl =>
    cases fl with
    | ret z =>
      obtain ⟨v', H', I', rz, ez, ex⟩ := I.after hq
      subst ez
      cases rz
      exact ⟨rfl, rfl, H', I', ex⟩
    | next => exact hq.elim
    | brk => exact hq.elim
    | cont => exact hq.elim
theorem rcN_list (hD : Mon D) (h : EqG X n D) : RcN X (n + 1) (DList D) := by
  intro A pins s σ H x y u v sb I rx ry d
  obtain ⟨a, b, xs, ys, rfl, rfl, ha, hb, p⟩ := d
  cases rx
  cases ry
  refine GQ.xbRcListNe (N := xs.length) sb.room.units0 (fun _ s1 => LoopI X pins σ H s1) (fun i s1 q => ?_) (fun s1 q => ⟨rfl, q⟩) ⟨H, I, Ext.rfl'⟩
  obtain ⟨H1, I1, e1⟩ := id q
  obtain ⟨z, its, k, r, e⟩ := I1.hok a _ (e1 _ _ ha)
  obtain ⟨z2, its2, k2, r2, e2⟩ := I1.hok b _ (e1 _ _ hb)
  exact ⟨its.toArray, its2.toArray, k, k2, e, e2, by rw [List.size_toArray, ← r.length], by rw [List.size_toArray, ← r2.length, ← p.1], fun h1 h2 => turnG hD h sb p r r2 i h1 h2 s1 q⟩
/-- x != y as an expression -/
def rNeG (D : Eqv) : R2 := fun x y H Q => D x y H ∧ ∀ H', Ext H H' → Q (.bl false) H'
theorem op_neG (h : RcN X n D) (hr : Room n X.A) : OpR X (compareOp .NotEq) (rNeG D) := by
  intro pins s σ H x y v u Q I rx ry hq
  obtain ⟨d, q⟩ := hq
  show wpAny (model X.prog X.w) X.A (richCompare .NotEq v u) (EP X pins σ Q) X.xe s
  refine wpAny_mono (h X.A pins s σ H x y v u ⟨hr, rfl⟩ I rx ry d) (fun r s' z => ?_) fun _ _ e => e
  obtain ⟨z1, H', I', e⟩ := z
  subst z1
  exact ⟨.bl false, H', I', rfl, q H' e⟩
end
/-! ### data that == and repr look at -/
structure Shp (n : Nat) (d : PyData) : Prop where
  lay : d.canLay0 = true
  dep : d.depth ≤ n
theorem Shp.all : ∀ {n : Nat} {ds : List PyData}, (∀ d ∈ ds, Shp n d) → PyData.canLayAll0 ds = true ∧ PyData.depthAll ds ≤ n
  | n, [], _ => ⟨by simp [PyData.canLayAll0], by simp [PyData.depthAll]⟩
  | n, d :: r, h => by
    obtain ⟨h1, h2⟩ := Shp.all (n := n) (ds := r) fun x hx => h x (List.mem_cons_of_mem _ hx)
    have h0 := h d List.mem_cons_self
    refine ⟨?_, ?_⟩
    · rw [PyData.canLayAll0, h0.lay, h1]
      rfl
    · rw [PyData.depthAll]
      exact Nat.max_le.mpr ⟨h0.dep, h2⟩
theorem Shp.tup {n : Nat} {ds : List PyData} (h : ∀ d ∈ ds, Shp n d) : Shp (n + 1) (.tuple ds) := by
  obtain ⟨h1, h2⟩ := Shp.all h
  exact ⟨by rw [PyData.canLay0]; exact h1, by rw [PyData.depth]; omega⟩
theorem Shp.lst {n : Nat} {ds : List PyData} (h : ∀ d ∈ ds, Shp n d) : Shp (n + 1) (.list ds) := by
  obtain ⟨h1, h2⟩ := Shp.all h
  exact ⟨by rw [PyData.canLay0]; exact h1, by rw [PyData.depth]; omega⟩
theorem Shp.int {n : Nat} {i : Int} : Shp n (.int i) := ⟨by simp [PyData.canLay0], by simp [PyData.depth]⟩
theorem Shp.str {n : Nat} {x : Str} (h : x.cps.all (· < 0x110000) = true) : Shp n (.str x) := ⟨by rw [PyData.canLay0]; exact h, by simp [PyData.depth]⟩
theorem Shp.non {n : Nat} : Shp n .none := ⟨by simp [PyData.canLay0], by simp [PyData.depth]⟩
theorem Shp.ok {n : Nat} {d : PyData} (h : Shp n d) (hn : n ≤ 64) : SeqAt.shaped d = true := by
  unfold SeqAt.shaped
  rw [h.lay, decide_eq_true (show d.depth ≤ 64 from Nat.le_trans h.dep hn)]
  rfl
/-- a text of plain signs -/
def Asc (x : Str) : Prop := ∀ c ∈ TL.tl x, c < 128
theorem Asc.lay {x : Str} (h : Asc x) : x.cps.all (· < 0x110000) = true := by
  rw [← Array.all_toList]
  refine List.all_eq_true.mpr fun c hc => ?_
  have := h c hc
  rw [decide_eq_true_iff]
  omega
theorem Asc.of {x : Str} (h : (TL.tl x).all (fun c => decide (c < 128)) = true) : Asc x := fun c hc => of_decide_eq_true (List.all_eq_true.mp h c hc)
end XB
namespace XB
open PySem PySem.Spec PyProof.Rows L2
/-- what is never come to -/
theorem pe_never {X : Cx} {e : Expr} : PE X e (fun _ _ _ => False) := ⟨fun _ _ _ _ _ _ h => h.elim⟩
theorem ps_never {X : Cx} {st : Stmt} : PS X st (fun _ _ _ => False) := ⟨fun _ _ _ _ _ _ h => h.elim⟩
section
variable {X : Cx} {k i : Nat} {f : Addr} {x : Str} {sp : Sp} {p pos : Pos} {W : WX}
/-- x() in a try's body: what comes out is told with the names as they are -/
theorem pe_cvW (c : CalV X.prog X.w X.K X.mg X.base k f sp) (hr : Room k X.A) (tk : Takes X W) (hN : X.N[i]? = some x) (hv : Vis X.env.scope x)
    (hdb : (x == ("__debug__" : Str)) = false := by decide) (hcd : (x == ("__classdict__" : Str)) = false := by decide) :
    PE X (.Call (.Name x p) [] [] pos) (fun σ H Q => σ[i]? = some (some (.ref f)) ∧ sp [] H Q (fun cls d H' => W cls d σ H')) := by
  refine ⟨fun pins s σ H Q I h => ?_⟩
  obtain ⟨hs, hq⟩ := h
  refine wpAny_Call_Name_kw (thn ((pe_var (pos := p) hN hv hdb hcd).run pins s σ H (fun v H1 => v = .ref f ∧ H1 = H) I ⟨.ref f, hs, rfl, rfl⟩) fun u s1 ⟨v, H1, I1, r1, q1⟩ => ?_)
  obtain ⟨rfl, rfl⟩ := q1
  cases r1
  refine PySem.W.callWith_of (P := fun h => ∀ b o, X.base.get? b = some o → h.get? b = some o) rfl c.kp (evalArgs_nil3 ⟨I1.bk, ?_⟩)
  refine wpAny_call (codeAny_mono (c.run X.A X.stack s1 _ [] [] Q _ hr I1.env0 .nil hq) fun res s' hq => ?_)
  cases res with
  | error er => exact tk er s' (XE.of_call I1 (fun cls d H' h => h) hq)
  | ok fl =>
    cases fl with
    | ret u => exact I1.after hq
    | next => exact hq.elim
    | brk => exact hq.elim
    | cont => exact hq.elim
end
end XB

/-! own layer, part 13: l.count(x), items data of any depth -/
namespace XB
open PySem PySem.Spec PyProof.Rows L2
section
variable {X : Cx}
theorem room65 {k : Nat} {A : Around} (r : Room k A) : A.units + 65 < cLine := by
  have := r.un
  omega
def rCntD (K : PySem.W.Frag) : V → List V → Hp → VK → Prop := fun x xs H Q => ∃ (a : Addr) (y : V) (d : PyData) (ds : List PyData), x = V.ref a ∧ xs = [y] ∧ Dp K H (V.ref a) (.list ds) ∧ Dp K H y d ∧
  SeqAt.shaped (.list ds) = true ∧ SeqAt.shaped d = true ∧ Q (.int ((ds.countP fun z => PyData.eqv z d : Nat) : Int)) H
theorem mt_countD (hu : X.A.units + 65 < cLine) : MtR X "list.count" (rCntD X.K) := by
  intro pins s σ H x xs v us Q I rx rxs h
  obtain ⟨a, y, d, ds, rfl, rfl, hl, hy, sl, sd, q⟩ := h
  cases rx
  cases rxs with
  | cons ry rt =>
    rename_i uy ut
    cases rt
    obtain ⟨bs, r1⟩ := Dp.reads I d y uy hy ry
    have hxs : PyData.canLayAll0 ds = true := SeqAt.canLay_of_shaped sl
    have hroom : X.A.units + 1 + min (PyData.depthAll ds) d.depth < cLine := room_in_shaped sd hu
    cases hl with
    | lst hs ha =>
      obtain ⟨its, rv, ⟨⟨cls, dd, data, sls⟩, n, ho, hc, hdn, hdt⟩, hlen⟩ := I.list hs
      simp only at hc hdt
      subst hc hdt
      obtain ⟨as, h4⟩ := Dp.readsAll I ds _ its ha rv
      have hmap : its.map (SeqAt.readOf s.heap) = ds := SeqAt.readsAll_map ds its as hxs h4
      have hcount : its.toArray.toList.countP (fun u => PyData.eqv (SeqAt.readOf s.heap u) d) = ds.countP fun z => PyData.eqv z d := by
        rw [← hmap, List.countP_map] <;> rfl
      refine call_meets PySem.F.slot_list_count ⟨_, ho, rfl⟩ PySem.F.entry_list_count (PySem.F.args_list_count_2 _ _)
        (SeqAt.list_countAt a its.toArray n dd sls uy (fun u => PyData.eqv (SeqAt.readOf s.heap u) d)) ⟨ho, SeqAt.items_eqAt (vs := its.toArray) (show ReadsAll s.heap its.toArray.toList ds as from h4) r1 hxs (SeqAt.canLay_of_shaped sd) hroom, ?_⟩
      rw [hcount]
      exact ⟨.int _, H, I.tok _, ⟨_, rfl⟩, q⟩
end
end XB

/-! own layer, part 14: how long a joined text is, of what signs -/
namespace XB
open PySem PySem.Spec PyProof.Rows L2
section
variable {X : Cx} {K : PySem.W.Frag}
theorem ix_listK (hK : X.K = K) : IxR X (rIxL K) := by
  subst hK
  exact ix_list
theorem ix_tupK (hK : X.K = K) : IxR X (rIxT K) := by
  subst hK
  exact ix_tup
end
theorem sum_le {α : Type} (f : α → Nat) (B : Nat) : ∀ l : List α, (∀ x ∈ l, f x ≤ B) → (l.map f).sum ≤ l.length * B
  | [], _ => by simp
  | x :: r, h => by
    have h1 := sum_le f B r fun y hy => h y (List.mem_cons_of_mem _ hy)
    have h2 := h x List.mem_cons_self
    rw [List.map_cons, List.sum_cons, List.length_cons, Nat.add_mul]
    omega
theorem joinL_len (s B : Nat) : ∀ ps : List (List Nat), (∀ p ∈ ps, p.length ≤ B) → (TL.joinL [s] ps).length ≤ ps.length * (B + 1)
  | [], _ => by simp [TL.joinL]
  | [p], h => by
    have h2 := h p List.mem_cons_self
    simp [TL.joinL]
    omega
  | p :: q :: r, h => by
    have h1 := joinL_len s B (q :: r) fun y hy => h y (List.mem_cons_of_mem _ hy)
    have h2 := h p List.mem_cons_self
    have e : TL.joinL [s] (p :: q :: r) = p ++ ([s] ++ TL.joinL [s] (q :: r)) := by
      first
        | rfl
        | simp [TL.joinL]
    rw [e, List.length_append, List.length_append, List.length_cons (as := q :: r), Nat.add_mul]
    simp only [List.length_cons, List.length_nil] at h1 ⊢
    omega
theorem joinL_mem (s : Nat) (P : Nat → Prop) (hs : P s) : ∀ ps : List (List Nat), (∀ p ∈ ps, ∀ c ∈ p, P c) → ∀ c ∈ TL.joinL [s] ps, P c
  | [], _, c, hc => by simp [TL.joinL] at hc
  | [p], h, c, hc => by
    simp [TL.joinL] at hc
    exact h p List.mem_cons_self c hc
  | p :: q :: r, h, c, hc => by
    have e : TL.joinL [s] (p :: q :: r) = p ++ ([s] ++ TL.joinL [s] (q :: r)) := by
      first
        | rfl
        | simp [TL.joinL]
    rw [e] at hc
    rcases List.mem_append.mp hc with z | z
    · exact h p List.mem_cons_self c z
    · rcases List.mem_append.mp z with z | z
      · rw [List.mem_singleton.mp z]
        exact hs
      · exact joinL_mem s P hs (q :: r) (fun y hy => h y (List.mem_cons_of_mem _ hy)) c z
theorem join_tl (y : Str) (ps : List Str) : TL.tl (Txt.join y ps) = TL.joinL (TL.tl y) (ps.map TL.tl) := by
  rw [TL.join_eq]
  exact TL.tl_join y ps
theorem join1_len {y : Str} {s B : Nat} (hy : TL.tl y = [s]) {ps : List Str} (h : ∀ p ∈ ps, p.length ≤ B) : (Txt.join y ps).length ≤ ps.length * (B + 1) := by
  rw [TL.len_tl, join_tl, hy]
  have := joinL_len s B (ps.map TL.tl) fun p hp => by
    obtain ⟨q, hq, rfl⟩ := List.mem_map.mp hp
    rw [tl_len]
    exact h q hq
  rw [List.length_map] at this
  exact this
theorem join1_asc {y : Str} {s : Nat} (hy : TL.tl y = [s]) (hs : s < 128) {ps : List Str} (h : ∀ p ∈ ps, Asc p) : Asc (Txt.join y ps) := by
  intro c hc
  rw [join_tl, hy] at hc
  refine joinL_mem s (fun c => c < 128) hs _ (fun p hp => ?_) c hc
  obtain ⟨q, hq, rfl⟩ := List.mem_map.mp hp
  exact h q hq
/-- the signs of the parts are signs of the whole -/
theorem spl1_mem {s : Nat} (P : Nat → Prop) : ∀ (l acc : List Nat), (∀ c ∈ acc, P c) → (∀ c ∈ l, P c) → ∀ p ∈ TL.spl [s] 0 acc l, ∀ c ∈ p, P c
  | [], acc, h1, _, p, hp => by
    rw [TL.spl_nil] at hp
    rw [List.mem_singleton.mp hp]
    exact h1
  | d :: r, acc, h1, h2, p, hp => by
    by_cases h : d = s
    · rw [h, spl1_hit] at hp
      rcases List.mem_cons.mp hp with z | z
      · rw [z]
        exact h1
      · exact spl1_mem P r [] (by simp) (fun c hc => h2 c (List.mem_cons_of_mem _ hc)) p z
    · rw [spl1_miss h] at hp
      refine spl1_mem P r (acc ++ [d]) (fun c hc => ?_) (fun c hc => h2 c (List.mem_cons_of_mem _ hc)) p hp
      rcases List.mem_append.mp hc with z | z
      · exact h1 c z
      · rw [List.mem_singleton.mp z]
        exact h2 d List.mem_cons_self
theorem split1_asc {z y : Str} {s : Nat} (hy : TL.tl y = [s]) (hk : y.cps.all (· < 256) = true) (h : Asc z) : ∀ p ∈ Txt.split z y, Asc p := fun p hp c hc => by
  have q := split_tl (z := z) hy hk
  have m : TL.tl p ∈ TL.spl [s] 0 [] (TL.tl z) := by
    rw [← q]
    exact List.mem_map.mpr ⟨p, hp, rfl⟩
  exact spl1_mem (fun c => c < 128) _ _ (by simp) h _ m c hc
theorem rowsOf_asc {z x : Str} {r : List Str} (h : Asc z) (hr : r ∈ rowsOf z) (hx : x ∈ r) : Asc x := by
  obtain ⟨l, hl, rfl⟩ := List.mem_map.mp hr
  exact split1_asc sp_tl (by decide +kernel) (split1_asc nl_tl (by decide +kernel) h l hl) x hx
/-- rows within bounds -/
structure Gr (N R W : Nat) (rows : List (List Str)) : Prop where
  len : rows.length ≤ N
  row : ∀ r ∈ rows, r.length ≤ R
  word : ∀ r ∈ rows, ∀ x ∈ r, x.length ≤ W ∧ Asc x
theorem gr_rowsOf {z : Str} (h : Asc z) : Gr (z.length + 1) (z.length + 1) z.length (rowsOf z) := ⟨rowsOf_len, fun _ hr => rowsOf_rlen hr, fun _ hr _ hx => ⟨rowsOf_word hr hx, rowsOf_asc h hr hx⟩⟩
theorem Gr.up {N R W N' R' W' : Nat} {rows : List (List Str)} (g : Gr N R W rows) (h1 : N ≤ N') (h2 : R ≤ R') (h3 : W ≤ W') : Gr N' R' W' rows :=
  ⟨Nat.le_trans g.len h1, fun r hr => Nat.le_trans (g.row r hr) h2, fun r hr x hx => ⟨Nat.le_trans (g.word r hr x hx).1 h3, (g.word r hr x hx).2⟩⟩
theorem Gr.join_row {N R W : Nat} {rows : List (List Str)} (g : Gr N R W rows) {r : List Str} (hr : r ∈ rows) : (Txt.join spS r).length ≤ R * (W + 1) := by
  have := join1_len sp_tl (ps := r) (B := W) fun x hx => (g.word r hr x hx).1
  exact Nat.le_trans this (Nat.mul_le_mul_right _ (g.row r hr))
theorem Gr.join_len {N R W : Nat} {rows : List (List Str)} (g : Gr N R W rows) : (Txt.join nlS (rows.map (Txt.join spS))).length ≤ N * (R * (W + 1) + 1) := by
  have := join1_len nl_tl (ps := rows.map (Txt.join spS)) (B := R * (W + 1)) fun x hx => by
    obtain ⟨r, hr, rfl⟩ := List.mem_map.mp hx
    exact g.join_row hr
  rw [List.length_map] at this
  exact Nat.le_trans this (Nat.mul_le_mul_right _ g.len)
theorem Gr.join_asc {N R W : Nat} {rows : List (List Str)} (g : Gr N R W rows) : Asc (Txt.join nlS (rows.map (Txt.join spS))) := by
  refine join1_asc nl_tl (by decide) fun p hp => ?_
  obtain ⟨r, hr, rfl⟩ := List.mem_map.mp hp
  exact join1_asc sp_tl (by decide) fun x hx => (g.word r hr x hx).2
theorem Gr.sum_row {N R W : Nat} {rows : List (List Str)} (g : Gr N R W rows) {r : List Str} (hr : r ∈ rows) : (r.map (·.length)).sum + r.length ≤ R * (W + 1) := by
  have h1 := sum_le (fun x : Str => x.length) W r fun x hx => (g.word r hr x hx).1
  have h2 : r.length * W + r.length = r.length * (W + 1) := by rw [Nat.mul_add, Nat.mul_one]
  have h3 := Nat.mul_le_mul_right (W + 1) (g.row r hr)
  omega
theorem Gr.sum_all {N R W : Nat} {rows : List (List Str)} (g : Gr N R W rows) : ((rows.map (Txt.join spS)).map (·.length)).sum + rows.length ≤ N * (R * (W + 1) + 1) := by
  have h1 := sum_le (fun x : Str => x.length) (R * (W + 1)) (rows.map (Txt.join spS)) fun x hx => by
    obtain ⟨r, hr, rfl⟩ := List.mem_map.mp hx
    exact g.join_row hr
  rw [List.length_map] at h1
  have h2 : rows.length * (R * (W + 1)) + rows.length = rows.length * (R * (W + 1) + 1) := (Nat.mul_succ _ _).symm
  have h3 := Nat.mul_le_mul_right (R * (W + 1) + 1) g.len
  omega
end XB

/-! own layer, part 15: plain words; repr of data; calls by keywords alone -/
namespace XB
open PySem PySem.Spec PyProof.Rows L2
theorem spl1_free {s : Nat} : ∀ (l acc : List Nat), s ∉ acc → ∀ p ∈ TL.spl [s] 0 acc l, s ∉ p
  | [], acc, h1, p, hp => by
    rw [TL.spl_nil] at hp
    rw [List.mem_singleton.mp hp]
    exact h1
  | d :: r, acc, h1, p, hp => by
    by_cases h : d = s
    · rw [h, spl1_hit] at hp
      rcases List.mem_cons.mp hp with z | z
      · rw [z]
        exact h1
      · exact spl1_free r [] (by simp) p z
    · rw [spl1_miss h] at hp
      refine spl1_free r (acc ++ [d]) (fun hm => ?_) p hp
      rcases List.mem_append.mp hm with z | z
      · exact h1 z
      · exact h (List.mem_singleton.mp z).symm
theorem split1_free {z y : Str} {s : Nat} (hy : TL.tl y = [s]) (hk : y.cps.all (· < 256) = true) : ∀ p ∈ Txt.split z y, s ∉ TL.tl p := fun p hp => by
  have q := split_tl (z := z) hy hk
  have m : TL.tl p ∈ TL.spl [s] 0 [] (TL.tl z) := by
    rw [← q]
    exact List.mem_map.mpr ⟨p, hp, rfl⟩
  exact spl1_free _ _ (by simp) _ m
theorem split1_sub {z y : Str} {s t : Nat} (hy : TL.tl y = [s]) (hk : y.cps.all (· < 256) = true) (h : t ∉ TL.tl z) : ∀ p ∈ Txt.split z y, t ∉ TL.tl p := fun p hp hc => by
  have q := split_tl (z := z) hy hk
  have m : TL.tl p ∈ TL.spl [s] 0 [] (TL.tl z) := by
    rw [← q]
    exact List.mem_map.mpr ⟨p, hp, rfl⟩
  exact spl1_mem (fun c => c ≠ t) _ _ (by simp) (fun c hc2 e => h (e ▸ hc2)) _ m _ hc rfl
/-- a word of plain signs without what parts words -/
structure Pln (w : Str) : Prop where
  asc : Asc w
  sp : 32 ∉ TL.tl w
  nl : 10 ∉ TL.tl w
theorem Pln.of {w : Str} (h : (TL.tl w).all (fun c => decide (c < 128) && (!decide (c = 32) && !decide (c = 10))) = true) : Pln w := by
  have g : ∀ c ∈ TL.tl w, c < 128 ∧ c ≠ 32 ∧ c ≠ 10 := fun c hc => by
    have := List.all_eq_true.mp h c hc
    simp only [Bool.and_eq_true, decide_eq_true_eq, Bool.not_eq_true', decide_eq_false_iff_not] at this
    exact ⟨this.1, this.2.1, this.2.2⟩
  exact ⟨fun c hc => (g c hc).1, fun hc => (g 32 hc).2.1 rfl, fun hc => (g 10 hc).2.2 rfl⟩
theorem rowsOf_pln {z x : Str} {r : List Str} (h : Asc z) (hr : r ∈ rowsOf z) (hx : x ∈ r) : Pln x := by
  refine ⟨rowsOf_asc h hr hx, ?_, ?_⟩
  · obtain ⟨l, hl, rfl⟩ := List.mem_map.mp hr
    exact split1_free sp_tl (by decide +kernel) x hx
  · obtain ⟨l, hl, rfl⟩ := List.mem_map.mp hr
    exact split1_sub sp_tl (by decide +kernel) (split1_free nl_tl (by decide +kernel) l hl) x hx
/-- the rows of a text joined from rows of plain words: as many -/
theorem rowsOf_count {rows : List (List Str)} (h : ∀ r ∈ rows, ∀ x ∈ r, Pln x) : (rowsOf (Txt.join nlS (rows.map (Txt.join spS)))).length ≤ rows.length + 1 := by
  unfold rowsOf
  rw [List.length_map]
  cases rows with
  | nil =>
    have := split1_count (z := Txt.join nlS []) nl_tl (by decide +kernel)
    have e : (Txt.join nlS []).length = 0 := by
      rw [TL.len_tl, join_tl]
      rfl
    simp only [List.map_nil, List.length_nil] at this ⊢
    omega
  | cons r rs =>
    rw [TL.split_join (y := nlS) (s := 10) (S := []) nl_tl (by decide +kernel) (by simp) (fun p hp => ?_), List.length_map]
    · omega
    · obtain ⟨q, hq, rfl⟩ := List.mem_map.mp hp
      rw [join_tl, sp_tl]
      intro hm
      refine joinL_mem 32 (fun c => c ≠ 10) (by decide) _ (fun p hp c hc => ?_) 10 hm rfl
      obtain ⟨x, hx, rfl⟩ := List.mem_map.mp hp
      intro e
      exact (h q hq x hx).nl (e ▸ hc)
section
variable {X : Cx} {K : PySem.W.Frag}
/-- repr of a list or tuple of data -/
def rReprD (K : PySem.W.Frag) : List V → Hp → VK → Prop := fun xs H Q => ∃ (a : Addr) (d : PyData), xs = [.ref a] ∧ Dp K H (.ref a) d ∧ d.showable = true ∧ d.hasDict = false ∧ d.depth ≤ 64 ∧ d.shown.length ≤ sizeLine ∧ Q (.str d.shown) H
theorem call_reprD (hg : X.A.guards = some []) (hu : X.A.units + 65 < cLine) : CallR X (.builtin "repr") (rReprD X.K) := by
  intro pins s σ H xs us Q I r h
  obtain ⟨a, d, rfl, hd, hs, hn, hdep, hz, q⟩ := h
  obtain ⟨u, rfl, ru⟩ := r.one
  obtain ⟨as, rd⟩ := Dp.reads I d (.ref a) u hd ru
  obtain rfl : u = Value.ref a := ru
  refine repr_of_reads' rd hs (fun e => by rw [hn] at e; cases e) hg (by omega) (fun _ _ e => e) (fun h' tk tk' hk => ?_) hz
  exact ⟨.str d.shown, H, I.kept (t' := tk') hk, ⟨tk, rfl⟩, q⟩
/-- f(k = v, ..): keywords alone -/
theorem pe_ck0 {CX : CXT} {k : Nat} {f : Addr} {fd : FuncData} {ps ks : List Str} {sp : Sp} {E : XK} {x : Str} {p pos : Pos} {kws : List Keyword} {tk : TA} {g : List Value → List Value → List Value} {gV : List V → List V → List V} (F : FnOk X.prog X.w X.K X.mg X.base CX k f fd ps sp) (hr : Room k X.A) (hg : Gl X x) (hm : X.mg x = some (.ref f)) (hk : PySem.W.keepIn X.K (.ref f) = true) (hb : KBn X.K fd ps 0 ks g gV) (hx : Passes CX X E)
    (hkw : PK X kws tk) (hall : (backToKw pos (keywordEach kws X.env)).all (·.1.isSome) = true := by rfl) (hks : (backToKw pos (keywordEach kws X.env)).filterMap (·.1) = ks := by rfl)
    (hdb : (x == ("__debug__" : Str)) = false := by decide)
    (hpl : ((backTo pos (starEach [] X.env)).any (·.1) || (backToKw pos (keywordEach kws X.env)).any (·.1.isNone)) = false := by rfl) :
    PE X (.Call (.Name x p) [] kws pos) (fun σ H Q => tk σ H fun zs H1 => zs.length = ks.length ∧ sp (gV [] zs) H1 Q E) := by
  refine ⟨fun pins s σ H Q I h => ?_⟩
  refine wpAny_Call_Name_kw (ld_glob I hg hm ?_ hdb)
  refine PySem.W.callWith_KW0 (h₀ := X.base) I.ok.mod.kin hk hall (thn (hkw.run pos pins s σ H _ I h) fun ws s2 ⟨zs, H2, I2, rz, l2, q2⟩ => ⟨I2.kIn, ?_⟩) hpl
  rw [hks]
  exact run_fnN F hr hb hx I2 .nil rz rfl l2 q2
end
/-- a def of one parameter, called by its keyword -/
theorem kb_one {K : PySem.W.Frag} {x qual : Str} {params : Arguments} {body : List Stmt} {scope : Scope} {f : Addr} {fd : FuncData} {a : Str} (F : FunD K x qual params body scope [] [] f fd)
    (h : ∀ (kV doc pm : Value) (an : Option Addr) (cdv ct u : Value), bindArgs (PySem.W.fnOf x qual params body scope .none kV doc pm an cdv ct) ⟨[], [(a, u)]⟩ = pure [(a, u)]) : KBn K fd [a] 0 [a] (fun _ ws => ws) (fun _ zs => zs) := by
  obtain ⟨oc, od, dV, kV, doc, pm, an, cdv, ct, osl, rfl, lk, hcd, hD, hK⟩ := F.ex
  rcases hD with ⟨_, rfl⟩ | ⟨e, _⟩
  · refine ⟨fun s us ws _ l1 l2 => ?_, fun _ r => r⟩
    match us, l1, ws, l2 with
    | [], _, [u], _ => exact .of_eq (h kV doc pm an cdv ct u)
  · exact absurd rfl e
section
variable {X : Cx}
theorem call_tuple_ofK {K : PySem.W.Frag} (hK : X.K = K) : CallR X (.type "tuple") (fun xs H Q => ∃ p ys, xs = [.ref p] ∧ ((SqL K H p ys ∧ ∀ l, H l = none → Q (.ref l) (upd H l (.tup ys))) ∨ (SqT K H p ys ∧ Q (.ref p) H))) := by
  subst hK
  exact call_tuple_of
/-- str(x), x an int or a str -/
theorem call_str_both : CallR X (.type "str") (fun xs H Q => (∃ i, xs = [.int i] ∧ i.natAbs.log2 < 1920 ∧ Q (.str (toString i)) H) ∨ ∃ a, xs = [.str a] ∧ Q (.str a) H) := by
  intro pins s σ H xs us Q I r h
  rcases h with h | h
  · exact call_str_int pins s σ H xs us Q I r h
  · exact SkE.call_str_str pins s σ H xs us Q I r h
/-- a text times an int -/
def rMulS : R2 := fun x y H Q => ∃ z n, x = .str z ∧ y = .int n ∧ MulOk z n ∧ Q (.str (Txt.mul z n)) H
theorem op_mulS : OpR X (binaryOp .Mult) rMulS := by
  intro pins s σ H x y v u Q I rx ry h
  obtain ⟨z, n, rfl, rfl, ok, q⟩ := h
  obtain ⟨t, rfl⟩ := rx
  obtain ⟨t2, rfl⟩ := ry
  exact SB.mul ok fun t' k => ⟨.str (Txt.mul z n), H, I.tok k, ⟨t', rfl⟩, q⟩
end
end XB

/-! own layer, part 16: rules within a comprehension's block -/
namespace XB
open PySem PySem.Spec PyProof.Rows L2
section
variable {X : Cx} {K : PySem.W.Frag}
theorem op_eqDK (hK : X.K = K) (hu : X.A.units + 64 < cLine) : OpR X (compareOp .Eq) (rEqD K) := by
  subst hK
  exact op_eqD hu
theorem op_neDK (hK : X.K = K) (hu : X.A.units + 64 < cLine) : OpR X (compareOp .NotEq) (rNeD K) := by
  subst hK
  exact op_neD hu
theorem call_list_ofK (hK : X.K = K) : CallR X (.type "list") (fun xs H Q => ∃ p ys, xs = [.ref p] ∧ (SqL K H p ys ∨ SqT K H p ys) ∧ ∀ l, H l = none → Q (.ref l) (upd H l (.lst ys))) := by
  subst hK
  exact call_list_of
end
end XB

/-! own layer, part 17: the end at the claim's own caller alone: there no repr is under way, and no other frame stands -/
namespace XB
open PySem PySem.Spec PyProof.Rows L2 LamX
section
variable {P : Program} {w : World} {K : PySem.W.Frag} {mg mb : Str → Option Value} {base : Heap} {CX : CXT} {k : Nat} {s : Shared} {H : Hp}
/-- a def called by the claim's caller: its body's walk is wanted there alone -/
theorem run_c {N ps : List Str} {x qual : Str} {params : Arguments} {body : List Stmt} {scope : Scope} {dvs : List V} {kws : List (Str × V)} {p : He.Defn} {fd : FuncData} {us : List Value} {vs : List V} {args : Args} {Q : VK} {E : XK}
    (F : FunD K x qual params body scope dvs kws (He.fAd K p) fd) (S : FnScope N ps scope) (hr : Room (k + 1) callerA) (e0 : Env0 P w K mg base callerA [] s H) (hb : BindsTo s fd args (ps.zip us)) (rv : Vals vs us) (hl : vs.length = ps.length)
    (walk : ∃ t, PSs (cxOf CX P w K mg base N qual scope (He.fAd K p) (.ref (He.codeOf K p)) callerA [] s H E) body t ∧ t { nx := fun _ H' => Q .non H', rt := Q } (start N vs) H) :
    codeAny (model P w) callerA (.call (.ref (He.fAd K p)) args) (CR CX [] P w H s Q E) s := by
  obtain ⟨oc, od, dV, kV, doc, pm, an, cdv, ct, osl, rfl, lk, hcd, _, _⟩ := F.ex
  obtain ⟨c, rfl⟩ := He.codeIn_ref hcd
  rw [He.codeOf_eq lk rfl] at walk
  obtain ⟨t, ht, hq⟩ := walk
  have up : ∀ b o, base.get? b = some o → s.heap.get? b = some o := fun b o e => (e0.bs b o e).1
  have KX : K.In s.heap := e0.mod.kin.keeps up
  have kinds : ∀ y ∈ ps.zip us, scope.names.lookup y.1 = some .local ∨ (scope.names.lookup y.1 = some .cell ∧ ((cellsFrom (s.heap.objs.size + 1) scope.names []).lookup y.1).isSome = true) := by
    rintro ⟨n, v⟩ hy
    exact (S.par n (List.of_mem_zip hy).1).imp_right fun q => ⟨q, PySem.W.cellsFrom_some _ _ _ (.inl q)⟩
  refine codeAny_call_function hr.depth (KX _ _ lk) rfl S.co S.gen rfl (PySem.W.codeRec_of KX hcd) (hb _ _ _ _ (wpAny_newFunctionEnv_cells S.kind kinds fun env he s1 made => ?_))
  subst he
  refine ⟨(e0.mod.nolimit.keeps up).keeps made.toInCall.keep, codeAny_func (wpAny_mono (ht.run [] s1 (start N vs) H _ (inv_start S hr.hd e0 hl rv made) hq) (fun fl s' hs => ?_) fun _ _ hs => hs)⟩
  match fl, hs with
  | .ret u, ⟨v, σ', H', J, rv', q⟩ => exact ⟨v, H', J.os, J.bare, J.base, J.hok, rv', q⟩
  | .next, ⟨σ', H', J, q⟩ => exact ⟨.non, H', J.os, J.bare, J.base, J.hok, rfl, q⟩
  | .brk, ⟨_, _, _, q⟩ => exact q.elim
  | .cont, ⟨_, _, _, q⟩ => exact q.elim
/-- what the end asks of the law's def: its call by the claim's caller -/
def AtC (P : Program) (w : World) (K : PySem.W.Frag) (mg : Str → Option Value) (base : Heap) (CX : CXT) (fa : Addr) (sp : Sp) : Prop :=
  ∀ (s : Shared) (H : Hp) (a : Addr), Env0 P w K mg base callerA [] s H → sp [.ref a] H (fun v _ => v = .bl true) (fun _ _ _ => False) →
    codeAny (model P w) callerA (.call (.ref fa) ⟨[.ref a], []⟩) (CR CX [] P w H s (fun v _ => v = .bl true) fun _ _ _ => False) s
abbrev noneO : Obj := { cls := .none, data := .fields #[] }
/-- what is tracked as the law begins: the tables, and the script where it is not written -/
def hp0 (K : PySem.W.Frag) (ts : List Addr) (a : Addr) (o : Obj) (xs : List V) : Hp := fun b =>
  if b ∈ ts then some (.tbl #[]) else if b = a ∧ K.lookup a = none then some (.frz o (.lst xs)) else none
theorem hp0_cases {ts : List Addr} {a b : Addr} {o : Obj} {xs : List V} {u : HO} (h : hp0 K ts a o xs b = some u) : (b ∈ ts ∧ u = .tbl #[]) ∨ (b = a ∧ K.lookup a = none ∧ u = .frz o (.lst xs)) := by
  unfold hp0 at h
  split at h
  · rename_i m
    exact .inl ⟨m, (Option.some.inj h).symm⟩
  · split at h
    · rename_i m
      exact .inr ⟨m.1, m.2, (Option.some.inj h).symm⟩
    · cases h
theorem end_c {fa a : Addr} {cs : List (Addr × Addr)} {sp : Sp} {vs : List Value} {ns : List Int}
    (KX : K.In s.heap) (hns : s.heap.Ns mainGlobals mg) (hb : s.heap.Ns builtinsNs mb) (hbb : ∀ x : Str, x ≠ "__name__" → mb x = bootBuiltins x) (hlim : s.heap.NoLimit) (hg : s.gens = #[])
    (hT : ∀ p ∈ cs, s.heap.get? p.2 = some noneO) (nT : ∀ p ∈ cs, K.lookup p.2 = none) (hC : ∀ p ∈ cs, PySem.W.CodeHd s.heap p.1 p.2)
    (hbm : ∃ (bm : Addr) (ob : Obj), mg "__builtins__" = some (.ref bm) ∧ bm ≠ builtinsNs ∧ s.heap.get? bm = some ob ∧ ob.cls = .type "module" ∧ ob.dict = some builtinsNs ∧ ob.data = .plain)
    (ha : s.heap.get? a = some { cls := .type "list", data := .seq vs.toArray }) (hi : IntsAre vs ns) (hl : ns.length ≤ sizeLine)
    (F : ∀ base : Heap, K.In base → base.Ns mainGlobals mg → (∀ p ∈ cs, TabB base mg p.1 p.2) → AtC P w K mg base CX fa sp)
    (hsp : ∀ H : Hp, (∀ p ∈ cs, H p.2 = some (.tbl #[])) → SqL K H a (ns.map V.int) → sp [.ref a] H (fun v _ => v = .bl true) fun _ _ _ => False)
    (hCX : ∀ H e s', CX [] H s (fun _ _ _ => False) e s' → False) :
    codeAny (model P w) callerA (.call (.ref fa) ⟨[.ref a], []⟩) (fun r s' => r = .ok (.ret (.bool true)) ∧ OldK s.heap s'.heap ∧ s'.os = s.os ∧ AllBare s'.gens) s := by
  have vsl : (ns.map V.int).length = vs.length := by rw [List.length_map, hi.length]
  let ts := cs.map (·.2)
  let oA : Obj := { cls := .type "list", data := .seq vs.toArray }
  let H := hp0 K ts a oA (ns.map V.int)
  have tabs : ∀ b ∈ ts, s.heap.get? b = some noneO ∧ K.lookup b = none := fun b hm => by
    obtain ⟨p, hp, e⟩ := List.mem_map.mp hm
    rw [← e]
    exact ⟨hT p hp, nT p hp⟩
  have aT : a ∉ ts := fun z => by
    have q := (tabs a z).1
    rw [ha] at q
    have z' : Data.seq vs.toArray _ = Data.fields #[] := congrArg Obj.data (Option.some.inj q)
    cases z'
  have Htab : ∀ p ∈ cs, H p.2 = some (.tbl #[]) := fun p hp => if_pos (List.mem_map.mpr ⟨p, hp, rfl⟩)
  -- what is tracked is one of two objects, and not written
  have two : ∀ b u, H b = some u → K.lookup b = none ∧ (s.heap.get? b = some noneO ∨ s.heap.get? b = some oA) := fun b u h => by
    rcases hp0_cases h with ⟨m, _⟩ | ⟨rfl, n, _⟩
    · exact ⟨(tabs b m).2, .inl (tabs b m).1⟩
    · exact ⟨n, .inr ha⟩
  have off : ∀ {b : Addr} {o : Obj}, s.heap.get? b = some o → (∀ n, o.data ≠ .seq vs.toArray n) → o.data ≠ .fields #[] → H b = none := fun {b o} e h1 h2 => by
    cases q : H b with
    | none => rfl
    | some u =>
      rcases (two b u q).2 with z | z <;> rw [e] at z <;> cases z
      · exact (h2 rfl).elim
      · exact (h1 _ rfl).elim
  have seen : ∀ {b : Addr} {o : Obj}, s.heap.get? b = some o → (∀ n, o.data ≠ .seq vs.toArray n) → o.data ≠ .fields #[] → (hidT s.heap H).get? b = some o := fun e h1 h2 => hidT_get e (off e h1 h2)
  have seenNs : ∀ {b : Addr} {m : Str → Option Value}, s.heap.Ns b m → (hidT s.heap H).Ns b m := fun {b m} ⟨o, es, ep, e, d, r⟩ =>
    ⟨o, es, ep, seen e (fun n z => by rw [d] at z; cases z) (fun z => by rw [d] at z; cases z), d, r⟩
  have kin : K.In (hidT s.heap H) := fun b o e => hidT_get (KX b o e) (by
    cases q : H b with
    | none => rfl
    | some u =>
      rw [(two b u q).1] at e
      cases e)
  have md : L2.Mod K mg (hidT s.heap H) := ⟨kin, seenNs hns, ⟨mb, seenNs hb, hbb⟩, let ⟨mc, h1, h2⟩ := hlim; ⟨mc, seenNs h1, h2⟩⟩
  obtain ⟨og, eg, epg, hog, hdg, hrg⟩ := hns
  have TB : ∀ p ∈ cs, TabB (hidT s.heap H) mg p.1 p.2 := fun p hp => by
    refine ⟨?_, ?_, fun z => ?_⟩
    · obtain ⟨o, us, file, tf, flags, tg, inF, text, tt, e1, r1, r2, r3, r⟩ := hC p hp
      exact ⟨o, us, file, tf, flags, tg, inF, text, tt, seen e1 (fun n z => by rw [r2] at z; cases z) (fun z => by rw [r2] at z; cases z; simp at r3), r1, r2, r3, r⟩
    · obtain ⟨bm, ob, b1, b2, b3, b4, b5, b6⟩ := hbm
      refine ⟨bm, ob, b1, b2, fun q => ?_, fun q => ?_, seen b3 (fun n z => by rw [b6] at z; cases z) (fun z => by rw [b6] at z; cases z), b4, b5, b6⟩
      · rw [q, hog] at b3
        cases b3
        rw [hdg] at b6
        cases b6
      · rw [q, hT p hp] at b3
        cases b3
        cases b6
    · rw [z, hT p hp] at hog
      cases hog
      cases hdg
  have hok : HOk P w H s.heap := fun b u h => by
    rcases hp0_cases h with ⟨m, rfl⟩ | ⟨rfl, _, rfl⟩
    · exact (tabs b m).1
    · exact ⟨ha, by rw [List.length_map]; exact hl, vs, _, vals_ints hi, ha⟩
  have e0 : Env0 P w K mg (hidT s.heap H) callerA [] s H := ⟨rfl, md, fun b o e => of_hidT e, Nat.le_of_eq (hidT_size _ _), trivial, fun b hm => absurd hm List.not_mem_nil, hok, .of_eq hg⟩
  have hS : SqL K H a (ns.map V.int) := by
    cases hk : K.lookup a with
    | none =>
      refine .inl (.inr ⟨oA, ?_⟩)
      show (if a ∈ ts then _ else if a = a ∧ K.lookup a = none then _ else _) = _
      rw [if_neg aT, if_pos ⟨rfl, hk⟩]
    | some o =>
      have e := KX a o hk
      rw [ha] at e
      cases e
      exact .inr ⟨_, vs.toArray, _, hk, rfl, rfl, rfl, by rw [List.size_toArray, hi.length]; exact hl, by simpa using vals_ints hi⟩
  refine codeAny_mono (F _ kin (seenNs ⟨og, eg, epg, hog, hdg, hrg⟩) TB s H a e0 (hsp H Htab hS)) fun r s' h => ?_
  match r, h with
  | .error e, h => exact (hCX H e s' h).elim
  | .ok .next, h => exact False.elim h
  | .ok .brk, h => exact False.elim h
  | .ok .cont, h => exact False.elim h
  | .ok (.ret u), ⟨v, H', os, bare, un, hok', r', q⟩ =>
    have q' : v = .bl true := q
    subst q'
    obtain rfl : u = Value.bool true := r'
    -- each object: a table has grown, the rest is as it was
    have look : ∀ b o, s.heap.get? b = some o → (b ∈ ts ∧ o = noneO ∧ ∃ more : Array Value, s'.heap.get? b = some { cls := .none, data := .fields more }) ∨ (b ∉ ts ∧ s'.heap.get? b = some o) := fun b o e => by
      cases qh : H b with
      | none =>
        have nb : b ∉ ts := fun m => by
          have : H b = some (.tbl #[]) := if_pos m
          rw [qh] at this
          cases this
        exact .inr ⟨nb, un.keep b o e qh List.not_mem_nil List.not_mem_nil⟩
      | some u =>
        rcases hp0_cases qh with ⟨m, rfl⟩ | ⟨rfl, _, rfl⟩
        · obtain ⟨more, z⟩ := un.tbls b #[] qh
          have e2 := (tabs b m).1
          rw [e] at e2
          exact .inl ⟨m, Option.some.inj e2, _, hok' b _ z⟩
        · have z := hok' b _ (un.frzs b oA _ qh)
          rw [ha] at e
          exact .inr ⟨aT, by rw [← Option.some.inj e]; exact z.1⟩
    refine ⟨rfl, ⟨fun b o e => ?_, fun b o e => ?_⟩, os, bare⟩
    · rcases look b o e with ⟨m, rfl, more, z⟩ | ⟨_, z⟩
      · obtain ⟨p, hp, ep⟩ := List.mem_map.mp m
        exact .inr (.inl ⟨by rw [← ep]; exact ((hC p hp).tab (hT p hp)).isCodeTable, rfl, #[], more, rfl, by rw [Array.empty_append]; exact z⟩)
      · exact .inl z
    · rcases look b o e with ⟨_, _, more, z⟩ | ⟨_, z⟩
      · exact ⟨_, z⟩
      · exact ⟨o, z⟩
end
/-- what is found over the head's heap -/
def LawC (P : Program) (w : World) (CX : CXT) (n : Nat) (mg : Str → Option Value) (fa : Addr) (h : Heap) : Prop :=
  ∃ (K : PySem.W.Frag) (cs : List (Addr × Addr)) (sp : Sp), K.In h ∧ (∀ p ∈ cs, h.get? p.2 = some noneO) ∧ (∀ p ∈ cs, K.lookup p.2 = none) ∧ (∀ p ∈ cs, PySem.W.CodeHd h p.1 p.2) ∧
    (∀ (H : Hp) (a : Addr) (ns : List Int), ns.length ≤ n → (∀ z ∈ ns, Builtin.Int.intBits z ≤ 1048576) → (∀ p ∈ cs, H p.2 = some (.tbl #[])) → SqL K H a (ns.map V.int) → sp [.ref a] H (fun v _ => v = .bl true) fun _ _ _ => False) ∧
    ∀ base : Heap, K.In base → base.Ns mainGlobals mg → (∀ p ∈ cs, TabB base mg p.1 p.2) → AtC P w K mg base CX fa sp
theorem walk_c {l : PySem.W.OpenLaw} {n : Nat} {q : Program} {loose : List Str} {XP : (Str → Option Value) → Heap → Prop} {YP : World → Heap → Prop} {d : DefRec} {CX : World → CXT}
    (hn : l.most = some n) (hn2 : n ≤ sizeLine) (hdf : d.params.defaults = []) (F : ∀ (w : World) (mg : Str → Option Value) (fa : Addr) (h : Heap), YP w h → h.Ns mainGlobals mg → mg d.name = some (.ref fa) → LawC l.prog w (CX w) n mg fa h)
    (hCX : ∀ (w : World) (H : Hp) (s : Shared) (e : Value) (s' : Shared), CX w [] H s (fun _ _ _ => False) e s' → False) :
    PySem.W.WalkO q loose XP YP l.row.toRowW d [] (fun f vs => PySem.call f vs) :=
  Att.attach_callB hn hdf fun w s₀ s₁ mg mb fa o pm cd doc a vs ns G Y ho hd hcd hmg hobj hints hlen hbits hg => by
    obtain ⟨K, cs, sp, KX, hT, nT, hC, hsp, hF⟩ := F w mg fa _ Y G.T.g hmg
    exact end_c KX G.T.g G.T.b G.T.builtins G.T.nolimit hg hT nT hC G.T.bmain hobj hints (Nat.le_trans hlen hn2) hF (fun H hH hS => hsp H a ns hlen hbits hH hS) fun H e s' => hCX w H s₁ e s'
end XB

namespace K75
open PySem PySem.Spec PyProof.Rows L2
def top (i : Nat) : Stmt := PySem.Challenge.pw_waitingpairs_k75_texts_of_logs_and_steps.main.body.getD i (.Pass ⟨0, 0, 0, 0⟩)
abbrev s_is_integer : Stmt := top 2
abbrev n_is_integer : List Str := ["value"]
abbrev p_is_integer : List Str := ["value"]
theorem sc_is_integer : FnScope n_is_integer p_is_integer (defScope s_is_integer) := ⟨rfl, rfl, rfl, by decide +kernel, rfl, by decide +kernel, by decide +kernel⟩
def d_is_integer : He.DefD := ⟨("is_integer", none), "is_integer", "is_integer", defArgs s_is_integer, defBody s_is_integer, defScope s_is_integer, [], []⟩
abbrev s_is_within : Stmt := top 3
abbrev n_is_within : List Str := ["value", "least", "most"]
abbrev p_is_within : List Str := ["value", "least", "most"]
theorem sc_is_within : FnScope n_is_within p_is_within (defScope s_is_within) := ⟨rfl, rfl, rfl, by decide +kernel, rfl, by decide +kernel, by decide +kernel⟩
def d_is_within : He.DefD := ⟨("is_within", none), "is_within", "is_within", defArgs s_is_within, defBody s_is_within, defScope s_is_within, [], []⟩
abbrev s_is_listed : Stmt := top 4
abbrev n_is_listed : List Str := ["value"]
abbrev p_is_listed : List Str := ["value"]
theorem sc_is_listed : FnScope n_is_listed p_is_listed (defScope s_is_listed) := ⟨rfl, rfl, rfl, by decide +kernel, rfl, by decide +kernel, by decide +kernel⟩
def d_is_listed : He.DefD := ⟨("is_listed", none), "is_listed", "is_listed", defArgs s_is_listed, defBody s_is_listed, defScope s_is_listed, [], []⟩
abbrev s_is_row : Stmt := top 5
abbrev n_is_row : List Str := ["value", "least", "most"]
abbrev p_is_row : List Str := ["value", "least", "most"]
theorem sc_is_row : FnScope n_is_row p_is_row (defScope s_is_row) := ⟨rfl, rfl, rfl, by decide +kernel, rfl, by decide +kernel, by decide +kernel⟩
def d_is_row : He.DefD := ⟨("is_row", none), "is_row", "is_row", defArgs s_is_row, defBody s_is_row, defScope s_is_row, [], []⟩
abbrev s_fixed : Stmt := top 21
abbrev n_fixed : List Str := ["value", "part"]
abbrev p_fixed : List Str := ["value"]
theorem sc_fixed : FnScope n_fixed p_fixed (defScope s_fixed) := ⟨rfl, rfl, rfl, by decide +kernel, rfl, by decide +kernel, by decide +kernel⟩
def d_fixed : He.DefD := ⟨("fixed", none), "fixed", "fixed", defArgs s_fixed, defBody s_fixed, defScope s_fixed, [], []⟩
abbrev s_Log_init : Stmt := inClass (top 26) 0
abbrev n_Log_init : List Str := ["self", "numbers", "row", "number"]
abbrev p_Log_init : List Str := ["self", "numbers"]
theorem sc_Log_init : FnScope n_Log_init p_Log_init (defScope s_Log_init) := ⟨rfl, rfl, rfl, by decide +kernel, rfl, by decide +kernel, by decide +kernel⟩
def d_Log_init : He.DefD := ⟨("Log", some "__init__"), "__init__", "Log.__init__", defArgs s_Log_init, defBody s_Log_init, defScope s_Log_init, [], []⟩
abbrev s_Log_eq : Stmt := inClass (top 26) 1
abbrev n_Log_eq : List Str := ["self", "other"]
abbrev p_Log_eq : List Str := ["self", "other"]
theorem sc_Log_eq : FnScope n_Log_eq p_Log_eq (defScope s_Log_eq) := ⟨rfl, rfl, rfl, by decide +kernel, rfl, by decide +kernel, by decide +kernel⟩
def d_Log_eq : He.DefD := ⟨("Log", some "__eq__"), "__eq__", "Log.__eq__", defArgs s_Log_eq, defBody s_Log_eq, defScope s_Log_eq, [], []⟩
abbrev s_is_figures : Stmt := top 34
abbrev n_is_figures : List Str := ["word", "sign"]
abbrev p_is_figures : List Str := ["word"]
theorem sc_is_figures : FnScope n_is_figures p_is_figures (defScope s_is_figures) := ⟨rfl, rfl, rfl, by decide +kernel, rfl, by decide +kernel, by decide +kernel⟩
def d_is_figures : He.DefD := ⟨("is_figures", none), "is_figures", "is_figures", defArgs s_is_figures, defBody s_is_figures, defScope s_is_figures, [], []⟩
abbrev s_Words_init : Stmt := inClass (top 35) 0
abbrev n_Words_init : List Str := ["self", "text", "line"]
abbrev p_Words_init : List Str := ["self", "text"]
theorem sc_Words_init : FnScope n_Words_init p_Words_init (defScope s_Words_init) := ⟨rfl, rfl, rfl, by decide +kernel, rfl, by decide +kernel, by decide +kernel⟩
def d_Words_init : He.DefD := ⟨("Words", some "__init__"), "__init__", "Words.__init__", defArgs s_Words_init, defBody s_Words_init, defScope s_Words_init, [], []⟩
abbrev s_Words_refuse : Stmt := inClass (top 35) 1
abbrev n_Words_refuse : List Str := ["self"]
abbrev p_Words_refuse : List Str := ["self"]
theorem sc_Words_refuse : FnScope n_Words_refuse p_Words_refuse (defScope s_Words_refuse) := ⟨rfl, rfl, rfl, by decide +kernel, rfl, by decide +kernel, by decide +kernel⟩
def d_Words_refuse : He.DefD := ⟨("Words", some "refuse"), "refuse", "Words.refuse", defArgs s_Words_refuse, defBody s_Words_refuse, defScope s_Words_refuse, [], []⟩
abbrev s_Words_peek : Stmt := inClass (top 35) 2
abbrev n_Words_peek : List Str := ["self", "words"]
abbrev p_Words_peek : List Str := ["self"]
theorem sc_Words_peek : FnScope n_Words_peek p_Words_peek (defScope s_Words_peek) := ⟨rfl, rfl, rfl, by decide +kernel, rfl, by decide +kernel, by decide +kernel⟩
def d_Words_peek : He.DefD := ⟨("Words", some "peek"), "peek", "Words.peek", defArgs s_Words_peek, defBody s_Words_peek, defScope s_Words_peek, [], []⟩
abbrev s_Words_read_if : Stmt := inClass (top 35) 3
abbrev n_Words_read_if : List Str := ["self", "is_let", "word"]
abbrev p_Words_read_if : List Str := ["self", "is_let"]
theorem sc_Words_read_if : FnScope n_Words_read_if p_Words_read_if (defScope s_Words_read_if) := ⟨rfl, rfl, rfl, by decide +kernel, rfl, by decide +kernel, by decide +kernel⟩
def d_Words_read_if : He.DefD := ⟨("Words", some "read_if"), "read_if", "Words.read_if", defArgs s_Words_read_if, defBody s_Words_read_if, defScope s_Words_read_if, [], []⟩
abbrev s_Words_read_one_of : Stmt := inClass (top 35) 4
abbrev n_Words_read_one_of : List Str := ["self", "some"]
abbrev p_Words_read_one_of : List Str := ["self", "some"]
theorem sc_Words_read_one_of : FnScope n_Words_read_one_of p_Words_read_one_of (defScope s_Words_read_one_of) := ⟨rfl, rfl, rfl, by decide +kernel, rfl, by decide +kernel, by decide +kernel⟩
def d_Words_read_one_of : He.DefD := ⟨("Words", some "read_one_of"), "read_one_of", "Words.read_one_of", defArgs s_Words_read_one_of, defBody s_Words_read_one_of, defScope s_Words_read_one_of, [], []⟩
abbrev s_Words_read_number : Stmt := inClass (top 35) 5
abbrev n_Words_read_number : List Str := ["self"]
abbrev p_Words_read_number : List Str := ["self"]
theorem sc_Words_read_number : FnScope n_Words_read_number p_Words_read_number (defScope s_Words_read_number) := ⟨rfl, rfl, rfl, by decide +kernel, rfl, by decide +kernel, by decide +kernel⟩
def d_Words_read_number : He.DefD := ⟨("Words", some "read_number"), "read_number", "Words.read_number", defArgs s_Words_read_number, defBody s_Words_read_number, defScope s_Words_read_number, [], []⟩
abbrev s_Words_has_none : Stmt := inClass (top 35) 6
abbrev n_Words_has_none : List Str := ["self", "is_so"]
abbrev p_Words_has_none : List Str := ["self"]
theorem sc_Words_has_none : FnScope n_Words_has_none p_Words_has_none (defScope s_Words_has_none) := ⟨rfl, rfl, rfl, by decide +kernel, rfl, by decide +kernel, by decide +kernel⟩
def d_Words_has_none : He.DefD := ⟨("Words", some "has_none"), "has_none", "Words.has_none", defArgs s_Words_has_none, defBody s_Words_has_none, defScope s_Words_has_none, [], []⟩
abbrev s_Words_is_end : Stmt := inClass (top 35) 7
abbrev n_Words_is_end : List Str := ["self"]
abbrev p_Words_is_end : List Str := ["self"]
theorem sc_Words_is_end : FnScope n_Words_is_end p_Words_is_end (defScope s_Words_is_end) := ⟨rfl, rfl, rfl, by decide +kernel, rfl, by decide +kernel, by decide +kernel⟩
def d_Words_is_end : He.DefD := ⟨("Words", some "is_end"), "is_end", "Words.is_end", defArgs s_Words_is_end, defBody s_Words_is_end, defScope s_Words_is_end, [], []⟩
abbrev s_Words_end_line : Stmt := inClass (top 35) 8
abbrev n_Words_end_line : List Str := ["self"]
abbrev p_Words_end_line : List Str := ["self"]
theorem sc_Words_end_line : FnScope n_Words_end_line p_Words_end_line (defScope s_Words_end_line) := ⟨rfl, rfl, rfl, by decide +kernel, rfl, by decide +kernel, by decide +kernel⟩
def d_Words_end_line : He.DefD := ⟨("Words", some "end_line"), "end_line", "Words.end_line", defArgs s_Words_end_line, defBody s_Words_end_line, defScope s_Words_end_line, [], []⟩
abbrev s_Words_has_line : Stmt := inClass (top 35) 9
abbrev n_Words_has_line : List Str := ["self"]
abbrev p_Words_has_line : List Str := ["self"]
theorem sc_Words_has_line : FnScope n_Words_has_line p_Words_has_line (defScope s_Words_has_line) := ⟨rfl, rfl, rfl, by decide +kernel, rfl, by decide +kernel, by decide +kernel⟩
def d_Words_has_line : He.DefD := ⟨("Words", some "has_line"), "has_line", "Words.has_line", defArgs s_Words_has_line, defBody s_Words_has_line, defScope s_Words_has_line, [], []⟩
abbrev s_lines_of : Stmt := top 37
abbrev n_lines_of : List Str := ["rows", "row"]
abbrev p_lines_of : List Str := ["rows"]
theorem sc_lines_of : FnScope n_lines_of p_lines_of (defScope s_lines_of) := ⟨rfl, rfl, rfl, by decide +kernel, rfl, by decide +kernel, by decide +kernel⟩
def d_lines_of : He.DefD := ⟨("lines_of", none), "lines_of", "lines_of", defArgs s_lines_of, defBody s_lines_of, defScope s_lines_of, [], []⟩
abbrev s_read_lines : Stmt := top 38
abbrev n_read_lines : List Str := ["words", "reader", "found"]
abbrev p_read_lines : List Str := ["words", "reader"]
theorem sc_read_lines : FnScope n_read_lines p_read_lines (defScope s_read_lines) := ⟨rfl, rfl, rfl, by decide +kernel, rfl, by decide +kernel, by decide +kernel⟩
def d_read_lines : He.DefD := ⟨("read_lines", none), "read_lines", "read_lines", defArgs s_read_lines, defBody s_read_lines, defScope s_read_lines, [], []⟩
abbrev s_figures : Stmt := top 39
abbrev n_figures : List Str := ["row", "one"]
abbrev p_figures : List Str := ["row"]
theorem sc_figures : FnScope n_figures p_figures (defScope s_figures) := ⟨rfl, rfl, rfl, by decide +kernel, rfl, by decide +kernel, by decide +kernel⟩
def d_figures : He.DefD := ⟨("figures", none), "figures", "figures", defArgs s_figures, defBody s_figures, defScope s_figures, [], []⟩
abbrev s_read_figures : Stmt := top 40
abbrev n_read_figures : List Str := ["words", "found"]
abbrev p_read_figures : List Str := ["words"]
theorem sc_read_figures : FnScope n_read_figures p_read_figures (defScope s_read_figures) := ⟨rfl, rfl, rfl, by decide +kernel, rfl, by decide +kernel, by decide +kernel⟩
def d_read_figures : He.DefD := ⟨("read_figures", none), "read_figures", "read_figures", defArgs s_read_figures, defBody s_read_figures, defScope s_read_figures, [], []⟩
abbrev s_log_text : Stmt := top 41
abbrev n_log_text : List Str := ["log", "row"]
abbrev p_log_text : List Str := ["log"]
theorem sc_log_text : FnScope n_log_text p_log_text (defScope s_log_text) := ⟨rfl, rfl, rfl, by decide +kernel, rfl, by decide +kernel, by decide +kernel⟩
def d_log_text : He.DefD := ⟨("log_text", none), "log_text", "log_text", defArgs s_log_text, defBody s_log_text, defScope s_log_text, [], []⟩
abbrev s_read_log : Stmt := top 42
abbrev n_read_log : List Str := ["text"]
abbrev p_read_log : List Str := ["text"]
theorem sc_read_log : FnScope n_read_log p_read_log (defScope s_read_log) := ⟨rfl, rfl, rfl, by decide +kernel, rfl, by decide +kernel, by decide +kernel⟩
def d_read_log : He.DefD := ⟨("read_log", none), "read_log", "read_log", defArgs s_read_log, defBody s_read_log, defScope s_read_log, [], []⟩
abbrev s_is_step_row : Stmt := top 43
abbrev n_is_step_row : List Str := ["value", "one"]
abbrev p_is_step_row : List Str := ["value"]
theorem sc_is_step_row : FnScope n_is_step_row p_is_step_row (defScope s_is_step_row) := ⟨rfl, rfl, rfl, by decide +kernel, rfl, by decide +kernel, by decide +kernel⟩
def d_is_step_row : He.DefD := ⟨("is_step_row", none), "is_step_row", "is_step_row", defArgs s_is_step_row, defBody s_is_step_row, defScope s_is_step_row, [], []⟩
abbrev s_step_words : Stmt := top 44
abbrev n_step_words : List Str := ["step", "part"]
abbrev p_step_words : List Str := ["step"]
theorem sc_step_words : FnScope n_step_words p_step_words (defScope s_step_words) := ⟨rfl, rfl, rfl, by decide +kernel, rfl, by decide +kernel, by decide +kernel⟩
def d_step_words : He.DefD := ⟨("step_words", none), "step_words", "step_words", defArgs s_step_words, defBody s_step_words, defScope s_step_words, [], []⟩
abbrev s_steps_text : Stmt := top 45
abbrev n_steps_text : List Str := ["steps", "some", "step"]
abbrev p_steps_text : List Str := ["steps"]
theorem sc_steps_text : FnScope n_steps_text p_steps_text (defScope s_steps_text) := ⟨rfl, rfl, rfl, by decide +kernel, rfl, by decide +kernel, by decide +kernel⟩
def d_steps_text : He.DefD := ⟨("steps_text", none), "steps_text", "steps_text", defArgs s_steps_text, defBody s_steps_text, defScope s_steps_text, [], []⟩
abbrev s_step_read : Stmt := top 46
abbrev n_step_read : List Str := ["words", "word"]
abbrev p_step_read : List Str := ["words"]
theorem sc_step_read : FnScope n_step_read p_step_read (defScope s_step_read) := ⟨rfl, rfl, rfl, by decide +kernel, rfl, by decide +kernel, by decide +kernel⟩
def d_step_read : He.DefD := ⟨("step_read", none), "step_read", "step_read", defArgs s_step_read, defBody s_step_read, defScope s_step_read, [], []⟩
abbrev s_read_steps : Stmt := top 47
abbrev n_read_steps : List Str := ["text", "words"]
abbrev p_read_steps : List Str := ["text"]
theorem sc_read_steps : FnScope n_read_steps p_read_steps (defScope s_read_steps) := ⟨rfl, rfl, rfl, by decide +kernel, rfl, by decide +kernel, by decide +kernel⟩
def d_read_steps : He.DefD := ⟨("read_steps", none), "read_steps", "read_steps", defArgs s_read_steps, defBody s_read_steps, defScope s_read_steps, [], []⟩
abbrev s__law_pen : Stmt := top 49
abbrev n__law_pen : List Str := ["script"]
abbrev p__law_pen : List Str := ["script"]
theorem sc__law_pen : FnScope n__law_pen p__law_pen (defScope s__law_pen) := ⟨rfl, rfl, rfl, by decide +kernel, rfl, by decide +kernel, by decide +kernel⟩
def d__law_pen : He.DefD := ⟨("_law_pen", none), "_law_pen", "_law_pen", defArgs s__law_pen, defBody s__law_pen, defScope s__law_pen, [], []⟩
abbrev s__law_draw : Stmt := top 50
abbrev n__law_draw : List Str := ["pen", "many", "digit", "at", "cell", "great", "mixed"]
abbrev p__law_draw : List Str := ["pen", "many"]
theorem sc__law_draw : FnScope n__law_draw p__law_draw (defScope s__law_draw) := ⟨rfl, rfl, rfl, by decide +kernel, rfl, by decide +kernel, by decide +kernel⟩
def d__law_draw : He.DefD := ⟨("_law_draw", none), "_law_draw", "_law_draw", defArgs s__law_draw, defBody s__law_draw, defScope s__law_draw, [], []⟩
abbrev s__law_pick : Stmt := top 51
abbrev n__law_pick : List Str := ["pen", "some"]
abbrev p__law_pick : List Str := ["pen", "some"]
theorem sc__law_pick : FnScope n__law_pick p__law_pick (defScope s__law_pick) := ⟨rfl, rfl, rfl, by decide +kernel, rfl, by decide +kernel, by decide +kernel⟩
def d__law_pick : He.DefD := ⟨("_law_pick", none), "_law_pick", "_law_pick", defArgs s__law_pick, defBody s__law_pick, defScope s__law_pick, [], []⟩
abbrev s__law_heard : Stmt := top 52
abbrev n__law_heard : List Str := ["ask", "found", "caught", "error", "kinds"]
abbrev p__law_heard : List Str := ["ask"]
theorem sc__law_heard : FnScope n__law_heard p__law_heard (defScope s__law_heard) := ⟨rfl, rfl, rfl, by decide +kernel, rfl, by decide +kernel, by decide +kernel⟩
def d__law_heard : He.DefD := ⟨("_law_heard", none), "_law_heard", "_law_heard", defArgs s__law_heard, defBody s__law_heard, defScope s__law_heard, [], []⟩
abbrev s__law_is_fig : Stmt := top 53
abbrev n__law_is_fig : List Str := ["word", "sign"]
abbrev p__law_is_fig : List Str := ["word"]
theorem sc__law_is_fig : FnScope n__law_is_fig p__law_is_fig (defScope s__law_is_fig) := ⟨rfl, rfl, rfl, by decide +kernel, rfl, by decide +kernel, by decide +kernel⟩
def d__law_is_fig : He.DefD := ⟨("_law_is_fig", none), "_law_is_fig", "_law_is_fig", defArgs s__law_is_fig, defBody s__law_is_fig, defScope s__law_is_fig, [], []⟩
abbrev s__law_log_read : Stmt := top 54
abbrev n__law_log_read : List Str := ["rows", "found", "line", "words", "wrong", "at", "word"]
abbrev p__law_log_read : List Str := ["rows"]
theorem sc__law_log_read : FnScope n__law_log_read p__law_log_read (defScope s__law_log_read) := ⟨rfl, rfl, rfl, by decide +kernel, rfl, by decide +kernel, by decide +kernel⟩
def d__law_log_read : He.DefD := ⟨("_law_log_read", none), "_law_log_read", "_law_log_read", defArgs s__law_log_read, defBody s__law_log_read, defScope s__law_log_read, [], []⟩
abbrev s__law_steps_read : Stmt := top 55
abbrev n__law_steps_read : List Str := ["rows", "found", "line", "words", "many", "at", "word"]
abbrev p__law_steps_read : List Str := ["rows"]
theorem sc__law_steps_read : FnScope n__law_steps_read p__law_steps_read (defScope s__law_steps_read) := ⟨rfl, rfl, rfl, by decide +kernel, rfl, by decide +kernel, by decide +kernel⟩
def d__law_steps_read : He.DefD := ⟨("_law_steps_read", none), "_law_steps_read", "_law_steps_read", defArgs s__law_steps_read, defBody s__law_steps_read, defScope s__law_steps_read, [], []⟩
abbrev s__law_bent_text : Stmt := top 56
abbrev n__law_bent_text : List Str := ["pen", "text", "some", "rows", "line", "way", "odd", "words", "at", "other", "spot", "word", "row"]
abbrev p__law_bent_text : List Str := ["pen", "text", "some"]
theorem sc__law_bent_text : FnScope n__law_bent_text p__law_bent_text (defScope s__law_bent_text) := ⟨rfl, rfl, rfl, by decide +kernel, rfl, by decide +kernel, by decide +kernel⟩
def d__law_bent_text : He.DefD := ⟨("_law_bent_text", none), "_law_bent_text", "_law_bent_text", defArgs s__law_bent_text, defBody s__law_bent_text, defScope s__law_bent_text, [], []⟩
abbrev s_law : Stmt := top 57
abbrev n_law : List Str := ["script", "pen", "odd", "turn", "numbers", "text", "steps", "lines", "lap", "bent", "told", "heard", "bad", "hand", "at", "row", "one", "step", "part", "line"]
abbrev p_law : List Str := ["script"]
theorem sc_law : FnScope n_law p_law (defScope s_law) := ⟨rfl, rfl, rfl, by decide +kernel, rfl, by decide +kernel, by decide +kernel⟩
def d_law : He.DefD := ⟨("law", none), "law", "law", defArgs s_law, defBody s_law, defScope s_law, [], []⟩
abbrev kt (a b : Str) (c : Bool) : Str × Str × Bool := (a, b, c)
def ex_BadValue : XB.ExD := ⟨"BadValue", "BadValue.__init__", defArgs (inClass (top 8) 0), defBody (inClass (top 8) 0), defScope (inClass (top 8) 0), ["part"]⟩
def ex_BadLog : XB.ExD := ⟨"BadLog", "BadLog.__init__", defArgs (inClass (top 12) 0), defBody (inClass (top 12) 0), defScope (inClass (top 12) 0), ["part"]⟩
def ex_BadText : XB.ExD := ⟨"BadText", "BadText.__init__", defArgs (inClass (top 16) 0), defBody (inClass (top 16) 0), defScope (inClass (top 16) 0), ["line", "word"]⟩
def eyL : XB.EY := ⟨"/claim/cut.py", [ex_BadValue, ex_BadLog, ex_BadText], ["BadValue", "BadLog", "BadText"], [kt "BadValue" "BadValue" true, kt "BadValue" "BadNumber" false, kt "BadValue" "BadProgram" false, kt "BadValue" "BadRule" false, kt "BadValue" "BadLog" false, kt "BadValue" "BadPair" false, kt "BadValue" "BadStep" false, kt "BadValue" "BadWord" false, kt "BadValue" "BadText" false, kt "BadValue" "Misfit" false, kt "BadValue" "Nothing" false, kt "BadValue" "TooMany" false, kt "BadLog" "BadValue" false, kt "BadLog" "BadNumber" false, kt "BadLog" "BadProgram" false, kt "BadLog" "BadRule" false, kt "BadLog" "BadLog" true, kt "BadLog" "BadPair" false, kt "BadLog" "BadStep" false, kt "BadLog" "BadWord" false, kt "BadLog" "BadText" false, kt "BadLog" "Misfit" false, kt "BadLog" "Nothing" false, kt "BadLog" "TooMany" false, kt "BadText" "BadValue" false, kt "BadText" "BadNumber" false, kt "BadText" "BadProgram" false, kt "BadText" "BadRule" false, kt "BadText" "BadLog" false, kt "BadText" "BadPair" false, kt "BadText" "BadStep" false, kt "BadText" "BadWord" false, kt "BadText" "BadText" true, kt "BadText" "Misfit" false, kt "BadText" "Nothing" false, kt "BadText" "TooMany" false], [XB.insB "Log", XB.neB "Log", XB.notB "NoneType" "Log", XB.notB "bool" "Log", XB.notB "int" "Log", XB.notB "str" "Log", XB.notB "list" "Log", XB.notB "tuple" "Log", XB.notB "dict" "Log"]⟩
def tfL : List He.Defn := [("law", none), ("Words", some "read_one_of")]
def faL : List He.Fa := [
  .free "isinstance",
  .free "int",
  .free "bool",
  .free "list",
  .free "tuple",
  .free "str",
  .free "len",
  .free "all",
  .free "range",
  .free "enumerate",
  .free "abs",
  .free "max",
  .free "repr",
  .free "super",
  .int "MOST_DEEDS" 12,
  .int "MOST_PASSES" 4,
  .int "MOST_NUMBER" 400,
  .str "DO" "do",
  .str "COME" "come",
  .int "MOST_FIGURES" 40,
  .int "MOST_TOLD" 9999999999999999999999999999999999999999,
  .str "DIGITS" "0123456789",
  .str "NONE" "-",
  .glo "is_integer",
  .glo "is_within",
  .glo "is_listed",
  .glo "is_row",
  .glo "fixed",
  .glo "is_figures",
  .glo "lines_of",
  .glo "read_lines",
  .glo "figures",
  .glo "read_figures",
  .glo "log_text",
  .glo "read_log",
  .glo "is_step_row",
  .glo "step_words",
  .glo "steps_text",
  .glo "step_read",
  .glo "read_steps",
  .glo "_law_pen",
  .glo "_law_draw",
  .glo "_law_pick",
  .glo "_law_heard",
  .glo "_law_is_fig",
  .glo "_law_log_read",
  .glo "_law_steps_read",
  .glo "_law_bent_text",
  .glo "law",
  .glo "WaitError",
  .glo "BadValue",
  .glo "BadNumber",
  .glo "BadProgram",
  .glo "BadRule",
  .glo "BadLog",
  .glo "BadPair",
  .glo "BadStep",
  .glo "BadWord",
  .glo "BadText",
  .glo "Misfit",
  .glo "Nothing",
  .glo "TooMany",
  .glo "Log",
  .cls "Log",
  .mkr "Log",
  .noat "Log" "numbers",
  .meth "Log" "__init__",
  .meth "Log" "__eq__",
  .glo "Words",
  .cls "Words",
  .mkr "Words",
  .noat "Words" "lines",
  .noat "Words" "line",
  .noat "Words" "at",
  .meth "Words" "__init__",
  .meth "Words" "refuse",
  .meth "Words" "peek",
  .meth "Words" "read_if",
  .meth "Words" "read_one_of",
  .meth "Words" "read_number",
  .meth "Words" "has_none",
  .meth "Words" "is_end",
  .meth "Words" "end_line",
  .meth "Words" "has_line",
  .exm "BadValue" "WaitError" true,
  .exm "BadLog" "WaitError" true,
  .exm "BadText" "WaitError" true]
def fnL : List He.DefD := [d_is_integer, d_is_within, d_is_listed, d_is_row, d_fixed, d_Log_init, d_Log_eq, d_is_figures, d_Words_init, d_Words_refuse, d_Words_peek, d_Words_read_if, d_Words_read_one_of, d_Words_read_number, d_Words_has_none, d_Words_is_end, d_Words_end_line, d_Words_has_line, d_lines_of, d_read_lines, d_figures, d_read_figures, d_log_text, d_read_log, d_is_step_row, d_step_words, d_steps_text, d_step_read, d_read_steps, d__law_pen, d__law_draw, d__law_pick, d__law_heard, d__law_is_fig, d__law_log_read, d__law_steps_read, d__law_bent_text, d_law]
structure TX (K : PySem.W.Frag) (mg : Str → Option Value) : Prop where
  b_isinstance : mg "isinstance" = none
  b_int : mg "int" = none
  b_bool : mg "bool" = none
  b_list : mg "list" = none
  b_tuple : mg "tuple" = none
  b_str : mg "str" = none
  b_len : mg "len" = none
  b_all : mg "all" = none
  b_range : mg "range" = none
  b_enumerate : mg "enumerate" = none
  b_abs : mg "abs" = none
  b_max : mg "max" = none
  b_repr : mg "repr" = none
  b_super : mg "super" = none
  g_MOST_DEEDS : ∃ u, mg "MOST_DEEDS" = some u ∧ RelV (.int 12) u
  g_MOST_PASSES : ∃ u, mg "MOST_PASSES" = some u ∧ RelV (.int 4) u
  g_MOST_NUMBER : ∃ u, mg "MOST_NUMBER" = some u ∧ RelV (.int 400) u
  g_DO : ∃ u, mg "DO" = some u ∧ RelV (.str "do") u
  g_COME : ∃ u, mg "COME" = some u ∧ RelV (.str "come") u
  g_MOST_FIGURES : ∃ u, mg "MOST_FIGURES" = some u ∧ RelV (.int 40) u
  g_MOST_TOLD : ∃ u, mg "MOST_TOLD" = some u ∧ RelV (.int 9999999999999999999999999999999999999999) u
  g_DIGITS : ∃ u, mg "DIGITS" = some u ∧ RelV (.str "0123456789") u
  g_NONE : ∃ u, mg "NONE" = some u ∧ RelV (.str "-") u
  g_is_integer : mg "is_integer" = some (.ref (He.ga K "is_integer"))
  g_is_within : mg "is_within" = some (.ref (He.ga K "is_within"))
  g_is_listed : mg "is_listed" = some (.ref (He.ga K "is_listed"))
  g_is_row : mg "is_row" = some (.ref (He.ga K "is_row"))
  g_fixed : mg "fixed" = some (.ref (He.ga K "fixed"))
  g_is_figures : mg "is_figures" = some (.ref (He.ga K "is_figures"))
  g_lines_of : mg "lines_of" = some (.ref (He.ga K "lines_of"))
  g_read_lines : mg "read_lines" = some (.ref (He.ga K "read_lines"))
  g_figures : mg "figures" = some (.ref (He.ga K "figures"))
  g_read_figures : mg "read_figures" = some (.ref (He.ga K "read_figures"))
  g_log_text : mg "log_text" = some (.ref (He.ga K "log_text"))
  g_read_log : mg "read_log" = some (.ref (He.ga K "read_log"))
  g_is_step_row : mg "is_step_row" = some (.ref (He.ga K "is_step_row"))
  g_step_words : mg "step_words" = some (.ref (He.ga K "step_words"))
  g_steps_text : mg "steps_text" = some (.ref (He.ga K "steps_text"))
  g_step_read : mg "step_read" = some (.ref (He.ga K "step_read"))
  g_read_steps : mg "read_steps" = some (.ref (He.ga K "read_steps"))
  g__law_pen : mg "_law_pen" = some (.ref (He.ga K "_law_pen"))
  g__law_draw : mg "_law_draw" = some (.ref (He.ga K "_law_draw"))
  g__law_pick : mg "_law_pick" = some (.ref (He.ga K "_law_pick"))
  g__law_heard : mg "_law_heard" = some (.ref (He.ga K "_law_heard"))
  g__law_is_fig : mg "_law_is_fig" = some (.ref (He.ga K "_law_is_fig"))
  g__law_log_read : mg "_law_log_read" = some (.ref (He.ga K "_law_log_read"))
  g__law_steps_read : mg "_law_steps_read" = some (.ref (He.ga K "_law_steps_read"))
  g__law_bent_text : mg "_law_bent_text" = some (.ref (He.ga K "_law_bent_text"))
  g_law : mg "law" = some (.ref (He.ga K "law"))
  g_WaitError : mg "WaitError" = some (.ref (He.ga K "WaitError"))
  g_BadValue : mg "BadValue" = some (.ref (He.ga K "BadValue"))
  g_BadNumber : mg "BadNumber" = some (.ref (He.ga K "BadNumber"))
  g_BadProgram : mg "BadProgram" = some (.ref (He.ga K "BadProgram"))
  g_BadRule : mg "BadRule" = some (.ref (He.ga K "BadRule"))
  g_BadLog : mg "BadLog" = some (.ref (He.ga K "BadLog"))
  g_BadPair : mg "BadPair" = some (.ref (He.ga K "BadPair"))
  g_BadStep : mg "BadStep" = some (.ref (He.ga K "BadStep"))
  g_BadWord : mg "BadWord" = some (.ref (He.ga K "BadWord"))
  g_BadText : mg "BadText" = some (.ref (He.ga K "BadText"))
  g_Misfit : mg "Misfit" = some (.ref (He.ga K "Misfit"))
  g_Nothing : mg "Nothing" = some (.ref (He.ga K "Nothing"))
  g_TooMany : mg "TooMany" = some (.ref (He.ga K "TooMany"))
  g_Log : mg "Log" = some (.ref (He.ga K "Log"))
  c_Log : Cls K (He.ga K "Log")
  k_Log : L2.Mk K (He.ga K "Log") (He.ma K (He.ga K "Log") "__init__")
  n_Log_numbers : NoAttr K (He.ga K "Log") "numbers"
  m_Log_init : Meth K (He.ga K "Log") "__init__" (He.ma K (He.ga K "Log") "__init__")
  m_Log_eq : Meth K (He.ga K "Log") "__eq__" (He.ma K (He.ga K "Log") "__eq__")
  g_Words : mg "Words" = some (.ref (He.ga K "Words"))
  c_Words : Cls K (He.ga K "Words")
  k_Words : L2.Mk K (He.ga K "Words") (He.ma K (He.ga K "Words") "__init__")
  n_Words_lines : NoAttr K (He.ga K "Words") "lines"
  n_Words_line : NoAttr K (He.ga K "Words") "line"
  n_Words_at : NoAttr K (He.ga K "Words") "at"
  m_Words_init : Meth K (He.ga K "Words") "__init__" (He.ma K (He.ga K "Words") "__init__")
  m_Words_refuse : Meth K (He.ga K "Words") "refuse" (He.ma K (He.ga K "Words") "refuse")
  m_Words_peek : Meth K (He.ga K "Words") "peek" (He.ma K (He.ga K "Words") "peek")
  m_Words_read_if : Meth K (He.ga K "Words") "read_if" (He.ma K (He.ga K "Words") "read_if")
  m_Words_read_one_of : Meth K (He.ga K "Words") "read_one_of" (He.ma K (He.ga K "Words") "read_one_of")
  m_Words_read_number : Meth K (He.ga K "Words") "read_number" (He.ma K (He.ga K "Words") "read_number")
  m_Words_has_none : Meth K (He.ga K "Words") "has_none" (He.ma K (He.ga K "Words") "has_none")
  m_Words_is_end : Meth K (He.ga K "Words") "is_end" (He.ma K (He.ga K "Words") "is_end")
  m_Words_end_line : Meth K (He.ga K "Words") "end_line" (He.ma K (He.ga K "Words") "end_line")
  m_Words_has_line : Meth K (He.ga K "Words") "has_line" (He.ma K (He.ga K "Words") "has_line")
  f_is_integer : ∃ fd, FunD K "is_integer" "is_integer" (defArgs s_is_integer) (defBody s_is_integer) (defScope s_is_integer) [] [] (He.fAd K ("is_integer", none)) fd
  f_is_within : ∃ fd, FunD K "is_within" "is_within" (defArgs s_is_within) (defBody s_is_within) (defScope s_is_within) [] [] (He.fAd K ("is_within", none)) fd
  f_is_listed : ∃ fd, FunD K "is_listed" "is_listed" (defArgs s_is_listed) (defBody s_is_listed) (defScope s_is_listed) [] [] (He.fAd K ("is_listed", none)) fd
  f_is_row : ∃ fd, FunD K "is_row" "is_row" (defArgs s_is_row) (defBody s_is_row) (defScope s_is_row) [] [] (He.fAd K ("is_row", none)) fd
  f_fixed : ∃ fd, FunD K "fixed" "fixed" (defArgs s_fixed) (defBody s_fixed) (defScope s_fixed) [] [] (He.fAd K ("fixed", none)) fd
  f_Log_init : ∃ fd, FunD K "__init__" "Log.__init__" (defArgs s_Log_init) (defBody s_Log_init) (defScope s_Log_init) [] [] (He.fAd K ("Log", some "__init__")) fd
  f_Log_eq : ∃ fd, FunD K "__eq__" "Log.__eq__" (defArgs s_Log_eq) (defBody s_Log_eq) (defScope s_Log_eq) [] [] (He.fAd K ("Log", some "__eq__")) fd
  f_is_figures : ∃ fd, FunD K "is_figures" "is_figures" (defArgs s_is_figures) (defBody s_is_figures) (defScope s_is_figures) [] [] (He.fAd K ("is_figures", none)) fd
  f_Words_init : ∃ fd, FunD K "__init__" "Words.__init__" (defArgs s_Words_init) (defBody s_Words_init) (defScope s_Words_init) [] [] (He.fAd K ("Words", some "__init__")) fd
  f_Words_refuse : ∃ fd, FunD K "refuse" "Words.refuse" (defArgs s_Words_refuse) (defBody s_Words_refuse) (defScope s_Words_refuse) [] [] (He.fAd K ("Words", some "refuse")) fd
  f_Words_peek : ∃ fd, FunD K "peek" "Words.peek" (defArgs s_Words_peek) (defBody s_Words_peek) (defScope s_Words_peek) [] [] (He.fAd K ("Words", some "peek")) fd
  f_Words_read_if : ∃ fd, FunD K "read_if" "Words.read_if" (defArgs s_Words_read_if) (defBody s_Words_read_if) (defScope s_Words_read_if) [] [] (He.fAd K ("Words", some "read_if")) fd
  f_Words_read_one_of : ∃ fd, FunD K "read_one_of" "Words.read_one_of" (defArgs s_Words_read_one_of) (defBody s_Words_read_one_of) (defScope s_Words_read_one_of) [] [] (He.fAd K ("Words", some "read_one_of")) fd
  f_Words_read_number : ∃ fd, FunD K "read_number" "Words.read_number" (defArgs s_Words_read_number) (defBody s_Words_read_number) (defScope s_Words_read_number) [] [] (He.fAd K ("Words", some "read_number")) fd
  f_Words_has_none : ∃ fd, FunD K "has_none" "Words.has_none" (defArgs s_Words_has_none) (defBody s_Words_has_none) (defScope s_Words_has_none) [] [] (He.fAd K ("Words", some "has_none")) fd
  f_Words_is_end : ∃ fd, FunD K "is_end" "Words.is_end" (defArgs s_Words_is_end) (defBody s_Words_is_end) (defScope s_Words_is_end) [] [] (He.fAd K ("Words", some "is_end")) fd
  f_Words_end_line : ∃ fd, FunD K "end_line" "Words.end_line" (defArgs s_Words_end_line) (defBody s_Words_end_line) (defScope s_Words_end_line) [] [] (He.fAd K ("Words", some "end_line")) fd
  f_Words_has_line : ∃ fd, FunD K "has_line" "Words.has_line" (defArgs s_Words_has_line) (defBody s_Words_has_line) (defScope s_Words_has_line) [] [] (He.fAd K ("Words", some "has_line")) fd
  f_lines_of : ∃ fd, FunD K "lines_of" "lines_of" (defArgs s_lines_of) (defBody s_lines_of) (defScope s_lines_of) [] [] (He.fAd K ("lines_of", none)) fd
  f_read_lines : ∃ fd, FunD K "read_lines" "read_lines" (defArgs s_read_lines) (defBody s_read_lines) (defScope s_read_lines) [] [] (He.fAd K ("read_lines", none)) fd
  f_figures : ∃ fd, FunD K "figures" "figures" (defArgs s_figures) (defBody s_figures) (defScope s_figures) [] [] (He.fAd K ("figures", none)) fd
  f_read_figures : ∃ fd, FunD K "read_figures" "read_figures" (defArgs s_read_figures) (defBody s_read_figures) (defScope s_read_figures) [] [] (He.fAd K ("read_figures", none)) fd
  f_log_text : ∃ fd, FunD K "log_text" "log_text" (defArgs s_log_text) (defBody s_log_text) (defScope s_log_text) [] [] (He.fAd K ("log_text", none)) fd
  f_read_log : ∃ fd, FunD K "read_log" "read_log" (defArgs s_read_log) (defBody s_read_log) (defScope s_read_log) [] [] (He.fAd K ("read_log", none)) fd
  f_is_step_row : ∃ fd, FunD K "is_step_row" "is_step_row" (defArgs s_is_step_row) (defBody s_is_step_row) (defScope s_is_step_row) [] [] (He.fAd K ("is_step_row", none)) fd
  f_step_words : ∃ fd, FunD K "step_words" "step_words" (defArgs s_step_words) (defBody s_step_words) (defScope s_step_words) [] [] (He.fAd K ("step_words", none)) fd
  f_steps_text : ∃ fd, FunD K "steps_text" "steps_text" (defArgs s_steps_text) (defBody s_steps_text) (defScope s_steps_text) [] [] (He.fAd K ("steps_text", none)) fd
  f_step_read : ∃ fd, FunD K "step_read" "step_read" (defArgs s_step_read) (defBody s_step_read) (defScope s_step_read) [] [] (He.fAd K ("step_read", none)) fd
  f_read_steps : ∃ fd, FunD K "read_steps" "read_steps" (defArgs s_read_steps) (defBody s_read_steps) (defScope s_read_steps) [] [] (He.fAd K ("read_steps", none)) fd
  f__law_pen : ∃ fd, FunD K "_law_pen" "_law_pen" (defArgs s__law_pen) (defBody s__law_pen) (defScope s__law_pen) [] [] (He.fAd K ("_law_pen", none)) fd
  f__law_draw : ∃ fd, FunD K "_law_draw" "_law_draw" (defArgs s__law_draw) (defBody s__law_draw) (defScope s__law_draw) [] [] (He.fAd K ("_law_draw", none)) fd
  f__law_pick : ∃ fd, FunD K "_law_pick" "_law_pick" (defArgs s__law_pick) (defBody s__law_pick) (defScope s__law_pick) [] [] (He.fAd K ("_law_pick", none)) fd
  f__law_heard : ∃ fd, FunD K "_law_heard" "_law_heard" (defArgs s__law_heard) (defBody s__law_heard) (defScope s__law_heard) [] [] (He.fAd K ("_law_heard", none)) fd
  f__law_is_fig : ∃ fd, FunD K "_law_is_fig" "_law_is_fig" (defArgs s__law_is_fig) (defBody s__law_is_fig) (defScope s__law_is_fig) [] [] (He.fAd K ("_law_is_fig", none)) fd
  f__law_log_read : ∃ fd, FunD K "_law_log_read" "_law_log_read" (defArgs s__law_log_read) (defBody s__law_log_read) (defScope s__law_log_read) [] [] (He.fAd K ("_law_log_read", none)) fd
  f__law_steps_read : ∃ fd, FunD K "_law_steps_read" "_law_steps_read" (defArgs s__law_steps_read) (defBody s__law_steps_read) (defScope s__law_steps_read) [] [] (He.fAd K ("_law_steps_read", none)) fd
  f__law_bent_text : ∃ fd, FunD K "_law_bent_text" "_law_bent_text" (defArgs s__law_bent_text) (defBody s__law_bent_text) (defScope s__law_bent_text) [] [] (He.fAd K ("_law_bent_text", none)) fd
  f_law : ∃ fd, FunD K "law" "law" (defArgs s_law) (defBody s_law) (defScope s_law) [] [] (He.fAd K ("law", none)) fd
  e_BadValue : XB.ExF K "/claim/cut.py" ex_BadValue
  ec_BadValue : ExcC K (He.ga K "BadValue")
  w_BadValue : PySem.W.exmOne K (.ref (He.ga K "BadValue")) (.ref (He.ga K "WaitError")) = some true
  k_BadValue_BadValue : PySem.W.kitOne K (.ref (He.ga K "BadValue")) (.ref (He.ga K "BadValue")) = some true
  k_BadValue_BadNumber : PySem.W.kitOne K (.ref (He.ga K "BadValue")) (.ref (He.ga K "BadNumber")) = some false
  k_BadValue_BadProgram : PySem.W.kitOne K (.ref (He.ga K "BadValue")) (.ref (He.ga K "BadProgram")) = some false
  k_BadValue_BadRule : PySem.W.kitOne K (.ref (He.ga K "BadValue")) (.ref (He.ga K "BadRule")) = some false
  k_BadValue_BadLog : PySem.W.kitOne K (.ref (He.ga K "BadValue")) (.ref (He.ga K "BadLog")) = some false
  k_BadValue_BadPair : PySem.W.kitOne K (.ref (He.ga K "BadValue")) (.ref (He.ga K "BadPair")) = some false
  k_BadValue_BadStep : PySem.W.kitOne K (.ref (He.ga K "BadValue")) (.ref (He.ga K "BadStep")) = some false
  k_BadValue_BadWord : PySem.W.kitOne K (.ref (He.ga K "BadValue")) (.ref (He.ga K "BadWord")) = some false
  k_BadValue_BadText : PySem.W.kitOne K (.ref (He.ga K "BadValue")) (.ref (He.ga K "BadText")) = some false
  k_BadValue_Misfit : PySem.W.kitOne K (.ref (He.ga K "BadValue")) (.ref (He.ga K "Misfit")) = some false
  k_BadValue_Nothing : PySem.W.kitOne K (.ref (He.ga K "BadValue")) (.ref (He.ga K "Nothing")) = some false
  k_BadValue_TooMany : PySem.W.kitOne K (.ref (He.ga K "BadValue")) (.ref (He.ga K "TooMany")) = some false
  e_BadLog : XB.ExF K "/claim/cut.py" ex_BadLog
  ec_BadLog : ExcC K (He.ga K "BadLog")
  w_BadLog : PySem.W.exmOne K (.ref (He.ga K "BadLog")) (.ref (He.ga K "WaitError")) = some true
  k_BadLog_BadValue : PySem.W.kitOne K (.ref (He.ga K "BadLog")) (.ref (He.ga K "BadValue")) = some false
  k_BadLog_BadNumber : PySem.W.kitOne K (.ref (He.ga K "BadLog")) (.ref (He.ga K "BadNumber")) = some false
  k_BadLog_BadProgram : PySem.W.kitOne K (.ref (He.ga K "BadLog")) (.ref (He.ga K "BadProgram")) = some false
  k_BadLog_BadRule : PySem.W.kitOne K (.ref (He.ga K "BadLog")) (.ref (He.ga K "BadRule")) = some false
  k_BadLog_BadLog : PySem.W.kitOne K (.ref (He.ga K "BadLog")) (.ref (He.ga K "BadLog")) = some true
  k_BadLog_BadPair : PySem.W.kitOne K (.ref (He.ga K "BadLog")) (.ref (He.ga K "BadPair")) = some false
  k_BadLog_BadStep : PySem.W.kitOne K (.ref (He.ga K "BadLog")) (.ref (He.ga K "BadStep")) = some false
  k_BadLog_BadWord : PySem.W.kitOne K (.ref (He.ga K "BadLog")) (.ref (He.ga K "BadWord")) = some false
  k_BadLog_BadText : PySem.W.kitOne K (.ref (He.ga K "BadLog")) (.ref (He.ga K "BadText")) = some false
  k_BadLog_Misfit : PySem.W.kitOne K (.ref (He.ga K "BadLog")) (.ref (He.ga K "Misfit")) = some false
  k_BadLog_Nothing : PySem.W.kitOne K (.ref (He.ga K "BadLog")) (.ref (He.ga K "Nothing")) = some false
  k_BadLog_TooMany : PySem.W.kitOne K (.ref (He.ga K "BadLog")) (.ref (He.ga K "TooMany")) = some false
  e_BadText : XB.ExF K "/claim/cut.py" ex_BadText
  ec_BadText : ExcC K (He.ga K "BadText")
  w_BadText : PySem.W.exmOne K (.ref (He.ga K "BadText")) (.ref (He.ga K "WaitError")) = some true
  k_BadText_BadValue : PySem.W.kitOne K (.ref (He.ga K "BadText")) (.ref (He.ga K "BadValue")) = some false
  k_BadText_BadNumber : PySem.W.kitOne K (.ref (He.ga K "BadText")) (.ref (He.ga K "BadNumber")) = some false
  k_BadText_BadProgram : PySem.W.kitOne K (.ref (He.ga K "BadText")) (.ref (He.ga K "BadProgram")) = some false
  k_BadText_BadRule : PySem.W.kitOne K (.ref (He.ga K "BadText")) (.ref (He.ga K "BadRule")) = some false
  k_BadText_BadLog : PySem.W.kitOne K (.ref (He.ga K "BadText")) (.ref (He.ga K "BadLog")) = some false
  k_BadText_BadPair : PySem.W.kitOne K (.ref (He.ga K "BadText")) (.ref (He.ga K "BadPair")) = some false
  k_BadText_BadStep : PySem.W.kitOne K (.ref (He.ga K "BadText")) (.ref (He.ga K "BadStep")) = some false
  k_BadText_BadWord : PySem.W.kitOne K (.ref (He.ga K "BadText")) (.ref (He.ga K "BadWord")) = some false
  k_BadText_BadText : PySem.W.kitOne K (.ref (He.ga K "BadText")) (.ref (He.ga K "BadText")) = some true
  k_BadText_Misfit : PySem.W.kitOne K (.ref (He.ga K "BadText")) (.ref (He.ga K "Misfit")) = some false
  k_BadText_Nothing : PySem.W.kitOne K (.ref (He.ga K "BadText")) (.ref (He.ga K "Nothing")) = some false
  k_BadText_TooMany : PySem.W.kitOne K (.ref (He.ga K "BadText")) (.ref (He.ga K "TooMany")) = some false
  i_Log : C8.InsC K (He.ga K "Log")
  ne_Log : PySem.W.findIn K (.ref (He.ga K "Log")) "__ne__" = some (some (.builtin "object.__ne__"))
  no_Log_NoneType : PySem.W.kitOne K (.type "NoneType") (.ref (He.ga K "Log")) = some false
  no_Log_bool : PySem.W.kitOne K (.type "bool") (.ref (He.ga K "Log")) = some false
  no_Log_int : PySem.W.kitOne K (.type "int") (.ref (He.ga K "Log")) = some false
  no_Log_str : PySem.W.kitOne K (.type "str") (.ref (He.ga K "Log")) = some false
  no_Log_list : PySem.W.kitOne K (.type "list") (.ref (He.ga K "Log")) = some false
  no_Log_tuple : PySem.W.kitOne K (.type "tuple") (.ref (He.ga K "Log")) = some false
  no_Log_dict : PySem.W.kitOne K (.type "dict") (.ref (He.ga K "Log")) = some false
theorem tx_of {K : PySem.W.Frag} {h : Heap} {mg : Str → Option Value} (X : K.In h) (G : h.Ns mainGlobals mg) (cc : XB.SaysY faL fnL tfL eyL h K) : TX K mg := have c := cc.d; {
  b_isinstance := He.free_ok X G (c.fact 0 (f := .free "isinstance") rfl),
  b_int := He.free_ok X G (c.fact 1 (f := .free "int") rfl),
  b_bool := He.free_ok X G (c.fact 2 (f := .free "bool") rfl),
  b_list := He.free_ok X G (c.fact 3 (f := .free "list") rfl),
  b_tuple := He.free_ok X G (c.fact 4 (f := .free "tuple") rfl),
  b_str := He.free_ok X G (c.fact 5 (f := .free "str") rfl),
  b_len := He.free_ok X G (c.fact 6 (f := .free "len") rfl),
  b_all := He.free_ok X G (c.fact 7 (f := .free "all") rfl),
  b_range := He.free_ok X G (c.fact 8 (f := .free "range") rfl),
  b_enumerate := He.free_ok X G (c.fact 9 (f := .free "enumerate") rfl),
  b_abs := He.free_ok X G (c.fact 10 (f := .free "abs") rfl),
  b_max := He.free_ok X G (c.fact 11 (f := .free "max") rfl),
  b_repr := He.free_ok X G (c.fact 12 (f := .free "repr") rfl),
  b_super := He.free_ok X G (c.fact 13 (f := .free "super") rfl),
  g_MOST_DEEDS := (let ⟨t, e⟩ := He.int_ok X G (c.fact 14 (f := .int "MOST_DEEDS" 12) rfl); ⟨_, e, t, rfl⟩),
  g_MOST_PASSES := (let ⟨t, e⟩ := He.int_ok X G (c.fact 15 (f := .int "MOST_PASSES" 4) rfl); ⟨_, e, t, rfl⟩),
  g_MOST_NUMBER := (let ⟨t, e⟩ := He.int_ok X G (c.fact 16 (f := .int "MOST_NUMBER" 400) rfl); ⟨_, e, t, rfl⟩),
  g_DO := (let ⟨t, e⟩ := He.str_ok X G (c.fact 17 (f := .str "DO" "do") rfl); ⟨_, e, t, rfl⟩),
  g_COME := (let ⟨t, e⟩ := He.str_ok X G (c.fact 18 (f := .str "COME" "come") rfl); ⟨_, e, t, rfl⟩),
  g_MOST_FIGURES := (let ⟨t, e⟩ := He.int_ok X G (c.fact 19 (f := .int "MOST_FIGURES" 40) rfl); ⟨_, e, t, rfl⟩),
  g_MOST_TOLD := (let ⟨t, e⟩ := He.int_ok X G (c.fact 20 (f := .int "MOST_TOLD" 9999999999999999999999999999999999999999) rfl); ⟨_, e, t, rfl⟩),
  g_DIGITS := (let ⟨t, e⟩ := He.str_ok X G (c.fact 21 (f := .str "DIGITS" "0123456789") rfl); ⟨_, e, t, rfl⟩),
  g_NONE := (let ⟨t, e⟩ := He.str_ok X G (c.fact 22 (f := .str "NONE" "-") rfl); ⟨_, e, t, rfl⟩),
  g_is_integer := He.glo_ok X G (c.fact 23 (f := .glo "is_integer") rfl),
  g_is_within := He.glo_ok X G (c.fact 24 (f := .glo "is_within") rfl),
  g_is_listed := He.glo_ok X G (c.fact 25 (f := .glo "is_listed") rfl),
  g_is_row := He.glo_ok X G (c.fact 26 (f := .glo "is_row") rfl),
  g_fixed := He.glo_ok X G (c.fact 27 (f := .glo "fixed") rfl),
  g_is_figures := He.glo_ok X G (c.fact 28 (f := .glo "is_figures") rfl),
  g_lines_of := He.glo_ok X G (c.fact 29 (f := .glo "lines_of") rfl),
  g_read_lines := He.glo_ok X G (c.fact 30 (f := .glo "read_lines") rfl),
  g_figures := He.glo_ok X G (c.fact 31 (f := .glo "figures") rfl),
  g_read_figures := He.glo_ok X G (c.fact 32 (f := .glo "read_figures") rfl),
  g_log_text := He.glo_ok X G (c.fact 33 (f := .glo "log_text") rfl),
  g_read_log := He.glo_ok X G (c.fact 34 (f := .glo "read_log") rfl),
  g_is_step_row := He.glo_ok X G (c.fact 35 (f := .glo "is_step_row") rfl),
  g_step_words := He.glo_ok X G (c.fact 36 (f := .glo "step_words") rfl),
  g_steps_text := He.glo_ok X G (c.fact 37 (f := .glo "steps_text") rfl),
  g_step_read := He.glo_ok X G (c.fact 38 (f := .glo "step_read") rfl),
  g_read_steps := He.glo_ok X G (c.fact 39 (f := .glo "read_steps") rfl),
  g__law_pen := He.glo_ok X G (c.fact 40 (f := .glo "_law_pen") rfl),
  g__law_draw := He.glo_ok X G (c.fact 41 (f := .glo "_law_draw") rfl),
  g__law_pick := He.glo_ok X G (c.fact 42 (f := .glo "_law_pick") rfl),
  g__law_heard := He.glo_ok X G (c.fact 43 (f := .glo "_law_heard") rfl),
  g__law_is_fig := He.glo_ok X G (c.fact 44 (f := .glo "_law_is_fig") rfl),
  g__law_log_read := He.glo_ok X G (c.fact 45 (f := .glo "_law_log_read") rfl),
  g__law_steps_read := He.glo_ok X G (c.fact 46 (f := .glo "_law_steps_read") rfl),
  g__law_bent_text := He.glo_ok X G (c.fact 47 (f := .glo "_law_bent_text") rfl),
  g_law := He.glo_ok X G (c.fact 48 (f := .glo "law") rfl),
  g_WaitError := He.glo_ok X G (c.fact 49 (f := .glo "WaitError") rfl),
  g_BadValue := He.glo_ok X G (c.fact 50 (f := .glo "BadValue") rfl),
  g_BadNumber := He.glo_ok X G (c.fact 51 (f := .glo "BadNumber") rfl),
  g_BadProgram := He.glo_ok X G (c.fact 52 (f := .glo "BadProgram") rfl),
  g_BadRule := He.glo_ok X G (c.fact 53 (f := .glo "BadRule") rfl),
  g_BadLog := He.glo_ok X G (c.fact 54 (f := .glo "BadLog") rfl),
  g_BadPair := He.glo_ok X G (c.fact 55 (f := .glo "BadPair") rfl),
  g_BadStep := He.glo_ok X G (c.fact 56 (f := .glo "BadStep") rfl),
  g_BadWord := He.glo_ok X G (c.fact 57 (f := .glo "BadWord") rfl),
  g_BadText := He.glo_ok X G (c.fact 58 (f := .glo "BadText") rfl),
  g_Misfit := He.glo_ok X G (c.fact 59 (f := .glo "Misfit") rfl),
  g_Nothing := He.glo_ok X G (c.fact 60 (f := .glo "Nothing") rfl),
  g_TooMany := He.glo_ok X G (c.fact 61 (f := .glo "TooMany") rfl),
  g_Log := He.glo_ok X G (c.fact 62 (f := .glo "Log") rfl),
  c_Log := He.cls_ok (c.fact 63 (f := .cls "Log") rfl),
  k_Log := He.mkr_ok (c.fact 64 (f := .mkr "Log") rfl),
  n_Log_numbers := He.noat_ok (c.fact 65 (f := .noat "Log" "numbers") rfl),
  m_Log_init := He.meth_ok (c.fact 66 (f := .meth "Log" "__init__") rfl),
  m_Log_eq := He.meth_ok (c.fact 67 (f := .meth "Log" "__eq__") rfl),
  g_Words := He.glo_ok X G (c.fact 68 (f := .glo "Words") rfl),
  c_Words := He.cls_ok (c.fact 69 (f := .cls "Words") rfl),
  k_Words := He.mkr_ok (c.fact 70 (f := .mkr "Words") rfl),
  n_Words_lines := He.noat_ok (c.fact 71 (f := .noat "Words" "lines") rfl),
  n_Words_line := He.noat_ok (c.fact 72 (f := .noat "Words" "line") rfl),
  n_Words_at := He.noat_ok (c.fact 73 (f := .noat "Words" "at") rfl),
  m_Words_init := He.meth_ok (c.fact 74 (f := .meth "Words" "__init__") rfl),
  m_Words_refuse := He.meth_ok (c.fact 75 (f := .meth "Words" "refuse") rfl),
  m_Words_peek := He.meth_ok (c.fact 76 (f := .meth "Words" "peek") rfl),
  m_Words_read_if := He.meth_ok (c.fact 77 (f := .meth "Words" "read_if") rfl),
  m_Words_read_one_of := He.meth_ok (c.fact 78 (f := .meth "Words" "read_one_of") rfl),
  m_Words_read_number := He.meth_ok (c.fact 79 (f := .meth "Words" "read_number") rfl),
  m_Words_has_none := He.meth_ok (c.fact 80 (f := .meth "Words" "has_none") rfl),
  m_Words_is_end := He.meth_ok (c.fact 81 (f := .meth "Words" "is_end") rfl),
  m_Words_end_line := He.meth_ok (c.fact 82 (f := .meth "Words" "end_line") rfl),
  m_Words_has_line := He.meth_ok (c.fact 83 (f := .meth "Words" "has_line") rfl),
  f_is_integer := c.def_ 0 (d := d_is_integer) rfl,
  f_is_within := c.def_ 1 (d := d_is_within) rfl,
  f_is_listed := c.def_ 2 (d := d_is_listed) rfl,
  f_is_row := c.def_ 3 (d := d_is_row) rfl,
  f_fixed := c.def_ 4 (d := d_fixed) rfl,
  f_Log_init := c.def_ 5 (d := d_Log_init) rfl,
  f_Log_eq := c.def_ 6 (d := d_Log_eq) rfl,
  f_is_figures := c.def_ 7 (d := d_is_figures) rfl,
  f_Words_init := c.def_ 8 (d := d_Words_init) rfl,
  f_Words_refuse := c.def_ 9 (d := d_Words_refuse) rfl,
  f_Words_peek := c.def_ 10 (d := d_Words_peek) rfl,
  f_Words_read_if := c.def_ 11 (d := d_Words_read_if) rfl,
  f_Words_read_one_of := c.def_ 12 (d := d_Words_read_one_of) rfl,
  f_Words_read_number := c.def_ 13 (d := d_Words_read_number) rfl,
  f_Words_has_none := c.def_ 14 (d := d_Words_has_none) rfl,
  f_Words_is_end := c.def_ 15 (d := d_Words_is_end) rfl,
  f_Words_end_line := c.def_ 16 (d := d_Words_end_line) rfl,
  f_Words_has_line := c.def_ 17 (d := d_Words_has_line) rfl,
  f_lines_of := c.def_ 18 (d := d_lines_of) rfl,
  f_read_lines := c.def_ 19 (d := d_read_lines) rfl,
  f_figures := c.def_ 20 (d := d_figures) rfl,
  f_read_figures := c.def_ 21 (d := d_read_figures) rfl,
  f_log_text := c.def_ 22 (d := d_log_text) rfl,
  f_read_log := c.def_ 23 (d := d_read_log) rfl,
  f_is_step_row := c.def_ 24 (d := d_is_step_row) rfl,
  f_step_words := c.def_ 25 (d := d_step_words) rfl,
  f_steps_text := c.def_ 26 (d := d_steps_text) rfl,
  f_step_read := c.def_ 27 (d := d_step_read) rfl,
  f_read_steps := c.def_ 28 (d := d_read_steps) rfl,
  f__law_pen := c.def_ 29 (d := d__law_pen) rfl,
  f__law_draw := c.def_ 30 (d := d__law_draw) rfl,
  f__law_pick := c.def_ 31 (d := d__law_pick) rfl,
  f__law_heard := c.def_ 32 (d := d__law_heard) rfl,
  f__law_is_fig := c.def_ 33 (d := d__law_is_fig) rfl,
  f__law_log_read := c.def_ 34 (d := d__law_log_read) rfl,
  f__law_steps_read := c.def_ 35 (d := d__law_steps_read) rfl,
  f__law_bent_text := c.def_ 36 (d := d__law_bent_text) rfl,
  f_law := c.def_ 37 (d := d_law) rfl,
  e_BadValue := cc.exf 0 (d := ex_BadValue) rfl,
  ec_BadValue := cc.ec 0 (x := "BadValue") rfl,
  w_BadValue := of_decide_eq_true (c.fact 84 (f := .exm "BadValue" "WaitError" true) rfl),
  k_BadValue_BadValue := cc.kit 0 (t := kt "BadValue" "BadValue" true) rfl,
  k_BadValue_BadNumber := cc.kit 1 (t := kt "BadValue" "BadNumber" false) rfl,
  k_BadValue_BadProgram := cc.kit 2 (t := kt "BadValue" "BadProgram" false) rfl,
  k_BadValue_BadRule := cc.kit 3 (t := kt "BadValue" "BadRule" false) rfl,
  k_BadValue_BadLog := cc.kit 4 (t := kt "BadValue" "BadLog" false) rfl,
  k_BadValue_BadPair := cc.kit 5 (t := kt "BadValue" "BadPair" false) rfl,
  k_BadValue_BadStep := cc.kit 6 (t := kt "BadValue" "BadStep" false) rfl,
  k_BadValue_BadWord := cc.kit 7 (t := kt "BadValue" "BadWord" false) rfl,
  k_BadValue_BadText := cc.kit 8 (t := kt "BadValue" "BadText" false) rfl,
  k_BadValue_Misfit := cc.kit 9 (t := kt "BadValue" "Misfit" false) rfl,
  k_BadValue_Nothing := cc.kit 10 (t := kt "BadValue" "Nothing" false) rfl,
  k_BadValue_TooMany := cc.kit 11 (t := kt "BadValue" "TooMany" false) rfl,
  e_BadLog := cc.exf 1 (d := ex_BadLog) rfl,
  ec_BadLog := cc.ec 1 (x := "BadLog") rfl,
  w_BadLog := of_decide_eq_true (c.fact 85 (f := .exm "BadLog" "WaitError" true) rfl),
  k_BadLog_BadValue := cc.kit 12 (t := kt "BadLog" "BadValue" false) rfl,
  k_BadLog_BadNumber := cc.kit 13 (t := kt "BadLog" "BadNumber" false) rfl,
  k_BadLog_BadProgram := cc.kit 14 (t := kt "BadLog" "BadProgram" false) rfl,
  k_BadLog_BadRule := cc.kit 15 (t := kt "BadLog" "BadRule" false) rfl,
  k_BadLog_BadLog := cc.kit 16 (t := kt "BadLog" "BadLog" true) rfl,
  k_BadLog_BadPair := cc.kit 17 (t := kt "BadLog" "BadPair" false) rfl,
  k_BadLog_BadStep := cc.kit 18 (t := kt "BadLog" "BadStep" false) rfl,
  k_BadLog_BadWord := cc.kit 19 (t := kt "BadLog" "BadWord" false) rfl,
  k_BadLog_BadText := cc.kit 20 (t := kt "BadLog" "BadText" false) rfl,
  k_BadLog_Misfit := cc.kit 21 (t := kt "BadLog" "Misfit" false) rfl,
  k_BadLog_Nothing := cc.kit 22 (t := kt "BadLog" "Nothing" false) rfl,
  k_BadLog_TooMany := cc.kit 23 (t := kt "BadLog" "TooMany" false) rfl,
  e_BadText := cc.exf 2 (d := ex_BadText) rfl,
  ec_BadText := cc.ec 2 (x := "BadText") rfl,
  w_BadText := of_decide_eq_true (c.fact 86 (f := .exm "BadText" "WaitError" true) rfl),
  k_BadText_BadValue := cc.kit 24 (t := kt "BadText" "BadValue" false) rfl,
  k_BadText_BadNumber := cc.kit 25 (t := kt "BadText" "BadNumber" false) rfl,
  k_BadText_BadProgram := cc.kit 26 (t := kt "BadText" "BadProgram" false) rfl,
  k_BadText_BadRule := cc.kit 27 (t := kt "BadText" "BadRule" false) rfl,
  k_BadText_BadLog := cc.kit 28 (t := kt "BadText" "BadLog" false) rfl,
  k_BadText_BadPair := cc.kit 29 (t := kt "BadText" "BadPair" false) rfl,
  k_BadText_BadStep := cc.kit 30 (t := kt "BadText" "BadStep" false) rfl,
  k_BadText_BadWord := cc.kit 31 (t := kt "BadText" "BadWord" false) rfl,
  k_BadText_BadText := cc.kit 32 (t := kt "BadText" "BadText" true) rfl,
  k_BadText_Misfit := cc.kit 33 (t := kt "BadText" "Misfit" false) rfl,
  k_BadText_Nothing := cc.kit 34 (t := kt "BadText" "Nothing" false) rfl,
  k_BadText_TooMany := cc.kit 35 (t := kt "BadText" "TooMany" false) rfl,
  i_Log := XB.insB_ok (He.cls_ok (c.fact 63 (f := .cls "Log") rfl)) (cc.fact 0 (b := XB.insB "Log") rfl),
  ne_Log := He.eqO_ok (cc.fact 1 (b := XB.neB "Log") rfl),
  no_Log_NoneType := of_decide_eq_true (cc.fact 2 (b := XB.notB "NoneType" "Log") rfl),
  no_Log_bool := of_decide_eq_true (cc.fact 3 (b := XB.notB "bool" "Log") rfl),
  no_Log_int := of_decide_eq_true (cc.fact 4 (b := XB.notB "int" "Log") rfl),
  no_Log_str := of_decide_eq_true (cc.fact 5 (b := XB.notB "str" "Log") rfl),
  no_Log_list := of_decide_eq_true (cc.fact 6 (b := XB.notB "list" "Log") rfl),
  no_Log_tuple := of_decide_eq_true (cc.fact 7 (b := XB.notB "tuple" "Log") rfl),
  no_Log_dict := of_decide_eq_true (cc.fact 8 (b := XB.notB "dict" "Log") rfl) }
end K75

namespace K75
open PySem PySem.Spec PyProof.Rows L2 XB
section
variable {P : Program} {w : World} {K : PySem.W.Frag} {mg : Str → Option Value} {base : Heap}
/-! ### checks -/
def sp_is_integer (K : PySem.W.Frag) : Sp := fun vs H Q _ => ∃ v d, vs = [v] ∧ Tk K H v d ∧ Q (.bl (isInt d && !isBool d)) H
theorem cal_is_integer (T : TX K mg) : CalA P w K mg base 1 (He.ga K "is_integer") (sp_is_integer K) := by
  obtain ⟨fd, F⟩ := T.f_is_integer
  refine ⟨fd, p_is_integer, F.ok sc_is_integer (fun vs H Q E h => ?_) (fun cdv A outer s H vs Q E hr h => ?_), F.kp, (F.bindsN (ps := p_is_integer) fun _ _ _ _ _ _ us hl => match us, hl with | [_], _ => rfl)⟩
  · obtain ⟨v, d, rfl, _⟩ := h
    rfl
  · obtain ⟨v, d, rfl, hv, q⟩ := h
    refine ⟨_, (pss_one (ps_ret (pe_and (pe_callB call_isi (by rfl) T.b_isinstance (by decide +kernel) (pa_cons (pv 0) (pa_cons (pe_bltn (v := .ty "int") (by rfl) T.b_int (by decide +kernel) rfl) pa_nil))) (pe_one (pe_not (pe_callB call_isi (by rfl) T.b_isinstance (by decide +kernel) (pa_cons (pv 0) (pa_cons (pe_bltn (v := .ty "bool") (by rfl) T.b_bool (by decide +kernel) rfl) pa_nil)))))))), ?_⟩
    refine ⟨_, rfl, v, _, _, _, _, rfl, .ty _, hv.ty, kit_ty (kit_int d), _, rfl, ?_⟩
    refine ite2 (fun e => ?_) (fun e => ?_)
    · rw [e] at q
      exact ⟨_, rfl, v, _, _, _, _, rfl, .ty _, hv.ty, kit_ty (kit_bool d), _, rfl, q⟩
    · rw [Bool.eq_false_iff.mpr e] at q
      exact q
def inB : PyData → Int → Int → Bool
  | .int i, lo, hi => decide (lo ≤ i) && decide (i ≤ hi)
  | _, _, _ => false
theorem inB_no {d : PyData} {lo hi : Int} (h : (isInt d && !isBool d) = false) : inB d lo hi = false := by
  cases d <;> first | rfl | (cases h)
theorem int_of {d : PyData} (h : (isInt d && !isBool d) = true) : ∃ i, d = .int i := by
  cases d <;> first | exact ⟨_, rfl⟩ | (cases h)
def sp_is_within (K : PySem.W.Frag) : Sp := fun vs H Q _ => ∃ v d lo hi, vs = [v, .int lo, .int hi] ∧ Tk K H v d ∧ Q (.bl (inB d lo hi)) H
theorem cal_is_within (T : TX K mg) : CalA P w K mg base 2 (He.ga K "is_within") (sp_is_within K) := by
  have c_is_integer := (cal_is_integer (P := P) (w := w) (base := base) T).cal T.g_is_integer
  obtain ⟨fd, F⟩ := T.f_is_within
  refine ⟨fd, p_is_within, F.ok sc_is_within (fun vs H Q E h => ?_) (fun cdv A outer s H vs Q E hr h => ?_), F.kp, (F.bindsN (ps := p_is_within) fun _ _ _ _ _ _ us hl => match us, hl with | [_, _, _], _ => rfl)⟩
  · obtain ⟨v, d, lo, hi, rfl, _⟩ := h
    rfl
  · obtain ⟨v, d, lo, hi, rfl, hv, q⟩ := h
    refine ⟨_, (pss_one (ps_ret (pe_and (pe_c (c_is_integer.mono (by first | decide | omega)) hr pX rfl (pa_cons (pv 0) pa_nil)) (pe_one (pe_chain op_le op_le (pv 1) (pv 0) (pv 2)))))), ?_⟩
    refine ⟨_, rfl, v, d, rfl, hv, _, rfl, ite2 (fun e => ?_) (fun e => ?_)⟩
    · obtain ⟨i, rfl⟩ := int_of e
      obtain rfl := tkInt hv
      refine ⟨_, rfl, _, rfl, _, _, rfl, rfl, _, rfl, ite2 (fun e1 => ?_) (fun e1 => ?_)⟩
      · refine ⟨_, rfl, _, _, rfl, rfl, ?_⟩
        have e2 : inB (.int i) lo hi = decide (i ≤ hi) := by
          show (decide (lo ≤ i) && decide (i ≤ hi)) = _
          rw [e1, Bool.true_and]
        rw [e2] at q
        exact q
      · have e2 : inB (.int i) lo hi = false := by
          show (decide (lo ≤ i) && decide (i ≤ hi)) = _
          rw [Bool.eq_false_iff.mpr e1, Bool.false_and]
        rw [e2] at q
        exact q
    · rw [inB_no (Bool.eq_false_iff.mpr e)] at q
      exact q
def sp_is_listed (K : PySem.W.Frag) : Sp := fun vs H Q _ => ∃ v d, vs = [v] ∧ Tk K H v d ∧ ∀ H', Same H H' → Q (.bl (isSeq d)) H'
theorem cal_is_listed (T : TX K mg) : CalA P w K mg base 1 (He.ga K "is_listed") (sp_is_listed K) := by
  obtain ⟨fd, F⟩ := T.f_is_listed
  refine ⟨fd, p_is_listed, F.ok sc_is_listed (fun vs H Q E h => ?_) (fun cdv A outer s H vs Q E hr h => ?_), F.kp, (F.bindsN (ps := p_is_listed) fun _ _ _ _ _ _ us hl => match us, hl with | [_], _ => rfl)⟩
  · obtain ⟨v, d, rfl, _⟩ := h
    rfl
  · obtain ⟨v, d, rfl, hv, q⟩ := h
    refine ⟨_, (pss_one (ps_ret (pe_callB call_isiT (by rfl) T.b_isinstance (by decide +kernel) (pa_cons (pv 0) (pa_cons (pe_tup (pa_cons (pe_bltn (v := .ty "list") (by rfl) T.b_list (by decide +kernel) rfl) (pa_cons (pe_bltn (v := .ty "tuple") (by rfl) T.b_tuple (by decide +kernel) rfl) pa_nil))) pa_nil))))), ?_⟩
    refine ⟨_, rfl, (by decide +kernel), fun p hp => ?_⟩
    exact ⟨v, p, _, _, _, _, rfl, upd_same, .cons (.ty _) (.cons (.ty _) .nil), (hv.same (same_new hp)).ty, kit_seq d, q _ (same_new hp)⟩
def rowB : PyData → Int → Int → Bool
  | .list ds, lo, hi => decide (lo ≤ (ds.length : Int)) && decide ((ds.length : Int) ≤ hi)
  | .tuple ds, lo, hi => decide (lo ≤ (ds.length : Int)) && decide ((ds.length : Int) ≤ hi)
  | _, _, _ => false
/-- a list or tuple and how long it is -/
theorem seq_of {H : Hp} {v : V} {d : PyData} (h : Tk K H v d) (e : isSeq d = true) : ∃ a xs ds, v = .ref a ∧ (SqL K H a xs ∨ SqT K H a xs) ∧ DpAll K H xs ds ∧ (d = .list ds ∨ d = .tuple ds) := by
  cases h with
  | dat h =>
    cases h with
    | lst h r => exact ⟨_, _, _, rfl, .inl h, r, .inl rfl⟩
    | tup h r => exact ⟨_, _, _, rfl, .inr h, r, .inr rfl⟩
    | non => cases e
    | bl b => cases e
    | int i => cases e
    | str x => cases e
  | dic h q =>
    subst q
    cases e
theorem rowB_of {d : PyData} {ds : List PyData} {lo hi : Int} (h : d = .list ds ∨ d = .tuple ds) : rowB d lo hi = (decide (lo ≤ (ds.length : Int)) && decide ((ds.length : Int) ≤ hi)) := by
  rcases h with rfl | rfl <;> rfl
theorem rowB_no {d : PyData} {lo hi : Int} (e : isSeq d = false) : rowB d lo hi = false := by
  cases d <;> first | rfl | (cases e)
theorem sq_same {H H' : Hp} {a : Addr} {xs : List V} (s : Same H H') (h : SqL K H a xs ∨ SqT K H a xs) : SqL K H' a xs ∨ SqT K H' a xs := h.elim (fun q => .inl (s.seq q)) fun q => .inr (sqT_same s q)
def sp_is_row (K : PySem.W.Frag) : Sp := fun vs H Q _ => ∃ v d lo hi, vs = [v, .int lo, .int hi] ∧ Tk K H v d ∧ ∀ H', Same H H' → Q (.bl (rowB d lo hi)) H'
theorem cal_is_row (T : TX K mg) : CalA P w K mg base 2 (He.ga K "is_row") (sp_is_row K) := by
  have c_is_listed := (cal_is_listed (P := P) (w := w) (base := base) T).cal T.g_is_listed
  obtain ⟨fd, F⟩ := T.f_is_row
  refine ⟨fd, p_is_row, F.ok sc_is_row (fun vs H Q E h => ?_) (fun cdv A outer s H vs Q E hr h => ?_), F.kp, (F.bindsN (ps := p_is_row) fun _ _ _ _ _ _ us hl => match us, hl with | [_, _, _], _ => rfl)⟩
  · obtain ⟨v, d, lo, hi, rfl, _⟩ := h
    rfl
  · obtain ⟨v, d, lo, hi, rfl, hv, q⟩ := h
    refine ⟨_, (pss_one (ps_ret (pe_and (pe_c (c_is_listed.mono (by first | decide | omega)) hr pX rfl (pa_cons (pv 0) pa_nil)) (pe_one (pe_chain op_le op_le (pv 1) (pe_callB call_len_seq (by rfl) T.b_len (by decide +kernel) (pa_cons (pv 0) pa_nil)) (pv 2)))))), ?_⟩
    refine ⟨_, rfl, v, d, rfl, hv, fun H1 s1 => ⟨_, rfl, ite2 (fun e => ?_) (fun e => ?_)⟩⟩
    · obtain ⟨a, xs, ds, rfl, hs, hd, hds⟩ := seq_of hv e
      have ql := q H1 s1
      rw [rowB_of hds, ← dps_len hd] at ql
      refine ⟨_, rfl, _, rfl, a, xs, rfl, sq_same s1 hs, _, _, rfl, rfl, _, rfl, ite2 (fun e1 => ?_) (fun e1 => ?_)⟩
      · rw [e1, Bool.true_and] at ql
        exact ⟨_, rfl, _, _, rfl, rfl, ql⟩
      · rw [Bool.eq_false_iff.mpr e1, Bool.false_and] at ql
        exact ql
    · have ql := q H1 s1
      rw [rowB_no (Bool.eq_false_iff.mpr e)] at ql
      exact ql
/-! ### fixed -/
mutual
def fixD : PyData → PyData
  | .list ds => .tuple (fixDs ds)
  | .tuple ds => .tuple (fixDs ds)
  | .none => .none
  | .bool b => .bool b
  | .int i => .int i
  | .str x => .str x
  | .dict kvs => .dict kvs
def fixDs : List PyData → List PyData
  | [] => []
  | d :: ds => fixD d :: fixDs ds
end
mutual
def deepD : PyData → Nat
  | .list ds => deepDs ds + 1
  | .tuple ds => deepDs ds + 1
  | _ => 0
def deepDs : List PyData → Nat
  | [] => 0
  | d :: ds => max (deepD d) (deepDs ds)
end
theorem fixDs_map : ∀ ds : List PyData, fixDs ds = ds.map fixD
  | [] => rfl
  | d :: r => by rw [fixDs, fixDs_map r, List.map_cons]
theorem fixD_seq {d : PyData} {ds : List PyData} (h : d = .list ds ∨ d = .tuple ds) : fixD d = .tuple (ds.map fixD) := by
  rcases h with rfl | rfl <;> rw [fixD, fixDs_map]
theorem fixD_no {d : PyData} (e : isSeq d = false) : fixD d = d := by
  cases d <;> first | rfl | (cases e) | (rw [fixD])
theorem deep_at : ∀ {ds : List PyData} {i : Nat} {d : PyData}, ds[i]? = some d → deepD d ≤ deepDs ds
  | [], i, d, h => by simp at h
  | x :: r, 0, d, h => by
    simp at h
    subst h
    rw [deepDs]
    omega
  | x :: r, i + 1, d, h => by
    have := deep_at (ds := r) (i := i) (d := d) (by simpa using h)
    rw [deepDs]
    omega
theorem deep_seq {d : PyData} {ds : List PyData} (h : d = .list ds ∨ d = .tuple ds) : deepD d = deepDs ds + 1 := by
  rcases h with rfl | rfl <;> rw [deepD]
theorem dps_of_at {H : Hp} : ∀ {vs : List V} {ds : List PyData}, vs.length = ds.length → (∀ (i : Nat) (v : V) (d : PyData), vs[i]? = some v → ds[i]? = some d → Dp K H v d) → DpAll K H vs ds
  | [], [], _, _ => .nil
  | v :: vs, d :: ds, e, h => .cons (h 0 v d rfl rfl) (dps_of_at (by simpa using e) fun i v' d' h1 h2 => h (i + 1) v' d' (by simpa using h1) (by simpa using h2))
  | [], _ :: _, e, _ => by simp at e
  | _ :: _, [], e, _ => by simp at e
theorem take_snoc {α : Type} {l : List α} {i : Nat} {x : α} (h : l[i]? = some x) : l.take (i + 1) = l.take i ++ [x] := by
  rw [List.take_add_one, h]
  rfl
mutual
/-- no list within -/
def noL : PyData → Bool
  | .list _ => false
  | .tuple ds => noLs ds
  | _ => true
def noLs : List PyData → Bool
  | [] => true
  | d :: ds => noL d && noLs ds
end
mutual
theorem noL_fix : ∀ d : PyData, noL (fixD d) = true
  | .list ds => by
    rw [fixD, noL]
    exact noL_fixs ds
  | .tuple ds => by
    rw [fixD, noL]
    exact noL_fixs ds
  | .none => rfl
  | .bool _ => rfl
  | .int _ => rfl
  | .str _ => rfl
  | .dict _ => rfl
theorem noL_fixs : ∀ ds : List PyData, noLs (fixDs ds) = true
  | [] => rfl
  | d :: ds => by rw [fixDs, noLs, noL_fix d, noL_fixs ds] <;> rfl
end
theorem noLs_fix (ds : List PyData) : noLs (ds.map fixD) = true := by
  rw [← fixDs_map]
  exact noL_fixs ds
theorem band {a b : Bool} (h : (a && b) = true) : a = true ∧ b = true := Bool.and_eq_true_iff.mp h
theorem sqT_but {H H' : Hp} {D a : Addr} {ys xs : List V} (hD : H D = some (.lst ys)) (hb : But D H H') (h : SqT K H a xs) : SqT K H' a xs := by
  rcases h with (h | ⟨o, h⟩) | h
  · exact .inl (.inl (hb _ _ h (ne_of h hD (by intro z; cases z))))
  · exact .inl (.inr ⟨o, hb _ _ h (ne_of h hD (by intro z; cases z))⟩)
  · exact .inr h
mutual
theorem dp_but {H H' : Hp} {D : Addr} {ys : List V} (hD : H D = some (.lst ys)) (hb : But D H H') : ∀ {v : V} {d : PyData}, noL d = true → Dp K H v d → Dp K H' v d
  | _, _, _, .non => .non
  | _, _, _, .bl b => .bl b
  | _, _, _, .int i => .int i
  | _, _, _, .str x => .str x
  | _, _, n, .lst h r => by
    rw [noL] at n
    cases n
  | _, _, n, .tup h r => .tup (sqT_but hD hb h) (dps_but hD hb (by rw [noL] at n; exact n) r)
theorem dps_but {H H' : Hp} {D : Addr} {ys : List V} (hD : H D = some (.lst ys)) (hb : But D H H') : ∀ {vs : List V} {ds : List PyData}, noLs ds = true → DpAll K H vs ds → DpAll K H' vs ds
  | _, _, _, .nil => .nil
  | _, _, n, .cons h r => by
    rw [noLs] at n
    exact .cons (dp_but hD hb (band n).1 h) (dps_but hD hb (band n).2 r)
end
mutual
def sizD : PyData → Nat
  | .list ds => sizDs ds + 1
  | .tuple ds => sizDs ds + 1
  | _ => 1
def sizDs : List PyData → Nat
  | [] => 0
  | d :: ds => sizD d + sizDs ds
end
theorem siz_pos (d : PyData) : 1 ≤ sizD d := by
  cases d with
  | list ds =>
    rw [sizD]
    omega
  | tuple ds =>
    rw [sizD]
    omega
  | _ => exact Nat.le_refl _
theorem siz_len : ∀ ds : List PyData, ds.length ≤ sizDs ds
  | [] => Nat.le_refl _
  | d :: r => by
    have := siz_len r
    have := siz_pos d
    rw [sizDs, List.length_cons]
    omega
theorem siz_at : ∀ {ds : List PyData} {i : Nat} {d : PyData}, ds[i]? = some d → sizD d ≤ sizDs ds
  | [], i, d, h => by simp at h
  | x :: r, 0, d, h => by
    simp at h
    subst h
    rw [sizDs]
    omega
  | x :: r, i + 1, d, h => by
    have := siz_at (ds := r) (i := i) (d := d) (by simpa using h)
    rw [sizDs]
    omega
theorem siz_seq {d : PyData} {ds : List PyData} (h : d = .list ds ∨ d = .tuple ds) : sizD d = sizDs ds + 1 := by
  rcases h with rfl | rfl <;> rw [sizD]
theorem line5 {n : Nat} (h : n ≤ 100000) : n < sizeLine := Nat.lt_of_le_of_lt h (by decide)
def sp_fixed (K : PySem.W.Frag) (n : Nat) : Sp := fun vs H Q _ => ∃ v d, vs = [v] ∧ Tk K H v d ∧ deepD d ≤ n ∧ sizD d ≤ 100000 ∧ ∀ v' H', Same H H' → Tk K H' v' (fixD d) → (isSeq d = false → v' = v) → Q v' H'
theorem fixed_step (T : TX K mg) {n k : Nat} {sub : Sp} (c : Cal P w K mg base k "fixed" sub)
    (hsub : ∀ (x : V) (d : PyData) (H : Hp) (Q : VK) (E : XK), Dp K H x d → deepD d < n → sizD d ≤ 100000 → (∀ v' H', Same H H' → Dp K H' v' (fixD d) → Q v' H') → sub [x] H Q E) :
    CalA P w K mg base (k + 1) (He.ga K "fixed") (sp_fixed K n) := by
  have c_fixed := c
  obtain ⟨fd, F⟩ := T.f_fixed
  refine ⟨fd, p_fixed, F.ok sc_fixed (fun vs H Q E h => ?_) (fun cdv A outer s H vs Q E hr h => ?_), F.kp, (F.bindsN (ps := p_fixed) fun _ _ _ _ _ _ us hl => match us, hl with | [_], _ => rfl)⟩
  · obtain ⟨v, d, rfl, _⟩ := h
    rfl
  · obtain ⟨v, d, rfl, hv, hd, hz, q⟩ := h
    refine ⟨_, (pss_cons (ps_if (pt_val (pe_callB call_isiT (by rfl) T.b_isinstance (by decide +kernel) (pa_cons (pv 0) (pa_cons (pe_tup (pa_cons (pe_bltn (v := .ty "list") (by rfl) T.b_list (by decide +kernel) rfl) (pa_cons (pe_bltn (v := .ty "tuple") (by rfl) T.b_tuple (by decide +kernel) rfl) pa_nil))) pa_nil))))
 (pss_one (ps_ret (pe_callTy call_tuple_of (by rfl) T.b_tuple (by decide +kernel) (pa_cons (pe_lc (own := [("part", 1)]) (g := gName 1) rfl sc_fixed.nd (pi_seq (pv 0)) (blkOk_by (own := [("part", 1)]) (N := n_fixed) (sc := defScope s_fixed) (by decide +kernel)) (fun _ _ _ _ _ => (pg_name (i := 1) sc_fixed.nd rfl (by first | exact Or.inl rfl | exact Or.inr rfl))) (fun _ _ _ _ _ => pts_nil) (fun _ _ _ _ _ => (pe_c (c_fixed.mono (by first | decide | omega)) hr passL rfl (pa_cons (pv 1) pa_nil)))) pa_nil))))
 pss_nil)
 (pss_one (ps_ret (pv 0)))), ?_⟩
    refine ⟨_, rfl, (by decide +kernel), fun p hp => ?_⟩
    have s0 : Same H (upd H p (.tup [.ty "list", .ty "tuple"])) := same_new hp
    refine ⟨v, p, _, _, _, _, rfl, upd_same, .cons (.ty _) (.cons (.ty _) .nil), (hv.same s0).ty, kit_seq d, _, rfl, ite2 (fun e => ?_) (fun e => ?_)⟩
    · obtain ⟨a, xs, ds, rfl, hs, hds, hk⟩ := seq_of hv e
      have el := dps_len hds
      rw [siz_seq hk] at hz
      have hl := siz_len ds
      generalize eH : upd H p (.tup [.ty "list", .ty "tuple"]) = H0 at s0
      have go : ∀ D : Addr, H0 D = none → ∀ H2, (∃ acc, H2 D = some (.lst acc) ∧ acc.length = xs.length ∧ Same H0 H2 ∧ DpAll K H2 acc ((ds.take xs.length).map fixD)) →
          ∃ a' ys, [V.ref D] = [V.ref a'] ∧ ((SqL K H2 a' ys ∧ ∀ l, H2 l = none → Q (.ref l) (upd H2 l (.tup ys))) ∨ (SqT K H2 a' ys ∧ Q (.ref a') H2)) := by
        rintro D hD H2 ⟨acc, h1, h2, h3, h4⟩
        rw [el, List.take_length] at h4
        refine ⟨D, acc, rfl, .inl ⟨SqL.of h1, fun l hl => ?_⟩⟩
        refine q _ _ (s0.trans (h3.trans (same_new hl))) (.dat ?_) fun z => ?_
        · rw [fixD_seq hk]
          exact .tup (SqT.of upd_same) (dps_same (same_new hl) h4)
        · rcases hk with rfl | rfl <;> cases z
      have turn : ∀ (D : Addr), H0 D = none → ∀ (i : Nat) (x : V) (H1 : Hp), xs[i]? = some x →
          (∃ acc, H1 D = some (.lst acc) ∧ acc.length = i ∧ Same H0 H1 ∧ DpAll K H1 acc ((ds.take i).map fixD)) →
          sub [x] H1 (fun y H4 => ∃ acc, H4 D = some (.lst acc) ∧ acc.length < sizeLine ∧ ∃ acc2, (upd H4 D (.lst (acc ++ [y]))) D = some (.lst acc2) ∧ acc2.length = i + 1 ∧ Same H0 (upd H4 D (.lst (acc ++ [y]))) ∧ DpAll K (upd H4 D (.lst (acc ++ [y]))) acc2 ((ds.take (i + 1)).map fixD)) E0 := by
        rintro D hD i x H1 hi ⟨acc, h1, h2, h3, h4⟩
        obtain ⟨d', hd1, hd2⟩ := dps_at hds hi
        have hi2 : i < xs.length := (List.getElem?_eq_some_iff.mp hi).1
        refine hsub x d' H1 _ _ (dp_same (s0.trans h3) hd2) ?_ ?_ fun v' H4 s4 hv' => ?_
        · have := deep_at hd1
          rw [deep_seq hk] at hd
          omega
        · have := siz_at hd1
          omega
        · refine ⟨acc, s4 _ _ h1, line5 (by omega), acc ++ [v'], upd_same, by rw [List.length_append, h2]; rfl, same_mut (h3.trans s4) hD, ?_⟩
          have e1 := take_snoc hd1
          rw [e1, List.map_append]
          have hb : But D H4 (upd H4 D (.lst (acc ++ [v']))) := but_upd
          exact dps_snoc (dps_but (s4 _ _ h1) hb (noLs_fix _) (dps_same s4 h4)) (dp_but (s4 _ _ h1) hb (noL_fix d') hv')
      rcases hs with hs | hs
      · refine .inl ⟨_, rfl, a, rfl, ⟨xs, s0.seq hs⟩, fun D hD => lc_list (K := K) (a := a) (xs := xs) (fun i H1 => ∃ acc, H1 D = some (.lst acc) ∧ acc.length = i ∧ Same H0 H1 ∧ DpAll K H1 acc ((ds.take i).map fixD)) ?_ ?_ ?_ ?_⟩
        · exact ⟨[], upd_same, rfl, same_new hD, .nil⟩
        · rintro i H1 _ ⟨acc, h1, h2, h3, h4⟩
          exact (s0.trans h3).seq hs
        · intro i x H1 hi p1
          exact ⟨rfl, yes_if ⟨_, rfl, turn D hD i x H1 hi p1⟩⟩
        · exact go D hD
      · refine .inr ⟨_, rfl, a, rfl, ⟨xs, sqT_same s0 hs⟩, fun D hD => lc_tup (K := K) (a := a) (xs := xs) (fun i H1 => ∃ acc, H1 D = some (.lst acc) ∧ acc.length = i ∧ Same H0 H1 ∧ DpAll K H1 acc ((ds.take i).map fixD)) ?_ ?_ ?_ ?_⟩
        · exact ⟨[], upd_same, rfl, same_new hD, .nil⟩
        · rintro i H1 _ ⟨acc, h1, h2, h3, h4⟩
          exact sqT_same (s0.trans h3) hs
        · intro i x H1 hi p1
          exact ⟨rfl, yes_if ⟨_, rfl, turn D hD i x H1 hi p1⟩⟩
        · exact go D hD
    · have e2 : isSeq d = false := Bool.eq_false_iff.mpr e
      refine ⟨_, rfl, q _ _ s0 ?_ fun _ => rfl⟩
      rw [fixD_no e2]
      exact hv.same s0
theorem cal_fixed (T : TX K mg) : ∀ n : Nat, CalA P w K mg base (n + 2) (He.ga K "fixed") (sp_fixed K n)
  | 0 => by
    obtain ⟨fd, F⟩ := T.f_fixed
    have c : CalA P w K mg base 1 (He.ga K "fixed") (fun _ _ _ _ => False) :=
      ⟨fd, p_fixed, ⟨fun _ _ _ _ h => h.elim, fun _ _ _ _ _ _ _ _ _ _ _ _ _ h => h.elim⟩, F.kp, (F.bindsN (ps := p_fixed) fun _ _ _ _ _ _ us hl => match us, hl with | [_], _ => rfl)⟩
    exact fixed_step T (c.cal T.g_fixed) fun x d H Q E _ h => absurd h (Nat.not_lt_zero _)
  | n + 1 => by
    have c := cal_fixed T n
    exact fixed_step T (c.cal T.g_fixed) fun x d H Q E h1 h2 h3 h4 => ⟨x, d, rfl, .dat h1, by omega, h3, fun v' H' s hv _ => h4 v' H' s (by
      cases hv with
      | dat h => exact h
      | dic h e =>
        cases h1 with
        | lst _ _ =>
          rw [fixD] at e
          cases e
        | tup _ _ =>
          rw [fixD] at e
          cases e
        | _ =>
          rw [fixD] at e
          cases e)⟩
end
end K75

namespace K75
open PySem PySem.Spec PyProof.Rows L2 XB
/-- looks at the whole program -/
structure PF (P : Program) : Prop where
  file : ((P.main.file : Str) == ("/claim/cut.py" : Str)) = true
  top : (P.main.scope.names.lookup ("super" : Str)).isSome = false
section
variable {P : Program} {w : World} {K : PySem.W.Frag} {mg : Str → Option Value} {base : Heap}
/-! ### the errors -/
theorem own_BadLog (T : TX K mg) (hP : PF P) : OwnX P w K mg base 1 "BadLog" (He.ga K "BadLog") ["part"] := by
  have S := T.e_BadLog.sup
  obtain ⟨fd, F, b⟩ := ini_ok (P := P) (w := w) (mg := mg) (base := base) (k := 0) (sp := spI (He.ga K "BadLog") ["part"]) (N := ["self", "part", "__class__"]) (ps := ["self", "part"]) S ⟨NdefX.nscope_by (by decide +kernel), ⟨_, rfl, rfl, by decide +kernel⟩, by decide +kernel, by decide +kernel⟩ hP.file hP.top T.b_super
    (fun vs H Q E h => by obtain ⟨a, ws, rfl, l, _⟩ := h; rw [List.length_cons, l]; rfl) (fun _ _ _ _ _ _ _ us hl => match us, hl with | [_, _], _ => rfl)
    (fun cc c A outer s H vs Q E h => by
      obtain ⟨a, ws, rfl, l, ha, q⟩ := h
      match ws, l with
      | [v0], _ =>
        refine ⟨_, _, a, (pa_cons (pv 1) pa_nil), (pss_one (ps_ost (pv 0) (pv 1))), rfl, ha, ?_⟩
        refine ⟨_, rfl, ?_⟩
        refine ⟨ha, by simp, ?_⟩
        refine ⟨_, rfl, _, rfl, a, _, rfl, S.cls, T.e_BadLog.no _ (by decide), .inl ⟨ha, fun dx hd hda => ?_⟩⟩
        exact q dx _ hd hda upd_same (by rw [upd_ne hda]; exact upd_same) fun b h1 h2 => by rw [upd_ne h1, upd_ne h2])
  exact ⟨_, fd, _, S.cls, S.init, S.tyI, F, b, T.g_BadLog⟩
theorem own_BadValue (T : TX K mg) (hP : PF P) : OwnX P w K mg base 1 "BadValue" (He.ga K "BadValue") ["part"] := by
  have S := T.e_BadValue.sup
  obtain ⟨fd, F, b⟩ := ini_ok (P := P) (w := w) (mg := mg) (base := base) (k := 0) (sp := spI (He.ga K "BadValue") ["part"]) (N := ["self", "part", "__class__"]) (ps := ["self", "part"]) S ⟨NdefX.nscope_by (by decide +kernel), ⟨_, rfl, rfl, by decide +kernel⟩, by decide +kernel, by decide +kernel⟩ hP.file hP.top T.b_super
    (fun vs H Q E h => by obtain ⟨a, ws, rfl, l, _⟩ := h; rw [List.length_cons, l]; rfl) (fun _ _ _ _ _ _ _ us hl => match us, hl with | [_, _], _ => rfl)
    (fun cc c A outer s H vs Q E h => by
      obtain ⟨a, ws, rfl, l, ha, q⟩ := h
      match ws, l with
      | [v0], _ =>
        refine ⟨_, _, a, (pa_cons (pv 1) pa_nil), (pss_one (ps_ost (pv 0) (pv 1))), rfl, ha, ?_⟩
        refine ⟨_, rfl, ?_⟩
        refine ⟨ha, by simp, ?_⟩
        refine ⟨_, rfl, _, rfl, a, _, rfl, S.cls, T.e_BadValue.no _ (by decide), .inl ⟨ha, fun dx hd hda => ?_⟩⟩
        exact q dx _ hd hda upd_same (by rw [upd_ne hda]; exact upd_same) fun b h1 h2 => by rw [upd_ne h1, upd_ne h2])
  exact ⟨_, fd, _, S.cls, S.init, S.tyI, F, b, T.g_BadValue⟩
theorem own_BadText (T : TX K mg) (hP : PF P) : OwnX P w K mg base 1 "BadText" (He.ga K "BadText") ["line", "word"] := by
  have S := T.e_BadText.sup
  obtain ⟨fd, F, b⟩ := ini_ok (P := P) (w := w) (mg := mg) (base := base) (k := 0) (sp := spI (He.ga K "BadText") ["line", "word"]) (N := ["self", "line", "word", "__class__"]) (ps := ["self", "line", "word"]) S ⟨NdefX.nscope_by (by decide +kernel), ⟨_, rfl, rfl, by decide +kernel⟩, by decide +kernel, by decide +kernel⟩ hP.file hP.top T.b_super
    (fun vs H Q E h => by obtain ⟨a, ws, rfl, l, _⟩ := h; rw [List.length_cons, l]; rfl) (fun _ _ _ _ _ _ _ us hl => match us, hl with | [_, _, _], _ => rfl)
    (fun cc c A outer s H vs Q E h => by
      obtain ⟨a, ws, rfl, l, ha, q⟩ := h
      match ws, l with
      | [v0, v1], _ =>
        refine ⟨_, _, a, (pa_cons (pv 1) (pa_cons (pv 2) pa_nil)), (pss_cons (ps_ost (pv 0) (pv 1)) (pss_one (ps_ost (pv 0) (pv 2)))), rfl, ha, ?_⟩
        refine ⟨_, rfl, ?_⟩
        refine ⟨_, rfl, ?_⟩
        refine ⟨ha, by simp, ?_⟩
        refine ⟨_, rfl, _, rfl, a, _, rfl, S.cls, T.e_BadText.no _ (by decide), .inl ⟨ha, fun dx hd hda => ?_⟩⟩
        refine ⟨_, rfl, _, rfl, a, _, rfl, S.cls, T.e_BadText.no _ (by decide), .inr ⟨dx, _, upd_same, by rw [upd_ne hda]; exact upd_same, by simp, ?_⟩⟩
        exact q dx _ hd hda (by rw [upd_ne (Ne.symm hda)]; exact upd_same) upd_same fun b h1 h2 => by rw [upd_ne h2, upd_ne h1, upd_ne h2])
  exact ⟨_, fd, _, S.cls, S.init, S.tyI, F, b, T.g_BadText⟩
end
end K75

namespace K75
open PySem PySem.Spec PyProof.Rows L2 XB LamX
/-! ### all that is known over a base -/
abbrev dLaw : He.Defn := ("law", none)
abbrev dOne : He.Defn := ("Words", some "read_one_of")
structure BX (P : Program) (K : PySem.W.Frag) (mg : Str → Option Value) (base : Heap) : Prop where
  T : TX K mg
  hP : PF P
  kin : K.In base
  tl : TabB base mg (He.cT K dLaw).1 (He.cT K dLaw).2
  tw : TabB base mg (He.cT K dOne).1 (He.cT K dOne).2
  dis : (He.cT K dLaw).2 ≠ (He.cT K dOne).2
theorem BX.up {P : Program} {K : PySem.W.Frag} {mg : Str → Option Value} {base G : Heap} (b : BX P K mg base) (h : ∀ c o, base.get? c = some o → G.get? c = some o) (kin : K.In G) : BX P K mg G :=
  ⟨b.T, b.hP, kin, ⟨b.tl.code.keeps h, b.tl.bm.keeps h, b.tl.gP⟩, ⟨b.tw.code.keeps h, b.tw.bm.keeps h, b.tw.gP⟩, b.dis⟩
/-- the tables, the names that their code objects bear -/
abbrev qLaw : Str := "law.<locals>.<lambda>"
abbrev qOne : Str := "Words.read_one_of.<locals>.<lambda>"
def TL (K : PySem.W.Frag) : List (Addr × Str) := [((He.cT K dLaw).2, qLaw), ((He.cT K dOne).2, qOne)]
section
variable {P : Program} {w : World} {K : PySem.W.Frag} {mg : Str → Option Value} {base : Heap}
/-! ### is_figures -/
theorem at0 {α : Type} {l : List α} (h : 0 < l.length) : atI l 0 = some l[0] := by
  unfold atI ixN
  simp [h]
theorem line_le {n : Nat} (h : n ≤ 16777214) : n ≤ sizeLine := by
  rw [sizeLine_eq]
  omega
def digs : List Nat := ("0123456789" : Str).cps.toList
def figB (w : Str) : Bool := (decide (1 ≤ (w.length : Int)) && decide ((w.length : Int) ≤ 40)) && (w.cps.toList.all (fun c => decide (c ∈ digs)) && (decide (V.str w = V.str "0") || !decide (V.str ⟨#[w.cps.toList.getD 0 0]⟩ = V.str "0")))
def sp_is_figures (K : PySem.W.Frag) : Sp := fun vs H Q _ => ∃ w : Str, vs = [.str w] ∧ w.length ≤ 16777214 ∧ ∀ H', Kt (TL K) [] H H' → Q (.bl (figB w)) H'
theorem cal_is_figures (B : BX P K mg base) : CalA P w K mg base 1 (He.ga K "is_figures") (sp_is_figures K) := by
  have T := B.T
  obtain ⟨fd, F⟩ := T.f_is_figures
  refine ⟨fd, p_is_figures, F.ok sc_is_figures (fun vs H Q E h => ?_) (fun cdv A outer s H vs Q E hr h => ?_), F.kp, (F.bindsN (ps := p_is_figures) fun _ _ _ _ _ _ us hl => match us, hl with | [_], _ => rfl)⟩
  · obtain ⟨z, rfl, _⟩ := h
    rfl
  · obtain ⟨z, rfl, hz, q⟩ := h
    refine ⟨_, (pss_cons (ps_if (PW.pt (pw_or (pt_not (pt_chain op_le op_le pe_int (pe_callB call_len_str (by rfl) T.b_len (by decide +kernel) (pa_cons (pv 0) pa_nil)) (C8.pe_gc rfl T.g_MOST_FIGURES))) (pw_or1 (pt_not (pt_val (pe_callB (cr_all rfl) (by rfl) T.b_all (by decide +kernel) (pa_cons (pe_lc (own := [("sign", 1)]) (g := gName 1) rfl sc_is_figures.nd (pi_str (pv 0)) (blkOk_by (own := [("sign", 1)]) (N := n_is_figures) (sc := defScope s_is_figures) (by decide +kernel)) (fun _ _ _ _ _ => (pg_name (i := 1) sc_is_figures.nd rfl (by first | exact Or.inl rfl | exact Or.inr rfl))) (fun _ _ _ _ _ => pts_nil) (fun _ _ _ _ _ => (pe_cmpR op_in_sign (pv 1) (C8.pe_gc rfl T.g_DIGITS) (by rfl)))) pa_nil)))))))
 (pss_one (ps_ret pe_bl))
 pss_nil)
 (pss_one (ps_ret (pe_or (pe_cmpR op_eq (pv 0) pe_str (nomark _)) (pe_one (pe_cmpR op_ne (pe_ix ix_str (pv 0) pe_int (fun _ _ => rfl)) pe_str (nomark _))))))), ?_⟩
    refine ⟨_, rfl, z, rfl, line_le hz, _, _, rfl, rfl, _, rfl, ite2 (fun e1 => ?_) (fun e1 => ?_)⟩
    · refine ⟨_, _, rfl, rfl, _, rfl, ite2 (fun e2 => ?_) (fun e2 => ?_)⟩
      · refine it1 ?_
        have e3 : figB z = false := by
          unfold figB
          rw [show decide ((z.length : Int) ≤ 40) = false from by simpa using e2]
          simp
        rw [e3] at q
        exact q _ .refl
      · have e2' : decide ((z.length : Int) ≤ 40) = true := by simpa using e2
        refine ⟨_, rfl, z, rfl, fun D hD => lc_it walk_str (FlatP (TL K) [] H D fun i => V.bl (decide (z.cps.toList.getD i 0 ∈ digs))) (flat_0 hD) (fun _ _ _ _ => trivial) ?_ ?_⟩
        · rintro i x H1 H2 hi p ⟨rfl, c, hc, rfl⟩
          refine ⟨rfl, yes_if ⟨_, rfl, c, _, rfl, rfl, ?_⟩⟩
          refine flat_step p .refl .nil hD (Nat.lt_of_lt_of_le hi (line_le hz)) ?_
          have ec : z.cps.toList.getD i 0 = c := by
            rw [List.getD_eq_getElem?_getD, Array.getElem?_toList, hc]
            rfl
          show V.bl _ = V.bl (decide (z.cps.toList.getD i 0 ∈ digs))
          rw [ec]
          rfl
        · intro H1 p
          refine ⟨D, (List.range z.cps.size).map fun i => decide (z.cps.toList.getD i 0 ∈ digs), rfl, ?_, _, rfl, ?_⟩
          · rw [List.map_map]
            exact .of p.d
          · have ea : ((List.range z.cps.size).map fun i => decide (z.cps.toList.getD i 0 ∈ digs)).all id = z.cps.toList.all (fun c => decide (c ∈ digs)) := by
              rw [show z.cps.size = z.cps.toList.length from by simp, map_range_getD z.cps.toList 0 (fun c => decide (c ∈ digs)), List.all_map]
              rfl
            rw [ea]
            have fin : figB z = (z.cps.toList.all (fun c => decide (c ∈ digs)) && (decide (V.str z = V.str "0") || !decide (V.str ⟨#[z.cps.toList.getD 0 0]⟩ = V.str "0"))) := by
              unfold figB
              rw [e1, e2', Bool.true_and, Bool.true_and]
            have q1 := q H1 p.k
            rw [fin] at q1
            refine ite2 (fun e3 => ?_) (fun e3 => ?_)
            · rw [show z.cps.toList.all (fun c => decide (c ∈ digs)) = false from by simpa using e3, Bool.false_and] at q1
              exact q1
            · rw [show z.cps.toList.all (fun c => decide (c ∈ digs)) = true from by simpa using e3, Bool.true_and] at q1
              refine ⟨_, rfl, rfl, _, rfl, ite2 (fun e4 => ?_) (fun e4 => ?_)⟩
              · rw [e4, Bool.true_or] at q1
                exact q1
              · rw [show decide (V.str z = V.str "0") = false from by simpa using e4, Bool.false_or] at q1
                have h0 : 0 < z.cps.toList.length := by
                  have : (1 : Int) ≤ (z.length : Int) := by simpa using e1
                  show 0 < z.cps.toList.length
                  rw [Array.length_toList]
                  have e9 : z.cps.size = z.length := rfl
                  omega
                have ec : z.cps.toList.getD 0 0 = z.cps.toList[0] := by
                  rw [List.getD_eq_getElem?_getD, List.getElem?_eq_getElem h0]
                  rfl
                rw [ec] at q1
                refine ⟨_, rfl, z, 0, z.cps.toList[0], rfl, rfl, line_le hz, ?_, rfl, q1⟩
                exact at0 h0
    · refine ⟨_, rfl, it1 (it1 ?_)⟩
      have e3 : figB z = false := by
        unfold figB
        rw [show decide (1 ≤ (z.length : Int)) = false from by simpa using e1]
        simp
      rw [e3] at q
      exact q _ .refl
end
end K75

namespace K75
open PySem PySem.Spec PyProof.Rows L2 XB LamX
section
variable {P : Program} {w : World} {K : PySem.W.Frag} {mg : Str → Option Value} {base : Heap}
/-! ### Words -/
def rowsD (rows : List (List Str)) : PyData := .list (rows.map fun r => .list (r.map PyData.str))
/-- a reader: its rows, where it stands -/
structure Wd (K : PySem.W.Frag) (H : Hp) (a : Addr) (c : Addr × Addr) (rows : List (List Str)) (ln at_ : Nat) : Prop where
  at0 : H a = some (.ins (He.ga K "Words") c.1 [("lines", .ref c.2), ("line", .int ln), ("at", .int at_)])
  dp : Dp K H (.ref c.2) (rowsD rows)
theorem Wd.ex {H : Hp} {a : Addr} {c : Addr × Addr} {rows : List (List Str)} {ln at_ : Nat} (h : Wd K H a c rows ln at_) : ∃ dx l, H a = some (.ins (He.ga K "Words") dx [("lines", .ref l), ("line", .int ln), ("at", .int at_)]) ∧ Dp K H (.ref l) (rowsD rows) := ⟨c.1, c.2, h.at0, h.dp⟩
theorem Wd.kp {H H' : Hp} {a : Addr} {c : Addr × Addr} {S : List Addr} {rows : List (List Str)} {ln at_ : Nat} (h : Wd K H a c rows ln at_) (i : Ins H S) (n : a ∉ S) (k : Kp S H H') : Wd K H' a c rows ln at_ := by
  exact ⟨ins_kp k n h.at0, dp_kp i k h.dp⟩
theorem Wd.ins {H : Hp} {a : Addr} {c : Addr × Addr} {rows : List (List Str)} {ln at_ : Nat} (h : Wd K H a c rows ln at_) : Ins H [a] := by
  obtain ⟨dx, l, e1, _⟩ := h.ex
  exact .one e1
/-- it goes on to another place -/
theorem Wd.move {H H' : Hp} {a : Addr} {c : Addr × Addr} {rows : List (List Str)} {ln at_ ln' at' : Nat} (h : Wd K H a c rows ln at_) (k : Kp [a] H H') (e : ∀ dx l, H a = some (.ins (He.ga K "Words") dx [("lines", .ref l), ("line", .int ln), ("at", .int at_)]) → H' a = some (.ins (He.ga K "Words") dx [("lines", .ref l), ("line", .int ln'), ("at", .int at')])) : Wd K H' a c rows ln' at' := by
  exact ⟨e _ _ h.at0, dp_kp h.ins k h.dp⟩
/-- the lines list, seen -/
theorem Wd.see {H : Hp} {a : Addr} {c : Addr × Addr} {rows : List (List Str)} {ln at_ : Nat} (h : Wd K H a c rows ln at_) : ∃ dx l xs, H a = some (.ins (He.ga K "Words") dx [("lines", .ref l), ("line", .int ln), ("at", .int at_)]) ∧ SqL K H l xs ∧ xs.length = rows.length ∧
    ∀ (i : Nat) (r : List Str), rows[i]? = some r → ∃ p, xs[i]? = some (V.ref p) ∧ SqL K H p (r.map V.str) := by
  obtain ⟨dx, l, e1, e2⟩ := h.ex
  cases e2 with
  | lst hs hd =>
    refine ⟨dx, l, _, e1, hs, by rw [dps_len hd, List.length_map], fun i r hr => ?_⟩
    obtain ⟨v, e3, e4⟩ := dps_get hd (i := i) (d := .list (r.map PyData.str)) (by rw [List.getElem?_map, hr]; rfl)
    cases e4 with
    | lst hp hq => exact ⟨_, e3, by rw [← dps_str hq]; exact hp⟩
/-- the word that is next, if any -/
def peekW (rows : List (List Str)) (ln at_ : Nat) : Option Str := (rows.getD ln [])[at_]?
theorem nat_lt {a b : Nat} : decide ((a : Int) < (b : Int)) = decide (a < b) := by
  by_cases h : a < b
  · rw [decide_eq_true h, decide_eq_true (by omega)]
  · rw [decide_eq_false h, decide_eq_false (by omega)]
theorem atN {α : Type} {l : List α} {i : Nat} (h : i < l.length) : atI l (i : Int) = some l[i] := by
  unfold atI ixN
  rw [if_pos (Int.natCast_nonneg i), if_pos (by exact_mod_cast h)]
  simp [h]
def sp_Words_peek (K : PySem.W.Frag) : Sp := fun vs H Q _ => ∃ a c rows ln at_, vs = [.ref a] ∧ Wd K H a c rows ln at_ ∧ ∀ H', Kt (TL K) [] H H' → Q (vO (peekW rows ln at_)) H'
theorem cal_Words_peek (B : BX P K mg base) : Met P w K mg base 1 (He.ga K "Words") "peek" (sp_Words_peek K) := by
  have T := B.T
  constructor
  obtain ⟨fd, F⟩ := T.f_Words_peek
  refine ⟨_, fd, p_Words_peek, T.c_Words, T.m_Words_peek, F.ok sc_Words_peek (fun vs H Q E h => ?_) (fun cdv A outer s H vs Q E hr h => ?_), (F.bindsN (ps := p_Words_peek) fun _ _ _ _ _ _ us hl => match us, hl with | [_], _ => rfl)⟩
  · obtain ⟨a, c, rows, ln, at_, rfl, _⟩ := h
    rfl
  · obtain ⟨a, c, rows, ln, at_, rfl, hw, q⟩ := h
    refine ⟨_, (pss_cons (ps_set (i := 1) sc_Words_peek.nd rfl (by first | exact Or.inl rfl | exact Or.inr rfl) (pe_ifExp (pt_cmpR op_lt (pe_fld (pv 0) rfl) (pe_callB call_len_seq (by rfl) T.b_len (by decide +kernel) (pa_cons (pe_fld (pv 0) rfl) pa_nil)) (nomark _)) (pe_ix ix_list (pe_fld (pv 0) rfl) (pe_fld (pv 0) rfl) (fun _ _ => rfl)) (pe_lst pa_nil)))
 (pss_one (ps_ret (pe_ifExp (pt_cmpR op_lt (pe_fld (pv 0) rfl) (pe_callB call_len_seq (by rfl) T.b_len (by decide +kernel) (pa_cons (pv 1) pa_nil)) (nomark _)) (pe_ix ix_list (pv 1) (pe_fld (pv 0) rfl) (fun _ _ => rfl)) pe_non)))), ?_⟩
    obtain ⟨dx, l, xs, ea, hs, hl, hr'⟩ := hw.see
    refine ⟨_, rfl, a, _, dx, _, _, rfl, ea, T.c_Words, T.n_Words_line, rfl, _, rfl, a, _, dx, _, _, rfl, ea, T.c_Words, T.n_Words_lines, rfl, l, xs, rfl, .inl hs, _, _, rfl, rfl, _, rfl, ite2 (fun e => ?_) (fun e => ?_)⟩
    · rw [nat_lt, decide_eq_true_iff, hl] at e
      obtain ⟨p, e1, e2⟩ := hr' ln rows[ln] (List.getElem?_eq_getElem e)
      have e3 : atI xs (ln : Int) = some (.ref p) := by
        rw [atN (by omega)]
        rw [List.getElem?_eq_getElem (by omega)] at e1
        exact e1
      refine ⟨_, rfl, a, _, dx, _, _, rfl, ea, T.c_Words, T.n_Words_lines, rfl, _, rfl, a, _, dx, _, _, rfl, ea, T.c_Words, T.n_Words_line, rfl, l, xs, _, _, rfl, rfl, hs, e3, ?_⟩
      have er : rows.getD ln [] = rows[ln] := by rw [List.getD_eq_getElem?_getD, List.getElem?_eq_getElem e] <;> rfl
      refine ⟨_, rfl, a, _, dx, _, _, rfl, ea, T.c_Words, T.n_Words_at, rfl, _, rfl, p, _, rfl, .inl e2, _, _, rfl, rfl, _, rfl, ite2 (fun e4 => ?_) (fun e4 => ?_)⟩
      · rw [nat_lt, decide_eq_true_iff, List.length_map] at e4
        have q1 := q H .refl
        unfold peekW at q1
        rw [er, List.getElem?_eq_getElem e4] at q1
        refine ⟨_, rfl, _, rfl, a, _, dx, _, _, rfl, ea, T.c_Words, T.n_Words_at, rfl, p, _, _, _, rfl, rfl, e2, atN (by simpa using e4), ?_⟩
        rw [List.getElem_map]
        exact q1
      · rw [nat_lt, decide_eq_true_iff, List.length_map] at e4
        have q1 := q H .refl
        unfold peekW at q1
        rw [er, List.getElem?_eq_none (by omega)] at q1
        exact q1
    · rw [nat_lt, decide_eq_true_iff, hl] at e
      refine ⟨by simp, fun p hp => ?_⟩
      have s1 : Same H (upd H p (.lst [])) := same_new hp
      have ea1 := s1 _ _ ea
      refine ⟨_, rfl, a, _, dx, _, _, rfl, ea1, T.c_Words, T.n_Words_at, rfl, _, rfl, p, [], rfl, .inl (.of upd_same), _, _, rfl, rfl, _, rfl, ite2 (fun e4 => ?_) (fun e4 => ?_)⟩
      · rw [nat_lt, decide_eq_true_iff] at e4
        exact absurd e4 (by simp)
      · have q1 := q _ (.same s1)
        unfold peekW at q1
        have er : rows.getD ln [] = [] := by rw [List.getD_eq_getElem?_getD, List.getElem?_eq_none (by omega)] <;> rfl
        rw [er] at q1
        exact q1
/-- an error of a text: where -/
def EText (K : PySem.W.Frag) (S : List Addr) (H : Hp) (E : XK) (ln at_ : Nat) : Prop := ∀ dd H', Kt (TL K) S H H' → H' dd = some (.xd [("word", .int at_), ("line", .int ln)]) → E (.ref (He.ga K "BadText")) (some dd) H'
def sp_Words_refuse (K : PySem.W.Frag) : Sp := fun vs H _ E => ∃ a c rows ln at_, vs = [.ref a] ∧ Wd K H a c rows ln at_ ∧ EText K [] H E ln at_
theorem cal_Words_refuse (B : BX P K mg base) : Met P w K mg base 3 (He.ga K "Words") "refuse" (sp_Words_refuse K) := by
  have T := B.T
  have o_BadText := own_BadText (w := w) (base := base) T B.hP
  constructor
  obtain ⟨fd, F⟩ := T.f_Words_refuse
  refine ⟨_, fd, p_Words_refuse, T.c_Words, T.m_Words_refuse, F.ok sc_Words_refuse (fun vs H Q E h => ?_) (fun cdv A outer s H vs Q E hr h => ?_), (F.bindsN (ps := p_Words_refuse) fun _ _ _ _ _ _ us hl => match us, hl with | [_], _ => rfl)⟩
  · obtain ⟨a, c, rows, ln, at_, rfl, _⟩ := h
    rfl
  · obtain ⟨a, c, rows, ln, at_, rfl, hw, q⟩ := h
    refine ⟨_, (pss_one (ps_rs (o_BadText.mono (by first | decide | omega)) hr pX0 rfl tkX rfl (pa_cons (pe_fld (pv 0) rfl) (pa_cons (pe_fld (pv 0) rfl) pa_nil)))), ?_⟩
    obtain ⟨dx, l, xs, ea, hs, hl, hr'⟩ := hw.see
    refine ⟨_, rfl, a, _, dx, _, _, rfl, ea, T.c_Words, T.n_Words_line, rfl, _, rfl, a, _, dx, _, _, rfl, ea, T.c_Words, T.n_Words_at, rfl, rfl, by decide, fun d H' hd sm hx => q d H' (.same sm) hx⟩
def sp_Words_read_if (K : PySem.W.Frag) (f : Addr) (spf : Sp) : Sp := fun vs H Q E => ∃ a c rows ln at_, vs = [.ref a, .ref f] ∧ Wd K H a c rows ln at_ ∧
  ∃ g : Bool, (∀ z H1 Q1, peekW rows ln at_ = some z → Kt (TL K) [] H H1 → (∀ H2, Kt (TL K) [] H1 H2 → Q1 (.bl g) H2) → spf [.str z] H1 Q1 E) ∧
    (((peekW rows ln at_).isSome && g) = true → ∀ z H', peekW rows ln at_ = some z → Kt (TL K) [a] H H' → Wd K H' a c rows ln (at_ + 1) → Q (.str z) H') ∧ (((peekW rows ln at_).isSome && g) = false → EText K [] H E ln at_)
theorem cal_Words_read_if (B : BX P K mg base) {kf : Nat} {f : Addr} {spf : Sp} (cf : CalV P w K mg base kf f spf) : Met P w K mg base (kf + 5) (He.ga K "Words") "read_if" (sp_Words_read_if K f spf) := by
  have T := B.T
  have c_Words_peek := cal_Words_peek (P := P) (w := w) (base := base) B
  have c_Words_refuse := cal_Words_refuse (P := P) (w := w) (base := base) B
  constructor
  obtain ⟨fd, F⟩ := T.f_Words_read_if
  refine ⟨_, fd, p_Words_read_if, T.c_Words, T.m_Words_read_if, F.ok sc_Words_read_if (fun vs H Q E h => ?_) (fun cdv A outer s H vs Q E hr h => ?_), (F.bindsN (ps := p_Words_read_if) fun _ _ _ _ _ _ us hl => match us, hl with | [_, _], _ => rfl)⟩
  · obtain ⟨a, c, rows, ln, at_, rfl, _⟩ := h
    rfl
  · obtain ⟨a, c, rows, ln, at_, rfl, hw, g, hf, hy, hn⟩ := h
    refine ⟨_, (pss_cons (ps_set (i := 2) sc_Words_read_if.nd rfl (by first | exact Or.inl rfl | exact Or.inr rfl) (pe_mt0 (c_Words_peek.mono (by first | decide | omega)) hr pX (pv 0)))
 (pss_cons (ps_if (PW.pt (pw_or (pt_cmpR op_isN (pv 2) pe_non (nomark _)) (pw_or1 (pt_not (pt_val (pe_cv (i := 1) cf (hr.mono (by omega)) pX rfl (.inl rfl) (pa_cons (pv 2) pa_nil)))))))
 (pss_one (ps_expr (pe_mt0 (c_Words_refuse.mono (by first | decide | omega)) hr pX (pv 0))))
 pss_nil)
 (pss_cons (ps_fldaug (pv 0) pe_int in_add)
 (pss_one (ps_ret (pv 2)))))), ?_⟩
    obtain ⟨dx, l, xs, ea, hs, hl, hr'⟩ := hw.see
    refine ⟨_, rfl, a, dx, _, rfl, ea, rfl, a, c, rows, ln, at_, rfl, hw, fun H1 k1 => ?_⟩
    have hw1 := hw.kp .nil (by simp) k1.k
    have ea1 := ins_kp k1.k (by simp) ea
    have bad : ∀ H2 D, Kt (TL K) [] H H2 → (((peekW rows ln at_).isSome && g) = false) → tDrop (tMeth (He.ga K "Words") "refuse" (sp_Words_refuse K) [] E (tVar 0) tNil) D (L2.start n_Words_read_if [.ref a, .ref f] |>.set 2 (some (vO (peekW rows ln at_)))) H2 := by
      intro H2 D k2 hg
      have ea2 := ins_kp k2.k (by simp) ea
      exact ⟨_, rfl, a, dx, _, rfl, ea2, rfl, a, c, rows, ln, at_, rfl, hw.kp .nil (by simp) k2.k, fun dd H' k3 hx => hn hg dd H' (k2.trans k3) hx⟩
    refine ⟨_, rfl, rfl, _, rfl, ?_⟩
    cases hp : peekW rows ln at_ with
    | none =>
      rw [hp] at bad
      refine it1 (it1 ?_)
      exact bad H1 _ k1 rfl
    | some z =>
      rw [hp] at bad hf hy
      refine it0 ⟨rfl, _, rfl, hf z H1 _ rfl k1 fun H2 k2 => ⟨_, rfl, ?_⟩⟩
      cases g with
      | false =>
        refine it1 ?_
        exact bad H2 _ (k1.trans k2) rfl
      | true =>
        refine it0 ?_
        have hw2 := hw1.kp .nil (by simp) k2.k
        obtain ⟨dx2, l2, ea2, hd2⟩ := hw2.ex
        refine ⟨_, rfl, a, _, dx2, _, _, rfl, ea2, T.c_Words, T.n_Words_at, rfl, _, _, rfl, rfl, dx2, _, ea2, by simp, _, rfl, ?_⟩
        refine hy rfl z _ rfl ((k1.trans k2).of0.mut (by simp) ea2 soft_ins) (hw2.move (Kp.refl.mut (by simp)) fun dx3 l3 e3 => ?_)
        rw [ea2] at e3
        cases e3
        rw [upd_same]
        rfl
/-! ### the other methods -/
theorem vO_eq (o : Option Str) (x : Str) : decide (vO o = V.str x) = decide (o = some x) := by
  cases o with
  | none => rfl
  | some z =>
    show decide (V.str z = V.str x) = decide (some z = some x)
    by_cases h : z = x
    · rw [h, decide_eq_true rfl, decide_eq_true rfl]
    · rw [decide_eq_false (fun y => h (V.str.inj y)), decide_eq_false (fun y => h (Option.some.inj y))]
def sp_Words_has_line (K : PySem.W.Frag) : Sp := fun vs H Q _ => ∃ a c rows ln at_, vs = [.ref a] ∧ Wd K H a c rows ln at_ ∧ Q (.bl (decide (ln < rows.length))) H
theorem cal_Words_has_line (B : BX P K mg base) : Met P w K mg base 1 (He.ga K "Words") "has_line" (sp_Words_has_line K) := by
  have T := B.T
  constructor
  obtain ⟨fd, F⟩ := T.f_Words_has_line
  refine ⟨_, fd, p_Words_has_line, T.c_Words, T.m_Words_has_line, F.ok sc_Words_has_line (fun vs H Q E h => ?_) (fun cdv A outer s H vs Q E hr h => ?_), (F.bindsN (ps := p_Words_has_line) fun _ _ _ _ _ _ us hl => match us, hl with | [_], _ => rfl)⟩
  · obtain ⟨a, c, rows, ln, at_, rfl, _⟩ := h
    rfl
  · obtain ⟨a, c, rows, ln, at_, rfl, hw, q⟩ := h
    refine ⟨_, (pss_one (ps_ret (pe_cmpR op_lt (pe_fld (pv 0) rfl) (pe_callB call_len_seq (by rfl) T.b_len (by decide +kernel) (pa_cons (pe_fld (pv 0) rfl) pa_nil)) (nomark _)))), ?_⟩
    obtain ⟨dx, l, xs, ea, hs, hl, hr'⟩ := hw.see
    refine ⟨_, rfl, a, _, dx, _, _, rfl, ea, T.c_Words, T.n_Words_line, rfl, _, rfl, a, _, dx, _, _, rfl, ea, T.c_Words, T.n_Words_lines, rfl, l, xs, rfl, .inl hs, _, _, rfl, rfl, ?_⟩
    show Q (.bl (decide ((ln : Int) < (xs.length : Int)))) H
    rw [nat_lt, hl]
    exact q
def sp_Words_is_end (K : PySem.W.Frag) : Sp := fun vs H Q _ => ∃ a c rows ln at_, vs = [.ref a] ∧ Wd K H a c rows ln at_ ∧ ∀ H', Kt (TL K) [] H H' → Q (.bl (peekW rows ln at_).isNone) H'
theorem cal_Words_is_end (B : BX P K mg base) : Met P w K mg base 2 (He.ga K "Words") "is_end" (sp_Words_is_end K) := by
  have T := B.T
  have c_Words_peek := cal_Words_peek (P := P) (w := w) (base := base) B
  constructor
  obtain ⟨fd, F⟩ := T.f_Words_is_end
  refine ⟨_, fd, p_Words_is_end, T.c_Words, T.m_Words_is_end, F.ok sc_Words_is_end (fun vs H Q E h => ?_) (fun cdv A outer s H vs Q E hr h => ?_), (F.bindsN (ps := p_Words_is_end) fun _ _ _ _ _ _ us hl => match us, hl with | [_], _ => rfl)⟩
  · obtain ⟨a, c, rows, ln, at_, rfl, _⟩ := h
    rfl
  · obtain ⟨a, c, rows, ln, at_, rfl, hw, q⟩ := h
    refine ⟨_, (pss_one (ps_ret (pe_cmpR op_isN (pe_mt0 (c_Words_peek.mono (by first | decide | omega)) hr pX (pv 0)) pe_non (nomark _)))), ?_⟩
    obtain ⟨dx, l, xs, ea, hs, hl, hr'⟩ := hw.see
    refine ⟨_, rfl, a, dx, _, rfl, ea, rfl, a, c, rows, ln, at_, rfl, hw, fun H1 k1 => ⟨rfl, ?_⟩⟩
    have q1 := q H1 k1
    cases hp : peekW rows ln at_ <;> rw [hp] at q1 <;> exact q1
def sp_Words_end_line (K : PySem.W.Frag) : Sp := fun vs H Q E => ∃ a c rows ln at_, vs = [.ref a] ∧ Wd K H a c rows ln at_ ∧ ((peekW rows ln at_).isNone = true → ∀ H', Kt (TL K) [a] H H' → Wd K H' a c rows (ln + 1) 0 → Q .non H') ∧ ((peekW rows ln at_).isNone = false → EText K [] H E ln at_)
theorem cal_Words_end_line (B : BX P K mg base) : Met P w K mg base 5 (He.ga K "Words") "end_line" (sp_Words_end_line K) := by
  have T := B.T
  have c_Words_is_end := cal_Words_is_end (P := P) (w := w) (base := base) B
  have c_Words_refuse := cal_Words_refuse (P := P) (w := w) (base := base) B
  constructor
  obtain ⟨fd, F⟩ := T.f_Words_end_line
  refine ⟨_, fd, p_Words_end_line, T.c_Words, T.m_Words_end_line, F.ok sc_Words_end_line (fun vs H Q E h => ?_) (fun cdv A outer s H vs Q E hr h => ?_), (F.bindsN (ps := p_Words_end_line) fun _ _ _ _ _ _ us hl => match us, hl with | [_], _ => rfl)⟩
  · obtain ⟨a, c, rows, ln, at_, rfl, _⟩ := h
    rfl
  · obtain ⟨a, c, rows, ln, at_, rfl, hw, hy, hn⟩ := h
    refine ⟨_, (pss_cons (ps_if (pt_not (pt_val (pe_mt0 (c_Words_is_end.mono (by first | decide | omega)) hr pX (pv 0))))
 (pss_one (ps_expr (pe_mt0 (c_Words_refuse.mono (by first | decide | omega)) hr pX (pv 0))))
 pss_nil)
 (pss_cons (ps_fldaug (pv 0) pe_int in_add)
 (pss_one (ps_fld (pv 0) pe_int rfl)))), ?_⟩
    obtain ⟨dx, l, xs, ea, hs, hl, hr'⟩ := hw.see
    refine ⟨_, rfl, a, dx, _, rfl, ea, rfl, a, c, rows, ln, at_, rfl, hw, fun H1 k1 => ⟨_, rfl, ?_⟩⟩
    have hw1 := hw.kp .nil (by simp) k1.k
    cases hp : (peekW rows ln at_).isNone with
    | false =>
      refine it1 ?_
      exact ⟨_, rfl, a, dx, _, rfl, ins_kp k1.k (by simp) ea, rfl, a, c, rows, ln, at_, rfl, hw1, fun dd H' k3 hx => hn hp dd H' (k1.trans k3) hx⟩
    | true =>
      refine it0 ?_
      obtain ⟨dx1, l1, ea1, hd1⟩ := hw1.ex
      refine ⟨_, rfl, a, _, dx1, _, _, rfl, ea1, T.c_Words, T.n_Words_line, rfl, _, _, rfl, rfl, dx1, _, ea1, by simp, ?_⟩
      refine ⟨_, rfl, a, _, dx1, _, rfl, upd_same, T.c_Words, T.n_Words_at, Nat.lt_of_le_of_lt (putF_len _ _ _) (by simp), ?_⟩
      refine hy hp _ ((k1.of0.mut (by simp) ea1 soft_ins).mut (by simp) upd_same soft_ins) (hw1.move ((Kp.refl.mut (by simp)).mut (by simp)) fun dx3 l3 e3 => ?_)
      rw [ea1] at e3
      cases e3
      rw [upd_same]
      rfl
def sp_Words_has_none (K : PySem.W.Frag) : Sp := fun vs H Q _ => ∃ a c rows ln at_, vs = [.ref a] ∧ Wd K H a c rows ln at_ ∧ ∀ H', Kt (TL K) [a] H H' → Wd K H' a c rows ln (at_ + if peekW rows ln at_ = some ("-" : Str) then 1 else 0) → Q (.bl (decide (peekW rows ln at_ = some ("-" : Str)))) H'
theorem cal_Words_has_none (B : BX P K mg base) : Met P w K mg base 2 (He.ga K "Words") "has_none" (sp_Words_has_none K) := by
  have T := B.T
  have c_Words_peek := cal_Words_peek (P := P) (w := w) (base := base) B
  constructor
  obtain ⟨fd, F⟩ := T.f_Words_has_none
  refine ⟨_, fd, p_Words_has_none, T.c_Words, T.m_Words_has_none, F.ok sc_Words_has_none (fun vs H Q E h => ?_) (fun cdv A outer s H vs Q E hr h => ?_), (F.bindsN (ps := p_Words_has_none) fun _ _ _ _ _ _ us hl => match us, hl with | [_], _ => rfl)⟩
  · obtain ⟨a, c, rows, ln, at_, rfl, _⟩ := h
    rfl
  · obtain ⟨a, c, rows, ln, at_, rfl, hw, q⟩ := h
    refine ⟨_, (pss_cons (ps_set (i := 1) sc_Words_has_none.nd rfl (by first | exact Or.inl rfl | exact Or.inr rfl) (pe_cmpR op_eq (pe_mt0 (c_Words_peek.mono (by first | decide | omega)) hr pX (pv 0)) (C8.pe_gc rfl T.g_NONE) (nomark _)))
 (pss_cons (ps_fldaug (pv 0) (pe_callTy call_int1 (by rfl) T.b_int (by decide +kernel) (pa_cons (pv 1) pa_nil)) in_add)
 (pss_one (ps_ret (pv 1))))), ?_⟩
    obtain ⟨dx, l, xs, ea, hs, hl, hr'⟩ := hw.see
    refine ⟨_, rfl, a, dx, _, rfl, ea, rfl, a, c, rows, ln, at_, rfl, hw, fun H1 k1 => ?_⟩
    have hw1 := hw.kp .nil (by simp) k1.k
    obtain ⟨dx1, l1, ea1, hd1⟩ := hw1.ex
    have e : decide (vO (peekW rows ln at_) = V.str "-") = decide (peekW rows ln at_ = some ("-" : Str)) := by
      exact vO_eq _ _
    refine ⟨by cases peekW rows ln at_ <;> rfl, ?_⟩
    rw [e]
    refine ⟨_, rfl, a, _, dx1, _, _, rfl, ea1, T.c_Words, T.n_Words_at, rfl, _, rfl, .inr ⟨_, rfl, _, _, rfl, rfl, dx1, _, ea1, by simp, _, rfl, ?_⟩⟩
    refine q _ (k1.of0.mut (by simp) ea1 soft_ins) (hw1.move (Kp.refl.mut (by simp)) fun dx3 l3 e3 => ?_)
    rw [ea1] at e3
    cases e3
    rw [upd_same]
    by_cases h : peekW rows ln at_ = some ("-" : Str)
    · rw [if_pos h, decide_eq_true h]
      rfl
    · rw [if_neg h, decide_eq_false h]
      rfl
end
end K75

namespace K75
open PySem PySem.Spec PyProof.Rows L2 XB LamX
section
variable {P : Program} {w : World} {K : PySem.W.Frag} {mg : Str → Option Value} {base : Heap}
/-! ### Words made -/
def sp_Words_init (K : PySem.W.Frag) : Sp := fun vs H Q E => ∃ a v d dx, vs = [.ref a, v] ∧ Tk K H v d ∧ H a = some (.ins (He.ga K "Words") dx []) ∧
  ((∃ z, d = .str z ∧ z.length ≤ 16777214 ∧ ∀ c H', Kt (TL K) [a] H H' → Wd K H' a c (rowsOf z) 0 0 → Q .non H') ∨ (isStr d = false ∧ EText K [] H E 0 0))
theorem line_len {n : Nat} (h : n ≤ 16777214) : n + 2 ≤ sizeLine := by
  rw [sizeLine_eq]
  omega
theorem cal_Words_init (B : BX P K mg base) : Mak P w K mg base 3 "Words" (He.ga K "Words") (sp_Words_init K) := by
  have T := B.T
  have o_BadText := own_BadText (w := w) (base := base) T B.hP
  constructor
  obtain ⟨fd, F⟩ := T.f_Words_init
  refine ⟨_, fd, p_Words_init, T.k_Words, F.ok sc_Words_init (fun vs H Q E h => ?_) (fun cdv A outer s H vs Q E hr h => ?_), T.g_Words, (F.bindsN (ps := p_Words_init) fun _ _ _ _ _ _ us hl => match us, hl with | [_, _], _ => rfl)⟩
  · obtain ⟨a, v, d, dx, rfl, _⟩ := h
    rfl
  · obtain ⟨a, v, d, dx, rfl, hv, ea, h⟩ := h
    refine ⟨_, (pss_cons (ps_if (pt_not (pt_val (pe_callB call_isi (by rfl) T.b_isinstance (by decide +kernel) (pa_cons (pv 1) (pa_cons (pe_bltn (v := .ty "str") (by rfl) T.b_str (by decide +kernel) rfl) pa_nil)))))
 (pss_one (ps_rs (o_BadText.mono (by first | decide | omega)) hr pX0 rfl tkX rfl (pa_cons pe_int (pa_cons pe_int pa_nil))))
 pss_nil)
 (pss_cons (ps_fld (pv 0) (pe_lc (own := [("line", 2)]) (g := gName 2) rfl sc_Words_init.nd (pi_list (pe_sp rfl rfl rfl (pv 1) pe_str)) (blkOk_by (own := [("line", 2)]) (N := n_Words_init) (sc := defScope s_Words_init) (by decide +kernel)) (fun _ _ _ _ _ => (pg_name (i := 2) sc_Words_init.nd rfl (by first | exact Or.inl rfl | exact Or.inr rfl))) (fun _ _ _ _ _ => pts_nil) (fun _ _ _ _ _ => (pe_sp rfl rfl rfl (pv 2) pe_str))) rfl)
 (pss_cons (ps_fld (pv 0) pe_int rfl)
 (pss_one (ps_fld (pv 0) pe_int rfl))))), ?_⟩
    refine ⟨_, rfl, v, _, _, _, _, rfl, .ty _, hv.ty, kit_ty (kit_str d), _, rfl, ?_⟩
    rcases h with ⟨z, rfl, hz, q⟩ | ⟨hd, q⟩
    · refine it0 ?_
      have ev : v = .str z := by
        cases hv with
        | dat h =>
          cases h
          rfl
        | dic _ e => cases e
      subst ev
      refine ⟨_, rfl, ⟨z, rfl⟩, z, nlS, rfl, rfl, by decide +kernel, line_len hz, fun p hp => ⟨p, rfl, ⟨_, .of upd_same⟩, fun D hD => ?_⟩⟩
      have k0 : Kt (TL K) [] H (upd H p (.lst ((Txt.split z nlS).map V.str))) := Kt.refl.new hp
      have ePL : (upd H p (.lst ((Txt.split z nlS).map V.str))) p = some (.lst ((Txt.split z nlS).map V.str)) := upd_same
      generalize upd H p (.lst ((Txt.split z nlS).map V.str)) = H0 at hD k0 ePL
      refine lc_it (walk_list (K := K) (a := p) (xs := (Txt.split z nlS).map V.str)) (RowsP (TL K) [] H0 D fun i => ((rowsOf z).getD i []).map V.str) (rows_0 hD) (fun i H1 _ p1 => sqL_kp .nil p1.k.k (.of ePL)) ?_ ?_
      · rintro i x H1 H2 hi p1 ⟨rfl, hx⟩
        rw [List.getElem?_map] at hx
        rw [List.length_map] at hi
        rw [List.getElem?_eq_getElem hi] at hx
        obtain rfl : V.str (Txt.split z nlS)[i] = x := Option.some.inj hx
        have hmem : (Txt.split z nlS)[i] ∈ Txt.split z nlS := List.getElem_mem hi
        have hle := split1_len nl_tl (by decide +kernel) _ hmem
        have hl2 : (Txt.split z nlS)[i].length ≤ 16777214 := Nat.le_trans hle hz
        refine ⟨rfl, yes_if ⟨_, rfl, ⟨_, rfl⟩, _, spS, rfl, rfl, by decide +kernel, line_len hl2, fun l hl => ?_⟩⟩
        have hcnt := split1_count (z := z) nl_tl (by decide +kernel)
        refine rows_step p1 (Kt.refl.new hl) .nil hD (Nat.lt_of_lt_of_le hi (Nat.le_trans hcnt (by rw [sizeLine_eq]; omega))) hl ?_
        rw [upd_same]
        have er : (rowsOf z).getD i [] = Txt.split (Txt.split z nlS)[i] spS := by
          unfold rowsOf
          rw [List.getD_eq_getElem?_getD, List.getElem?_map, List.getElem?_eq_getElem hi] <;> rfl
        rw [er]
      · intro H1 p1
        have kk := k0.trans p1.k
        have hn : ((Txt.split z nlS).map V.str).length = (rowsOf z).length := by
          unfold rowsOf
          rw [List.length_map, List.length_map]
        have dp := rows_dp (K := K) p1 hn
        have ea1 := ins_kp kk.k (by simp) ea
        refine ⟨_, rfl, a, _, dx, _, rfl, ea1, T.c_Words, T.n_Words_lines, by simp, ?_⟩
        refine ⟨_, rfl, a, _, dx, _, rfl, upd_same, T.c_Words, T.n_Words_line, Nat.lt_of_le_of_lt (putF_len _ _ _) (by simp), ?_⟩
        refine ⟨_, rfl, a, _, dx, _, rfl, upd_same, T.c_Words, T.n_Words_at, Nat.lt_of_le_of_lt (putF_len _ _ _) (Nat.lt_of_le_of_lt (Nat.succ_le_succ (putF_len _ _ _)) (by simp)), ?_⟩
        refine q (dx, D) _ (((kk.of0.mut (by simp) ea1 soft_ins).mut (by simp) upd_same soft_ins).mut (by simp) upd_same soft_ins) ⟨?_, ?_⟩
        · rw [upd_same]
          rfl
        · have ix : Ins H1 [a] := .one ea1
          exact dp_kp ix (((Kp.refl.mut (by simp)).mut (by simp)).mut (by simp)) dp
    · rw [hd]
      refine it1 ?_
      exact ⟨rfl, by decide, fun d H' hd sm hx => q d H' (.same sm) hx⟩
/-! ### words read -/
def figO (o : Option Str) : Bool := match o with
  | some z => figB z
  | none => false
def numW (z : Str) : Int := ((NumText.digitsVal z.cps.toList : Nat) : Int)
theorem digs_ok : ∀ c ∈ digs, (decide (48 ≤ c) && decide (c ≤ 57)) = true := by decide +kernel
theorem fig_len {z : Str} (h : figB z = true) : 1 ≤ z.length ∧ z.length ≤ 40 := by
  unfold figB at h
  simp only [Bool.and_eq_true, decide_eq_true_eq] at h
  omega
theorem fig_int {z : Str} (h : figB z = true) : intText? z = some (numW z) := by
  have hl := fig_len h
  have h1 : z.cps.toList.all (fun c => decide (c ∈ digs)) = true := by
    unfold figB at h
    simp only [Bool.and_eq_true] at h
    exact h.2.1
  have h2 : z.cps.toList.all (fun c => decide (48 ≤ c) && decide (c ≤ 57)) = true := List.all_eq_true.mpr fun c hc => digs_ok c (of_decide_eq_true (List.all_eq_true.mp h1 c hc))
  have e : z.cps.toList.length = z.length := by
    rw [Array.length_toList]
    rfl
  have := SX.int_S h2 (by intro z0; rw [z0] at e; simp at e; omega) (by omega)
  rw [SX.S_tl] at this
  exact this
def sp_Words_read_number (K : PySem.W.Frag) : Sp := fun vs H Q E => ∃ a c rows ln at_, vs = [.ref a] ∧ Wd K H a c rows ln at_ ∧ (∀ z, peekW rows ln at_ = some z → z.length ≤ 16777214) ∧
  (∀ z H', peekW rows ln at_ = some z → figB z = true → Kt (TL K) [a] H H' → Wd K H' a c rows ln (at_ + 1) → Q (.int (numW z)) H') ∧ (figO (peekW rows ln at_) = false → EText K [] H E ln at_)
theorem cal_Words_read_number (B : BX P K mg base) : Met P w K mg base 7 (He.ga K "Words") "read_number" (sp_Words_read_number K) := by
  have T := B.T
  have c_Words_read_if := cal_Words_read_if (w := w) B ((cal_is_figures (w := w) B).v B.kin)
  constructor
  obtain ⟨fd, F⟩ := T.f_Words_read_number
  refine ⟨_, fd, p_Words_read_number, T.c_Words, T.m_Words_read_number, F.ok sc_Words_read_number (fun vs H Q E h => ?_) (fun cdv A outer s H vs Q E hr h => ?_), (F.bindsN (ps := p_Words_read_number) fun _ _ _ _ _ _ us hl => match us, hl with | [_], _ => rfl)⟩
  · obtain ⟨a, c, rows, ln, at_, rfl, _⟩ := h
    rfl
  · obtain ⟨a, c, rows, ln, at_, rfl, hw, hz, hy, hn⟩ := h
    refine ⟨_, (pss_one (ps_ret (pe_callTy call_int_str (by rfl) T.b_int (by decide +kernel) (pa_cons (pe_mt (c_Words_read_if.mono (by first | decide | omega)) hr pX (pv 0) (pa_cons (pe_glob (v := .ref (He.ga K "is_figures")) rfl T.g_is_figures rfl) pa_nil)) pa_nil)))), ?_⟩
    obtain ⟨dx, l, ea, hd⟩ := hw.ex
    refine ⟨_, rfl, a, dx, _, rfl, ea, rfl, ?_⟩
    refine ⟨a, c, rows, ln, at_, rfl, hw, figO (peekW rows ln at_), fun z H1 Q1 hp k1 hq => ⟨z, rfl, hz z hp, fun H2 k2 => ?_⟩, fun hg z H' hp k1 hw1 => ?_, fun hg => hn ?_⟩
    · have q := hq H2 k2
      rw [hp] at q
      exact q
    · have hf : figB z = true := by
        rw [hp] at hg
        exact hg
      exact ⟨z, _, rfl, fig_int hf, by have := fig_len hf; omega, hy z H' hp hf k1 hw1⟩
    · cases hp : peekW rows ln at_ with
      | none => rfl
      | some z =>
        rw [hp] at hg
        exact hg
/-- the lambda of read_one_of: word in some -/
def spl_one (K : PySem.W.Frag) : List (Option V) → Sp := fun ws vs H Q _ => ∃ (p : Addr) (xs : List Str) (z : Str), ws = [some (.ref p)] ∧ vs = [.str z] ∧ SqT K H p (xs.map V.str) ∧ Q (.bl (inV (.str z) (xs.map V.str))) H
def sp_Words_read_one_of (K : PySem.W.Frag) : Sp := fun vs H Q E => ∃ (a : Addr) (c : Addr × Addr) (rows : List (List Str)) (ln at_ : Nat) (p : Addr) (xs : List Str), vs = [.ref a, .ref p] ∧ Wd K H a c rows ln at_ ∧ SqT K H p (xs.map V.str) ∧ Tabs (TL K) H ∧
  (∀ z H', peekW rows ln at_ = some z → inV (.str z) (xs.map V.str) = true → Kt (TL K) [a] H H' → Wd K H' a c rows ln (at_ + 1) → Q (.str z) H') ∧
  ((∀ z, peekW rows ln at_ = some z → inV (.str z) (xs.map V.str) = false) → EText K [] H E ln at_)
theorem cal_Words_read_one_of (B : BX P K mg base) : Met P w K mg base 7 (He.ga K "Words") "read_one_of" (sp_Words_read_one_of K) := by
  have T := B.T
  constructor
  obtain ⟨fd, F⟩ := T.f_Words_read_one_of
  refine ⟨_, fd, p_Words_read_one_of, T.c_Words, T.m_Words_read_one_of, fn_okc F sc_Words_read_one_of (fun vs H Q E h => ?_) (fun A outer s H vs Q E hr h => ?_), (F.bindsN (ps := p_Words_read_one_of) fun _ _ _ _ _ _ us hl => match us, hl with | [_, _], _ => rfl)⟩
  · obtain ⟨a, c, rows, ln, at_, p, xs, rfl, _⟩ := h
    rfl
  · obtain ⟨a, c, rows, ln, at_, p, xs, rfl, hw, hp, hT, hy, hn⟩ := h
    refine ⟨_, (pss_one (ps_ret (pe_lamM (T := TL K) (N := ["word", "some"]) (ps := ["word"]) (fr := ["some"]) (js := [1]) (dvs := []) (kl := 0) (k := 6) (spl := spl_one K) (TT := fun f spf => sp_Words_read_if K f spf) (E := E) (pv 0) T.c_Words T.m_Words_read_if
      (fun G f spf hG kin cf => met_v (cal_Words_read_if (B.up hG kin) cf) T.m_Words_read_if kin) hr pX
      ⟨NdefX.nscope_by (by decide +kernel), fun _ => rfl, NdefX.ndef_free (sc := defScope s_Words_read_one_of) (fr := ["some"]) (by decide +kernel), NdefX.ndef_fr (sc := defScope s_Words_read_one_of) (by decide +kernel), rfl, .inl ⟨rfl, rfl⟩, bnd_all (ps := ["word"]) (fun _ _ _ _ _ _ us hl => match us, hl with | [_], _ => rfl), ⟨_, _, B.tw, rfl, ?_, ?_⟩⟩
      ⟨?_, ?_⟩))), ?_⟩
    · exact List.mem_cons_of_mem _ List.mem_cons_self
    · intro q hq eq
      rcases List.mem_cons.mp hq with z | z
      · rw [z] at eq
        exact absurd eq B.dis
      · rw [List.mem_singleton.mp z]
        rfl
    · rintro ws vs H Q E ⟨p, xs, z, _, rfl, _⟩
      rfl
    · rintro G cl f c' A outer s H vs ws Q E hG hr2 kin ⟨p, xs, z, rfl, rfl, hp2, hq⟩
      exact ⟨_, pe_cmpR op_in_seq (pv 0) (pv 1) (by rfl), ⟨_, rfl, _, rfl, p, _, rfl, .inr hp2, rfl, by simp [flatV], hq⟩⟩
    · refine ⟨_, rfl, ?_⟩
      obtain ⟨dx, l, ea, hd⟩ := hw.ex
      refine ⟨a, dx, _, rfl, ea, rfl, hT, fun f c' H1 eN T1 gn hco => ?_⟩
      have k1 : Kt (TL K) [] H H1 := .ext eN T1 gn
      refine ⟨a, c, rows, ln, at_, rfl, hw.kp .nil (by simp) k1.k, ((peekW rows ln at_).map fun z => inV (.str z) (xs.map V.str)).getD false, fun z H2 Q1 hz k2 hq => ⟨code_kp .nil k2.k hco, p, xs, z, rfl, rfl, sqT_kp .nil (k1.trans k2).k hp, ?_⟩, fun hg z H' hz k2 hw2 => ?_, fun hg => ?_⟩
      · have q1 := hq H2 .refl
        rw [hz] at q1
        exact q1
      · rw [hz] at hg
        exact hy z H' hz hg (k1.of0.trans k2) hw2
      · intro dd H' k2 hx
        refine hn (fun z hz => ?_) dd H' (k1.trans k2) hx
        rw [hz] at hg
        exact hg
end
end K75

namespace K75
open PySem PySem.Spec PyProof.Rows L2 XB LamX
section
variable {P : Program} {w : World} {K : PySem.W.Frag} {mg : Str → Option Value} {base : Heap}
/-! ### texts of rows -/
def textOf (rows : List (List Str)) : Str := Txt.join nlS (rows.map (Txt.join spS))
structure RowsOk (rows : List (List Str)) : Prop where
  row : ∀ r ∈ rows, (r.map (·.length)).sum + r.length ≤ 16777216
  all : ((rows.map (Txt.join spS)).map (·.length)).sum + rows.length ≤ 16777216
def sp_lines_of (K : PySem.W.Frag) : Sp := fun vs H Q _ => ∃ v rows, vs = [v] ∧ Dp K H v (rowsD rows) ∧ RowsOk rows ∧ ∀ H', Kt (TL K) [] H H' → Q (.str (textOf rows)) H'
theorem lists_of {H : Hp} {v : V} {rows : List (List Str)} (h : Dp K H v (rowsD rows)) : ∃ l xs, v = .ref l ∧ SqL K H l xs ∧ xs.length = rows.length ∧ ∀ (i : Nat) (r : List Str), rows[i]? = some r → ∃ p, xs[i]? = some (V.ref p) ∧ SqL K H p (r.map V.str) := by
  cases h with
  | lst hs hd =>
    refine ⟨_, _, rfl, hs, by rw [dps_len hd, List.length_map], fun i r hr => ?_⟩
    obtain ⟨v, e3, e4⟩ := dps_get hd (i := i) (d := .list (r.map PyData.str)) (by rw [List.getElem?_map, hr]; rfl)
    cases e4 with
    | lst hp hq => exact ⟨_, e3, by rw [← dps_str hq]; exact hp⟩
theorem cal_lines_of (B : BX P K mg base) : CalA P w K mg base 1 (He.ga K "lines_of") (sp_lines_of K) := by
  have T := B.T
  obtain ⟨fd, F⟩ := T.f_lines_of
  refine ⟨fd, p_lines_of, F.ok sc_lines_of (fun vs H Q E h => ?_) (fun cdv A outer s H vs Q E hr h => ?_), F.kp, (F.bindsN (ps := p_lines_of) fun _ _ _ _ _ _ us hl => match us, hl with | [_], _ => rfl)⟩
  · obtain ⟨v, rows, rfl, _⟩ := h
    rfl
  · obtain ⟨v, rows, rfl, hv, hb, q⟩ := h
    refine ⟨_, (pss_one (ps_ret (pe_jn (K := K) rfl rfl rfl rfl pe_str (pe_lc (own := [("row", 1)]) (g := gName 1) rfl sc_lines_of.nd (pi_list (pv 0)) (blkOk_by (own := [("row", 1)]) (N := n_lines_of) (sc := defScope s_lines_of) (by decide +kernel)) (fun _ _ _ _ _ => (pg_name (i := 1) sc_lines_of.nd rfl (by first | exact Or.inl rfl | exact Or.inr rfl))) (fun _ _ _ _ _ => pts_nil) (fun _ _ _ _ _ => (pe_jn (K := K) rfl rfl rfl rfl pe_str (pv 1))))))), ?_⟩
    obtain ⟨l, xs, rfl, hs, hl, hr'⟩ := lists_of hv
    refine ⟨⟨_, rfl⟩, _, rfl, l, rfl, ⟨xs, hs⟩, fun D hD => lc_it (walk_list (K := K) (a := l) (xs := xs)) (FlatP (TL K) [] H D fun i => V.str (Txt.join spS (rows.getD i []))) (flat_0 hD) (fun i H1 _ p1 => sqL_kp .nil p1.k.k hs) ?_ ?_⟩
    · rintro i x H1 H2 hi p1 ⟨rfl, hx⟩
      rw [hl] at hi
      obtain ⟨p, e1, e2⟩ := hr' i rows[i] (List.getElem?_eq_getElem hi)
      rw [hx] at e1
      obtain rfl : x = V.ref p := Option.some.inj e1
      have er : rows.getD i [] = rows[i] := by rw [List.getD_eq_getElem?_getD, List.getElem?_eq_getElem hi] <;> rfl
      have hb1 := hb.row rows[i] (List.getElem_mem hi)
      have hb2 := hb.all
      refine ⟨rfl, yes_if ⟨⟨_, rfl⟩, _, rfl, spS, p, rows[i], rfl, rfl, .inl (sqL_kp .nil p1.k.k e2), ?_, ?_⟩⟩
      · rw [show spS.length = 1 from rfl, Nat.mul_one]
        exact hb1
      · exact flat_step p1 .refl .nil hD (by rw [sizeLine_eq]; omega) (by rw [er])
    · intro H1 p1
      have e1 : (List.range xs.length).map (fun i => V.str (Txt.join spS (rows.getD i []))) = (rows.map (Txt.join spS)).map V.str := by
        rw [hl, map_range_getD rows [] (fun r => V.str (Txt.join spS r)), List.map_map]
        rfl
      have d1 := p1.d
      rw [e1] at d1
      refine ⟨nlS, D, rows.map (Txt.join spS), rfl, rfl, .inl (.of d1), ?_, q H1 p1.k⟩
      rw [show nlS.length = 1 from rfl, Nat.mul_one, List.length_map]
      exact hb.all
/-! ### a row of numbers as words -/
def strI (i : Int) : Str := toString i
def figW (r : List Int) : List Str := if r = [] then ["-"] else r.map strI
def Small (i : Int) : Prop := i.natAbs.log2 < 1920
def sp_figures (K : PySem.W.Frag) : Sp := fun vs H Q _ => ∃ v r, vs = [v] ∧ Dp K H v (.tuple (r.map PyData.int)) ∧ r.length ≤ 1000 ∧ (∀ i ∈ r, Small i) ∧ ∀ l H', H l = none → Kt (TL K) [] H H' → H' l = some (.lst ((figW r).map V.str)) → Q (.ref l) H'
theorem cal_figures (B : BX P K mg base) : CalA P w K mg base 1 (He.ga K "figures") (sp_figures K) := by
  have T := B.T
  obtain ⟨fd, F⟩ := T.f_figures
  refine ⟨fd, p_figures, F.ok sc_figures (fun vs H Q E h => ?_) (fun cdv A outer s H vs Q E hr h => ?_), F.kp, (F.bindsN (ps := p_figures) fun _ _ _ _ _ _ us hl => match us, hl with | [_], _ => rfl)⟩
  · obtain ⟨v, r, rfl, _⟩ := h
    rfl
  · obtain ⟨v, r, rfl, hv, hz, hb, q⟩ := h
    refine ⟨_, (pss_one (ps_ret (pe_ifExp (pt_cmpR op_gt (pe_callB call_len_seq (by rfl) T.b_len (by decide +kernel) (pa_cons (pv 0) pa_nil)) pe_int (nomark _)) (pe_lc (own := [("one", 1)]) (g := gName 1) rfl sc_figures.nd (pi_tup (pv 0)) (blkOk_by (own := [("one", 1)]) (N := n_figures) (sc := defScope s_figures) (by decide +kernel)) (fun _ _ _ _ _ => (pg_name (i := 1) sc_figures.nd rfl (by first | exact Or.inl rfl | exact Or.inr rfl))) (fun _ _ _ _ _ => pts_nil) (fun _ _ _ _ _ => (pe_callTy call_str_int (by rfl) T.b_str (by decide +kernel) (pa_cons (pv 1) pa_nil)))) (pe_lst (pa_cons (C8.pe_gc rfl T.g_NONE) pa_nil))))), ?_⟩
    cases hv with
    | @tup a vs _ hs hd =>
      have ev := dps_int hd
      subst ev
      refine ⟨_, rfl, a, _, rfl, .inr hs, _, _, rfl, rfl, _, rfl, ite2 (fun e => ?_) (fun e => ?_)⟩
      · have hne : r ≠ [] := fun z => by
          subst z
          simp at e
        refine ⟨_, rfl, a, rfl, ⟨_, hs⟩, fun D hD => lc_it (walk_tup (K := K) (a := a) (xs := r.map V.int)) (FlatP (TL K) [] H D fun i => V.str (strI (r.getD i 0))) (flat_0 hD) (fun i H1 _ p1 => sqT_kp .nil p1.k.k hs) ?_ ?_⟩
        · rintro i x H1 H2 hi p1 ⟨rfl, hx⟩
          rw [List.length_map] at hi
          rw [List.getElem?_map, List.getElem?_eq_getElem hi] at hx
          obtain rfl : V.int r[i] = x := Option.some.inj hx
          refine ⟨rfl, yes_if ⟨_, rfl, _, rfl, hb _ (List.getElem_mem hi), flat_step p1 .refl .nil hD (line5 (by omega)) ?_⟩⟩
          rw [List.getD_eq_getElem?_getD, List.getElem?_eq_getElem hi] <;> rfl
        · intro H1 p1
          refine q D H1 hD p1.k ?_
          rw [p1.d, List.length_map, map_range_getD r 0 (fun i => V.str (strI i))]
          unfold figW
          rw [if_neg hne, List.map_map]
          rfl
      · have hne : r = [] := by
          cases r with
          | nil => rfl
          | cons x y => simp at e
        subst hne
        refine ⟨Nat.le_trans (by decide : 1 ≤ 16777216) (Nat.le_of_eq sizeLine_eq.symm), fun p hp => q p _ hp (Kt.refl.new hp) ?_⟩
        rw [upd_same]
        rfl
end
end K75

namespace K75
open PySem PySem.Spec PyProof.Rows L2 XB LamX
section
variable {P : Program} {w : World} {K : PySem.W.Frag} {mg : Str → Option Value} {base : Heap}
theorem EText.after {S : List Addr} {H H1 : Hp} {E : XK} {ln at_ : Nat} (q : EText K S H E ln at_) (k : Kt (TL K) S H H1) {S' : List Addr} (h : ∀ c ∈ S', c ∈ S) : EText K S' H1 E ln at_ := fun dd H' k2 hx => q dd H' (k.trans (k2.sub h)) hx
/-! ### a row of figures read -/
def rdF (r : List Str) : Sum Nat (List Int × Nat) := if r[0]? = some ("-" : Str) then .inr ([], 1) else match r.findIdx? (fun z => !figB z) with
  | some i => .inl i
  | none => if r = [] then .inl 0 else .inr (r.map numW, r.length)
structure RdB (rows : List (List Str)) : Prop where
  word : ∀ r ∈ rows, ∀ z ∈ r, z.length ≤ 16777214
  len : ∀ r ∈ rows, r.length ≤ 16777214
theorem RdB.peek {rows : List (List Str)} (b : RdB rows) {ln at_ : Nat} {z : Str} (h : peekW rows ln at_ = some z) : z.length ≤ 16777214 := by
  unfold peekW at h
  rw [List.getD_eq_getElem?_getD] at h
  cases e : rows[ln]? with
  | none =>
    rw [e] at h
    simp at h
  | some r =>
    rw [e] at h
    exact b.word r (List.mem_of_getElem? e) z (List.mem_of_getElem? h)
/-- the first k figures are figures -/
def FigsTo (r : List Str) (k : Nat) : Prop := ∀ i z, i < k → r[i]? = some z → figB z = true
theorem figs_none {r : List Str} {k : Nat} (h : FigsTo r k) (hk : r.length ≤ k) : r.findIdx? (fun z => !figB z) = none := by
  rw [List.findIdx?_eq_none_iff]
  intro z hz
  obtain ⟨i, hi, e⟩ := List.getElem_of_mem hz
  rw [h i z (by omega) (by rw [List.getElem?_eq_getElem hi, e])]
  rfl
theorem figs_some {r : List Str} {k : Nat} {z : Str} (h : FigsTo r k) (hz : r[k]? = some z) (hf : figB z = false) : r.findIdx? (fun z => !figB z) = some k := by
  rw [List.findIdx?_eq_some_iff_getElem]
  obtain ⟨hk, e⟩ := List.getElem?_eq_some_iff.mp hz
  refine ⟨hk, by rw [e, hf]; rfl, fun j hj => ?_⟩
  rw [h j r[j] hj (List.getElem?_eq_getElem (by omega))]
  simp
def sp_read_figures (K : PySem.W.Frag) : Sp := fun vs H Q E => ∃ a c rows ln, vs = [.ref a] ∧ Wd K H a c rows ln 0 ∧ RdB rows ∧
  (∀ i, rdF (rows.getD ln []) = .inl i → EText K [a] H E ln i) ∧ (∀ ns n, rdF (rows.getD ln []) = .inr (ns, n) → ∀ v H', Kt (TL K) [a] H H' → Wd K H' a c rows ln n → Dp K H' v (.tuple (ns.map PyData.int)) → Q v H')
theorem cal_read_figures (B : BX P K mg base) : CalA P w K mg base 8 (He.ga K "read_figures") (sp_read_figures K) := by
  have T := B.T
  have c_Words_has_none := cal_Words_has_none (P := P) (w := w) (base := base) B
  have c_Words_read_number := cal_Words_read_number (P := P) (w := w) (base := base) B
  have c_Words_is_end := cal_Words_is_end (P := P) (w := w) (base := base) B
  obtain ⟨fd, F⟩ := T.f_read_figures
  refine ⟨fd, p_read_figures, F.ok sc_read_figures (fun vs H Q E h => ?_) (fun cdv A outer s H vs Q E hr h => ?_), F.kp, (F.bindsN (ps := p_read_figures) fun _ _ _ _ _ _ us hl => match us, hl with | [_], _ => rfl)⟩
  · obtain ⟨a, c, rows, ln, rfl, _⟩ := h
    rfl
  · obtain ⟨a, c, rows, ln, rfl, hw, hb, hn, hy⟩ := h
    refine ⟨_, (pss_cons (ps_if (pt_val (pe_mt0 (c_Words_has_none.mono (by first | decide | omega)) hr pX (pv 0)))
 (pss_one (ps_ret (pe_tup pa_nil)))
 pss_nil)
 (pss_cons (ps_set (i := 1) sc_read_figures.nd rfl (by first | exact Or.inl rfl | exact Or.inr rfl) (pe_lst (pa_cons (pe_mt0 (c_Words_read_number.mono (by first | decide | omega)) hr pX (pv 0)) pa_nil)))
 (pss_cons (ps_while poX (pt_not (pt_val (pe_mt0 (c_Words_is_end.mono (by first | decide | omega)) hr pX (pv 0))))
 (pss_one (ps_expr (pe_bm PySem.F.plainAttrs_list PySem.F.slot_list_append PySem.F.type_list_append mt_append (pv 1) (pa_cons (pe_mt0 (c_Words_read_number.mono (by first | decide | omega)) hr pX (pv 0)) pa_nil)))))
 (pss_one (ps_ret (pe_callTy call_tuple_of (by rfl) T.b_tuple (by decide +kernel) (pa_cons (pv 1) pa_nil))))))), ?_⟩
    generalize hr0 : rows.getD ln [] = r at hn hy
    have pk : ∀ i, peekW rows ln i = r[i]? := fun i => by
      unfold peekW
      rw [hr0]
    obtain ⟨dx, l, ea, hd⟩ := hw.ex
    refine ⟨_, rfl, a, dx, _, rfl, ea, rfl, a, c, rows, ln, 0, rfl, hw, fun H1 k1 hw1 => ⟨_, rfl, ?_⟩⟩
    rw [pk] at hw1 ⊢
    by_cases hm : r[0]? = some ("-" : Str)
    · rw [decide_eq_true hm]
      refine it1 ?_
      rw [if_pos hm] at hw1
      refine ⟨by simp, fun p hp => ?_⟩
      have e1 : rdF r = .inr ([], 1) := by
        unfold rdF
        rw [if_pos hm]
      exact hy [] 1 e1 _ _ (k1.new hp) (hw1.kp .nil (by simp) (Kp.refl.new hp)) (.tup (.of upd_same) .nil)
    · rw [decide_eq_false hm]
      refine it0 ?_
      rw [if_neg hm] at hw1
      have e0 : rdF r = match r.findIdx? (fun z => !figB z) with
          | some i => .inl i
          | none => if r = [] then .inl 0 else .inr (r.map numW, r.length) := by
        unfold rdF
        rw [if_neg hm]
      have bad : ∀ k, FigsTo r k → figO r[k]? = false → k < r.length ∨ k = 0 → rdF r = .inl k := by
        intro k hk hf hlt
        rw [e0]
        cases hz : r[k]? with
        | some z =>
          rw [hz] at hf
          rw [figs_some hk hz hf]
        | none =>
          have h0 : k = 0 := by
            rcases hlt with h | h
            · rw [List.getElem?_eq_getElem h] at hz
              cases hz
            · exact h
          subst h0
          have hr : r = [] := by
            cases r with
            | nil => rfl
            | cons x y => simp at hz
          rw [hr]
          rfl
      obtain ⟨dx1, l1, ea1, hd1⟩ := hw1.ex
      refine ⟨_, rfl, a, dx1, _, rfl, ea1, rfl, a, c, rows, ln, 0, rfl, hw1, fun z hz => hb.peek hz, fun z H2 hz hf k2 hw2 => ?_, fun hf => ?_⟩
      · rw [pk] at hz
        have h0 : 0 < r.length := (List.getElem?_eq_some_iff.mp hz).1
        have kk2 := k1.trans k2
        refine ⟨Nat.le_trans (by decide : 1 ≤ 16777216) (Nat.le_of_eq sizeLine_eq.symm), fun D hD => ?_⟩
        have h0D : H D = none := kk2.g D hD
        have aD : a ≠ D := fun z0 => by
          obtain ⟨dx2, l2, ea2, _⟩ := hw2.ex
          rw [z0, hD] at ea2
          cases ea2
        have st : ∀ {H3 : Hp} {j : Nat} {xs : List V}, Wd K H3 a c rows ln j → H3 D = some (.lst xs) → Lis H3 [a, D] := fun {H3 j xs} hw3 hd3 c hc => by
          rcases List.mem_cons.mp hc with z0 | z0
          · obtain ⟨dx3, l3, ea3, _⟩ := hw3.ex
            rw [z0]
            exact .inl ⟨_, _, _, ea3⟩
          · rw [List.mem_singleton.mp z0]
            exact .inr ⟨_, hd3⟩
        refine ⟨fun m σ H3 => ∃ j, m = r.length - j ∧ 1 ≤ j ∧ j ≤ r.length ∧ FigsTo r j ∧ σ = [some (.ref a), some (.ref D)] ∧ Wd K H3 a c rows ln j ∧ H3 D = some (.lst ((r.take j).map fun z => V.int (numW z))) ∧ Kt (TL K) [a] H H3, ⟨_, 1, rfl, Nat.le_refl _, h0, fun i z' hi hz' => ?_, rfl, ?_, ?_, ?_⟩, ?_⟩
        · obtain rfl : i = 0 := by omega
          rw [hz] at hz'
          cases hz'
          exact hf
        · exact hw2.kp .nil (by simp) (Kp.refl.new hD)
        · rw [upd_same]
          have e3 : r.take 1 = [z] := by
            cases r with
            | nil => simp at h0
            | cons x y =>
              simp at hz
              rw [hz]
              rfl
          rw [e3]
          rfl
        · exact kk2.new hD
        · rintro m σ H3 ⟨j, rfl, j1, j2, hfj, rfl, hw3, hd3, k3⟩
          obtain ⟨dx3, l3, ea3, _⟩ := hw3.ex
          refine ⟨_, rfl, a, dx3, _, rfl, ea3, rfl, a, c, rows, ln, j, rfl, hw3, fun H4 k4 => ⟨_, rfl, ?_⟩⟩
          have hw4 := hw3.kp .nil (by simp) k4.k
          have hd4 := k4.k _ _ hd3 (by simp) (by intro _ z0; cases z0)
          have k34 := k3.trans k4.of0
          rw [pk]
          by_cases hj : j < r.length
          · rw [List.getElem?_eq_getElem hj]
            refine it1 ⟨fun σ' H' => ∃ m', m' < r.length - j ∧ ∃ j', m' = r.length - j' ∧ 1 ≤ j' ∧ j' ≤ r.length ∧ FigsTo r j' ∧ σ' = [some (.ref a), some (.ref D)] ∧ Wd K H' a c rows ln j' ∧ H' D = some (.lst ((r.take j').map fun z => V.int (numW z))) ∧ Kt (TL K) [a] H H', fun _ _ q => q, ?_⟩
            obtain ⟨dx4, l4, ea4, _⟩ := hw4.ex
            refine ⟨_, rfl, .inl ⟨rfl, _, .of hd4⟩, _, rfl, a, dx4, _, rfl, ea4, rfl, a, c, rows, ln, j, rfl, hw4, fun z' hz' => hb.peek hz', fun z' H5 hz' hf' k5 hw5 => ?_, fun hf' => ?_⟩
            · rw [pk] at hz'
              have hd5 := k5.k _ _ hd4 (by simpa using Ne.symm aD) (by intro _ z0; cases z0)
              have k35 := k34.trans k5
              have hlen := hb.len r (by
                rw [← hr0, List.getD_eq_getElem?_getD]
                cases e5 : rows[ln]? with
                | none =>
                  rw [List.getD_eq_getElem?_getD, e5] at hr0
                  rw [← hr0] at hj
                  simp at hj
                | some r5 => exact List.mem_of_getElem? e5)
              refine ⟨D, _, _, rfl, rfl, hd5, by rw [List.length_map, List.length_take, sizeLine_eq]; omega, ?_⟩
              refine ⟨r.length - (j + 1), by omega, j + 1, rfl, by omega, by omega, fun i z6 hi hz6 => ?_, rfl, ?_, ?_, ?_⟩
              · by_cases hij : i < j
                · exact hfj i z6 hij hz6
                · obtain rfl : i = j := by omega
                  rw [hz'] at hz6
                  cases hz6
                  exact hf'
              · refine hw.move (k35.k.mutNew h0D) fun dx6 l6 e6 => ?_
                rw [upd_ne aD]
                have e7 := hw.at0.symm.trans e6
                have e8 := hw5.at0
                cases e7
                exact e8
              · rw [upd_same, List.take_add_one, hz', List.map_append]
                rfl
              · exact k35.mutNew h0D hd5 soft_lst
            · rw [pk] at hf'
              refine (hn j (bad j hfj hf' (.inl hj))).after (k3.trans k4.of0) (by simp)
          · rw [List.getElem?_eq_none (by omega)]
            refine it0 ?_
            have ej : j = r.length := by omega
            subst ej
            refine ⟨_, rfl, D, _, rfl, .inl ⟨.of hd4, fun T' hT' => ?_⟩⟩
            rw [List.take_length]
            have e1 : rdF r = .inr (r.map numW, r.length) := by
              rw [e0, figs_none hfj (Nat.le_refl _)]
              show (if r = [] then _ else _) = _
              rw [if_neg (fun z0 => by rw [z0] at h0; simp at h0)]
            refine hy _ _ e1 _ _ (k34.new hT') (hw4.kp .nil (by simp) (Kp.refl.new hT')) ?_
            refine .tup (.of upd_same) ?_
            rw [show (r.map fun z => V.int (numW z)) = (r.map numW).map V.int from by rw [List.map_map]; rfl]
            exact dps_ints _
      · rw [pk] at hf
        exact (hn 0 (bad 0 (fun i z hi => absurd hi (by omega)) hf (.inr rfl))).after k1 (by simp)
/-! ### lines read -/
theorem noLis_snoc {ds : List PyData} {d : PyData} (h : noLis ds = true) (hd : noLi d = true) : noLis (ds ++ [d]) = true := by
  induction ds with
  | nil =>
    show (noLi d && noLis []) = true
    rw [hd]
    rfl
  | cons x r ih =>
    rw [noLis] at h
    have h2 := Bool.and_eq_true_iff.mp h
    show (noLi x && noLis (r ++ [d])) = true
    rw [h2.1, ih h2.2]
    rfl
def lineM (rd : List Str → Sum Nat (PyData × Nat)) (r : List Str) : Sum Nat PyData := match rd r with
  | .inl i => .inl i
  | .inr (d, n) => if n < r.length then .inl n else .inr d
def readM (rd : List Str → Sum Nat (PyData × Nat)) : Nat → List (List Str) → Sum (Nat × Nat) (List PyData)
  | _, [] => .inr []
  | ln, r :: rs => match lineM rd r with
    | .inl i => .inl (ln, i)
    | .inr d => match readM rd (ln + 1) rs with
      | .inl e => .inl e
      | .inr ds => .inr (d :: ds)
def cont (ds : List PyData) : Sum (Nat × Nat) (List PyData) → Sum (Nat × Nat) (List PyData)
  | .inl e => .inl e
  | .inr ds' => .inr (ds ++ ds')
/-- what a reader of one line promises -/
def RdOk (K : PySem.W.Frag) (rd : List Str → Sum Nat (PyData × Nat)) (spr : Sp) : Prop := ∀ (a : Addr) (c : Addr × Addr) (rows : List (List Str)) (ln : Nat) (H : Hp) (Q : VK) (E : XK), Wd K H a c rows ln 0 → Tabs (TL K) H → RdB rows → ln < rows.length →
  (∀ i, rd (rows.getD ln []) = .inl i → EText K [a] H E ln i) → (∀ d n, rd (rows.getD ln []) = .inr (d, n) → ∀ v H', Kt (TL K) [a] H H' → Wd K H' a c rows ln n → Dp K H' v d → Q v H') → spr [.ref a] H Q E
def sp_read_lines (K : PySem.W.Frag) (rd : List Str → Sum Nat (PyData × Nat)) (f : Addr) : Sp := fun vs H Q E => ∃ (a : Addr) (c : Addr × Addr) (rows : List (List Str)), vs = [.ref a, .ref f] ∧ Wd K H a c rows 0 0 ∧ Tabs (TL K) H ∧ RdB rows ∧ rows.length ≤ 16777215 ∧
  (∀ ln i, readM rd 0 rows = .inl (ln, i) → EText K [a] H E ln i) ∧ (∀ ds, readM rd 0 rows = .inr ds → ∀ D acc H', H D = none → Kt (TL K) [a] H H' → H' D = some (.lst acc) → DpAll K H' acc ds → Q (.ref D) H')
theorem cal_read_lines (B : BX P K mg base) {kr : Nat} {f : Addr} {spr : Sp} {rd : List Str → Sum Nat (PyData × Nat)} (cr : CalV P w K mg base kr f spr) (ok : RdOk K rd spr) (nl : ∀ r d n, rd r = .inr (d, n) → noLi d = true) :
    CalA P w K mg base (kr + 6) (He.ga K "read_lines") (sp_read_lines K rd f) := by
  have T := B.T
  have c_Words_has_line := cal_Words_has_line (P := P) (w := w) (base := base) B
  have c_Words_end_line := cal_Words_end_line (P := P) (w := w) (base := base) B
  obtain ⟨fd, F⟩ := T.f_read_lines
  refine ⟨fd, p_read_lines, F.ok sc_read_lines (fun vs H Q E h => ?_) (fun cdv A outer s H vs Q E hr h => ?_), F.kp, (F.bindsN (ps := p_read_lines) fun _ _ _ _ _ _ us hl => match us, hl with | [_, _], _ => rfl)⟩
  · obtain ⟨a, c, rows, rfl, _⟩ := h
    rfl
  · obtain ⟨a, c, rows, rfl, hw, hT, hb, hlen, hn, hy⟩ := h
    refine ⟨_, (pss_cons (ps_set (i := 2) sc_read_lines.nd rfl (by first | exact Or.inl rfl | exact Or.inr rfl) (pe_lst pa_nil))
 (pss_cons (ps_while poX (pt_val (pe_mt0 (c_Words_has_line.mono (by first | decide | omega)) hr pX (pv 0)))
 (pss_cons (ps_expr (pe_bm PySem.F.plainAttrs_list PySem.F.slot_list_append PySem.F.type_list_append mt_append (pv 2) (pa_cons (pe_cv (i := 1) cr (hr.mono (by omega)) pX rfl (.inl rfl) (pa_cons (pv 0) pa_nil)) pa_nil)))
 (pss_one (ps_expr (pe_mt0 (c_Words_end_line.mono (by first | decide | omega)) hr pX (pv 0))))))
 (pss_one (ps_ret (pv 2))))), ?_⟩
    refine ⟨by simp, fun D hD => ?_⟩
    have aD : a ≠ D := fun z0 => by
      have e := hw.at0
      rw [z0, hD] at e
      cases e
    have st : ∀ {H3 : Hp} {j i : Nat} {xs : List V}, Wd K H3 a c rows j i → H3 D = some (.lst xs) → Lis H3 [a, D] := fun {H3 j i xs} hw3 hd3 b hb => by
      rcases List.mem_cons.mp hb with z0 | z0
      · rw [z0]
        exact .inl ⟨_, _, _, hw3.at0⟩
      · rw [List.mem_singleton.mp z0]
        exact .inr ⟨_, hd3⟩
    have wdm : ∀ {H3 H4 : Hp} {i j : Nat}, Kt (TL K) [a] H H4 → H4 a = some (.ins (He.ga K "Words") c.1 [("lines", .ref c.2), ("line", .int i), ("at", .int j)]) → Wd K H4 a c rows i j := fun k e => ⟨e, dp_kp hw.ins k.k hw.dp⟩
    refine ⟨fun m σ H3 => ∃ j acc ds, m = rows.length - j ∧ j ≤ rows.length ∧ readM rd 0 rows = cont ds (readM rd j (rows.drop j)) ∧ σ = [some (.ref a), some (.ref f), some (.ref D)] ∧ Wd K H3 a c rows j 0 ∧ H3 D = some (.lst acc) ∧ DpAll K H3 acc ds ∧ acc.length = j ∧ noLis ds = true ∧ Kt (TL K) [a] H H3,
      ⟨_, 0, [], [], rfl, by omega, ?_, rfl, hw.kp .nil (by simp) (Kp.refl.new hD), upd_same, .nil, rfl, rfl, Kt.refl.new hD⟩, ?_⟩
    · show readM rd 0 rows = cont [] (readM rd 0 rows)
      cases readM rd 0 rows <;> rfl
    · rintro m σ H3 ⟨j, acc, ds, rfl, j2, hm, rfl, hw3, hd3, hds, hal, hnl, k3⟩
      refine ⟨_, rfl, a, c.1, _, rfl, hw3.at0, rfl, a, c, rows, j, 0, rfl, hw3, _, rfl, ?_⟩
      by_cases hj : j < rows.length
      · rw [decide_eq_true hj]
        refine it1 ⟨fun σ' H' => ∃ m', m' < rows.length - j ∧ ∃ j' acc' ds', m' = rows.length - j' ∧ j' ≤ rows.length ∧ readM rd 0 rows = cont ds' (readM rd j' (rows.drop j')) ∧ σ' = [some (.ref a), some (.ref f), some (.ref D)] ∧ Wd K H' a c rows j' 0 ∧ H' D = some (.lst acc') ∧ DpAll K H' acc' ds' ∧ acc'.length = j' ∧ noLis ds' = true ∧ Kt (TL K) [a] H H', fun _ _ q => q, ?_⟩
        have er : rows.getD j [] = rows[j] := by rw [List.getD_eq_getElem?_getD, List.getElem?_eq_getElem hj] <;> rfl
        have edrop : rows.drop j = rows[j] :: rows.drop (j + 1) := List.drop_eq_getElem_cons hj
        have hstep : readM rd j (rows.drop j) = match lineM rd rows[j] with
            | .inl i => .inl (j, i)
            | .inr d => match readM rd (j + 1) (rows.drop (j + 1)) with
              | .inl e => .inl e
              | .inr ds => .inr (d :: ds) := by
          rw [edrop]
          rfl
        refine ⟨_, rfl, .inl ⟨rfl, _, .of hd3⟩, rfl, _, rfl, ok a c rows j H3 _ E hw3 (k3.t hT) hb hj (fun i hi => ?_) fun d n hd v H4 k4 hw4 hv => ?_⟩
        · rw [er] at hi
          have e1 : readM rd 0 rows = .inl (j, i) := by
            rw [hm, hstep]
            unfold lineM
            rw [hi]
            rfl
          exact (hn j i e1).after k3 fun _ z => z
        · rw [er] at hd
          have nd := nl _ _ _ hd
          have hd4 := k4.k _ _ hd3 (by simpa using Ne.symm aD) (by intro _ z0; cases z0)
          have k34 := k3.trans k4
          have hds4 : DpAll K H4 acc ds := dps_lis (S := [a]) (fun b hb' => by rw [List.mem_singleton.mp hb']; exact .inl ⟨_, _, _, hw3.at0⟩) k4.k hnl hds
          refine ⟨D, _, _, rfl, rfl, hd4, by rw [hal, sizeLine_eq]; omega, ?_⟩
          have k5 : Kt (TL K) [a] H (upd H4 D (.lst (acc ++ [v]))) := k34.mutNew hD hd4 soft_lst
          have hw5 : Wd K (upd H4 D (.lst (acc ++ [v]))) a c rows j n := wdm (H3 := H3) k5 (by rw [upd_ne aD]; exact hw4.at0)
          have hds5 : DpAll K (upd H4 D (.lst (acc ++ [v]))) (acc ++ [v]) (ds ++ [d]) := dat_add (F := fun _ => d) (i := 0) hd4 hds4 hnl hv nd
          have hpk : peekW rows j n = rows[j][n]? := by
            unfold peekW
            rw [er]
          refine ⟨_, rfl, a, c.1, _, rfl, hw5.at0, rfl, a, c, rows, j, n, rfl, hw5, fun he H6 k6 hw6 => ?_, fun he => ?_⟩
          · rw [hpk] at he
            have hnlen : ¬ n < rows[j].length := fun z0 => by
              rw [List.getElem?_eq_getElem z0] at he
              cases he
            have e1 : lineM rd rows[j] = .inr d := by
              unfold lineM
              rw [hd]
              show (if n < rows[j].length then _ else _) = _
              rw [if_neg hnlen]
            refine ⟨rows.length - (j + 1), by omega, j + 1, acc ++ [v], ds ++ [d], rfl, by omega, ?_, rfl, hw6, ?_, ?_, by simp [hal], ?_, k5.trans k6⟩
            · rw [hm, hstep, e1]
              show cont ds (match readM rd (j + 1) (rows.drop (j + 1)) with | .inl e => .inl e | .inr ds => .inr (d :: ds)) = _
              cases readM rd (j + 1) (rows.drop (j + 1)) with
              | inl e => rfl
              | inr ds' =>
                show Sum.inr (ds ++ (d :: ds')) = Sum.inr ((ds ++ [d]) ++ ds')
                rw [List.append_assoc]
                rfl
            · exact k6.k _ _ upd_same (by simpa using Ne.symm aD) (by intro _ z0; cases z0)
            · refine dps_lis (S := [a]) (fun b hb' => by rw [List.mem_singleton.mp hb']; exact .inl ⟨_, _, _, hw5.at0⟩) k6.k ?_ hds5
              exact noLis_snoc hnl nd
            · exact noLis_snoc hnl nd
          · rw [hpk] at he
            have hnlen : n < rows[j].length := by
              rcases Nat.lt_or_ge n rows[j].length with z0 | z0
              · exact z0
              · rw [List.getElem?_eq_none z0] at he
                cases he
            have e1 : readM rd 0 rows = .inl (j, n) := by
              rw [hm, hstep]
              unfold lineM
              rw [hd]
              show cont ds (match (if n < rows[j].length then Sum.inl n else Sum.inr d) with | .inl i => _ | .inr d => _) = _
              rw [if_pos hnlen]
              rfl
            exact (hn j n e1).after k5 (by simp)
      · rw [decide_eq_false hj]
        refine it0 ?_
        have ej : j = rows.length := by omega
        have e1 : readM rd 0 rows = .inr ds := by
          rw [hm, ej, List.drop_length]
          show Sum.inr (ds ++ []) = _
          rw [List.append_nil]
        exact ⟨_, rfl, hy ds e1 D acc H3 hD k3 hd3 hds⟩
end
end K75

namespace K75
open PySem PySem.Spec PyProof.Rows L2 XB LamX
section
variable {P : Program} {w : World} {K : PySem.W.Frag} {mg : Str → Option Value} {base : Heap}
/-! ### Log -/
def intsD (r : List Int) : PyData := .tuple (r.map PyData.int)
def logD (rows : List (List Int)) : PyData := .tuple (rows.map intsD)
def logOk (rows : List (List Int)) : Bool := (decide (1 ≤ (rows.length : Int)) && decide ((rows.length : Int) ≤ 6)) && (rows.all (fun r => decide (0 ≤ (r.length : Int)) && decide ((r.length : Int) ≤ 48)) && rows.all fun r => r.all fun i => decide (0 ≤ i) && decide (i ≤ 400))
/-- an error with a part: which -/
def EPart (K : PySem.W.Frag) (S : List Addr) (H : Hp) (E : XK) (x part : Str) : Prop := ∀ dd H', Kt (TL K) S H H' → H' dd = some (.xd [("part", .str part)]) → E (.ref (He.ga K x)) (some dd) H'
theorem EPart.after {S : List Addr} {H H1 : Hp} {E : XK} {x part : Str} (q : EPart K S H E x part) (k : Kt (TL K) S H H1) {S' : List Addr} (h : ∀ c ∈ S', c ∈ S) : EPart K S' H1 E x part := fun dd H' k2 hx => q dd H' (k.trans (k2.sub h)) hx
def sp_Log_init (K : PySem.W.Frag) : Sp := fun vs H Q E => ∃ (a dx : Addr) (v : V) (d : PyData) (rows : List (List Int)), vs = [.ref a, v] ∧ H a = some (.ins (He.ga K "Log") dx []) ∧ Dp K H v d ∧ (d = .list (rows.map intsD) ∨ d = .tuple (rows.map intsD)) ∧
  (logOk rows = true → ∀ v' H', Kt (TL K) [a] H H' → H' a = some (.ins (He.ga K "Log") dx [("numbers", v')]) → Dp K H' v' (logD rows) → Q .non H') ∧ (logOk rows = false → EPart K [a] H E "BadLog" "numbers")
theorem seq_or {H : Hp} {v : V} {d : PyData} {ds : List PyData} (h : Dp K H v d) (e : d = .list ds ∨ d = .tuple ds) : ∃ a xs, v = .ref a ∧ (SqL K H a xs ∨ SqT K H a xs) ∧ DpAll K H xs ds := by
  rcases e with rfl | rfl
  · cases h with
    | lst h r => exact ⟨_, _, rfl, .inl h, r⟩
  · cases h with
    | tup h r => exact ⟨_, _, rfl, .inr h, r⟩
theorem sq_kp {H H' : Hp} {S : List Addr} {a : Addr} {xs : List V} (i : Ins H S) (k : Kp S H H') (h : SqL K H a xs ∨ SqT K H a xs) : SqL K H' a xs ∨ SqT K H' a xs := h.elim (fun q => .inl (sqL_kp i k q)) fun q => .inr (sqT_kp i k q)
theorem intsD_row (r : List Int) (lo hi : Int) : rowB (intsD r) lo hi = (decide (lo ≤ (r.length : Int)) && decide ((r.length : Int) ≤ hi)) := by
  unfold intsD
  rw [rowB_of (.inr rfl), List.length_map]
def inN (i : Int) : Bool := decide (0 ≤ i) && decide (i ≤ 400)
def rowN (r : List Int) : Bool := decide (0 ≤ (r.length : Int)) && decide ((r.length : Int) ≤ 48)
theorem logOk_eq (rows : List (List Int)) : logOk rows = ((decide (1 ≤ (rows.length : Int)) && decide ((rows.length : Int) ≤ 6)) && (rows.all rowN && rows.flatten.all inN)) := by
  unfold logOk
  congr 1
  congr 1
  induction rows with
  | nil => rfl
  | cons r rs ih =>
    rw [List.all_cons, List.flatten_cons, List.all_append, ih]
    rfl
theorem flat_len : ∀ {rows : List (List Int)}, rows.all rowN = true → rows.flatten.length ≤ 48 * rows.length
  | [], _ => by simp
  | r :: rs, h => by
    rw [List.all_cons] at h
    have h1 := (Bool.and_eq_true_iff.mp h).1
    have h2 := flat_len (Bool.and_eq_true_iff.mp h).2
    have h3 : r.length ≤ 48 := by
      have := (Bool.and_eq_true_iff.mp h1).2
      rw [decide_eq_true_iff] at this
      omega
    rw [List.flatten_cons, List.length_append, List.length_cons]
    omega
theorem take_len {rows : List (List Int)} (h : rows.all rowN = true) (i : Nat) : (rows.take i).flatten.length ≤ 48 * rows.length := by
  refine Nat.le_trans (flat_len (List.all_eq_true.mpr fun r hr => List.all_eq_true.mp h r (List.mem_of_mem_take hr))) ?_
  rw [List.length_take]
  exact Nat.mul_le_mul_left _ (Nat.min_le_right _ _)
theorem deep_ints : ∀ r : List Int, deepDs (r.map PyData.int) = 0
  | [] => rfl
  | i :: r => by
    rw [List.map_cons, deepDs, deep_ints r]
    rfl
theorem deep_rows : ∀ rows : List (List Int), deepDs (rows.map intsD) ≤ 1
  | [] => by decide
  | r :: rs => by
    have := deep_rows rs
    have e : deepD (intsD r) = 1 := by
      unfold intsD
      rw [deepD, deep_ints]
    rw [List.map_cons, deepDs, e]
    omega
theorem siz_ints : ∀ r : List Int, sizDs (r.map PyData.int) = r.length
  | [] => rfl
  | i :: r => by
    rw [List.map_cons, sizDs, siz_ints r, List.length_cons, show sizD (PyData.int i) = 1 from rfl]
    omega
theorem siz_rows : ∀ rows : List (List Int), sizDs (rows.map intsD) = rows.flatten.length + rows.length
  | [] => rfl
  | r :: rs => by
    have e : sizD (intsD r) = r.length + 1 := by
      unfold intsD
      rw [sizD, siz_ints]
    rw [List.map_cons, sizDs, siz_rows rs, e, List.flatten_cons, List.length_append, List.length_cons]
    omega
theorem fix_ints : ∀ r : List Int, (r.map PyData.int).map fixD = r.map PyData.int
  | [] => rfl
  | i :: r => by
    rw [List.map_cons, List.map_cons, fix_ints r]
    rfl
theorem fix_rows : ∀ rows : List (List Int), (rows.map intsD).map fixD = rows.map intsD
  | [] => rfl
  | r :: rs => by
    rw [List.map_cons, List.map_cons, fix_rows rs]
    congr 1
    unfold intsD
    rw [fixD, fixDs_map, fix_ints]
theorem cal_Log_init (B : BX P K mg base) : Mak P w K mg base 6 "Log" (He.ga K "Log") (sp_Log_init K) := by
  have T := B.T
  have o_BadLog := own_BadLog (w := w) (base := base) T B.hP
  have c_fixed := (cal_fixed (P := P) (w := w) (base := base) T 2).cal T.g_fixed
  have c_is_row := (cal_is_row (P := P) (w := w) (base := base) T).cal T.g_is_row
  have c_is_within := (cal_is_within (P := P) (w := w) (base := base) T).cal T.g_is_within
  constructor
  obtain ⟨fd, F⟩ := T.f_Log_init
  refine ⟨_, fd, p_Log_init, T.k_Log, F.ok sc_Log_init (fun vs H Q E h => ?_) (fun cdv A outer s H vs Q E hr h => ?_), T.g_Log, (F.bindsN (ps := p_Log_init) fun _ _ _ _ _ _ us hl => match us, hl with | [_, _], _ => rfl)⟩
  · obtain ⟨a, dx, v, d, rows, rfl, _⟩ := h
    rfl
  · obtain ⟨a, dx, v, d, rows, rfl, ea, hv, hd, hy, hn⟩ := h
    refine ⟨_, (pss_cons (ps_if (PW.pt (pw_or (pt_not (pt_val (pe_c (c_is_row.mono (by first | decide | omega)) hr pX rfl (pa_cons (pv 1) (pa_cons pe_int (pa_cons pe_int pa_nil)))))) (pw_or1 (pt_not (pt_val (pe_callB (cr_all rfl) (by rfl) T.b_all (by decide +kernel) (pa_cons (pe_lc (own := [("row", 2)]) (g := gName 2) rfl sc_Log_init.nd (pi_seq (pv 1)) (blkOk_by (own := [("row", 2)]) (N := n_Log_init) (sc := defScope s_Log_init) (by decide +kernel)) (fun _ _ _ _ _ => (pg_name (i := 2) sc_Log_init.nd rfl (by first | exact Or.inl rfl | exact Or.inr rfl))) (fun _ _ _ _ _ => pts_nil) (fun _ _ _ _ _ => (pe_c (c_is_row.mono (by first | decide | omega)) hr passL rfl (pa_cons (pv 2) (pa_cons pe_int (pa_cons (pe_op op_mul (C8.pe_gc rfl T.g_MOST_DEEDS) (C8.pe_gc rfl T.g_MOST_PASSES)) pa_nil)))))) pa_nil)))))))
 (pss_one (ps_rs (o_BadLog.mono (by first | decide | omega)) hr pX0 rfl tkX rfl (pa_cons pe_str pa_nil)))
 pss_nil)
 (pss_cons (ps_if (pt_not (pt_val (pe_callB (cr_all rfl) (by rfl) T.b_all (by decide +kernel) (pa_cons (pe_lc2 (own := [("row", 2), ("number", 3)]) (vs1 := [3]) rfl sc_Log_init.nd (pi_seq (pv 1)) (blkOk_by (own := [("row", 2), ("number", 3)]) (N := n_Log_init) (sc := defScope s_Log_init) (by decide +kernel)) (by decide) (fun _ _ _ _ _ => (pg_name (i := 2) sc_Log_init.nd rfl (by first | exact Or.inl rfl | exact Or.inr rfl))) (fun _ _ _ _ _ => pts_nil) (fun _ _ _ _ _ => (pi_tupK (K := K) rfl (pv 2))) (fun _ _ _ _ _ => (pg_name (i := 3) sc_Log_init.nd rfl (by first | exact Or.inl rfl | exact Or.inr rfl))) (fun _ _ _ _ _ => pts_nil) (fun _ _ _ _ _ => (pe_c (c_is_within.mono (by first | decide | omega)) hr passL rfl (pa_cons (pv 3) (pa_cons pe_int (pa_cons (C8.pe_gc rfl T.g_MOST_NUMBER) pa_nil)))))) pa_nil))))
 (pss_one (ps_rs (o_BadLog.mono (by first | decide | omega)) hr pX0 rfl tkX rfl (pa_cons pe_str pa_nil)))
 pss_nil)
 (pss_one (ps_fld (pv 0) (pe_c (c_fixed.mono (by first | decide | omega)) hr pX rfl (pa_cons (pv 1) pa_nil)) rfl)))), ?_⟩
    obtain ⟨n, xs, rfl, hs, hds⟩ := seq_or hv hd
    have hlen : xs.length = rows.length := by rw [dps_len hds, List.length_map]
    have hrow : rowB d 1 6 = (decide (1 ≤ (rows.length : Int)) && decide ((rows.length : Int) ≤ 6)) := by
      rw [rowB_of hd, List.length_map]
    have hat : ∀ (i : Nat) (x : V), xs[i]? = some x → i < rows.length → Dp K H x (intsD (rows.getD i [])) := fun i x hx hi => by
      obtain ⟨d', e1, e2⟩ := dps_at hds hx
      rw [List.getElem?_map, List.getElem?_eq_getElem hi] at e1
      rw [List.getD_eq_getElem?_getD, List.getElem?_eq_getElem hi]
      cases e1
      exact e2
    have lk := logOk_eq rows
    refine ⟨_, rfl, _, d, 1, 6, rfl, .dat hv, fun H1 s1 => ⟨_, rfl, ?_⟩⟩
    rw [hrow]
    have k1 : Kt (TL K) [] H H1 := .same s1
    cases hc1 : (decide (1 ≤ (rows.length : Int)) && decide ((rows.length : Int) ≤ 6)) with
    | false =>
      rw [hc1] at lk
      refine it1 (it1 ?_)
      exact ⟨rfl, by decide, fun d H' hd' sm hx => hn lk d H' (k1.of0.trans (.same sm)) hx⟩
    | true =>
      rw [hc1, Bool.true_and] at lk
      refine it0 ?_
      have hn6 : rows.length ≤ 6 := by
        have := (Bool.and_eq_true_iff.mp hc1).2
        rw [decide_eq_true_iff] at this
        omega
      -- the lengths of the rows
      have goA : ∀ D : Addr, H1 D = none → ∀ H2, FlatP (TL K) [] H1 D (fun i => V.bl (rowN (rows.getD i []))) xs.length H2 →
          ∃ (p : Addr) (bs : List Bool), [V.ref D] = [V.ref p] ∧ SqL K H2 p (bs.map V.bl) ∧ (bs.all id = rows.all rowN) := by
        intro D hD H2 p
        refine ⟨D, (List.range rows.length).map fun i => rowN (rows.getD i []), rfl, ?_, ?_⟩
        · rw [List.map_map]
          have := p.d
          rw [hlen] at this
          exact .of this
        · rw [map_range_getD rows [] rowN, List.all_map]
          rfl
      have turnA : ∀ (D : Addr) (i : Nat) (x : V) (H2 : Hp), H1 D = none → i < xs.length → xs[i]? = some x → FlatP (TL K) [] H1 D (fun i => V.bl (rowN (rows.getD i []))) i H2 →
          sp_is_row K [x, .int 0, .int (12 * 4)] H2 (fun y H4 => ∃ acc, H4 D = some (.lst acc) ∧ acc.length < sizeLine ∧ FlatP (TL K) [] H1 D (fun i => V.bl (rowN (rows.getD i []))) (i + 1) (upd H4 D (.lst (acc ++ [y])))) E := by
        intro D i x H2 hD hi hx p
        refine ⟨x, _, 0, 12 * 4, rfl, .dat (dp_kp .nil (k1.trans p.k).k (hat i x hx (by omega))), fun H3 s3 => ?_⟩
        refine flat_step p (.same s3) .nil hD (line5 (by omega)) ?_
        rw [intsD_row]
        rfl
      have goB : ∀ (D : Addr) (H2 : Hp), Kt (TL K) [] H1 H2 → ∀ H3, FlP (TL K) [] H2 D (((rows.take xs.length).flatten.map inN).map V.bl) H3 → ∃ (p : Addr) (bs : List Bool), [V.ref D] = [V.ref p] ∧ SqL K H3 p (bs.map V.bl) ∧ (bs.all id = rows.flatten.all inN) := by
        intro D H2 k2 H3 p
        rw [hlen, List.take_length] at p
        refine ⟨D, rows.flatten.map inN, rfl, .of p.d, ?_⟩
        rw [List.all_map]
        rfl
      rcases hs with hs | hs
      all_goals (
        first
          | refine .inl ⟨_, rfl, n, rfl, ⟨xs, sqL_kp .nil k1.k hs⟩, fun D hD => lc_it (walk_list (K := K) (a := n) (xs := xs)) (FlatP (TL K) [] H1 D fun i => V.bl (rowN (rows.getD i []))) (flat_0 hD) (fun i H2 _ p => sqL_kp .nil (k1.trans p.k).k hs) ?_ ?_⟩
          | refine .inr ⟨_, rfl, n, rfl, ⟨xs, sqT_kp .nil k1.k hs⟩, fun D hD => lc_it (walk_tup (K := K) (a := n) (xs := xs)) (FlatP (TL K) [] H1 D fun i => V.bl (rowN (rows.getD i []))) (flat_0 hD) (fun i H2 _ p => sqT_kp .nil (k1.trans p.k).k hs) ?_ ?_⟩
        · rintro i x H2 H3 hi p ⟨rfl, hx⟩
          exact ⟨rfl, yes_if ⟨_, rfl, _, _, rfl, rfl, .inl ⟨by decide, by decide⟩, turnA D i x _ hD hi hx p⟩⟩
        · intro H2 p
          obtain ⟨q0, bs, e1, e2, e3⟩ := goA D hD H2 p
          refine ⟨q0, bs, e1, e2, _, rfl, ?_⟩
          rw [e3]
          have k2 := k1.trans p.k
          cases hc2 : rows.all rowN with
          | false =>
            rw [hc2] at lk
            refine it1 ?_
            exact ⟨rfl, by decide, fun d H' hd' sm hx => hn lk d H' (k2.of0.trans (.same sm)) hx⟩
          | true =>
            rw [hc2, Bool.true_and] at lk
            refine it0 ?_
            first
              | refine .inl ⟨_, rfl, n, rfl, ⟨xs, sqL_kp .nil k2.k hs⟩, fun D2 hD2 => walk_W (walk_list (K := K) (a := n) (xs := xs)) (fun i H3 => FlP (TL K) [] H2 D2 (((rows.take i).flatten.map inN).map V.bl) H3) (flp_0 hD2) (fun i H3 _ p3 => sqL_kp .nil (k2.trans p3.k).k hs) ?_ ?_⟩
              | refine .inr ⟨_, rfl, n, rfl, ⟨xs, sqT_kp .nil k2.k hs⟩, fun D2 hD2 => walk_W (walk_tup (K := K) (a := n) (xs := xs)) (fun i H3 => FlP (TL K) [] H2 D2 (((rows.take i).flatten.map inN).map V.bl) H3) (flp_0 hD2) (fun i H3 _ p3 => sqT_kp .nil (k2.trans p3.k).k hs) ?_ ?_⟩
            · rintro i x H3 H4 hi p3 ⟨rfl, hx⟩
              have hi2 : i < rows.length := by omega
              have dx1 := dp_kp .nil (k2.trans p3.k).k (hat i x hx hi2)
              have er : rows.getD i [] = rows[i] := by rw [List.getD_eq_getElem?_getD, List.getElem?_eq_getElem hi2] <;> rfl
              rw [er] at dx1
              cases dx1 with
              | @tup t vs _ ht hts =>
                have ev := dps_int hts
                subst ev
                have hr48 : rows[i].length ≤ 48 := by
                  have := (Bool.and_eq_true_iff.mp (List.all_eq_true.mp hc2 rows[i] (List.getElem_mem hi2))).2
                  rw [decide_eq_true_iff] at this
                  omega
                refine ⟨rfl, yes_if ⟨_, rfl, t, rfl, ⟨_, ht⟩, walk_W (walk_tup (K := K) (a := t) (xs := rows[i].map V.int)) (fun j H5 => FlP (TL K) [] H2 D2 ((((rows.take i).flatten ++ rows[i].take j).map inN).map V.bl) H5 ∧ SqT K H5 t (rows[i].map V.int)) ⟨by rw [List.take_zero, List.append_nil]; exact p3, ht⟩ (fun j H5 _ p5 => p5.2) ?_ ?_⟩⟩
                · rintro j y H5 H6 hj p5 ⟨rfl, hy⟩
                  rw [List.length_map] at hj
                  rw [List.getElem?_map, List.getElem?_eq_getElem hj] at hy
                  obtain rfl : V.int rows[i][j] = y := Option.some.inj hy
                  refine ⟨rfl, yes_if ⟨_, rfl, _, .int rows[i][j], 0, 400, rfl, .dat (.int _), ?_⟩⟩
                  have b1 := take_len hc2 i
                  obtain ⟨acc, f1, f2, f3⟩ := flp_step (y := V.bl (inB (.int rows[i][j]) 0 400)) p5.1 .refl .nil hD2 (by
                    rw [List.length_map, List.length_map, List.length_append, List.length_take]
                    exact line5 (by omega))
                  have hta := f3.k
                  refine ⟨acc, f1, f2, ?_, ?_⟩
                  · have e9 : (((rows.take i).flatten ++ rows[i].take (j + 1)).map inN).map V.bl = (((rows.take i).flatten ++ rows[i].take j).map inN).map V.bl ++ [V.bl (inB (.int rows[i][j]) 0 400)] := by
                      rw [List.take_add_one, List.getElem?_eq_getElem hj, ← List.append_assoc, List.map_append, List.map_append]
                      rfl
                    rw [e9]
                    exact f3
                  · exact sqT_lis (S := [D2]) (fun b hb => by rw [List.mem_singleton.mp hb]; exact .inr ⟨_, f1⟩) (Kp.refl.mut (by simp)) p5.2
                · intro H5 p5
                  have e9 : rows[i].take (rows[i].map V.int).length = rows[i] := by rw [List.length_map, List.take_length]
                  have p6 := p5.1
                  rw [e9] at p6
                  have e8 : (rows.take (i + 1)).flatten = (rows.take i).flatten ++ rows[i] := by
                    rw [List.take_add_one, List.getElem?_eq_getElem hi2, List.flatten_append]
                    simp
                  rw [e8]
                  exact p6
            · intro H3 p3
              obtain ⟨q1, bs1, e11, e12, e13⟩ := goB D2 H2 p.k H3 p3
              refine ⟨q1, bs1, e11, e12, _, rfl, ?_⟩
              rw [e13]
              have k3 := k2.trans p3.k
              cases hc3 : rows.flatten.all inN with
              | false =>
                rw [hc3] at lk
                refine it1 ?_
                exact ⟨rfl, by decide, fun d H' hd' sm hx => hn lk d H' (k3.of0.trans (.same sm)) hx⟩
              | true =>
                rw [hc3] at lk
                refine it0 ?_
                have fl := flat_len hc2
                refine ⟨_, rfl, _, d, rfl, .dat (dp_kp .nil k3.k hv), ?_, ?_, fun v' H' s' hv' _ => ?_⟩
                · rw [deep_seq hd]
                  have := deep_rows rows
                  omega
                · rw [siz_seq hd, siz_rows]
                  omega
                · have k4 := k3.trans (.same s')
                  have ea4 := ins_kp k4.k (by simp) ea
                  refine ⟨_, rfl, a, _, dx, _, rfl, ea4, T.c_Log, T.n_Log_numbers, by simp, ?_⟩
                  have hf : fixD d = logD rows := by
                    rw [fixD_seq hd, fix_rows]
                    rfl
                  rw [hf] at hv'
                  refine hy lk v' _ (k4.of0.mut (by simp) ea4 soft_ins) (by rw [upd_same]; rfl) ?_
                  cases hv' with
                  | dat h0 => exact dp_kp (.one ea4) (Kp.refl.mut (by simp)) h0
                  | dic h0 e0 => cases e0)
def REq (K : PySem.W.Frag) : Addr → Addr → Hp → Prop := fun a b H => ∃ dx dy va vb d, H a = some (.ins (He.ga K "Log") dx [("numbers", va)]) ∧ H b = some (.ins (He.ga K "Log") dy [("numbers", vb)]) ∧ Dp K H va d ∧ Dp K H vb d ∧ SeqAt.shaped d = true
theorem cal_Log_eq (B : BX P K mg base) : ∃ fd, FnOk P w K mg base (L2.CX P w) 1 (He.ma K (He.ga K "Log") "__eq__") fd p_Log_eq (spEq (REq K)) ∧ Binds K fd p_Log_eq [] := by
  have T := B.T
  obtain ⟨fd, F⟩ := T.f_Log_eq
  refine ⟨fd, F.ok sc_Log_eq (fun vs H Q E h => ?_) (fun cdv A outer s H vs Q E hr h => ?_), (F.bindsN (ps := p_Log_eq) fun _ _ _ _ _ _ us hl => match us, hl with | [_, _], _ => rfl)⟩
  · obtain ⟨a, b, rfl, _⟩ := h
    rfl
  · obtain ⟨a, b, rfl, ⟨dx, dy, va, vb, d, ea, eb, da, db, sh⟩, q⟩ := h
    refine ⟨_, (pss_one (ps_ret (pe_and (pe_callB (C8.call_isC T.i_Log) (by rfl) T.b_isinstance (by decide +kernel) (pa_cons (pv 1) (pa_cons (pe_glob (v := .ref (He.ga K "Log")) rfl T.g_Log rfl) pa_nil))) (pe_one (pe_cmpR (op_eqD hr.units) (pe_fld (pv 0) rfl) (pe_fld (pv 1) rfl) (nomark _)))))), ?_⟩
    refine ⟨_, rfl, b, dy, _, rfl, eb, _, rfl, it1 ?_⟩
    refine ⟨_, rfl, a, _, dx, _, _, rfl, ea, T.c_Log, T.n_Log_numbers, rfl, _, rfl, b, _, dy, _, _, rfl, eb, T.c_Log, T.n_Log_numbers, rfl, d, d, da, db, sh, sh, ?_⟩
    rw [SeqAt.eqv_refl d (SeqAt.canLay_of_shaped sh)]
    exact q H Ext.rfl'
end
end K75

namespace K75
open PySem PySem.Spec PyProof.Rows L2 XB LamX
section
variable {P : Program} {w : World} {K : PySem.W.Frag} {mg : Str → Option Value} {base : Heap}
/-! ### a log as text, a text as a log -/
structure LogV (K : PySem.W.Frag) (H : Hp) (v : V) (rows : List (List Int)) : Prop where
  ex : ∃ a dx v', v = .ref a ∧ H a = some (.ins (He.ga K "Log") dx [("numbers", v')]) ∧ Dp K H v' (logD rows)
theorem LogV.kp {H H' : Hp} {v : V} {rows : List (List Int)} (h : LogV K H v rows) (k : Kp [] H H') : LogV K H' v rows := by
  obtain ⟨a, dx, v', e, e1, e2⟩ := h.ex
  exact ⟨a, dx, v', e, ins_kp k (by simp) e1, dp_kp .nil k e2⟩
structure LogB (rows : List (List Int)) : Prop where
  len : rows.length ≤ 1000
  row : ∀ r ∈ rows, r.length ≤ 1000
  small : ∀ r ∈ rows, ∀ i ∈ r, Small i
  text : RowsOk (rows.map figW)
theorem kitLog (T : TX K mg) (d : PyData) : PySem.W.kitOne K (.type (tyD d)) (.ref (He.ga K "Log")) = some false := by
  cases d
  · exact T.no_Log_NoneType
  · exact T.no_Log_bool
  · exact T.no_Log_int
  · exact T.no_Log_str
  · exact T.no_Log_list
  · exact T.no_Log_tuple
  · exact T.no_Log_dict
def sp_log_text (K : PySem.W.Frag) : Sp := fun vs H Q E => ∃ v, vs = [v] ∧ ((∃ rows, LogV K H v rows ∧ LogB rows ∧ ∀ H', Kt (TL K) [] H H' → Q (.str (textOf (rows.map figW))) H') ∨ (∃ d, Tk K H v d ∧ EPart K [] H E "BadLog" "log"))
theorem fok_log_text (B : BX P K mg base) : ∃ fd, FunD K "log_text" "log_text" (defArgs s_log_text) (defBody s_log_text) (defScope s_log_text) [] [] (He.ga K "log_text") fd ∧ FnOk P w K mg base (L2.CX P w) 3 (He.ga K "log_text") fd p_log_text (sp_log_text K) := by
  have T := B.T
  have o_BadLog := own_BadLog (w := w) (base := base) T B.hP
  have c_lines_of := (cal_lines_of (P := P) (w := w) (base := base) B).cal T.g_lines_of
  have c_figures := (cal_figures (P := P) (w := w) (base := base) B).cal T.g_figures
  obtain ⟨fd, F⟩ := T.f_log_text
  refine ⟨fd, F, F.ok sc_log_text (fun vs H Q E h => ?_) (fun cdv A outer s H vs Q E hr h => ?_)⟩
  · obtain ⟨v, rfl, _⟩ := h
    rfl
  · obtain ⟨v, rfl, h⟩ := h
    refine ⟨_, (pss_cons (ps_if (pt_not (pt_val (pe_callB (call_or call_isi (C8.call_isC T.i_Log)) (by rfl) T.b_isinstance (by decide +kernel) (pa_cons (pv 0) (pa_cons (pe_glob (v := .ref (He.ga K "Log")) rfl T.g_Log rfl) pa_nil)))))
 (pss_one (ps_rs (o_BadLog.mono (by first | decide | omega)) hr pX0 rfl tkX rfl (pa_cons pe_str pa_nil)))
 pss_nil)
 (pss_one (ps_ret (pe_c (c_lines_of.mono (by first | decide | omega)) hr pX rfl (pa_cons (pe_lc (own := [("row", 1)]) (g := gName 1) rfl sc_log_text.nd (pi_tup (pe_fld (pv 0) rfl)) (blkOk_by (own := [("row", 1)]) (N := n_log_text) (sc := defScope s_log_text) (by decide +kernel)) (fun _ _ _ _ _ => (pg_name (i := 1) sc_log_text.nd rfl (by first | exact Or.inl rfl | exact Or.inr rfl))) (fun _ _ _ _ _ => pts_nil) (fun _ _ _ _ _ => (pe_c (c_figures.mono (by first | decide | omega)) hr passL rfl (pa_cons (pv 1) pa_nil)))) pa_nil))))), ?_⟩
    rcases h with ⟨rows, hv, hb, q⟩ | ⟨d, hv, q⟩
    · obtain ⟨a, dx, v', rfl, ea, hd⟩ := hv.ex
      refine ⟨_, rfl, .inr ⟨a, dx, _, rfl, ea, _, rfl, it0 ?_⟩⟩
      cases hd with
      | @tup n xs _ hs hds =>
        have hlen : xs.length = rows.length := by rw [dps_len hds, List.length_map]
        have h1000 := hb.len
        refine ⟨_, rfl, a, _, dx, _, _, rfl, ea, T.c_Log, T.n_Log_numbers, rfl, n, rfl, ⟨xs, hs⟩, fun D hD => lc_it (walk_tup (K := K) (a := n) (xs := xs)) (RowsP (TL K) [] H D fun i => (((rows.map figW).getD i []).map V.str)) (rows_0 hD) (fun i H1 _ p1 => sqT_kp .nil p1.k.k hs) ?_ ?_⟩
        · rintro i x H1 H2 hi p1 ⟨rfl, hx⟩
          have hi2 : i < rows.length := by omega
          obtain ⟨d', e1, e2⟩ := dps_at hds hx
          rw [List.getElem?_map, List.getElem?_eq_getElem hi2] at e1
          cases e1
          have hm : rows[i] ∈ rows := List.getElem_mem hi2
          refine ⟨rfl, yes_if ⟨_, rfl, x, rows[i], rfl, dp_kp .nil p1.k.k e2, hb.row _ hm, hb.small _ hm, fun l H3 hl k3 hl3 => ?_⟩⟩
          refine rows_step p1 k3 .nil hD (line5 (by omega)) hl ?_
          rw [hl3]
          have er : (rows.map figW).getD i [] = figW rows[i] := by
            rw [List.getD_eq_getElem?_getD, List.getElem?_map, List.getElem?_eq_getElem hi2] <;> rfl
          rw [er]
        · intro H1 p1
          exact ⟨.ref D, rows.map figW, rfl, rows_dp p1 (by rw [hlen, List.length_map]), hb.text, fun H2 k2 => q H2 (p1.k.trans k2)⟩
    · refine ⟨_, rfl, .inl ⟨v, _, _, _, _, rfl, .own _, hv.ty, kitLog T d, _, rfl, it1 ?_⟩⟩
      exact ⟨rfl, by decide, fun d H' hd sm hx => q d H' (.same sm) hx⟩
theorem cal_log_text (B : BX P K mg base) : CalA P w K mg base 3 (He.ga K "log_text") (sp_log_text K) := by
  obtain ⟨fd, F, G⟩ := fok_log_text (w := w) B
  exact ⟨fd, p_log_text, G, F.kp, (F.bindsN (ps := p_log_text) fun _ _ _ _ _ _ us hl => match us, hl with | [_], _ => rfl)⟩
/-- the reader's answers as data -/
def rdFd (r : List Str) : Sum Nat (PyData × Nat) := match rdF r with
  | .inl i => .inl i
  | .inr (ns, n) => .inr (intsD ns, n)
theorem rdFd_ok : RdOk K rdFd (sp_read_figures K) := by
  intro a c rows ln H Q E hw _ hb _ hn hy
  refine ⟨a, c, rows, ln, rfl, hw, hb, fun i hi => hn i ?_, fun ns n hi v H' k hw' hv => hy (intsD ns) n ?_ v H' k hw' hv⟩
  · unfold rdFd
    rw [hi]
  · unfold rdFd
    rw [hi]
theorem noLi_ints (r : List Int) : noLi (intsD r) = true := by
  unfold intsD
  rw [noLi]
  induction r with
  | nil => rfl
  | cons i r ih =>
    rw [List.map_cons, noLis, ih]
    rfl
theorem rdFd_nl (r : List Str) (d : PyData) (n : Nat) (h : rdFd r = .inr (d, n)) : noLi d = true := by
  unfold rdFd at h
  cases e : rdF r with
  | inl i =>
    rw [e] at h
    cases h
  | inr q =>
    rw [e] at h
    cases h
    exact noLi_ints q.1
theorem lineF_ints {r : List Str} {d : PyData} (h : lineM rdFd r = .inr d) : ∃ ns, d = intsD ns := by
  unfold lineM at h
  cases e : rdFd r with
  | inl i =>
    rw [e] at h
    cases h
  | inr q =>
    rw [e] at h
    have h2 : (if q.2 < r.length then Sum.inl q.2 else Sum.inr q.1) = (Sum.inr d : Sum Nat PyData) := h
    unfold rdFd at e
    cases e3 : rdF r with
    | inl i =>
      rw [e3] at e
      cases e
    | inr p =>
      rw [e3] at e
      cases e
      split at h2
      · cases h2
      · cases h2
        exact ⟨p.1, rfl⟩
theorem readF_ints : ∀ (rows : List (List Str)) (ln : Nat) (ds : List PyData), readM rdFd ln rows = .inr ds → ∃ nss : List (List Int), ds = nss.map intsD
  | [], ln, ds, h => by
    cases h
    exact ⟨[], rfl⟩
  | r :: rs, ln, ds, h => by
    have h2 : (match lineM rdFd r with
      | .inl i => Sum.inl (ln, i)
      | .inr d => match readM rdFd (ln + 1) rs with
        | .inl e => .inl e
        | .inr ds => .inr (d :: ds)) = (Sum.inr ds : Sum (Nat × Nat) (List PyData)) := h
    cases e : lineM rdFd r with
    | inl i =>
      rw [e] at h2
      cases h2
    | inr d =>
      rw [e] at h2
      obtain ⟨ns, rfl⟩ := lineF_ints e
      cases e2 : readM rdFd (ln + 1) rs with
      | inl z =>
        rw [e2] at h2
        cases h2
      | inr ds2 =>
        rw [e2] at h2
        cases h2
        obtain ⟨nss, rfl⟩ := readF_ints rs (ln + 1) ds2 e2
        exact ⟨ns :: nss, rfl⟩
def sp_read_log (K : PySem.W.Frag) : Sp := fun vs H Q E => ∃ v d, vs = [v] ∧ Tk K H v d ∧ Tabs (TL K) H ∧
  ((∃ z, d = .str z ∧ z.length ≤ 16777213 ∧ (∀ ln i, readM rdFd 0 (rowsOf z) = .inl (ln, i) → EText K [] H E ln i) ∧
    (∀ rows, readM rdFd 0 (rowsOf z) = .inr (rows.map intsD) → (logOk rows = true → ∀ v' H', Kt (TL K) [] H H' → LogV K H' v' rows → Q v' H') ∧ (logOk rows = false → EPart K [] H E "BadLog" "numbers"))) ∨ (isStr d = false ∧ EText K [] H E 0 0))
theorem rdB_of {z : Str} (h : z.length ≤ 16777213) : RdB (rowsOf z) := ⟨fun r hr w hw => by have := rowsOf_word hr hw; omega, fun r hr => by have := rowsOf_rlen hr; omega⟩
theorem fok_read_log (B : BX P K mg base) : ∃ fd, FunD K "read_log" "read_log" (defArgs s_read_log) (defBody s_read_log) (defScope s_read_log) [] [] (He.ga K "read_log") fd ∧ FnOk P w K mg base (L2.CX P w) 16 (He.ga K "read_log") fd p_read_log (sp_read_log K) := by
  have T := B.T
  have c_read_lines := (cal_read_lines (w := w) B ((cal_read_figures (w := w) B).v B.kin) rdFd_ok rdFd_nl).cal T.g_read_lines
  have c_Words_init := cal_Words_init (w := w) B
  have c_Log_init := cal_Log_init (w := w) B
  obtain ⟨fd, F⟩ := T.f_read_log
  refine ⟨fd, F, F.ok sc_read_log (fun vs H Q E h => ?_) (fun cdv A outer s H vs Q E hr h => ?_)⟩
  · obtain ⟨v, d, rfl, _⟩ := h
    rfl
  · obtain ⟨v, d, rfl, hv, hT, h⟩ := h
    refine ⟨_, (pss_one (ps_ret (pe_mk (c_Log_init.mono (by first | decide | omega)) hr pX rfl (pa_cons (pe_c (c_read_lines.mono (by first | decide | omega)) hr pX rfl (pa_cons (pe_mk (c_Words_init.mono (by first | decide | omega)) hr pX rfl (pa_cons (pv 0) pa_nil)) (pa_cons (pe_glob (v := .ref (He.ga K "read_figures")) rfl T.g_read_figures rfl) pa_nil))) pa_nil)))), ?_⟩
    refine ⟨_, rfl, fun x dx hx hdx nxd => ?_⟩
    have n1 : (upd H dx (.own x)) x = none := by rw [upd_ne (Ne.symm nxd)]; exact hx
    have k0 : Kt (TL K) [] H (upd (upd H dx (.own x)) x (.ins (He.ga K "Words") dx [])) := (Kt.refl.new hdx).new n1
    have kx : ∀ {H' : Hp}, Kt (TL K) [x] (upd (upd H dx (.own x)) x (.ins (He.ga K "Words") dx [])) H' → Kt (TL K) [] H H' := fun k => (k0.of0.trans k).drop hx
    have tv : Tk K (upd (upd H dx (.own x)) x (.ins (He.ga K "Words") dx [])) v d := hv.same fun b o e => by
      rw [upd_ne (ne_of_none e hx), upd_ne (ne_of_none e hdx)]
      exact e
    refine ⟨x, v, d, dx, rfl, tv, upd_same, ?_⟩
    rcases h with ⟨z, rfl, hz, hn, hy⟩ | ⟨hd, q⟩
    · refine .inl ⟨z, rfl, by omega, fun c H1 k1 hw1 => ⟨rfl, ?_⟩⟩
      have k01 := kx k1
      have hrl := rowsOf_len (z := z)
      refine ⟨x, c, rowsOf z, rfl, hw1, k01.t hT, rdB_of hz, by omega, fun ln i hi => fun dd H2 k2 hx2 => hn ln i hi dd H2 ((k01.of0.trans k2).drop hx) hx2, fun ds hds D acc H2 hD k2 hD2 hacc => ?_⟩
      have k02 := (k01.of0.trans k2).drop hx
      obtain ⟨rows, rfl⟩ := readF_ints _ _ _ hds
      obtain ⟨q1, q2⟩ := hy rows hds
      refine fun y dy hy0 hdy nyd => ?_
      have n2 : (upd H2 dy (.own y)) y = none := by rw [upd_ne (Ne.symm nyd)]; exact hy0
      have k3 : Kt (TL K) [] H2 (upd (upd H2 dy (.own y)) y (.ins (He.ga K "Log") dy [])) := (Kt.refl.new hdy).new n2
      have hv3 : Dp K (upd (upd H2 dy (.own y)) y (.ins (He.ga K "Log") dy [])) (.ref D) (.list (rows.map intsD)) := dp_kp .nil k3.k (.lst (.of hD2) hacc)
      have k23 : ∀ {H' : Hp}, Kt (TL K) [y] (upd (upd H2 dy (.own y)) y (.ins (He.ga K "Log") dy [])) H' → Kt (TL K) [] H H' := fun k => k02.trans ((k3.of0.trans k).drop hy0)
      exact ⟨y, dy, .ref D, _, rows, rfl, upd_same, hv3, .inl rfl, fun hl v' H4 k4 e4 d4 => ⟨rfl, q1 hl _ H4 (k23 k4) ⟨y, dy, v', rfl, e4, d4⟩⟩, fun hl dd H4 k4 hx4 => q2 hl dd H4 (k23 k4) hx4⟩
    · exact .inr ⟨hd, fun dd H' k hx' => q dd H' (k0.trans k) hx'⟩
theorem cal_read_log (B : BX P K mg base) : CalA P w K mg base 16 (He.ga K "read_log") (sp_read_log K) := by
  obtain ⟨fd, F, G⟩ := fok_read_log (w := w) B
  exact ⟨fd, p_read_log, G, F.kp, (F.bindsN (ps := p_read_log) fun _ _ _ _ _ _ us hl => match us, hl with | [_], _ => rfl)⟩
end
end K75

namespace K75
open PySem PySem.Spec PyProof.Rows L2 XB LamX
section
variable {P : Program} {w : World} {K : PySem.W.Frag} {mg : Str → Option Value} {base : Heap}
/-! ### steps -/
def bigM : Int := 9999999999999999999999999999999999999999
def stepB : PyData → Bool
  | .tuple (.str x :: r) => (decide (x = "do") || decide (x = "come")) && (decide (3 ≤ ((r.length : Int) + 1)) && (decide ((r.length : Int) + 1 = if x = "do" then 3 else 4) && r.all fun d => inB d 0 bigM))
  | _ => false
theorem inV_two (x a b : Str) : inV (.str x) [.str a, .str b] = (decide (x = a) || decide (x = b)) := by
  show ((a == x) || ((b == x) || false)) = _
  rw [Bool.or_false]
  congr 1
  · by_cases h : x = a
    · rw [h, decide_eq_true rfl, beq_self_eq_true]
    · rw [decide_eq_false h]
      exact beq_eq_false_iff_ne.mpr fun z => h z.symm
  · by_cases h : x = b
    · rw [h, decide_eq_true rfl, beq_self_eq_true]
    · rw [decide_eq_false h]
      exact beq_eq_false_iff_ne.mpr fun z => h z.symm
theorem vint_eq (a b : Int) : decide (V.int a = V.int b) = decide (a = b) := by
  by_cases h : a = b
  · rw [h, decide_eq_true rfl, decide_eq_true rfl]
  · rw [decide_eq_false h, decide_eq_false fun z => h (V.int.inj z)]
theorem cut1 (v : V) (vr : List V) : cutV (v :: vr) (some 1) none = vr := by
  simp [cutV, HT.sIx]
def sp_is_step_row (K : PySem.W.Frag) : Sp := fun vs H Q _ => ∃ v d, vs = [v] ∧ Dp K H v d ∧ sizD d ≤ 100000 ∧ ∀ H', Kt (TL K) [] H H' → Q (.bl (stepB d)) H'
theorem cal_is_step_row (B : BX P K mg base) : CalA P w K mg base 3 (He.ga K "is_step_row") (sp_is_step_row K) := by
  have T := B.T
  have c_is_within := (cal_is_within (P := P) (w := w) (base := base) T).cal T.g_is_within
  obtain ⟨fd, F⟩ := T.f_is_step_row
  refine ⟨fd, p_is_step_row, F.ok sc_is_step_row (fun vs H Q E h => ?_) (fun cdv A outer s H vs Q E hr h => ?_), F.kp, (F.bindsN (ps := p_is_step_row) fun _ _ _ _ _ _ us hl => match us, hl with | [_], _ => rfl)⟩
  · obtain ⟨v, d, rfl, _⟩ := h
    rfl
  · obtain ⟨v, d, rfl, hv, hz, q⟩ := h
    refine ⟨_, (pss_cons (ps_if (PW.pt (pw_or (pt_not (pt_val (pe_callB call_isi (by rfl) T.b_isinstance (by decide +kernel) (pa_cons (pv 0) (pa_cons (pe_bltn (v := .ty "tuple") (by rfl) T.b_tuple (by decide +kernel) rfl) pa_nil))))) (pw_or (pt_cmpR op_lt (pe_callB call_len_seq (by rfl) T.b_len (by decide +kernel) (pa_cons (pv 0) pa_nil)) pe_int (nomark _)) (pw_or (pt_not (pt_val (pe_callB call_isi (by rfl) T.b_isinstance (by decide +kernel) (pa_cons (pe_ix ix_tup (pv 0) pe_int (fun _ _ => rfl)) (pa_cons (pe_bltn (v := .ty "str") (by rfl) T.b_str (by decide +kernel) rfl) pa_nil))))) (pw_or1 (pt_cmpR op_notIn_seq (pe_ix ix_tup (pv 0) pe_int (fun _ _ => rfl)) (pe_tup (pa_cons (C8.pe_gc rfl T.g_DO) (pa_cons (C8.pe_gc rfl T.g_COME) pa_nil))) (by rfl)))))))
 (pss_one (ps_ret pe_bl))
 pss_nil)
 (pss_one (ps_ret (pe_and (pe_cmpR op_eq (pe_callB call_len_seq (by rfl) T.b_len (by decide +kernel) (pa_cons (pv 0) pa_nil)) (pe_ifExp (pt_cmpR op_eq (pe_ix ix_tup (pv 0) pe_int (fun _ _ => rfl)) (C8.pe_gc rfl T.g_DO) (nomark _)) pe_int pe_int) (nomark _)) (pe_one (pe_callB (cr_all rfl) (by rfl) T.b_all (by decide +kernel) (pa_cons (pe_lc (own := [("one", 1)]) (g := gName 1) rfl sc_is_step_row.nd (pi_tup (pe_slice sl_tup (pv 0) (po_some pe_int) po_none)) (blkOk_by (own := [("one", 1)]) (N := n_is_step_row) (sc := defScope s_is_step_row) (by decide +kernel)) (fun _ _ _ _ _ => (pg_name (i := 1) sc_is_step_row.nd rfl (by first | exact Or.inl rfl | exact Or.inr rfl))) (fun _ _ _ _ _ => pts_nil) (fun _ _ _ _ _ => (pe_c (c_is_within.mono (by first | decide | omega)) hr passL rfl (pa_cons (pv 1) (pa_cons pe_int (pa_cons (C8.pe_gc rfl T.g_MOST_TOLD) pa_nil)))))) pa_nil))))))), ?_⟩
    refine ⟨_, rfl, v, _, _, _, _, rfl, .ty _, tyx_of hv, kit_ty (kit_tup d), _, rfl, ?_⟩
    have no : ∀ H1, Kt (TL K) [] H H1 → stepB d = false → Q (.bl false) H1 := fun H1 k e => by
      have q1 := q H1 k
      rw [e] at q1
      exact q1
    cases ht : isTup d with
    | false =>
      refine it1 (it1 (no H .refl ?_))
      cases d <;> first | rfl | cases ht
    | true =>
      refine it0 ?_
      cases hv with
      | non => cases ht
      | bl b => cases ht
      | int i => cases ht
      | str x => cases ht
      | lst h r => cases ht
      | @tup a xs ds hs hds =>
        have hl := dps_len hds
        refine ⟨_, rfl, a, xs, rfl, .inr hs, _, _, rfl, rfl, _, rfl, ite2 (fun e => ?_) (fun e => ?_)⟩
        · refine it1 (no H .refl ?_)
          have e2 : (xs.length : Int) < 3 := by simpa using e
          cases ds with
          | nil => rfl
          | cons d0 r =>
            cases d0 with
            | str x =>
              show ((decide (x = "do") || decide (x = "come")) && (decide (3 ≤ ((r.length : Int) + 1)) && _)) = false
              rw [List.length_cons] at hl
              rw [decide_eq_false (show ¬ 3 ≤ ((r.length : Int) + 1) from by omega), Bool.false_and, Bool.and_false]
            | _ => rfl
        · have e2 : ¬ (xs.length : Int) < 3 := by simpa using e
          cases hds with
          | nil => exact absurd (by simp : (([] : List V).length : Int) < 3) e2
          | @cons v0 vr d0 dr h0 hr0 =>
            have at0' : atI (v0 :: vr) 0 = some v0 := at0 (l := v0 :: vr) (by simp)
            refine ⟨_, rfl, a, _, _, v0, rfl, rfl, hs, at0', v0, _, _, _, _, rfl, .ty _, tyx_of h0, kit_ty (kit_str d0), _, rfl, ?_⟩
            cases hs0 : isStr d0 with
            | false =>
              refine it1 (it1 (no H .refl ?_))
              cases d0 <;> first | rfl | cases hs0
            | true =>
              refine it0 ?_
              cases h0 with
              | non => cases hs0
              | bl b => cases hs0
              | int i => cases hs0
              | lst h r => cases hs0
              | tup h r => cases hs0
              | str x =>
                refine ⟨_, rfl, a, _, _, _, rfl, rfl, hs, at0', (by decide +kernel), fun p hp => ?_⟩
                have k1 : Kt (TL K) [] H (upd H p (.tup [.str "do", .str "come"])) := Kt.refl.new hp
                refine ⟨p, _, rfl, .inr (.of upd_same), rfl, by rfl, _, rfl, ?_⟩
                rw [if_pos rfl, inV_two]
                have hs1 := sqT_kp .nil k1.k hs
                cases hx : (decide (x = "do") || decide (x = "come")) with
                | false =>
                  refine it1 (no _ k1 ?_)
                  show ((decide (x = "do") || decide (x = "come")) && _) = false
                  rw [hx, Bool.false_and]
                | true =>
                  refine it0 ?_
                  have e5 : stepB (.tuple (.str x :: dr)) = (decide ((dr.length : Int) + 1 = if x = "do" then 3 else 4) && dr.all fun d => inB d 0 bigM) := by
                    show ((decide (x = "do") || decide (x = "come")) && (decide (3 ≤ ((dr.length : Int) + 1)) && _)) = _
                    rw [hx, Bool.true_and, decide_eq_true (show 3 ≤ ((dr.length : Int) + 1) from by
                      have e6 : ((V.str x :: vr).length : Int) = (dr.length : Int) + 1 := by
                        rw [hl, List.length_cons]
                        rfl
                      omega), Bool.true_and]
                  have hlr : vr.length = dr.length := by
                    rw [List.length_cons, List.length_cons] at hl
                    omega
                  have hall : ∀ (H1 : Hp) (c : Bool), Kt (TL K) [] H H1 → (c = true → ∀ H2, Kt (TL K) [] H1 H2 → Q (.bl (dr.all fun d => inB d 0 bigM)) H2) → (c = false → Q (.bl false) H1) → True := fun _ _ _ _ _ => trivial
                  have hsz : sizDs dr ≤ 100000 := by
                    have e7 : sizD (PyData.tuple (.str x :: dr)) = sizDs (.str x :: dr) + 1 := rfl
                    have e8 : sizDs (.str x :: dr) = sizD (.str x) + sizDs dr := rfl
                    omega
                  have hln := siz_len dr
                  have e10 : (V.str x :: vr).length = dr.length + 1 := by rw [List.length_cons, hlr]
                  have fin : ∀ H1 (n : Int), Kt (TL K) [] H H1 → SqT K H1 a (.str x :: vr) → (n = if x = "do" then 3 else 4) →
                      (decide ((((V.str x :: vr).length : Nat) : Int) = n) = true → ∀ H2, Kt (TL K) [] H H2 → Q (.bl (dr.all fun d => inB d 0 bigM)) H2) ∧ (decide ((((V.str x :: vr).length : Nat) : Int) = n) = false → Q (.bl false) H1) := by
                    intro H1 n k hs' hn'
                    have e11 : decide ((((V.str x :: vr).length : Nat) : Int) = n) = decide ((dr.length : Int) + 1 = if x = "do" then 3 else 4) := by
                      rw [hn', e10]
                      rfl
                    rw [e11]
                    refine ⟨fun ec H2 k2 => ?_, fun ec => ?_⟩
                    · have q1 := q H2 k2
                      rw [e5, ec, Bool.true_and] at q1
                      exact q1
                    · have q1 := q H1 k
                      rw [e5, ec, Bool.false_and] at q1
                      exact q1
                  refine ⟨_, rfl, a, _, rfl, .inr hs1, _, rfl, a, _, _, _, rfl, rfl, hs1, at0', rfl, _, rfl, ite2 (fun ed => ?_) (fun ed => ?_)⟩
                  all_goals (
                    first
                      | (have hf := fin _ 3 k1 hs1 (by rw [if_pos (by simpa using ed)]))
                      | (have hf := fin _ 4 k1 hs1 (by rw [if_neg (by simpa using ed)]))
                    obtain ⟨hf1, hf2⟩ := hf
                    refine ⟨rfl, _, rfl, ?_⟩
                    rw [vint_eq]
                    cases hc : decide ((((V.str x :: vr).length : Nat) : Int) = _) with
                    | false => exact it0 (hf2 hc)
                    | true =>
                      refine it1 ⟨_, rfl, _, rfl, a, _, rfl, hs1, by simp [HT.sIx], fun p2 hp2 => ⟨p2, rfl, ⟨_, .of upd_same⟩, fun D hD => ?_⟩⟩
                      rw [cut1] at hD ⊢
                      have k2 := k1.new (o := .tup vr) hp2
                      have e3 : (upd (upd H p (.tup [.str "do", .str "come"])) p2 (.tup vr)) p2 = some (.tup vr) := upd_same
                      generalize upd (upd H p (.tup [.str "do", .str "come"])) p2 (.tup vr) = H3 at hD k2 e3 ⊢
                      refine lc_it (walk_tup (K := K) (a := p2) (xs := vr)) (FlatP (TL K) [] H3 D fun i => V.bl (inB (dr.getD i .none) 0 bigM)) (flat_0 hD) (fun i H1 _ p1 => sqT_kp .nil p1.k.k (.of e3)) ?_ ?_
                      · rintro i y H1 H2 hi p1 ⟨rfl, hy⟩
                        obtain ⟨dy, f1, f2⟩ := dps_at hr0 hy
                        refine ⟨rfl, yes_if ⟨_, rfl, y, dy, 0, _, rfl, .dat (dp_kp .nil (k2.trans p1.k).k f2), ?_⟩⟩
                        refine flat_step p1 .refl .nil hD (line5 (by omega)) ?_
                        rw [List.getD_eq_getElem?_getD, f1]
                        rfl
                      · intro H1 p1
                        refine ⟨D, (List.range vr.length).map fun i => inB (dr.getD i .none) 0 bigM, rfl, ?_, ?_⟩
                        · rw [List.map_map]
                          exact .of p1.d
                        · have q2 := hf1 hc H1 (k2.trans p1.k)
                          rw [hlr, map_range_getD dr .none (fun d => inB d 0 bigM), List.all_map]
                          exact q2)
def sp_step_words (K : PySem.W.Frag) : Sp := fun vs H Q _ => ∃ v x r, vs = [v] ∧ Dp K H v (.tuple (.str x :: r.map PyData.int)) ∧ r ≠ [] ∧ r.length ≤ 1000 ∧ (∀ i ∈ r, Small i) ∧ ∀ l H', H l = none → Kt (TL K) [] H H' → H' l = some (.lst ((x :: r.map strI).map V.str)) → Q (.ref l) H'
theorem cal_step_words (B : BX P K mg base) : CalA P w K mg base 1 (He.ga K "step_words") (sp_step_words K) := by
  have T := B.T
  obtain ⟨fd, F⟩ := T.f_step_words
  refine ⟨fd, p_step_words, F.ok sc_step_words (fun vs H Q E h => ?_) (fun cdv A outer s H vs Q E hr h => ?_), F.kp, (F.bindsN (ps := p_step_words) fun _ _ _ _ _ _ us hl => match us, hl with | [_], _ => rfl)⟩
  · obtain ⟨v, x, r, rfl, _⟩ := h
    rfl
  · obtain ⟨v, x, r, rfl, hv, hr0, hr1, hr2, q⟩ := h
    refine ⟨_, (pss_one (ps_ret (pe_lst (pa_cons (pe_ix ix_tup (pv 0) pe_int (fun _ _ => rfl)) (StX.pa_star (pe_lc (own := [("part", 1)]) (g := gName 1) rfl sc_step_words.nd (pi_tup (pe_slice sl_tup (pv 0) (po_some pe_int) po_none)) (blkOk_by (own := [("part", 1)]) (N := n_step_words) (sc := defScope s_step_words) (by decide +kernel)) (fun _ _ _ _ _ => (pg_name (i := 1) sc_step_words.nd rfl (by first | exact Or.inl rfl | exact Or.inr rfl))) (fun _ _ _ _ _ => pts_nil) (fun _ _ _ _ _ => (pe_callTy call_str_int (by rfl) T.b_str (by decide +kernel) (pa_cons (pv 1) pa_nil)))) pa_nil))))), ?_⟩
    cases hv with
    | @tup a xs _ hs hds =>
      cases hds with
      | @cons v0 vr _ _ h0 hr0 =>
        cases h0
        have ev := dps_int hr0
        subst ev
        refine ⟨_, rfl, a, _, _, _, rfl, rfl, hs, at0 (l := V.str x :: r.map V.int) (by simp), ?_⟩
        refine ⟨_, rfl, _, rfl, a, _, rfl, hs, ?_, fun p2 hp2 => ⟨p2, rfl, ⟨_, .of upd_same⟩, fun D hD => ?_⟩⟩
        · simp [HT.sIx]
        · rw [cut1] at hD ⊢
          have k2 : Kt (TL K) [] H (upd H p2 (.tup (r.map V.int))) := Kt.refl.new hp2
          have e3 : (upd H p2 (.tup (r.map V.int))) p2 = some (.tup (r.map V.int)) := upd_same
          generalize upd H p2 (.tup (r.map V.int)) = H3 at hD k2 e3 ⊢
          refine lc_it (walk_tup (K := K) (a := p2) (xs := r.map V.int)) (FlatP (TL K) [] H3 D fun i => V.str (strI (r.getD i 0))) (flat_0 hD) (fun i H1 _ p1 => sqT_kp .nil p1.k.k (.of e3)) ?_ ?_
          · rintro i y H1 H2 hi p1 ⟨rfl, hy⟩
            rw [List.length_map] at hi
            rw [List.getElem?_map, List.getElem?_eq_getElem hi] at hy
            obtain rfl : V.int r[i] = y := Option.some.inj hy
            refine ⟨rfl, yes_if ⟨_, rfl, _, rfl, hr2 _ (List.getElem_mem hi), flat_step p1 .refl .nil hD (line5 (by omega)) ?_⟩⟩
            rw [List.getD_eq_getElem?_getD, List.getElem?_eq_getElem hi] <;> rfl
          · intro H1 p1
            have e4 : (List.range (r.map V.int).length).map (fun i => V.str (strI (r.getD i 0))) = (r.map strI).map V.str := by
              rw [List.length_map, map_range_getD r 0 (fun i => V.str (strI i)), List.map_map]
              rfl
            have d1 := p1.d
            rw [e4] at d1
            refine ⟨D, _, rfl, .inr (.of d1), ?_⟩
            refine ⟨?_, fun l hl => ?_⟩
            · rw [List.length_cons, List.length_append, List.length_map, List.length_map, sizeLine_eq]
              simp
              omega
            · have k3 := k2.trans p1.k
              refine q l _ (k3.g l hl) (k3.new hl) ?_
              rw [upd_same, List.append_nil]
              rfl
/-- steps of texts and whole numbers -/
abbrev Stp := Str × List Int
def stpD (s : Stp) : PyData := .tuple (.str s.1 :: s.2.map PyData.int)
def stpW (s : Stp) : List Str := s.1 :: s.2.map strI
/-- the text of steps -/
def stepsText (ss : List Stp) : Str := if ss = [] then "-" else textOf (ss.map stpW)
structure StpB (ss : List Stp) : Prop where
  len : ss.length ≤ 1000
  row : ∀ s ∈ ss, s.2 ≠ [] ∧ s.2.length ≤ 1000 ∧ ∀ i ∈ s.2, Small i
  text : RowsOk (ss.map stpW)
def goodS (d : PyData) : Bool := match d with
  | .tuple ds => ds.all stepB
  | _ => false
mutual
theorem siz_fix : ∀ d : PyData, sizD (fixD d) = sizD d
  | .list ds => by
    rw [fixD, sizD, sizD, siz_fixs ds]
  | .tuple ds => by
    rw [fixD, sizD, sizD, siz_fixs ds]
  | .none => rfl
  | .bool _ => rfl
  | .int _ => rfl
  | .str _ => rfl
  | .dict _ => rfl
theorem siz_fixs : ∀ ds : List PyData, sizDs (fixDs ds) = sizDs ds
  | [] => rfl
  | d :: ds => by rw [fixDs, sizDs, sizDs, siz_fix d, siz_fixs ds]
end
theorem asc_do : Asc "do" := .of (by decide +kernel)
theorem asc_come : Asc "come" := .of (by decide +kernel)
theorem shp_stp {s : Stp} (h : stepB (stpD s) = true) : Shp 1 (stpD s) := by
  have h1 : (decide (s.1 = "do") || decide (s.1 = "come")) = true := by
    have h2 : ((decide (s.1 = "do") || decide (s.1 = "come")) && _) = true := h
    exact (Bool.and_eq_true_iff.mp h2).1
  have h3 : Asc s.1 := by
    rcases Bool.or_eq_true_iff.mp h1 with z | z
    · rw [of_decide_eq_true z]
      exact asc_do
    · rw [of_decide_eq_true z]
      exact asc_come
  refine .tup fun d hd => ?_
  rcases List.mem_cons.mp hd with z | z
  · rw [z]
    exact .str h3.lay
  · obtain ⟨i, _, rfl⟩ := List.mem_map.mp z
    exact .int
theorem shp_steps {ss : List Stp} (h : (ss.map stpD).all stepB = true) : Shp 2 (.tuple (ss.map stpD)) := by
  refine .tup fun d hd => ?_
  obtain ⟨s, hs, rfl⟩ := List.mem_map.mp hd
  exact shp_stp (List.all_eq_true.mp h _ hd)
def sp_steps_text (K : PySem.W.Frag) : Sp := fun vs H Q E => ∃ v d, vs = [v] ∧ Tk K H v d ∧ deepD d ≤ 3 ∧ sizD d ≤ 90000 ∧
  ((∃ ss, fixD d = .tuple (ss.map stpD) ∧ (ss.map stpD).all stepB = true ∧ StpB ss ∧ ∀ H', Kt (TL K) [] H H' → Q (.str (stepsText ss)) H') ∨ (goodS (fixD d) = false ∧ EPart K [] H E "BadValue" "steps"))
theorem fok_steps_text (B : BX P K mg base) : ∃ fd, FunD K "steps_text" "steps_text" (defArgs s_steps_text) (defBody s_steps_text) (defScope s_steps_text) [] [] (He.ga K "steps_text") fd ∧ FnOk P w K mg base (L2.CX P w) 6 (He.ga K "steps_text") fd p_steps_text (sp_steps_text K) := by
  have T := B.T
  have o_BadValue := own_BadValue (w := w) (base := base) T B.hP
  have c_fixed := (cal_fixed (P := P) (w := w) (base := base) T 3).cal T.g_fixed
  have c_is_step_row := (cal_is_step_row (P := P) (w := w) (base := base) B).cal T.g_is_step_row
  have c_lines_of := (cal_lines_of (P := P) (w := w) (base := base) B).cal T.g_lines_of
  have c_step_words := (cal_step_words (P := P) (w := w) (base := base) B).cal T.g_step_words
  obtain ⟨fd, F⟩ := T.f_steps_text
  refine ⟨fd, F, F.ok sc_steps_text (fun vs H Q E h => ?_) (fun cdv A outer s H vs Q E hr h => ?_)⟩
  · obtain ⟨v, d, rfl, _⟩ := h
    rfl
  · obtain ⟨v, d, rfl, hv, hd, hz, h⟩ := h
    refine ⟨_, (pss_cons (ps_set (i := 1) sc_steps_text.nd rfl (by first | exact Or.inl rfl | exact Or.inr rfl) (pe_c (c_fixed.mono (by first | decide | omega)) hr pX rfl (pa_cons (pv 0) pa_nil)))
 (pss_cons (ps_if (PW.pt (pw_or (pt_not (pt_val (pe_callB call_isi (by rfl) T.b_isinstance (by decide +kernel) (pa_cons (pv 1) (pa_cons (pe_bltn (v := .ty "tuple") (by rfl) T.b_tuple (by decide +kernel) rfl) pa_nil))))) (pw_or1 (pt_not (pt_val (pe_callB (cr_all rfl) (by rfl) T.b_all (by decide +kernel) (pa_cons (pe_lc (own := [("step", 2)]) (g := gName 2) rfl sc_steps_text.nd (pi_tup (pv 1)) (blkOk_by (own := [("step", 2)]) (N := n_steps_text) (sc := defScope s_steps_text) (by decide +kernel)) (fun _ _ _ _ _ => (pg_name (i := 2) sc_steps_text.nd rfl (by first | exact Or.inl rfl | exact Or.inr rfl))) (fun _ _ _ _ _ => pts_nil) (fun _ _ _ _ _ => (pe_c (c_is_step_row.mono (by first | decide | omega)) hr passL rfl (pa_cons (pv 2) pa_nil)))) pa_nil)))))))
 (pss_one (ps_rs (o_BadValue.mono (by first | decide | omega)) hr pX0 rfl tkX rfl (pa_cons pe_str pa_nil)))
 pss_nil)
 (pss_one (ps_ret (pe_ifExp (pt_cmpR (op_neD hr.units) (pv 1) (pe_tup pa_nil) (nomark _)) (pe_c (c_lines_of.mono (by first | decide | omega)) hr pX rfl (pa_cons (pe_lc (own := [("step", 2)]) (g := gName 2) rfl sc_steps_text.nd (pi_tup (pv 1)) (blkOk_by (own := [("step", 2)]) (N := n_steps_text) (sc := defScope s_steps_text) (by decide +kernel)) (fun _ _ _ _ _ => (pg_name (i := 2) sc_steps_text.nd rfl (by first | exact Or.inl rfl | exact Or.inr rfl))) (fun _ _ _ _ _ => pts_nil) (fun _ _ _ _ _ => (pe_c (c_step_words.mono (by first | decide | omega)) hr passL rfl (pa_cons (pv 2) pa_nil)))) pa_nil)) (C8.pe_gc rfl T.g_NONE)))))), ?_⟩
    refine ⟨_, rfl, v, d, rfl, hv, hd, by omega, fun v' H1 s1 hv1 _ => ?_⟩
    have k1 : Kt (TL K) [] H H1 := .same s1
    refine ⟨_, rfl, v', _, _, _, _, rfl, .ty _, hv1.ty, kit_ty (kit_tup _), _, rfl, ?_⟩
    have bad : ∀ H2, goodS (fixD d) = false → Kt (TL K) [] H H2 → ∀ (dd : Addr) H', H2 dd = none → Same H2 H' → H' dd = some (.xd [("part", .str "steps")]) → E (.ref (He.ga K "BadValue")) (some dd) H' := by
      intro H2 hg k2 dd H' _ sm hx
      rcases h with ⟨ss, e1, e2, _⟩ | ⟨_, q⟩
      · rw [e1] at hg
        have hg2 : (ss.map stpD).all stepB = false := hg
        rw [e2] at hg2
        cases hg2
      · exact q dd H' (k2.trans (.same sm)) hx
    cases ht : isTup (fixD d) with
    | false =>
      refine it1 (it1 ⟨rfl, by decide, bad H1 ?_ k1⟩)
      cases hf : fixD d <;> rw [hf] at ht <;> first | rfl | cases ht
    | true =>
      refine it0 ?_
      have hzf : sizD (fixD d) ≤ 90000 := by rw [siz_fix]; exact hz
      cases hv1 with
      | dic _ e0 =>
        rw [e0] at ht
        cases ht
      | dat hv2 =>
        cases hf : fixD d with
        | tuple ds =>
          rw [hf] at hv2 hzf
          cases hv2 with
          | @tup a xs _ hs hds =>
            have hln := dps_len hds
            have hsz := siz_len ds
            have hz2 : sizD (PyData.tuple ds) = sizDs ds + 1 := rfl
            refine ⟨_, rfl, a, rfl, ⟨xs, hs⟩, fun D hD => lc_it (walk_tup (K := K) (a := a) (xs := xs)) (FlatP (TL K) [] H1 D fun i => V.bl (stepB (ds.getD i .none))) (flat_0 hD) (fun i H2 _ p => sqT_kp .nil p.k.k hs) ?_ ?_⟩
            · rintro i x H2 H3 hi p ⟨rfl, hx⟩
              obtain ⟨d', f1, f2⟩ := dps_at hds hx
              have hdz := siz_at f1
              refine ⟨rfl, yes_if ⟨_, rfl, x, d', rfl, dp_kp .nil p.k.k f2, by omega, fun H4 k4 => flat_step p k4 .nil hD (line5 (by omega)) ?_⟩⟩
              rw [List.getD_eq_getElem?_getD, f1]
              rfl
            · intro H2 p
              refine ⟨D, (List.range xs.length).map fun i => stepB (ds.getD i .none), rfl, by rw [List.map_map]; exact .of p.d, _, rfl, ?_⟩
              rw [hln, map_range_getD ds .none stepB, List.all_map, show (id ∘ stepB) = stepB from rfl]
              have k2 := k1.trans p.k
              cases hg : ds.all stepB with
              | false =>
                refine it1 ⟨rfl, by decide, bad H2 ?_ k2⟩
                rw [hf]
                exact hg
              | true =>
                refine it0 ?_
                rcases h with ⟨ss, e1, e2, hb, q⟩ | ⟨hb, _⟩
                · rw [hf] at e1
                  have e3 : ds = ss.map stpD := PyData.tuple.inj e1
                  subst e3
                  have hs2 := sqT_kp .nil p.k.k hs
                  refine ⟨_, rfl, by simp, fun p2 hp2 => ?_⟩
                  have k3 := k2.new (o := .tup []) hp2
                  have hd3 : Dp K (upd H2 p2 (.tup [])) (.ref a) (.tuple (ss.map stpD)) := dp_kp .nil (p.k.new hp2).k (.tup hs hds)
                  refine ⟨_, _, hd3, .tup (.of upd_same) .nil, (shp_steps e2).ok (by decide), by decide, _, rfl, ?_⟩
                  have hs3 : SqT K (upd H2 p2 (.tup [])) a xs := sqT_kp .nil (p.k.new hp2).k hs
                  have hdt0 : DpAll K (upd H2 p2 (.tup [])) xs (ss.map stpD) := dps_kp .nil (p.k.new hp2).k hds
                  generalize upd H2 p2 (.tup []) = H5 at k3 hd3 hs3 hdt0 ⊢
                  cases ss with
                  | nil =>
                    refine it0 ?_
                    exact q _ k3
                  | cons s0 sr =>
                    refine it1 ?_
                    have hxl : xs.length = (s0 :: sr).length := by rw [hln, List.length_map]
                    have hdt : DpAll K H5 xs ((s0 :: sr).map stpD) := hdt0
                    refine ⟨_, rfl, a, rfl, ⟨xs, hs3⟩, fun D2 hD2 => lc_it (walk_tup (K := K) (a := a) (xs := xs)) (RowsP (TL K) [] H5 D2 fun i => ((((s0 :: sr).map stpW).getD i []).map V.str)) (rows_0 hD2) (fun i H6 _ p6 => sqT_kp .nil p6.k.k hs3) ?_ ?_⟩
                    · rintro i x H6 H7 hi p6 ⟨rfl, hx⟩
                      rw [hxl] at hi
                      obtain ⟨d', f1, f2⟩ := dps_at hdt hx
                      rw [List.getElem?_map, List.getElem?_eq_getElem hi] at f1
                      cases f1
                      have hm : (s0 :: sr)[i] ∈ (s0 :: sr) := List.getElem_mem hi
                      obtain ⟨b1, b2, b3⟩ := hb.row _ hm
                      have hlen := hb.len
                      refine ⟨rfl, yes_if ⟨_, rfl, x, _, _, rfl, dp_kp .nil p6.k.k f2, b1, b2, b3, fun l H8 hl k8 hl8 => ?_⟩⟩
                      refine rows_step p6 k8 .nil hD2 (line5 (by omega)) hl ?_
                      rw [hl8]
                      have er : ((s0 :: sr).map stpW).getD i [] = stpW (s0 :: sr)[i] := by
                        rw [List.getD_eq_getElem?_getD, List.getElem?_map, List.getElem?_eq_getElem hi] <;> rfl
                      rw [er]
                      rfl
                    · intro H6 p6
                      refine ⟨.ref D2, (s0 :: sr).map stpW, rfl, rows_dp p6 (by rw [hxl, List.length_map]), hb.text, fun H8 k8 => ?_⟩
                      exact q H8 (k3.trans (p6.k.trans k8))
                · rw [hf] at hb
                  have hb2 : ds.all stepB = false := hb
                  rw [hg] at hb2
                  cases hb2
        | _ => rw [hf] at ht; cases ht
theorem cal_steps_text (B : BX P K mg base) : CalA P w K mg base 6 (He.ga K "steps_text") (sp_steps_text K) := by
  obtain ⟨fd, F, G⟩ := fok_steps_text (w := w) B
  exact ⟨fd, p_steps_text, G, F.kp, (F.bindsN (ps := p_steps_text) fun _ _ _ _ _ _ us hl => match us, hl with | [_], _ => rfl)⟩
def numA (r : List Str) (i : Nat) : Int := numW (r.getD i "")
def rdS (r : List Str) : Sum Nat (Stp × Nat) := match (r[0]? : Option Str) with
  | none => .inl 0
  | some x => if (decide (x = "do") || decide (x = "come")) = true then
      (if figO r[1]? = false then .inl 1 else if figO r[2]? = false then .inl 2 else if x = "do" then .inr ((x, [numA r 1, numA r 2]), 3) else if figO r[3]? = false then .inl 3 else .inr ((x, [numA r 1, numA r 2, numA r 3]), 4))
    else .inl 0
def sp_step_read (K : PySem.W.Frag) : Sp := fun vs H Q E => ∃ (a : Addr) (c : Addr × Addr) (rows : List (List Str)) (ln : Nat), vs = [.ref a] ∧ Wd K H a c rows ln 0 ∧ RdB rows ∧ Tabs (TL K) H ∧
  (∀ i, rdS (rows.getD ln []) = .inl i → EText K [a] H E ln i) ∧ (∀ s n, rdS (rows.getD ln []) = .inr (s, n) → ∀ v H', Kt (TL K) [a] H H' → Wd K H' a c rows ln n → Dp K H' v (stpD s) → Q v H')
theorem numA_of {r : List Str} {i : Nat} {z : Str} (h : r[i]? = some z) : numA r i = numW z := by
  unfold numA
  rw [List.getD_eq_getElem?_getD, h]
  rfl
theorem figO_some {r : List Str} {i : Nat} {z : Str} (h : r[i]? = some z) (hf : figB z = true) : ¬ figO r[i]? = false := by
  rw [h]
  show ¬ figB z = false
  rw [hf]
  simp
theorem cal_step_read (B : BX P K mg base) : CalA P w K mg base 9 (He.ga K "step_read") (sp_step_read K) := by
  have T := B.T
  have c_Words_read_one_of := cal_Words_read_one_of (P := P) (w := w) (base := base) B
  have c_Words_read_number := cal_Words_read_number (P := P) (w := w) (base := base) B
  obtain ⟨fd, F⟩ := T.f_step_read
  refine ⟨fd, p_step_read, F.ok sc_step_read (fun vs H Q E h => ?_) (fun cdv A outer s H vs Q E hr h => ?_), F.kp, (F.bindsN (ps := p_step_read) fun _ _ _ _ _ _ us hl => match us, hl with | [_], _ => rfl)⟩
  · obtain ⟨a, c, rows, ln, rfl, _⟩ := h
    rfl
  · obtain ⟨a, c, rows, ln, rfl, hw, hb, hT, hn, hy⟩ := h
    refine ⟨_, (pss_cons (ps_set (i := 1) sc_step_read.nd rfl (by first | exact Or.inl rfl | exact Or.inr rfl) (pe_mt (c_Words_read_one_of.mono (by first | decide | omega)) hr pX (pv 0) (pa_cons (pe_tup (pa_cons (C8.pe_gc rfl T.g_DO) (pa_cons (C8.pe_gc rfl T.g_COME) pa_nil))) pa_nil)))
 (pss_cons (ps_if (pt_cmpR op_eq (pv 1) (C8.pe_gc rfl T.g_DO) (nomark _))
 (pss_one (ps_ret (pe_tup (pa_cons (pv 1) (pa_cons (pe_mt0 (c_Words_read_number.mono (by first | decide | omega)) hr pX (pv 0)) (pa_cons (pe_mt0 (c_Words_read_number.mono (by first | decide | omega)) hr pX (pv 0)) pa_nil))))))
 pss_nil)
 (pss_one (ps_ret (pe_tup (pa_cons (pv 1) (pa_cons (pe_mt0 (c_Words_read_number.mono (by first | decide | omega)) hr pX (pv 0)) (pa_cons (pe_mt0 (c_Words_read_number.mono (by first | decide | omega)) hr pX (pv 0)) (pa_cons (pe_mt0 (c_Words_read_number.mono (by first | decide | omega)) hr pX (pv 0)) pa_nil))))))))), ?_⟩
    generalize hr0 : rows.getD ln [] = r at hn hy
    have pk : ∀ i, peekW rows ln i = r[i]? := fun i => by
      unfold peekW
      rw [hr0]
    refine ⟨_, rfl, a, c.1, _, rfl, hw.at0, rfl, (by decide +kernel), fun p hp => ?_⟩
    have k1 : Kt (TL K) [] H (upd H p (.tup [.str "do", .str "come"])) := Kt.refl.new hp
    have e1 : (upd H p (.tup [.str "do", .str "come"])) p = some (.tup [.str "do", .str "come"]) := upd_same
    generalize upd H p (.tup [.str "do", .str "come"]) = H1 at k1 e1 ⊢
    have hw1 := hw.kp .nil (by simp) k1.k
    refine ⟨a, c, rows, ln, 0, p, ["do", "come"], rfl, hw1, .of e1, k1.t hT, fun z H2 hz hv k2 hw2 => ?_, fun hv => ?_⟩
    · rw [pk] at hz
      have hv2 : (decide (z = "do") || decide (z = "come")) = true := by
        rw [← inV_two]
        exact hv
      have er : rdS r = (if figO r[1]? = false then .inl 1 else if figO r[2]? = false then .inl 2 else if z = "do" then .inr ((z, [numA r 1, numA r 2]), 3) else if figO r[3]? = false then .inl 3 else .inr ((z, [numA r 1, numA r 2, numA r 3]), 4)) := by
        unfold rdS
        rw [hz]
        show (if _ = true then _ else _) = _
        rw [if_pos hv2]
      have k02 := k1.of0.trans k2
      have bad1 : figO r[1]? = false → rdS r = .inl 1 := fun h => by rw [er, if_pos h]
      have bad2 : ∀ z1, r[1]? = some z1 → figB z1 = true → figO r[2]? = false → rdS r = .inl 2 := fun z1 h1 f1 h => by rw [er, if_neg (figO_some h1 f1), if_pos h]
      refine ⟨_, rfl, rfl, _, rfl, ite2 (fun ed => ?_) (fun ed => ?_)⟩
      · have ez : z = "do" := by simpa using ed
        refine ⟨_, rfl, _, rfl, a, c.1, _, rfl, hw2.at0, rfl, a, c, rows, ln, 1, rfl, hw2, fun z hz => hb.peek hz, fun z1 H3 h1 f1 k3 hw3 => ?_, fun hf => (hn 1 (bad1 (by rw [← pk]; exact hf))).after k02 (by simp)⟩
        rw [pk] at h1
        refine ⟨_, rfl, a, c.1, _, rfl, hw3.at0, rfl, a, c, rows, ln, 2, rfl, hw3, fun z hz => hb.peek hz, fun z2 H4 h2 f2 k4 hw4 => ?_, fun hf => (hn 2 (bad2 z1 h1 f1 (by rw [← pk]; exact hf))).after (k02.trans k3) (by simp)⟩
        rw [pk] at h2
        refine ⟨Nat.le_of_lt (line5 (by simp)), fun t ht => ?_⟩
        have k04 := (k02.trans k3).trans k4
        refine hy (z, [numA r 1, numA r 2]) 3 ?_ _ _ (k04.new ht) (hw4.kp .nil (by simp) (Kp.refl.new ht)) ?_
        · rw [er, if_neg (figO_some h1 f1), if_neg (figO_some h2 f2), if_pos ez]
        · rw [numA_of h1, numA_of h2]
          exact .tup (.of upd_same) (.cons (.str z) (.cons (.int _) (.cons (.int _) .nil)))
      · have ez : ¬ z = "do" := by simpa using ed
        have bad3 : ∀ z1 z2, r[1]? = some z1 → figB z1 = true → r[2]? = some z2 → figB z2 = true → figO r[3]? = false → rdS r = .inl 3 := fun z1 z2 h1 f1 h2 f2 h => by rw [er, if_neg (figO_some h1 f1), if_neg (figO_some h2 f2), if_neg ez, if_pos h]
        refine ⟨_, rfl, _, rfl, a, c.1, _, rfl, hw2.at0, rfl, a, c, rows, ln, 1, rfl, hw2, fun z hz => hb.peek hz, fun z1 H3 h1 f1 k3 hw3 => ?_, fun hf => (hn 1 (bad1 (by rw [← pk]; exact hf))).after k02 (by simp)⟩
        rw [pk] at h1
        refine ⟨_, rfl, a, c.1, _, rfl, hw3.at0, rfl, a, c, rows, ln, 2, rfl, hw3, fun z hz => hb.peek hz, fun z2 H4 h2 f2 k4 hw4 => ?_, fun hf => (hn 2 (bad2 z1 h1 f1 (by rw [← pk]; exact hf))).after (k02.trans k3) (by simp)⟩
        rw [pk] at h2
        have k04 := (k02.trans k3).trans k4
        refine ⟨_, rfl, a, c.1, _, rfl, hw4.at0, rfl, a, c, rows, ln, 3, rfl, hw4, fun z hz => hb.peek hz, fun z3 H5 h3 f3 k5 hw5 => ?_, fun hf => (hn 3 (bad3 z1 z2 h1 f1 h2 f2 (by rw [← pk]; exact hf))).after k04 (by simp)⟩
        rw [pk] at h3
        refine ⟨Nat.le_of_lt (line5 (by simp)), fun t ht => ?_⟩
        refine hy (z, [numA r 1, numA r 2, numA r 3]) 4 ?_ _ _ ((k04.trans k5).new ht) (hw5.kp .nil (by simp) (Kp.refl.new ht)) ?_
        · rw [er, if_neg (figO_some h1 f1), if_neg (figO_some h2 f2), if_neg ez, if_neg (figO_some h3 f3)]
        · rw [numA_of h1, numA_of h2, numA_of h3]
          exact .tup (.of upd_same) (.cons (.str z) (.cons (.int _) (.cons (.int _) (.cons (.int _) .nil))))
    · refine (hn 0 ?_).after k1.of0 (by simp)
      unfold rdS
      cases hz : r[0]? with
      | none => rfl
      | some z =>
        have q := hv z (by rw [pk]; exact hz)
        have q2 : (decide (z = "do") || decide (z = "come")) = false := by
          rw [← inV_two]
          exact q
        show (if _ = true then _ else _) = _
        rw [q2, if_neg Bool.false_ne_true]
/-- the reader's answers as data -/
def rdSd (r : List Str) : Sum Nat (PyData × Nat) := match rdS r with
  | .inl i => .inl i
  | .inr (s, n) => .inr (stpD s, n)
theorem rdSd_ok : RdOk K rdSd (sp_step_read K) := by
  intro a c rows ln H Q E hw hT hb _ hn hy
  refine ⟨a, c, rows, ln, rfl, hw, hb, hT, fun i hi => hn i ?_, fun s n hi v H' k hw' hv => hy (stpD s) n ?_ v H' k hw' hv⟩
  · unfold rdSd
    rw [hi]
  · unfold rdSd
    rw [hi]
theorem noLi_stp (s : Stp) : noLi (stpD s) = true := by
  unfold stpD
  rw [noLi, noLis]
  have h : ∀ r : List Int, noLis (r.map PyData.int) = true := fun r => by
    induction r with
    | nil => rfl
    | cons i r ih =>
      rw [List.map_cons, noLis, ih]
      rfl
  rw [h]
  rfl
theorem rdSd_nl (r : List Str) (d : PyData) (n : Nat) (h : rdSd r = .inr (d, n)) : noLi d = true := by
  unfold rdSd at h
  cases e : rdS r with
  | inl i =>
    rw [e] at h
    cases h
  | inr q =>
    rw [e] at h
    cases h
    exact noLi_stp q.1
theorem eqv_one {rows : List (List Str)} (h : PyData.eqv (rowsD rows) (.list [.list [.str "-"]]) = true) : rows = [[("-" : Str)]] := by
  have h1 : PyData.eqvAll (rows.map fun r => .list (r.map PyData.str)) [.list [.str "-"]] = true := h
  cases rows with
  | nil => cases h1
  | cons r rs =>
    have h2 : (PyData.eqv (.list (r.map PyData.str)) (.list [.str "-"]) && PyData.eqvAll (rs.map fun r => .list (r.map PyData.str)) []) = true := h1
    obtain ⟨h3, h4⟩ := Bool.and_eq_true_iff.mp h2
    have e1 : rs = [] := by
      cases rs with
      | nil => rfl
      | cons x y => cases h4
    have h5 : PyData.eqvAll (r.map PyData.str) [.str "-"] = true := h3
    cases r with
    | nil => cases h5
    | cons x xs =>
      have h6 : ((x == ("-" : Str)) && PyData.eqvAll (xs.map PyData.str) []) = true := h5
      obtain ⟨h7, h8⟩ := Bool.and_eq_true_iff.mp h6
      have e2 : xs = [] := by
        cases xs with
        | nil => rfl
        | cons x y => cases h8
      rw [e1, e2, eq_of_beq h7]
theorem rows_dash : rowsOf "-" = [[("-" : Str)]] := by decide +kernel
def sp_read_steps (K : PySem.W.Frag) : Sp := fun vs H Q E => ∃ v d, vs = [v] ∧ Tk K H v d ∧ Tabs (TL K) H ∧
  ((∃ z, d = .str z ∧ z.length ≤ 16777213 ∧ (∀ r ∈ rowsOf z, ∀ x ∈ r, Asc x) ∧ (z = "-" → ∀ v' H', Kt (TL K) [] H H' → Dp K H' v' (.tuple []) → Q v' H') ∧ (z ≠ "-" → (∀ ln i, readM rdSd 0 (rowsOf z) = .inl (ln, i) → EText K [] H E ln i) ∧
    (∀ ds, readM rdSd 0 (rowsOf z) = .inr ds → ∀ v' H', Kt (TL K) [] H H' → Dp K H' v' (.tuple ds) → Q v' H'))) ∨ (isStr d = false ∧ EText K [] H E 0 0))
theorem fok_read_steps (B : BX P K mg base) : ∃ fd, FunD K "read_steps" "read_steps" (defArgs s_read_steps) (defBody s_read_steps) (defScope s_read_steps) [] [] (He.ga K "read_steps") fd ∧ FnOk P w K mg base (L2.CX P w) 17 (He.ga K "read_steps") fd p_read_steps (sp_read_steps K) := by
  have T := B.T
  have c_read_lines := (cal_read_lines (w := w) B ((cal_step_read (w := w) B).v B.kin) rdSd_ok rdSd_nl).cal T.g_read_lines
  have c_Words_init := cal_Words_init (w := w) B
  obtain ⟨fd, F⟩ := T.f_read_steps
  refine ⟨fd, F, F.ok sc_read_steps (fun vs H Q E h => ?_) (fun cdv A outer s H vs Q E hr h => ?_)⟩
  · obtain ⟨v, d, rfl, _⟩ := h
    rfl
  · obtain ⟨v, d, rfl, hv, hT, h⟩ := h
    refine ⟨_, (pss_cons (ps_set (i := 1) sc_read_steps.nd rfl (by first | exact Or.inl rfl | exact Or.inr rfl) (pe_mk (c_Words_init.mono (by first | decide | omega)) hr pX rfl (pa_cons (pv 0) pa_nil)))
 (pss_cons (ps_if (pt_cmpR (op_eqD hr.units) (pe_fld (pv 1) rfl) (pe_lst (pa_cons (pe_lst (pa_cons (C8.pe_gc rfl T.g_NONE) pa_nil)) pa_nil)) (nomark _))
 (pss_one (ps_ret (pe_tup pa_nil)))
 pss_nil)
 (pss_one (ps_ret (pe_callTy call_tuple_of (by rfl) T.b_tuple (by decide +kernel) (pa_cons (pe_c (c_read_lines.mono (by first | decide | omega)) hr pX rfl (pa_cons (pv 1) (pa_cons (pe_glob (v := .ref (He.ga K "step_read")) rfl T.g_step_read rfl) pa_nil))) pa_nil)))))), ?_⟩
    refine ⟨_, rfl, fun x dx hx hdx nxd => ?_⟩
    have n1 : (upd H dx (.own x)) x = none := by rw [upd_ne (Ne.symm nxd)]; exact hx
    have k0 : Kt (TL K) [] H (upd (upd H dx (.own x)) x (.ins (He.ga K "Words") dx [])) := (Kt.refl.new hdx).new n1
    have kx : ∀ {H' : Hp}, Kt (TL K) [x] (upd (upd H dx (.own x)) x (.ins (He.ga K "Words") dx [])) H' → Kt (TL K) [] H H' := fun k => (k0.of0.trans k).drop hx
    have tv : Tk K (upd (upd H dx (.own x)) x (.ins (He.ga K "Words") dx [])) v d := hv.same fun b o e => by
      rw [upd_ne (ne_of_none e hx), upd_ne (ne_of_none e hdx)]
      exact e
    refine ⟨x, v, d, dx, rfl, tv, upd_same, ?_⟩
    rcases h with ⟨z, rfl, hz, hasc, hdash, hy⟩ | ⟨hd, q⟩
    · refine .inl ⟨z, rfl, by omega, fun c H1 k1 hw1 => ⟨rfl, ?_⟩⟩
      have k01 := kx k1
      have hrl := rowsOf_len (z := z)
      refine ⟨_, rfl, x, _, c.1, _, _, rfl, hw1.at0, T.c_Words, T.n_Words_lines, rfl, Nat.le_of_lt (line5 (by simp)), fun p1 hp1 => ⟨Nat.le_of_lt (line5 (by simp)), fun p2 hp2 => ?_⟩⟩
      have ka : Kt (TL K) [] H1 (upd (upd H1 p1 (.lst [.str "-"])) p2 (.lst [.ref p1])) := (Kt.refl.new hp1).new hp2
      have dl : Dp K (upd (upd H1 p1 (.lst [.str "-"])) p2 (.lst [.ref p1])) (.ref c.2) (rowsD (rowsOf z)) := dp_kp .nil ka.k hw1.dp
      have dr : Dp K (upd (upd H1 p1 (.lst [.str "-"])) p2 (.lst [.ref p1])) (.ref p2) (.list [.list [.str "-"]]) := by
        refine .lst (.of upd_same) (.cons (.lst (.of ?_) (.cons (.str _) .nil)) .nil)
        rw [upd_ne (ne_of_none upd_same hp2)]
        exact upd_same
      have hw2 := hw1.kp .nil (by simp) ka.k
      have sh : SeqAt.shaped (rowsD (rowsOf z)) = true := (Shp.lst (n := 1) fun d hd => by
        obtain ⟨r, hr, rfl⟩ := List.mem_map.mp hd
        refine .lst fun d hd => ?_
        obtain ⟨y, hy2, rfl⟩ := List.mem_map.mp hd
        exact .str (hasc r hr y hy2).lay).ok (by decide)
      have k02 := k01.trans ka
      generalize (upd (upd H1 p1 (.lst [.str "-"])) p2 (.lst [.ref p1])) = H2 at dl dr hw2 k02 ⊢
      refine ⟨_, _, dl, dr, sh, by decide +kernel, _, rfl, ?_⟩
      by_cases hzd : z = "-"
      · have e1 : PyData.eqv (rowsD (rowsOf z)) (.list [.list [.str "-"]]) = true := by
          rw [hzd, rows_dash]
          decide +kernel
        rw [e1]
        refine it1 ⟨by simp, fun p3 hp3 => ?_⟩
        exact hdash hzd _ _ (k02.new hp3) (.tup (.of upd_same) .nil)
      · have e1 : PyData.eqv (rowsD (rowsOf z)) (.list [.list [.str "-"]]) = false := by
          cases e : PyData.eqv (rowsD (rowsOf z)) (.list [.list [.str "-"]]) with
          | false => rfl
          | true => exact absurd (rowsOf_one (eqv_one e)) hzd
        rw [e1]
        obtain ⟨hn, hy⟩ := hy hzd
        refine it0 ⟨_, rfl, x, c, rowsOf z, rfl, hw2, k02.t hT, rdB_of hz, by omega, fun ln i hi => fun dd H3 k3 hx3 => hn ln i hi dd H3 ((k02.of0.trans k3).drop hx) hx3, fun ds hds D acc H3 hD k3 hD3 hacc => ?_⟩
        have k03 := (k02.of0.trans k3).drop hx
        refine ⟨D, acc, rfl, .inl ⟨.of hD3, fun l hl => ?_⟩⟩
        exact hy ds hds _ _ (k03.new hl) (.tup (.of upd_same) (dps_kp .nil (Kp.refl.new hl) hacc))
    · exact .inr ⟨hd, fun dd H' k hx' => q dd H' (k0.trans k) hx'⟩
theorem cal_read_steps (B : BX P K mg base) : CalA P w K mg base 17 (He.ga K "read_steps") (sp_read_steps K) := by
  obtain ⟨fd, F, G⟩ := fok_read_steps (w := w) B
  exact ⟨fd, p_read_steps, G, F.kp, (F.bindsN (ps := p_read_steps) fun _ _ _ _ _ _ us hl => match us, hl with | [_], _ => rfl)⟩
end
end K75

namespace K75
open PySem PySem.Spec PyProof.Rows L2 XB LamX
section
variable {P : Program} {w : World} {K : PySem.W.Frag} {mg : Str → Option Value} {base : Heap}
/-! ### the pen -/
structure Pen (H : Hp) (p c : Addr) (cs : List Int) (n : Nat) : Prop where
  ne : p ≠ c
  at_ : H c = some (.lst (cs.map V.int))
  pn : ∃ i l : Int, H p = some (.lst [.ref c, .int i, .int l]) ∧ 0 ≤ i ∧ i ≤ n ∧ 0 ≤ l
theorem Pen.kp {H H' : Hp} {p c : Addr} {cs : List Int} {n : Nat} {S : List Addr} (h : Pen H p c cs n) (k : Kp S H H') (n1 : p ∉ S) (n2 : c ∉ S) : Pen H' p c cs n := by
  obtain ⟨i, l, e, h1, h2, h3⟩ := h.pn
  exact ⟨h.ne, k _ _ h.at_ n2 (by intro _ z; cases z), i, l, k _ _ e n1 (by intro _ z; cases z), h1, h2, h3⟩
theorem Pen.le {H : Hp} {p c : Addr} {cs : List Int} {n m : Nat} (h : Pen H p c cs n) (k : n ≤ m) : Pen H p c cs m := by
  obtain ⟨i, l, e, h1, h2, h3⟩ := h.pn
  exact ⟨h.ne, h.at_, i, l, e, h1, by omega, h3⟩
def sp__law_pen (K : PySem.W.Frag) : Sp := fun vs H Q _ => ∃ (a : Addr) (ns : List Int), vs = [.ref a] ∧ SqL K H a (ns.map V.int) ∧ ∀ p c cs H', Kt (TL K) [] H H' → H p = none → Pen H' p c cs 0 → Q (.ref p) H'
theorem cal__law_pen (B : BX P K mg base) : CalA P w K mg base 1 (He.ga K "_law_pen") (sp__law_pen K) := by
  have T := B.T
  obtain ⟨fd, F⟩ := T.f__law_pen
  refine ⟨fd, p__law_pen, F.ok sc__law_pen (fun vs H Q E h => ?_) (fun cdv A outer s H vs Q E hr h => ?_), F.kp, (F.bindsN (ps := p__law_pen) fun _ _ _ _ _ _ us hl => match us, hl with | [_], _ => rfl)⟩
  · obtain ⟨a, ns, rfl, _⟩ := h
    rfl
  · obtain ⟨a, ns, rfl, hs, q⟩ := h
    refine ⟨_, (pss_one (ps_ret (pe_lst (pa_cons (pe_callTy call_list_of (by rfl) T.b_list (by decide +kernel) (pa_cons (pe_slice sl_list (pv 0) po_none (po_some pe_int)) pa_nil)) (pa_cons pe_int (pa_cons pe_int pa_nil)))))), ?_⟩
    refine ⟨_, rfl, _, rfl, a, _, rfl, hs, fun p hp => ⟨p, _, rfl, .inl (.of upd_same), fun c hc => ⟨Nat.le_of_lt (line5 (by simp)), fun l hl => ?_⟩⟩⟩
    have ec : ∃ cs : List Int, cutV (ns.map V.int) none (some 63) = cs.map V.int := ⟨(ns.drop (HT.sIx (ns.map V.int).length 0 none)).take (HT.sIx (ns.map V.int).length (ns.map V.int).length (some 63) - HT.sIx (ns.map V.int).length 0 none), by
      unfold cutV
      rw [List.map_take, List.map_drop]⟩
    obtain ⟨cs, ec⟩ := ec
    rw [ec] at hc hl ⊢
    refine q l c cs _ (((Kt.refl.new hp).new hc).new hl) ?_ ⟨fun z => ?_, ?_, 0, 0, upd_same, by omega, by omega, by omega⟩
    · have h1 : (upd H p (.lst (cs.map V.int))) l = none := NdefX.upd_none hl
      exact NdefX.upd_none h1
    · rw [z, upd_same] at hl
      cases hl
    · rw [upd_ne (ne_of_none upd_same hl)]
      exact upd_same
theorem base0 (x i : Int) (h0 : 0 ≤ i) (h1 : i ≤ 100000) : (x.fmod 2147483549 + 37363 * i + 10951).natAbs < 2 ^ 64 := by
  have a := Int.fmod_nonneg_of_pos x (show (0 : Int) < 2147483549 from by decide)
  have b := Int.fmod_lt_of_pos x (show (0 : Int) < 2147483549 from by decide)
  omega
theorem base1 (m i : Int) (m1 : 0 ≤ m) (m2 : m < 2147483629) (h0 : 0 ≤ i) (h1 : i ≤ 100000) : (m * (2 * i + 7751) + 73561 * i * i + 37363).natAbs < 2 ^ 64 := by
  have a : m * (2 * i + 7751) ≤ 2147483629 * 207751 := Int.mul_le_mul (by omega) (by omega) (by omega) (by omega)
  have b : 0 ≤ m * (2 * i + 7751) := Int.mul_nonneg m1 (by omega)
  have c : 73561 * i * i ≤ 7356100000 * 100000 := Int.mul_le_mul (by omega) h1 h0 (by omega)
  have d : 0 ≤ 73561 * i * i := Int.mul_nonneg (by omega) h0
  omega
def sp__law_draw (K : PySem.W.Frag) : Sp := fun vs H Q _ => ∃ (p c : Addr) (cs : List Int) (n m : Nat), vs = [.ref p, .int m] ∧ Pen H p c cs n ∧ n ≤ 100000 ∧ m < 1073741824 ∧ ∀ (j : Nat) H', (j < m ∨ (m < 2 ∧ j = 0)) → Kt (TL K) [p] H H' → Pen H' p c cs (n + 1) → Q (.int j) H'
theorem cal__law_draw (B : BX P K mg base) : CalA P w K mg base 1 (He.ga K "_law_draw") (sp__law_draw K) := by
  have T := B.T
  obtain ⟨fd, F⟩ := T.f__law_draw
  refine ⟨fd, p__law_draw, F.ok sc__law_draw (fun vs H Q E h => ?_) (fun cdv A outer s H vs Q E hr h => ?_), F.kp, (F.bindsN (ps := p__law_draw) fun _ _ _ _ _ _ us hl => match us, hl with | [_, _], _ => rfl)⟩
  · obtain ⟨p, c, cs, n, m, rfl, _⟩ := h
    rfl
  · obtain ⟨p, c, cs, n, m, rfl, hp, hn, hm, q⟩ := h
    refine ⟨_, (pss_cons (ps_if (pt_cmpR op_lt (pv 1) pe_int (nomark _))
 (pss_one (ps_ret pe_int))
 pss_nil)
 (pss_cons (ps_if (pt_cmpR op_gt (pe_ix ix_list (pv 0) pe_int (fun _ _ => rfl)) pe_int (nomark _))
 (pss_cons (ps_set (i := 2) sc__law_draw.nd rfl (by first | exact Or.inl rfl | exact Or.inr rfl) (pe_op op_modN (pe_callTy call_int1 (by rfl) T.b_int (by decide +kernel) (pa_cons (pe_ix ix_list (pv 0) pe_int (fun _ _ => rfl)) pa_nil)) (pv 1)))
 (pss_cons (ps_asg (pe_op op_fdivN (pe_callTy call_int1 (by rfl) T.b_int (by decide +kernel) (pa_cons (pe_ix ix_list (pv 0) pe_int (fun _ _ => rfl)) pa_nil)) (pv 1)) (pg_sub (pv 0) pe_int set_list))
 (pss_one (ps_ret (pv 2)))))
 pss_nil)
 (pss_cons (ps_set (i := 3) sc__law_draw.nd rfl (by first | exact Or.inl rfl | exact Or.inr rfl) (pe_ix ix_list (pv 0) pe_int (fun _ _ => rfl)))
 (pss_cons (ps_asg (pe_op op_add (pv 3) pe_int) (pg_sub (pv 0) pe_int set_list))
 (pss_cons (ps_set (i := 4) sc__law_draw.nd rfl (by first | exact Or.inl rfl | exact Or.inr rfl) (pe_op op_add (pe_op op_mul pe_int (pv 3)) pe_int))
 (pss_cons (ps_if (pt_cmpR (op_neD hr.units) (pe_ix ix_list (pv 0) pe_int (fun _ _ => rfl)) (pe_lst pa_nil) (nomark _))
 (pss_one (ps_set (i := 4) sc__law_draw.nd rfl (by first | exact Or.inl rfl | exact Or.inr rfl) (pe_ix ix_list (pe_ix ix_list (pv 0) pe_int (fun _ _ => rfl)) (pe_op op_modN (pe_callTy call_int1 (by rfl) T.b_int (by decide +kernel) (pa_cons (pv 3) pa_nil)) (pe_callB call_len_seq (by rfl) T.b_len (by decide +kernel) (pa_cons (pe_ix ix_list (pv 0) pe_int (fun _ _ => rfl)) pa_nil))) (fun _ _ => rfl))))
 pss_nil)
 (pss_cons (ps_if (PW.pt (pw_and (pt_cmpR op_lt (pv 3) (pe_callB call_len_seq (by rfl) T.b_len (by decide +kernel) (pa_cons (pe_ix ix_list (pv 0) pe_int (fun _ _ => rfl)) pa_nil)) (nomark _)) (pw_and1 (pt_cmpR op_ge (pe_callB call_abs (by rfl) T.b_abs (by decide +kernel) (pa_cons (pv 4) pa_nil)) (pe_op op_pow pe_int pe_int) (nomark _)))))
 (pss_cons (ps_set (i := 5) sc__law_draw.nd rfl (by first | exact Or.inl rfl | exact Or.inr rfl) (pe_op op_add (pe_op op_mul pe_int (pe_op op_sub (pe_callB call_abs (by rfl) T.b_abs (by decide +kernel) (pa_cons (pv 4) pa_nil)) (pe_op op_pow pe_int pe_int))) (pe_callTy call_int1 (by rfl) T.b_int (by decide +kernel) (pa_cons (pe_cmpR op_lt (pv 4) pe_int (nomark _)) pa_nil))))
 (pss_cons (ps_asg (pe_op op_fdivN (pe_callTy call_int1 (by rfl) T.b_int (by decide +kernel) (pa_cons (pv 5) pa_nil)) (pv 1)) (pg_sub (pv 0) pe_int set_list))
 (pss_one (ps_ret (pe_op op_modN (pe_callTy call_int1 (by rfl) T.b_int (by decide +kernel) (pa_cons (pv 5) pa_nil)) (pv 1))))))
 pss_nil)
 (pss_cons (ps_set (i := 6) sc__law_draw.nd rfl (by first | exact Or.inl rfl | exact Or.inr rfl) (pe_op op_modN (pe_callTy call_int1 (by rfl) T.b_int (by decide +kernel) (pa_cons (pe_op op_pow (pe_op op_add (pe_op op_add (pe_op op_modN (pe_callTy call_int1 (by rfl) T.b_int (by decide +kernel) (pa_cons (pv 4) pa_nil)) pe_int) (pe_op op_mul pe_int (pv 3))) pe_int) pe_int) pa_nil)) pe_int))
 (pss_cons (ps_set (i := 6) sc__law_draw.nd rfl (by first | exact Or.inl rfl | exact Or.inr rfl) (pe_op op_modN (pe_callTy call_int1 (by rfl) T.b_int (by decide +kernel) (pa_cons (pe_op op_pow (pe_op op_add (pe_op op_add (pe_op op_mul (pv 6) (pe_op op_add (pe_op op_mul pe_int (pv 3)) pe_int)) (pe_op op_mul (pe_op op_mul pe_int (pv 3)) (pv 3))) pe_int) pe_int) pa_nil)) pe_int))
 (pss_one (ps_ret (pe_op op_modN (pe_callTy call_int1 (by rfl) T.b_int (by decide +kernel) (pa_cons (pe_op op_fdivN (pv 6) pe_int) pa_nil)) (pv 1))))))))))))), ?_⟩
    obtain ⟨i, l, ep, hi0, hin, hl0⟩ := hp.pn
    refine ⟨_, rfl, _, _, rfl, rfl, _, rfl, ite2 (fun e => ?_) (fun e => ?_)⟩
    · have e1 : (m : Int) < 2 := by simpa using e
      exact q 0 H (.inr ⟨by omega, rfl⟩) .refl (hp.le (by omega))
    · have e1 : ¬ (m : Int) < 2 := by simpa using e
      have hm0 : (0 : Int) < m := by omega
      have hmz : (m : Int) ≠ 0 := by omega
      have fin : ∀ (x : Int) (H' : Hp), Kt (TL K) [p] H H' → Pen H' p c cs (n + 1) → Q (.int (x.fmod m)) H' := fun x H' k hp' => by
        have h1 := Int.fmod_nonneg_of_pos x hm0
        have h2 := Int.fmod_lt_of_pos x hm0
        have q1 := q (x.fmod m).toNat H' (.inl (by omega)) k hp'
        rw [Int.toNat_of_nonneg h1] at q1
        exact q1
      refine ⟨_, rfl, p, _, 2, .int l, rfl, rfl, .of ep, rfl, _, _, rfl, rfl, _, rfl, ite2 (fun e2 => ?_) (fun e2 => ?_)⟩
      · refine ⟨_, rfl, p, _, 2, .int l, rfl, rfl, .of ep, rfl, .inl ⟨l, rfl, _, rfl, _, _, rfl, rfl, hmz, ?_⟩⟩
        refine ⟨_, rfl, p, _, 2, .int l, rfl, rfl, .of ep, rfl, .inl ⟨l, rfl, _, rfl, _, _, rfl, rfl, ⟨hmz, by omega⟩, ?_⟩⟩
        refine ⟨_, rfl, p, _, 2, 2, rfl, rfl, ep, rfl, ?_⟩
        refine ⟨_, rfl, fin l _ (Kt.refl.mut (by simp) ep soft_lst) ⟨hp.ne, by rw [upd_ne (Ne.symm hp.ne)]; exact hp.at_, i, l.fdiv m, upd_same, hi0, by omega, Int.fdiv_nonneg hl0 (by omega)⟩⟩
      · refine ⟨_, rfl, p, _, 1, .int i, rfl, rfl, .of ep, rfl, ?_⟩
        refine ⟨_, rfl, _, _, rfl, rfl, ?_⟩
        refine ⟨_, rfl, p, _, 1, 1, rfl, rfl, ep, rfl, ?_⟩
        have k1 : Kt (TL K) [p] H (upd H p (.lst (([V.ref c, V.int i, V.int l] : List V).set 1 (.int (i + 1))))) := Kt.refl.mut (by simp) ep soft_lst
        have ep1 : (upd H p (.lst (([V.ref c, V.int i, V.int l] : List V).set 1 (.int (i + 1))))) p = some (.lst [.ref c, .int (i + 1), .int l]) := upd_same
        have ec1 : (upd H p (.lst (([V.ref c, V.int i, V.int l] : List V).set 1 (.int (i + 1))))) c = some (.lst (cs.map V.int)) := by rw [upd_ne (Ne.symm hp.ne)]; exact hp.at_
        generalize upd H p (.lst (([V.ref c, V.int i, V.int l] : List V).set 1 (.int (i + 1)))) = H1 at k1 ep1 ec1 ⊢
        refine ⟨_, rfl, _, _, rfl, rfl, .inl ⟨by decide, by decide⟩, _, _, rfl, rfl, ?_⟩
        refine ⟨_, rfl, p, _, 0, .ref c, rfl, rfl, .of ep1, rfl, by simp, fun p2 hp2 => ?_⟩
        have k2 : Kt (TL K) [p] H (upd H1 p2 (.lst [])) := k1.new hp2
        have ep2 : (upd H1 p2 (.lst [])) p = some (.lst [.ref c, .int (i + 1), .int l]) := by rw [upd_ne (ne_of_none ep1 hp2)]; exact ep1
        have ec2 : (upd H1 p2 (.lst [])) c = some (.lst (cs.map V.int)) := by rw [upd_ne (ne_of_none ec1 hp2)]; exact ec1
        have en2 : (upd H1 p2 (.lst [])) p2 = some (.lst []) := upd_same
        generalize upd H1 p2 (.lst []) = H2 at k2 ep2 ec2 en2 ⊢
        refine ⟨.list (cs.map PyData.int), .list [], .lst (.of ec2) (dps_ints cs), .lst (.of en2) .nil, (Shp.lst (n := 0) fun d hd => by obtain ⟨i, _, rfl⟩ := List.mem_map.mp hd; exact .int).ok (by decide), by decide, _, rfl, ite2 (fun e3 => ?_) (fun e3 => ?_)⟩
        · have hcs : 0 < cs.length := by
            cases cs with
            | nil => exact absurd e3 (by decide)
            | cons x y => simp
          have hcz : ((cs.map V.int).length : Int) ≠ 0 := by
            rw [List.length_map]
            omega
          have hf1 := Int.fmod_nonneg_of_pos i (show (0 : Int) < ((cs.map V.int).length : Int) from by rw [List.length_map]; omega)
          have hf2 := Int.fmod_lt_of_pos i (show (0 : Int) < ((cs.map V.int).length : Int) from by rw [List.length_map]; omega)
          have hk : (i.fmod ((cs.map V.int).length : Int)).toNat < cs.length := by
            rw [List.length_map] at hf2 ⊢
            omega
          refine ⟨_, rfl, p, _, 0, .ref c, rfl, rfl, .of ep2, rfl, _, rfl, .inl ⟨i, rfl, _, rfl, p, _, 0, .ref c, rfl, rfl, .of ep2, rfl, c, _, rfl, .inl (.of ec2), _, _, rfl, rfl, hcz, c, _, _, .int cs[(i.fmod ((cs.map V.int).length : Int)).toNat], rfl, rfl, .of ec2, ?_, ?_⟩⟩
          · have := atN (l := cs.map V.int) (i := (i.fmod ((cs.map V.int).length : Int)).toNat) (Nat.lt_of_lt_of_le hk (Nat.le_of_eq (List.length_map ..).symm))
            rw [Int.toNat_of_nonneg hf1, List.getElem_map] at this
            exact this
          · generalize cs[(i.fmod ((cs.map V.int).length : Int)).toNat] = cell
            refine ⟨_, rfl, _, rfl, p, _, 0, .ref c, rfl, rfl, .of ep2, rfl, c, _, rfl, .inl (.of ec2), _, _, rfl, rfl, _, rfl, ite2 (fun e4 => ?_) (fun e4 => ?_)⟩
            · refine ⟨_, rfl, cell, rfl, _, _, rfl, rfl, ⟨by decide, by decide, by decide⟩, _, _, rfl, rfl, _, rfl, ite2 (fun e5 => ?_) (fun e5 => ?_)⟩
              · have e6 : (10 : Int) ^ (18 : Int).toNat ≤ (if cell < 0 then -cell else cell) := by simpa using e5
                refine ⟨_, rfl, cell, rfl, _, _, rfl, rfl, ⟨by decide, by decide, by decide⟩, _, _, rfl, rfl, _, _, rfl, rfl, .inl ⟨by decide, by decide⟩, _, rfl, _, _, rfl, rfl, .inr ⟨_, rfl, _, _, rfl, rfl, ?_⟩⟩
                refine ⟨_, rfl, .inl ⟨_, rfl, _, rfl, _, _, rfl, rfl, ⟨hmz, by omega⟩, ?_⟩⟩
                refine ⟨_, rfl, p, _, 2, 2, rfl, rfl, ep2, rfl, ?_⟩
                refine ⟨_, rfl, .inl ⟨_, rfl, _, rfl, _, _, rfl, rfl, hmz, fin _ _ (k2.mut (by simp) ep2 soft_lst) ⟨hp.ne, by rw [upd_ne (Ne.symm hp.ne)]; exact ec2, i + 1, _, upd_same, by omega, by omega, Int.fdiv_nonneg ?_ (by omega)⟩⟩⟩
                have e7 : (0 : Int) ≤ (if decide (cell < 0) = true then 1 else 0) := by split <;> decide
                omega
              · refine ⟨_, rfl, .inl ⟨cell, rfl, _, _, rfl, rfl, (show (2147483549 : Int) ≠ 0 from by decide), _, rfl, _, _, rfl, rfl, .inl ⟨by decide, by decide⟩, _, _, rfl, rfl, _, _, rfl, rfl, _, _, rfl, rfl, ⟨by decide, by decide, base0 (cell) i hi0 (by omega)⟩, .inl ⟨_, rfl, _, _, rfl, rfl, (show (2147483629 : Int) ≠ 0 from by decide), ?_⟩⟩⟩
                have m1 := Int.fmod_nonneg_of_pos (((cell).fmod 2147483549 + 37363 * i + 10951) ^ (3 : Int).toNat) (show (0 : Int) < 2147483629 from by decide)
                have m2 := Int.fmod_lt_of_pos (((cell).fmod 2147483549 + 37363 * i + 10951) ^ (3 : Int).toNat) (show (0 : Int) < 2147483629 from by decide)
                refine ⟨_, rfl, _, rfl, _, _, rfl, rfl, .inl ⟨by decide, by decide⟩, _, _, rfl, rfl, _, _, rfl, rfl, .inl ⟨by omega, by omega⟩, _, rfl, _, _, rfl, rfl, .inl ⟨by decide, by decide⟩, _, rfl, _, _, rfl, rfl, .inl ⟨by omega, by omega⟩, _, _, rfl, rfl, _, _, rfl, rfl, _, _, rfl, rfl, ⟨by decide, by decide, base1 _ i m1 m2 hi0 (by omega)⟩, .inl ⟨_, rfl, _, _, rfl, rfl, (show (2147483563 : Int) ≠ 0 from by decide), ?_⟩⟩
                exact ⟨_, rfl, _, _, rfl, rfl, ⟨by decide, by decide⟩, .inl ⟨_, rfl, _, rfl, _, _, rfl, rfl, hmz, fin _ _ k2 ⟨hp.ne, ec2, i + 1, l, ep2, by omega, by omega, hl0⟩⟩⟩
            · refine ⟨_, rfl, .inl ⟨cell, rfl, _, _, rfl, rfl, (show (2147483549 : Int) ≠ 0 from by decide), _, rfl, _, _, rfl, rfl, .inl ⟨by decide, by decide⟩, _, _, rfl, rfl, _, _, rfl, rfl, _, _, rfl, rfl, ⟨by decide, by decide, base0 (cell) i hi0 (by omega)⟩, .inl ⟨_, rfl, _, _, rfl, rfl, (show (2147483629 : Int) ≠ 0 from by decide), ?_⟩⟩⟩
              have m1 := Int.fmod_nonneg_of_pos (((cell).fmod 2147483549 + 37363 * i + 10951) ^ (3 : Int).toNat) (show (0 : Int) < 2147483629 from by decide)
              have m2 := Int.fmod_lt_of_pos (((cell).fmod 2147483549 + 37363 * i + 10951) ^ (3 : Int).toNat) (show (0 : Int) < 2147483629 from by decide)
              refine ⟨_, rfl, _, rfl, _, _, rfl, rfl, .inl ⟨by decide, by decide⟩, _, _, rfl, rfl, _, _, rfl, rfl, .inl ⟨by omega, by omega⟩, _, rfl, _, _, rfl, rfl, .inl ⟨by decide, by decide⟩, _, rfl, _, _, rfl, rfl, .inl ⟨by omega, by omega⟩, _, _, rfl, rfl, _, _, rfl, rfl, _, _, rfl, rfl, ⟨by decide, by decide, base1 _ i m1 m2 hi0 (by omega)⟩, .inl ⟨_, rfl, _, _, rfl, rfl, (show (2147483563 : Int) ≠ 0 from by decide), ?_⟩⟩
              exact ⟨_, rfl, _, _, rfl, rfl, ⟨by decide, by decide⟩, .inl ⟨_, rfl, _, rfl, _, _, rfl, rfl, hmz, fin _ _ k2 ⟨hp.ne, ec2, i + 1, l, ep2, by omega, by omega, hl0⟩⟩⟩
        · refine ⟨_, rfl, _, rfl, p, _, 0, .ref c, rfl, rfl, .of ep2, rfl, c, _, rfl, .inl (.of ec2), _, _, rfl, rfl, _, rfl, ite2 (fun e4 => ?_) (fun e4 => ?_)⟩
          · refine ⟨_, rfl, (73561 * i + 10951), rfl, _, _, rfl, rfl, ⟨by decide, by decide, by decide⟩, _, _, rfl, rfl, _, rfl, ite2 (fun e5 => ?_) (fun e5 => ?_)⟩
            · have e6 : (10 : Int) ^ (18 : Int).toNat ≤ (if (73561 * i + 10951) < 0 then -(73561 * i + 10951) else (73561 * i + 10951)) := by simpa using e5
              refine ⟨_, rfl, (73561 * i + 10951), rfl, _, _, rfl, rfl, ⟨by decide, by decide, by decide⟩, _, _, rfl, rfl, _, _, rfl, rfl, .inl ⟨by decide, by decide⟩, _, rfl, _, _, rfl, rfl, .inr ⟨_, rfl, _, _, rfl, rfl, ?_⟩⟩
              refine ⟨_, rfl, .inl ⟨_, rfl, _, rfl, _, _, rfl, rfl, ⟨hmz, by omega⟩, ?_⟩⟩
              refine ⟨_, rfl, p, _, 2, 2, rfl, rfl, ep2, rfl, ?_⟩
              refine ⟨_, rfl, .inl ⟨_, rfl, _, rfl, _, _, rfl, rfl, hmz, fin _ _ (k2.mut (by simp) ep2 soft_lst) ⟨hp.ne, by rw [upd_ne (Ne.symm hp.ne)]; exact ec2, i + 1, _, upd_same, by omega, by omega, Int.fdiv_nonneg ?_ (by omega)⟩⟩⟩
              have e7 : (0 : Int) ≤ (if decide ((73561 * i + 10951) < 0) = true then 1 else 0) := by split <;> decide
              omega
            · refine ⟨_, rfl, .inl ⟨(73561 * i + 10951), rfl, _, _, rfl, rfl, (show (2147483549 : Int) ≠ 0 from by decide), _, rfl, _, _, rfl, rfl, .inl ⟨by decide, by decide⟩, _, _, rfl, rfl, _, _, rfl, rfl, _, _, rfl, rfl, ⟨by decide, by decide, base0 (73561 * i + 10951) i hi0 (by omega)⟩, .inl ⟨_, rfl, _, _, rfl, rfl, (show (2147483629 : Int) ≠ 0 from by decide), ?_⟩⟩⟩
              have m1 := Int.fmod_nonneg_of_pos (((73561 * i + 10951).fmod 2147483549 + 37363 * i + 10951) ^ (3 : Int).toNat) (show (0 : Int) < 2147483629 from by decide)
              have m2 := Int.fmod_lt_of_pos (((73561 * i + 10951).fmod 2147483549 + 37363 * i + 10951) ^ (3 : Int).toNat) (show (0 : Int) < 2147483629 from by decide)
              refine ⟨_, rfl, _, rfl, _, _, rfl, rfl, .inl ⟨by decide, by decide⟩, _, _, rfl, rfl, _, _, rfl, rfl, .inl ⟨by omega, by omega⟩, _, rfl, _, _, rfl, rfl, .inl ⟨by decide, by decide⟩, _, rfl, _, _, rfl, rfl, .inl ⟨by omega, by omega⟩, _, _, rfl, rfl, _, _, rfl, rfl, _, _, rfl, rfl, ⟨by decide, by decide, base1 _ i m1 m2 hi0 (by omega)⟩, .inl ⟨_, rfl, _, _, rfl, rfl, (show (2147483563 : Int) ≠ 0 from by decide), ?_⟩⟩
              exact ⟨_, rfl, _, _, rfl, rfl, ⟨by decide, by decide⟩, .inl ⟨_, rfl, _, rfl, _, _, rfl, rfl, hmz, fin _ _ k2 ⟨hp.ne, ec2, i + 1, l, ep2, by omega, by omega, hl0⟩⟩⟩
          · refine ⟨_, rfl, .inl ⟨(73561 * i + 10951), rfl, _, _, rfl, rfl, (show (2147483549 : Int) ≠ 0 from by decide), _, rfl, _, _, rfl, rfl, .inl ⟨by decide, by decide⟩, _, _, rfl, rfl, _, _, rfl, rfl, _, _, rfl, rfl, ⟨by decide, by decide, base0 (73561 * i + 10951) i hi0 (by omega)⟩, .inl ⟨_, rfl, _, _, rfl, rfl, (show (2147483629 : Int) ≠ 0 from by decide), ?_⟩⟩⟩
            have m1 := Int.fmod_nonneg_of_pos (((73561 * i + 10951).fmod 2147483549 + 37363 * i + 10951) ^ (3 : Int).toNat) (show (0 : Int) < 2147483629 from by decide)
            have m2 := Int.fmod_lt_of_pos (((73561 * i + 10951).fmod 2147483549 + 37363 * i + 10951) ^ (3 : Int).toNat) (show (0 : Int) < 2147483629 from by decide)
            refine ⟨_, rfl, _, rfl, _, _, rfl, rfl, .inl ⟨by decide, by decide⟩, _, _, rfl, rfl, _, _, rfl, rfl, .inl ⟨by omega, by omega⟩, _, rfl, _, _, rfl, rfl, .inl ⟨by decide, by decide⟩, _, rfl, _, _, rfl, rfl, .inl ⟨by omega, by omega⟩, _, _, rfl, rfl, _, _, rfl, rfl, _, _, rfl, rfl, ⟨by decide, by decide, base1 _ i m1 m2 hi0 (by omega)⟩, .inl ⟨_, rfl, _, _, rfl, rfl, (show (2147483563 : Int) ≠ 0 from by decide), ?_⟩⟩
            exact ⟨_, rfl, _, _, rfl, rfl, ⟨by decide, by decide⟩, .inl ⟨_, rfl, _, rfl, _, _, rfl, rfl, hmz, fin _ _ k2 ⟨hp.ne, ec2, i + 1, l, ep2, by omega, by omega, hl0⟩⟩⟩
def sp__law_pick (K : PySem.W.Frag) : Sp := fun vs H Q _ => ∃ (p c : Addr) (cs : List Int) (n : Nat) (a : Addr) (xs : List V), vs = [.ref p, .ref a] ∧ Pen H p c cs n ∧ n ≤ 100000 ∧ H a = some (.lst xs) ∧ a ≠ p ∧ xs ≠ [] ∧ xs.length < 1073741824 ∧ ∀ v H', v ∈ xs → Kt (TL K) [p] H H' → Pen H' p c cs (n + 1) → Q v H'
theorem cal__law_pick (B : BX P K mg base) : CalA P w K mg base 2 (He.ga K "_law_pick") (sp__law_pick K) := by
  have T := B.T
  have c__law_draw := (cal__law_draw (P := P) (w := w) (base := base) B).cal T.g__law_draw
  obtain ⟨fd, F⟩ := T.f__law_pick
  refine ⟨fd, p__law_pick, F.ok sc__law_pick (fun vs H Q E h => ?_) (fun cdv A outer s H vs Q E hr h => ?_), F.kp, (F.bindsN (ps := p__law_pick) fun _ _ _ _ _ _ us hl => match us, hl with | [_, _], _ => rfl)⟩
  · obtain ⟨p, c, cs, n, a, xs, rfl, _⟩ := h
    rfl
  · obtain ⟨p, c, cs, n, a, xs, rfl, hp, hn, ha, hap, hne, hl, q⟩ := h
    refine ⟨_, (pss_one (ps_ret (pe_ix ix_list (pv 1) (pe_c (c__law_draw.mono (by first | decide | omega)) hr pX rfl (pa_cons (pv 0) (pa_cons (pe_callB call_len_seq (by rfl) T.b_len (by decide +kernel) (pa_cons (pv 1) pa_nil)) pa_nil))) (fun _ _ => rfl)))), ?_⟩
    refine ⟨_, rfl, _, rfl, _, rfl, a, xs, rfl, .inl (.of ha), ?_⟩
    refine ⟨p, c, cs, n, xs.length, rfl, hp, hn, hl, fun j H1 hj k1 hp1 => ?_⟩
    have hj2 : j < xs.length := by
      rcases hj with h | ⟨h1, h2⟩
      · exact h
      · have : 0 < xs.length := by
          cases xs with
          | nil => exact absurd rfl hne
          | cons x y => simp
        omega
    have ha1 := k1.k _ _ ha (by simpa using hap) (by intro _ z; cases z)
    exact ⟨a, xs, _, _, rfl, rfl, .of ha1, atN hj2, q _ H1 (List.getElem_mem hj2) k1 hp1⟩
end
end K75

namespace K75
open PySem PySem.Spec PyProof.Rows L2 XB LamX
section
variable {P : Program} {w : World} {K : PySem.W.Frag} {mg : Str → Option Value} {base : Heap}
/-! ### what a call hands back, or its error as data -/
abbrev hText (l w : Nat) : PyData := .tuple [.str "text", .int l, .int w]
abbrev hPart (k p : Str) : PyData := .tuple [.str k, .str p]
/-- the errors that are heard -/
def HeardE (K : PySem.W.Frag) (Q : VK) : XK := fun cls d H1 => ∃ dd, d = some dd ∧
  ((∃ w l : Nat, cls = .ref (He.ga K "BadText") ∧ H1 dd = some (.xd [("word", .int w), ("line", .int l)]) ∧ ∀ v H2, Kt (TL K) [] H1 H2 → Dp K H2 v (hText l w) → Q v H2) ∨
   (∃ p : Str, cls = .ref (He.ga K "BadLog") ∧ H1 dd = some (.xd [("part", .str p)]) ∧ ∀ v H2, Kt (TL K) [] H1 H2 → Dp K H2 v (hPart "log" p) → Q v H2) ∨
   (∃ p : Str, cls = .ref (He.ga K "BadValue") ∧ H1 dd = some (.xd [("part", .str p)]) ∧ ∀ v H2, Kt (TL K) [] H1 H2 → Dp K H2 v (hPart "value" p) → Q v H2))
def sp__law_heard (K : PySem.W.Frag) (f : Addr) (spf : Sp) : Sp := fun vs H Q _ => vs = [.ref f] ∧ ∀ (Q1 : VK) (E1 : XK) (H0 : Hp), Kt (TL K) [] H H0 → (∀ v H1, (∀ l, H1 l = none → Q (.ref l) (upd H1 l (.lst [v]))) → Q1 v H1) → (∀ cls d H1, HeardE K Q cls d H1 → E1 cls d H1) → spf [] H0 Q1 E1
theorem kept_at {H1 : Hp} {a dd : Addr} {D : Addr} {fs : List (Str × V)} (ec : ExcC K D) (ha : H1 a = none) (hd : H1 dd = some (.xd fs)) : Kept K (upd H1 a (exv a (.ref D) (some dd))) a D fs :=
  ⟨⟨dd, upd_same, by rw [upd_ne (ne_of_none hd ha)]; exact hd⟩, ec⟩
theorem Kept.kp {H H' : Hp} {a D : Addr} {fs : List (Str × V)} (h : Kept K H a D fs) (k : Kp [] H H') : Kept K H' a D fs := by
  obtain ⟨dd, e1, e2⟩ := h.ex
  exact ⟨⟨dd, k _ _ e1 (by simp) (by intro _ z; cases z), k _ _ e2 (by simp) (by intro _ z; cases z)⟩, h.cls⟩
theorem kitN2 {K : PySem.W.Frag} {t u1 u2 : Value} (h1 : PySem.W.kitOne K t u1 = some false) (h2 : PySem.W.kitOne K t u2 = some false) : PySem.W.kitAny K t [u1, u2] = some false :=
  kitAny_cons h1 (fun _ => kitAny_cons h2 (fun _ => kitAny_nil) fun e => by cases e) fun e => by cases e
theorem no4 : ∀ (m : Nat) (z' : PyData), m < 4 → [PyData.bool false, .bool false, .bool false, .bool false, .bool true, .bool false][m]? = some z' → PyData.eqv z' (.bool true) = false := by
  intro m z' h e
  match m, h with
  | 0, _ => cases e; decide +kernel
  | 1, _ => cases e; decide +kernel
  | 2, _ => cases e; decide +kernel
  | 3, _ => cases e; decide +kernel
theorem cal__law_heard (B : BX P K mg base) {kf : Nat} {f : Addr} {spf : Sp} (cf : CalV P w K mg base kf f spf) : CalA P w K mg base (kf + 1) (He.ga K "_law_heard") (sp__law_heard K f spf) := by
  have T := B.T
  obtain ⟨fd, F⟩ := T.f__law_heard
  refine ⟨fd, p__law_heard, F.ok sc__law_heard (fun vs H Q E h => ?_) (fun cdv A outer s H vs Q E hr h => ?_), F.kp, (F.bindsN (ps := p__law_heard) fun _ _ _ _ _ _ us hl => match us, hl with | [_], _ => rfl)⟩
  · obtain ⟨rfl, _⟩ := h
    rfl
  · obtain ⟨rfl, q⟩ := h
    refine ⟨_, (pss_cons (ps_asg (pe_tup (pa_cons pe_non (pa_cons pe_non pa_nil))) (pg_tup rfl (pgs_cons (pg_name (i := 1) sc__law_heard.nd rfl (by first | exact Or.inl rfl | exact Or.inr rfl)) (pgs_cons (pg_name (i := 2) sc__law_heard.nd rfl (by first | exact Or.inl rfl | exact Or.inr rfl)) pgs_nil))))
 (pss_cons (ps_try_keep (i := 3) rfl rfl rfl sc__law_heard.nd rfl rfl ⟨rfl, by decide, .inl T.g_WaitError⟩ tkX (fun W pn xe tk po => pss_one (ps_set (i := 1) sc__law_heard.nd rfl (by first | exact Or.inl rfl | exact Or.inr rfl) (pe_cvW (i := 0) cf hr tk rfl (.inl rfl)))) (fun a oe cls d pn hz hf => pss_one (ps_set (i := 2) sc__law_heard.nd rfl (by first | exact Or.inl rfl | exact Or.inr rfl) (pv 3))))
 (pss_cons (ps_if (pt_cmpR op_isN (pv 2) pe_non (nomark _))
 (pss_one (ps_ret (pe_lst (pa_cons (pv 1) pa_nil))))
 pss_nil)
 (pss_cons (ps_if (pt_val (pe_callB call_isV (by rfl) T.b_isinstance (by decide +kernel) (pa_cons (pv 2) (pa_cons (pe_glob (v := .ref (He.ga K "TooMany")) rfl T.g_TooMany rfl) pa_nil))))
 (pss_one XB.ps_never)
 pss_nil)
 (pss_cons (ps_if (pt_val (pe_callB call_isV (by rfl) T.b_isinstance (by decide +kernel) (pa_cons (pv 2) (pa_cons (pe_glob (v := .ref (He.ga K "BadPair")) rfl T.g_BadPair rfl) pa_nil))))
 (pss_one XB.ps_never)
 pss_nil)
 (pss_cons (ps_if (pt_val (pe_callB call_isV (by rfl) T.b_isinstance (by decide +kernel) (pa_cons (pv 2) (pa_cons (pe_glob (v := .ref (He.ga K "BadStep")) rfl T.g_BadStep rfl) pa_nil))))
 (pss_one XB.ps_never)
 pss_nil)
 (pss_cons (ps_if (pt_val (pe_callB call_isV (by rfl) T.b_isinstance (by decide +kernel) (pa_cons (pv 2) (pa_cons (pe_glob (v := .ref (He.ga K "BadText")) rfl T.g_BadText rfl) pa_nil))))
 (pss_one (ps_ret (pe_tup (pa_cons pe_str (pa_cons (pe_xv (pv 2)) (pa_cons (pe_xv (pv 2)) pa_nil))))))
 pss_nil)
 (pss_cons (ps_if (pt_val (pe_callB call_isVT (by rfl) T.b_isinstance (by decide +kernel) (pa_cons (pv 2) (pa_cons (pe_tup (pa_cons (pe_glob (v := .ref (He.ga K "BadWord")) rfl T.g_BadWord rfl) (pa_cons (pe_glob (v := .ref (He.ga K "Nothing")) rfl T.g_Nothing rfl) pa_nil))) pa_nil))))
 (pss_one XB.ps_never)
 pss_nil)
 (pss_cons (ps_set (i := 4) sc__law_heard.nd rfl (by first | exact Or.inl rfl | exact Or.inr rfl) (pe_lst (pa_cons (pe_callB call_isV (by rfl) T.b_isinstance (by decide +kernel) (pa_cons (pv 2) (pa_cons (pe_glob (v := .ref (He.ga K "BadValue")) rfl T.g_BadValue rfl) pa_nil))) (pa_cons (pe_callB call_isV (by rfl) T.b_isinstance (by decide +kernel) (pa_cons (pv 2) (pa_cons (pe_glob (v := .ref (He.ga K "BadNumber")) rfl T.g_BadNumber rfl) pa_nil))) (pa_cons (pe_callB call_isV (by rfl) T.b_isinstance (by decide +kernel) (pa_cons (pv 2) (pa_cons (pe_glob (v := .ref (He.ga K "BadProgram")) rfl T.g_BadProgram rfl) pa_nil))) (pa_cons (pe_callB call_isV (by rfl) T.b_isinstance (by decide +kernel) (pa_cons (pv 2) (pa_cons (pe_glob (v := .ref (He.ga K "BadRule")) rfl T.g_BadRule rfl) pa_nil))) (pa_cons (pe_callB call_isV (by rfl) T.b_isinstance (by decide +kernel) (pa_cons (pv 2) (pa_cons (pe_glob (v := .ref (He.ga K "BadLog")) rfl T.g_BadLog rfl) pa_nil))) (pa_cons (pe_callB call_isV (by rfl) T.b_isinstance (by decide +kernel) (pa_cons (pv 2) (pa_cons (pe_glob (v := .ref (He.ga K "Misfit")) rfl T.g_Misfit rfl) pa_nil))) pa_nil))))))))
 (pss_one (ps_ret (pe_ifExp (pt_cmpR op_eq (pe_bm PySem.F.plainAttrs_list PySem.F.slot_list_count PySem.F.type_list_count (mt_countD (room65 hr)) (pv 4) (pa_cons pe_bl pa_nil)) pe_int (nomark _)) (pe_tup (pa_cons (pe_ix ix_list (pe_lst (pa_cons pe_str (pa_cons pe_str (pa_cons pe_str (pa_cons pe_str (pa_cons pe_str (pa_cons pe_str pa_nil))))))) (pe_bm PySem.F.plainAttrs_list PySem.F.slot_list_index PySem.F.type_list_index (mt_indexD (room65 hr)) (pv 4) (pa_cons pe_bl pa_nil)) (fun _ _ => rfl)) (pa_cons (pe_xv (pv 2)) pa_nil))) (pe_tup (pa_cons pe_str pa_nil)))))))))))))), ?_⟩
    refine ⟨Nat.le_of_lt (line5 (by simp)), fun t ht => ?_⟩
    refine ⟨t, _, rfl, .inl (.of upd_same), rfl, _, _, rfl, _, _, rfl, rfl, rfl, q _ _ _ (Kt.refl.new ht) (fun v H1 qv => ?_) (fun cls d H1 he => ?_)⟩
    · refine ⟨_, rfl, rfl, _, rfl, it1 ⟨_, rfl, ?_⟩⟩
      exact ⟨Nat.le_of_lt (line5 (by simp)), qv⟩
    · obtain ⟨dd, rfl, ⟨wn, ln, rfl, hx, q2⟩ | ⟨pt, rfl, hx, q2⟩ | ⟨pt, rfl, hx, q2⟩⟩ := he
      · refine ⟨true, T.w_BadText, fun _ a ha => ⟨_, rfl, fun _ => ?_⟩, fun z => by cases z⟩
        have kt := kept_at T.ec_BadText ha hx
        have k1 : Kt (TL K) [] H1 (upd H1 a (exv a (.ref (He.ga K "BadText")) (some dd))) := Kt.refl.new ha
        generalize upd H1 a (exv a (.ref (He.ga K "BadText")) (some dd)) = H2 at kt k1 ⊢
        refine ⟨_, rfl, rfl, _, rfl, it0 ?_⟩
        refine ⟨_, rfl, a, _, _, _, _, _, rfl, kt, .own _, T.k_BadText_TooMany, _, rfl, it0 ?_⟩
        refine ⟨_, rfl, a, _, _, _, _, _, rfl, kt, .own _, T.k_BadText_BadPair, _, rfl, it0 ?_⟩
        refine ⟨_, rfl, a, _, _, _, _, _, rfl, kt, .own _, T.k_BadText_BadStep, _, rfl, it0 ?_⟩
        refine ⟨_, rfl, a, _, _, _, _, _, rfl, kt, .own _, T.k_BadText_BadText, _, rfl, it1 ?_⟩
        refine ⟨_, rfl, a, _, _, _, rfl, kt, T.e_BadText.no _ (by decide), rfl, ?_⟩
        exact ⟨_, rfl, a, _, _, _, rfl, kt, T.e_BadText.no _ (by decide), rfl, Nat.le_of_lt (line5 (by simp)), fun t2 ht2 => q2 _ _ (k1.new ht2) (.tup (.of upd_same) (.cons (.str _) (.cons (.int _) (.cons (.int _) .nil))))⟩
      · refine ⟨true, T.w_BadLog, fun _ a ha => ⟨_, rfl, fun _ => ?_⟩, fun z => by cases z⟩
        have kt := kept_at T.ec_BadLog ha hx
        have k1 : Kt (TL K) [] H1 (upd H1 a (exv a (.ref (He.ga K "BadLog")) (some dd))) := Kt.refl.new ha
        generalize upd H1 a (exv a (.ref (He.ga K "BadLog")) (some dd)) = H2 at kt k1 ⊢
        refine ⟨_, rfl, rfl, _, rfl, it0 ?_⟩
        refine ⟨_, rfl, a, _, _, _, _, _, rfl, kt, .own _, T.k_BadLog_TooMany, _, rfl, it0 ?_⟩
        refine ⟨_, rfl, a, _, _, _, _, _, rfl, kt, .own _, T.k_BadLog_BadPair, _, rfl, it0 ?_⟩
        refine ⟨_, rfl, a, _, _, _, _, _, rfl, kt, .own _, T.k_BadLog_BadStep, _, rfl, it0 ?_⟩
        refine ⟨_, rfl, a, _, _, _, _, _, rfl, kt, .own _, T.k_BadLog_BadText, _, rfl, it0 ?_⟩
        refine ⟨_, rfl, Nat.le_of_lt (line5 (by simp)), fun tp htp => ?_⟩
        have k2 := k1.new (o := .tup [V.ref (He.ga K "BadWord"), V.ref (He.ga K "Nothing")]) htp
        have kt2 := Kept.kp kt (Kt.refl (T := TL K)|>.new (o := .tup [V.ref (He.ga K "BadWord"), V.ref (He.ga K "Nothing")]) htp).k
        have e2 : (upd H2 tp (.tup [V.ref (He.ga K "BadWord"), V.ref (He.ga K "Nothing")])) tp = some (.tup [V.ref (He.ga K "BadWord"), V.ref (He.ga K "Nothing")]) := upd_same
        generalize upd H2 tp (.tup [V.ref (He.ga K "BadWord"), V.ref (He.ga K "Nothing")]) = H3 at k2 kt2 e2 ⊢
        refine ⟨a, _, tp, _, _, _, _, rfl, kt2, e2, .cons (.own _) (.cons (.own _) .nil), kitN2 T.k_BadLog_BadWord T.k_BadLog_Nothing, _, rfl, it0 ?_⟩
        refine ⟨_, rfl, a, _, _, _, _, _, rfl, kt2, .own _, T.k_BadLog_BadValue, ?_⟩
        refine ⟨_, rfl, a, _, _, _, _, _, rfl, kt2, .own _, T.k_BadLog_BadNumber, ?_⟩
        refine ⟨_, rfl, a, _, _, _, _, _, rfl, kt2, .own _, T.k_BadLog_BadProgram, ?_⟩
        refine ⟨_, rfl, a, _, _, _, _, _, rfl, kt2, .own _, T.k_BadLog_BadRule, ?_⟩
        refine ⟨_, rfl, a, _, _, _, _, _, rfl, kt2, .own _, T.k_BadLog_BadLog, ?_⟩
        refine ⟨_, rfl, a, _, _, _, _, _, rfl, kt2, .own _, T.k_BadLog_Misfit, ?_⟩
        refine ⟨Nat.le_of_lt (line5 (by simp)), fun l hl => ?_⟩
        have k3 := k2.new (o := .lst [V.bl false, V.bl false, V.bl false, V.bl false, V.bl true, V.bl false]) hl
        have kt3 := Kept.kp kt2 (Kt.refl (T := TL K)|>.new (o := .lst [V.bl false, V.bl false, V.bl false, V.bl false, V.bl true, V.bl false]) hl).k
        have e3 : (upd H3 l (.lst [V.bl false, V.bl false, V.bl false, V.bl false, V.bl true, V.bl false])) l = some (.lst [V.bl false, V.bl false, V.bl false, V.bl false, V.bl true, V.bl false]) := upd_same
        have d3 : Dp K (upd H3 l (.lst [V.bl false, V.bl false, V.bl false, V.bl false, V.bl true, V.bl false])) (.ref l) (.list [.bool false, .bool false, .bool false, .bool false, .bool true, .bool false]) := .lst (.of upd_same) (.cons (.bl _) (.cons (.bl _) (.cons (.bl _) (.cons (.bl _) (.cons (.bl _) (.cons (.bl _) .nil))))))
        generalize upd H3 l (.lst [V.bl false, V.bl false, V.bl false, V.bl false, V.bl true, V.bl false]) = H4 at k3 kt3 e3 d3 ⊢
        refine ⟨_, rfl, .inl ⟨rfl, _, .of e3⟩, l, _, _, _, rfl, rfl, d3, .bl true, by decide +kernel, by decide +kernel, rfl, _, rfl, it1 ?_⟩
        refine ⟨Nat.le_of_lt (line5 (by simp)), fun l2 hl2 => ?_⟩
        have k4 := k3.new (o := .lst [V.str "value", V.str "number", V.str "program", V.str "rule", V.str "log", V.str "misfit"]) hl2
        have kt4 := Kept.kp kt3 (Kt.refl (T := TL K)|>.new (o := .lst [V.str "value", V.str "number", V.str "program", V.str "rule", V.str "log", V.str "misfit"]) hl2).k
        have d4 := dp_kp (K := K) .nil (Kt.refl (T := TL K)|>.new (o := .lst [V.str "value", V.str "number", V.str "program", V.str "rule", V.str "log", V.str "misfit"]) hl2).k d3
        have e4 : (upd H4 l2 (.lst [V.str "value", V.str "number", V.str "program", V.str "rule", V.str "log", V.str "misfit"])) l2 = some (.lst [V.str "value", V.str "number", V.str "program", V.str "rule", V.str "log", V.str "misfit"]) := upd_same
        have e5 : (upd H4 l2 (.lst [V.str "value", V.str "number", V.str "program", V.str "rule", V.str "log", V.str "misfit"])) l = some (.lst [V.bl false, V.bl false, V.bl false, V.bl false, V.bl true, V.bl false]) := by rw [upd_ne (ne_of_none e3 hl2)]; exact e3
        generalize upd H4 l2 (.lst [V.str "value", V.str "number", V.str "program", V.str "rule", V.str "log", V.str "misfit"]) = H5 at k4 kt4 d4 e4 e5 ⊢
        refine ⟨_, rfl, .inl ⟨rfl, _, .of e5⟩, l, _, _, _, 4, _, rfl, rfl, d4, .bl true, by decide +kernel, by decide +kernel, rfl, rfl, no4, ?_⟩
        refine ⟨l2, _, 4, _, rfl, rfl, .of e4, rfl, ?_⟩
        exact ⟨_, rfl, a, _, _, _, rfl, kt4, T.e_BadLog.no _ (by decide), rfl, Nat.le_of_lt (line5 (by simp)), fun t2 ht2 => q2 _ _ (k4.new ht2) (.tup (.of upd_same) (.cons (.str _) (.cons (.str _) .nil)))⟩
      · refine ⟨true, T.w_BadValue, fun _ a ha => ⟨_, rfl, fun _ => ?_⟩, fun z => by cases z⟩
        have kt := kept_at T.ec_BadValue ha hx
        have k1 : Kt (TL K) [] H1 (upd H1 a (exv a (.ref (He.ga K "BadValue")) (some dd))) := Kt.refl.new ha
        generalize upd H1 a (exv a (.ref (He.ga K "BadValue")) (some dd)) = H2 at kt k1 ⊢
        refine ⟨_, rfl, rfl, _, rfl, it0 ?_⟩
        refine ⟨_, rfl, a, _, _, _, _, _, rfl, kt, .own _, T.k_BadValue_TooMany, _, rfl, it0 ?_⟩
        refine ⟨_, rfl, a, _, _, _, _, _, rfl, kt, .own _, T.k_BadValue_BadPair, _, rfl, it0 ?_⟩
        refine ⟨_, rfl, a, _, _, _, _, _, rfl, kt, .own _, T.k_BadValue_BadStep, _, rfl, it0 ?_⟩
        refine ⟨_, rfl, a, _, _, _, _, _, rfl, kt, .own _, T.k_BadValue_BadText, _, rfl, it0 ?_⟩
        refine ⟨_, rfl, Nat.le_of_lt (line5 (by simp)), fun tp htp => ?_⟩
        have k2 := k1.new (o := .tup [V.ref (He.ga K "BadWord"), V.ref (He.ga K "Nothing")]) htp
        have kt2 := Kept.kp kt (Kt.refl (T := TL K)|>.new (o := .tup [V.ref (He.ga K "BadWord"), V.ref (He.ga K "Nothing")]) htp).k
        have e2 : (upd H2 tp (.tup [V.ref (He.ga K "BadWord"), V.ref (He.ga K "Nothing")])) tp = some (.tup [V.ref (He.ga K "BadWord"), V.ref (He.ga K "Nothing")]) := upd_same
        generalize upd H2 tp (.tup [V.ref (He.ga K "BadWord"), V.ref (He.ga K "Nothing")]) = H3 at k2 kt2 e2 ⊢
        refine ⟨a, _, tp, _, _, _, _, rfl, kt2, e2, .cons (.own _) (.cons (.own _) .nil), kitN2 T.k_BadValue_BadWord T.k_BadValue_Nothing, _, rfl, it0 ?_⟩
        refine ⟨_, rfl, a, _, _, _, _, _, rfl, kt2, .own _, T.k_BadValue_BadValue, ?_⟩
        refine ⟨_, rfl, a, _, _, _, _, _, rfl, kt2, .own _, T.k_BadValue_BadNumber, ?_⟩
        refine ⟨_, rfl, a, _, _, _, _, _, rfl, kt2, .own _, T.k_BadValue_BadProgram, ?_⟩
        refine ⟨_, rfl, a, _, _, _, _, _, rfl, kt2, .own _, T.k_BadValue_BadRule, ?_⟩
        refine ⟨_, rfl, a, _, _, _, _, _, rfl, kt2, .own _, T.k_BadValue_BadLog, ?_⟩
        refine ⟨_, rfl, a, _, _, _, _, _, rfl, kt2, .own _, T.k_BadValue_Misfit, ?_⟩
        refine ⟨Nat.le_of_lt (line5 (by simp)), fun l hl => ?_⟩
        have k3 := k2.new (o := .lst [V.bl true, V.bl false, V.bl false, V.bl false, V.bl false, V.bl false]) hl
        have kt3 := Kept.kp kt2 (Kt.refl (T := TL K)|>.new (o := .lst [V.bl true, V.bl false, V.bl false, V.bl false, V.bl false, V.bl false]) hl).k
        have e3 : (upd H3 l (.lst [V.bl true, V.bl false, V.bl false, V.bl false, V.bl false, V.bl false])) l = some (.lst [V.bl true, V.bl false, V.bl false, V.bl false, V.bl false, V.bl false]) := upd_same
        have d3 : Dp K (upd H3 l (.lst [V.bl true, V.bl false, V.bl false, V.bl false, V.bl false, V.bl false])) (.ref l) (.list [.bool true, .bool false, .bool false, .bool false, .bool false, .bool false]) := .lst (.of upd_same) (.cons (.bl _) (.cons (.bl _) (.cons (.bl _) (.cons (.bl _) (.cons (.bl _) (.cons (.bl _) .nil))))))
        generalize upd H3 l (.lst [V.bl true, V.bl false, V.bl false, V.bl false, V.bl false, V.bl false]) = H4 at k3 kt3 e3 d3 ⊢
        refine ⟨_, rfl, .inl ⟨rfl, _, .of e3⟩, l, _, _, _, rfl, rfl, d3, .bl true, by decide +kernel, by decide +kernel, rfl, _, rfl, it1 ?_⟩
        refine ⟨Nat.le_of_lt (line5 (by simp)), fun l2 hl2 => ?_⟩
        have k4 := k3.new (o := .lst [V.str "value", V.str "number", V.str "program", V.str "rule", V.str "log", V.str "misfit"]) hl2
        have kt4 := Kept.kp kt3 (Kt.refl (T := TL K)|>.new (o := .lst [V.str "value", V.str "number", V.str "program", V.str "rule", V.str "log", V.str "misfit"]) hl2).k
        have d4 := dp_kp (K := K) .nil (Kt.refl (T := TL K)|>.new (o := .lst [V.str "value", V.str "number", V.str "program", V.str "rule", V.str "log", V.str "misfit"]) hl2).k d3
        have e4 : (upd H4 l2 (.lst [V.str "value", V.str "number", V.str "program", V.str "rule", V.str "log", V.str "misfit"])) l2 = some (.lst [V.str "value", V.str "number", V.str "program", V.str "rule", V.str "log", V.str "misfit"]) := upd_same
        have e5 : (upd H4 l2 (.lst [V.str "value", V.str "number", V.str "program", V.str "rule", V.str "log", V.str "misfit"])) l = some (.lst [V.bl true, V.bl false, V.bl false, V.bl false, V.bl false, V.bl false]) := by rw [upd_ne (ne_of_none e3 hl2)]; exact e3
        generalize upd H4 l2 (.lst [V.str "value", V.str "number", V.str "program", V.str "rule", V.str "log", V.str "misfit"]) = H5 at k4 kt4 d4 e4 e5 ⊢
        refine ⟨_, rfl, .inl ⟨rfl, _, .of e5⟩, l, _, _, _, 0, _, rfl, rfl, d4, .bl true, by decide +kernel, by decide +kernel, rfl, rfl, (fun m z' h => absurd h (Nat.not_lt_zero m)), ?_⟩
        refine ⟨l2, _, 0, _, rfl, rfl, .of e4, rfl, ?_⟩
        exact ⟨_, rfl, a, _, _, _, rfl, kt4, T.e_BadValue.no _ (by decide), rfl, Nat.le_of_lt (line5 (by simp)), fun t2 ht2 => q2 _ _ (k4.new ht2) (.tup (.of upd_same) (.cons (.str _) (.cons (.str _) .nil)))⟩
end
end K75

namespace K75
open PySem PySem.Spec PyProof.Rows L2 XB LamX
section
variable {P : Program} {w : World} {K : PySem.W.Frag} {mg : Str → Option Value} {base : Heap}
/-! ### the law's own readers -/
theorem eqv_filt (l : List Nat) : PyData.eqv (.list (((List.range l.length).filter fun i => !decide (l.getD i 0 ∈ digs)).map fun i => PyData.str ⟨#[l.getD i 0]⟩)) (.list []) = l.all (fun c => decide (c ∈ digs)) := by
  have e : ∀ ds : List PyData, PyData.eqv (.list ds) (.list []) = ds.isEmpty := fun ds => by
    cases ds with
    | nil => rfl
    | cons d r => rfl
  rw [e, Bool.eq_iff_iff, List.isEmpty_iff, List.map_eq_nil_iff, List.filter_eq_nil_iff, List.all_eq_true]
  refine ⟨fun h c hc => ?_, fun h i hi => ?_⟩
  · obtain ⟨i, hi, e⟩ := List.getElem_of_mem hc
    have h2 := h i (by simpa using hi)
    rw [List.getD_eq_getElem?_getD, List.getElem?_eq_getElem hi, Option.getD_some, e] at h2
    simpa using h2
  · have hi2 : i < l.length := by simpa using hi
    have h2 := h l[i] (List.getElem_mem hi2)
    rw [List.getD_eq_getElem?_getD, List.getElem?_eq_getElem hi2, Option.getD_some, h2]
    simp
def sp__law_is_fig (K : PySem.W.Frag) : Sp := fun vs H Q _ => ∃ z : Str, vs = [.str z] ∧ z.length ≤ 16777214 ∧ Asc z ∧ ∀ H', Kt (TL K) [] H H' → Q (.bl (figB z)) H'
theorem cal__law_is_fig (B : BX P K mg base) : CalA P w K mg base 1 (He.ga K "_law_is_fig") (sp__law_is_fig K) := by
  have T := B.T
  obtain ⟨fd, F⟩ := T.f__law_is_fig
  refine ⟨fd, p__law_is_fig, F.ok sc__law_is_fig (fun vs H Q E h => ?_) (fun cdv A outer s H vs Q E hr h => ?_), F.kp, (F.bindsN (ps := p__law_is_fig) fun _ _ _ _ _ _ us hl => match us, hl with | [_], _ => rfl)⟩
  · obtain ⟨z, rfl, _⟩ := h
    rfl
  · obtain ⟨z, rfl, hz, ha, q⟩ := h
    refine ⟨_, (pss_one (ps_ret (pe_and (pe_chain op_lt op_lt pe_int (pe_callB call_len_str (by rfl) T.b_len (by decide +kernel) (pa_cons (pv 0) pa_nil)) pe_int) (pe_and (pe_cmpR (op_eqD hr.units) (pe_lc (own := [("sign", 1)]) (g := gName 1) rfl sc__law_is_fig.nd (pi_str (pv 0)) (blkOk_by (own := [("sign", 1)]) (N := n__law_is_fig) (sc := defScope s__law_is_fig) (by decide +kernel)) (fun _ _ _ _ _ => (pg_name (i := 1) sc__law_is_fig.nd rfl (by first | exact Or.inl rfl | exact Or.inr rfl))) (fun _ _ _ _ _ => (pts_one (pt_cmpR op_notIn_sign (pv 1) pe_str (by rfl)))) (fun _ _ _ _ _ => (pv 1))) (pe_lst pa_nil) (nomark _)) (pe_one (pe_or (pe_cmpR op_eq (pv 0) pe_str (nomark _)) (pe_one (pe_cmpR op_ne (pe_ix ix_str (pv 0) pe_int (fun _ _ => rfl)) pe_str (nomark _))))))))), ?_⟩
    have sgn : ∀ i (hi : i < z.cps.size) c, z.cps[i]? = some c → z.cps.toList.getD i 0 = c := fun i hi c hc => by
      rw [List.getD_eq_getElem?_getD, Array.getElem?_toList, hc]
      rfl
    refine ⟨_, rfl, z, rfl, line_le hz, _, _, rfl, rfl, _, rfl, ite2 (fun e1 => ?_) (fun e1 => ?_)⟩
    · have z1 : 1 ≤ (z.length : Int) := by
        have : (0 : Int) < (z.length : Int) := by simpa using e1
        omega
      refine ⟨_, _, rfl, rfl, _, rfl, ite2 (fun e2 => ?_) (fun e2 => ?_)⟩
      · have z2 : (z.length : Int) ≤ 40 := by
          have : (z.length : Int) < 41 := by simpa using e2
          omega
        have hsz : z.cps.size ≤ 40 := by
          have e9 : z.cps.size = z.length := rfl
          omega
        refine ⟨_, rfl, z, rfl, fun D hD => lc_it walk_str (FiltP (TL K) [] H D (fun i => V.str ⟨#[z.cps.toList.getD i 0]⟩) (fun i => !decide (z.cps.toList.getD i 0 ∈ digs))) (filt_0 hD) (fun _ _ _ _ => trivial) ?_ ?_⟩
        · rintro i x H1 H2 hi p ⟨rfl, c, hc, rfl⟩
          have ec := sgn i hi c hc
          refine ⟨rfl, _, rfl, c, _, rfl, rfl, _, rfl, ite2 (fun e3 => ?_) (fun e3 => ?_)⟩
          · refine ⟨_, rfl, ?_⟩
            refine filt_yes p .refl .nil hD (line5 (by omega)) ?_ ?_
            · show (!decide (z.cps.toList.getD i 0 ∈ digs)) = true
              rw [ec]
              exact e3
            · rw [ec]
          · refine filt_no p .refl .nil hD ?_
            show (!decide (z.cps.toList.getD i 0 ∈ digs)) = false
            rw [ec]
            exact Bool.eq_false_iff.mpr e3
        · intro H1 p
          refine ⟨Nat.le_of_lt (line5 (by simp)), fun p2 hp2 => ?_⟩
          have k2 := p.k.new (o := .lst []) hp2
          have d1 : Dp K (upd H1 p2 (.lst [])) (.ref D) (.list (((List.range z.cps.size).filter fun i => !decide (z.cps.toList.getD i 0 ∈ digs)).map fun i => .str ⟨#[z.cps.toList.getD i 0]⟩)) := by
            refine .lst (xs := ((List.range z.cps.size).filter fun i => !decide (z.cps.toList.getD i 0 ∈ digs)).map fun i => V.str ⟨#[z.cps.toList.getD i 0]⟩) (.of ?_) ?_
            · rw [upd_ne (ne_of_none p.d hp2)]
              exact p.d
            · have := dps_strs (K := K) (H := upd H1 p2 (.lst [])) (((List.range z.cps.size).filter fun i => !decide (z.cps.toList.getD i 0 ∈ digs)).map fun i => (⟨#[z.cps.toList.getD i 0]⟩ : Str))
              rw [List.map_map, List.map_map] at this
              exact this
          have sh : SeqAt.shaped (.list (((List.range z.cps.size).filter fun i => !decide (z.cps.toList.getD i 0 ∈ digs)).map fun i => PyData.str ⟨#[z.cps.toList.getD i 0]⟩)) = true := (Shp.lst (n := 0) fun d hd => by
            obtain ⟨i, hi, rfl⟩ := List.mem_map.mp hd
            refine .str (Asc.lay fun c hc => ?_)
            have hi2 : i < z.cps.size := by simpa using (List.mem_filter.mp hi).1
            have hc2 : c = z.cps.toList.getD i 0 := by simpa [TL.tl] using hc
            rw [hc2, List.getD_eq_getElem?_getD, List.getElem?_eq_getElem (by simpa using hi2)]
            exact ha _ (List.getElem_mem _)).ok (by decide)
          refine ⟨_, _, d1, .lst (.of upd_same) .nil, sh, by decide +kernel, _, rfl, ?_⟩
          have ee : PyData.eqv (.list (((List.range z.cps.size).filter fun i => !decide (z.cps.toList.getD i 0 ∈ digs)).map fun i => PyData.str ⟨#[z.cps.toList.getD i 0]⟩)) (.list []) = z.cps.toList.all (fun c => decide (c ∈ digs)) := eqv_filt z.cps.toList
          rw [ee]
          have fin : figB z = (z.cps.toList.all (fun c => decide (c ∈ digs)) && (decide (V.str z = V.str "0") || !decide (V.str ⟨#[z.cps.toList.getD 0 0]⟩ = V.str "0"))) := by
            unfold figB
            rw [decide_eq_true z1, decide_eq_true z2, Bool.true_and, Bool.true_and]
          have q1 := q _ k2
          rw [fin] at q1
          refine ite2 (fun e3 => ?_) (fun e3 => ?_)
          · rw [e3, Bool.true_and] at q1
            refine ⟨_, rfl, rfl, _, rfl, ite2 (fun e4 => ?_) (fun e4 => ?_)⟩
            · rw [e4, Bool.true_or] at q1
              exact q1
            · rw [show decide (V.str z = V.str "0") = false from by simpa using e4, Bool.false_or] at q1
              have h0 : 0 < z.cps.toList.length := by
                rw [Array.length_toList]
                have e9 : z.cps.size = z.length := rfl
                omega
              have ec : z.cps.toList.getD 0 0 = z.cps.toList[0] := by
                rw [List.getD_eq_getElem?_getD, List.getElem?_eq_getElem h0]
                rfl
              rw [ec] at q1
              exact ⟨_, rfl, z, 0, z.cps.toList[0], rfl, rfl, line_le hz, at0 h0, rfl, q1⟩
          · rw [show z.cps.toList.all (fun c => decide (c ∈ digs)) = false from by simpa using e3, Bool.false_and] at q1
            exact q1
      · have e3 : figB z = false := by
          have z2 : ¬ (z.length : Int) < 41 := by simpa using e2
          unfold figB
          rw [decide_eq_false (show ¬ (z.length : Int) ≤ 40 from by omega)]
          simp
        rw [e3] at q
        exact q _ .refl
    · have e3 : figB z = false := by
        have z2 : ¬ (0 : Int) < (z.length : Int) := by simpa using e1
        unfold figB
        rw [decide_eq_false (show ¬ 1 ≤ (z.length : Int) from by omega)]
        simp
      rw [e3] at q
      exact ⟨_, rfl, q _ .refl⟩
end
end K75

namespace K75
open PySem PySem.Spec PyProof.Rows L2 XB LamX
section
variable {P : Program} {w : World} {K : PySem.W.Frag} {mg : Str → Option Value} {base : Heap}
/-! ### line by line -/
section
variable {rd : List Str → Sum Nat (PyData × Nat)} {rows : List (List Str)} {ds : List PyData} {j i : Nat} {d : PyData}
theorem readM_next (hj : j < rows.length) : readM rd j (rows.drop j) = match lineM rd rows[j] with
    | .inl i => .inl (j, i)
    | .inr d => match readM rd (j + 1) (rows.drop (j + 1)) with
      | .inl e => .inl e
      | .inr ds => .inr (d :: ds) := by
  rw [List.drop_eq_getElem_cons hj]
  rfl
theorem readM_bad (h : readM rd 0 rows = cont ds (readM rd j (rows.drop j))) (hj : j < rows.length) (e : lineM rd rows[j] = .inl i) : readM rd 0 rows = .inl (j, i) := by
  rw [h, readM_next hj, e]
  rfl
theorem readM_ok (h : readM rd 0 rows = cont ds (readM rd j (rows.drop j))) (hj : j < rows.length) (e : lineM rd rows[j] = .inr d) : readM rd 0 rows = cont (ds ++ [d]) (readM rd (j + 1) (rows.drop (j + 1))) := by
  rw [h, readM_next hj, e]
  show cont ds (match readM rd (j + 1) (rows.drop (j + 1)) with | .inl e => .inl e | .inr ds => .inr (d :: ds)) = _
  cases readM rd (j + 1) (rows.drop (j + 1)) with
  | inl e => rfl
  | inr ds' =>
    show Sum.inr (ds ++ (d :: ds')) = Sum.inr ((ds ++ [d]) ++ ds')
    rw [List.append_assoc]
    rfl
theorem readM_end (h : readM rd 0 rows = cont ds (readM rd rows.length (rows.drop rows.length))) : readM rd 0 rows = .inr ds := by
  rw [h, List.drop_length]
  show Sum.inr (ds ++ []) = _
  rw [List.append_nil]
theorem readM_start : readM rd 0 rows = cont [] (readM rd 0 (rows.drop 0)) := by
  rw [List.drop_zero]
  cases readM rd 0 rows <;> rfl
end
/-- rows of words that the law's own readers are given -/
structure RowsA (rows : List (List Str)) : Prop where
  rd : RdB rows
  len : rows.length ≤ 16777214
  ne : ∀ r ∈ rows, r ≠ []
  asc : ∀ r ∈ rows, ∀ x ∈ r, Asc x
theorem rows_get {H : Hp} {r : Addr} {rows : List (List Str)} (h : Dp K H (.ref r) (rowsD rows)) : ∃ xs, SqL K H r xs ∧ xs.length = rows.length ∧ ∀ j x, xs[j]? = some x → ∃ (q : Addr) (hj : j < rows.length), x = .ref q ∧ SqL K H q (rows[j].map V.str) := by
  cases h with
  | @lst _ xs _ hs ha =>
    refine ⟨xs, hs, by rw [dps_len ha, List.length_map], fun j x e => ?_⟩
    obtain ⟨d, ed, hd⟩ := dps_at ha e
    rw [List.getElem?_map] at ed
    cases er : rows[j]? with
    | none =>
      rw [er] at ed
      cases ed
    | some row =>
      rw [er] at ed
      obtain ⟨hj, er2⟩ := List.getElem?_eq_some_iff.mp er
      cases ed
      cases hd with
      | @lst q ys _ hq hy =>
        refine ⟨q, hj, rfl, ?_⟩
        rw [er2, ← dps_str hy]
        exact hq
theorem filt_none {r : List Str} (h : ((List.range r.length).filter fun j => !figB (r.getD j "")) = []) : r.findIdx? (fun z => !figB z) = none := by
  rw [List.findIdx?_eq_none_iff]
  intro z hz
  obtain ⟨i, hi, e⟩ := List.getElem_of_mem hz
  have := List.filter_eq_nil_iff.mp h i (by simpa using hi)
  rw [List.getD_eq_getElem?_getD, List.getElem?_eq_getElem hi, Option.getD_some, e] at this
  simpa using this
theorem filt_some {r : List Str} {k : Nat} {ks : List Nat} (h : ((List.range r.length).filter fun j => !figB (r.getD j "")) = k :: ks) : r.findIdx? (fun z => !figB z) = some k := by
  have h1 : (List.range r.length).find? (fun j => !figB (r.getD j "")) = some k := by
    rw [← List.head?_filter, h]
    rfl
  obtain ⟨h2, h3, h4⟩ := List.find?_range_eq_some.mp h1
  have hk : k < r.length := by simpa using h3
  rw [List.findIdx?_eq_some_iff_getElem]
  refine ⟨hk, ?_, fun j hj => ?_⟩
  · rw [List.getD_eq_getElem?_getD, List.getElem?_eq_getElem hk, Option.getD_some] at h2
    exact h2
  · have h5 := h4 j hj
    rw [List.getD_eq_getElem?_getD, List.getElem?_eq_getElem (by omega), Option.getD_some] at h5
    simpa using h5
def sp__law_log_read (K : PySem.W.Frag) : Sp := fun vs H Q _ => ∃ (r : Addr) (rows : List (List Str)), vs = [.ref r] ∧ Dp K H (.ref r) (rowsD rows) ∧ RowsA rows ∧
  (∀ ln i, readM rdFd 0 rows = .inl (ln, i) → ∀ v H', Kt (TL K) [] H H' → Dp K H' v (hText ln i) → Q v H') ∧ (∀ ds, readM rdFd 0 rows = .inr ds → ∀ v H', Kt (TL K) [] H H' → Dp K H' v (.tuple [.str "log", .list ds]) → Q v H')
theorem cal__law_log_read (B : BX P K mg base) : CalA P w K mg base 2 (He.ga K "_law_log_read") (sp__law_log_read K) := by
  have T := B.T
  have c__law_is_fig := (cal__law_is_fig (P := P) (w := w) (base := base) B).cal T.g__law_is_fig
  obtain ⟨fd, F⟩ := T.f__law_log_read
  refine ⟨fd, p__law_log_read, F.ok sc__law_log_read (fun vs H Q E h => ?_) (fun cdv A outer s H vs Q E hr h => ?_), F.kp, (F.bindsN (ps := p__law_log_read) fun _ _ _ _ _ _ us hl => match us, hl with | [_], _ => rfl)⟩
  · obtain ⟨r, rows, rfl, _⟩ := h
    rfl
  · obtain ⟨r, rows, rfl, hrw, ra, qn, qy⟩ := h
    refine ⟨_, (pss_cons (ps_set (i := 1) sc__law_log_read.nd rfl (by first | exact Or.inl rfl | exact Or.inr rfl) (pe_lst pa_nil))
 (pss_cons (ps_for poX rfl (pi_enum (by rfl) T.b_enumerate (pa_cons (pv 0) pa_nil)) (pg_tup rfl (pgs_cons (pg_name (i := 2) sc__law_log_read.nd rfl (by first | exact Or.inl rfl | exact Or.inr rfl)) (pgs_cons (pg_name (i := 3) sc__law_log_read.nd rfl (by first | exact Or.inl rfl | exact Or.inr rfl)) pgs_nil)))
 (pss_cons (ps_if (pt_cmpR op_eq (pe_ix ix_list (pv 3) pe_int (fun _ _ => rfl)) pe_str (nomark _))
 (pss_cons (ps_if (pt_cmpR op_gt (pe_callB call_len_seq (by rfl) T.b_len (by decide +kernel) (pa_cons (pv 3) pa_nil)) pe_int (nomark _))
 (pss_one (ps_ret (pe_tup (pa_cons pe_str (pa_cons (pv 2) (pa_cons pe_int pa_nil))))))
 pss_nil)
 (pss_cons (ps_expr (pe_bm PySem.F.plainAttrs_list PySem.F.slot_list_append PySem.F.type_list_append mt_append (pv 1) (pa_cons (pe_tup pa_nil) pa_nil)))
 (pss_one ps_continue)))
 pss_nil)
 (pss_cons (ps_setLc (i := 4) (own := [("at", 5), ("word", 6)]) (g := gTup K 2 (gCons (gName 5) (gCons (gName 6) gNil))) rfl sc__law_log_read.nd rfl rfl (sw_true rfl rfl rfl (by decide +kernel)) (pi_enum (by rfl) T.b_enumerate (pa_cons (pv 3) pa_nil)) (blkOk_by (own := [("at", 5), ("word", 6)]) (N := n__law_log_read) (sc := defScope s__law_log_read) (by decide +kernel)) (fun _ _ _ _ _ => (pg_tup rfl (pgs_cons (pg_name (i := 5) sc__law_log_read.nd rfl (by first | exact Or.inl rfl | exact Or.inr rfl)) (pgs_cons (pg_name (i := 6) sc__law_log_read.nd rfl (by first | exact Or.inl rfl | exact Or.inr rfl)) pgs_nil)))) (fun _ _ _ _ _ => (pts_one (pt_not (pt_val (pe_c (c__law_is_fig.mono (by first | decide | omega)) hr passL rfl (pa_cons (pv 6) pa_nil)))))) (fun _ _ _ _ _ => (pv 5)))
 (pss_cons (ps_if (pt_cmpR (op_neD hr.units) (pv 4) (pe_lst pa_nil) (nomark _))
 (pss_one (ps_ret (pe_tup (pa_cons pe_str (pa_cons (pv 2) (pa_cons (pe_ix ix_list (pv 4) pe_int (fun _ _ => rfl)) pa_nil))))))
 pss_nil)
 (pss_one (ps_expr (pe_bm PySem.F.plainAttrs_list PySem.F.slot_list_append PySem.F.type_list_append mt_append (pv 1) (pa_cons (pe_callTy call_tuple_of (by rfl) T.b_tuple (by decide +kernel) (pa_cons (pe_lc (own := [("word", 6)]) (g := gName 6) rfl sc__law_log_read.nd (pi_list (pv 3)) (blkOk_by (own := [("word", 6)]) (N := n__law_log_read) (sc := defScope s__law_log_read) (by decide +kernel)) (fun _ _ _ _ _ => (pg_name (i := 6) sc__law_log_read.nd rfl (by first | exact Or.inl rfl | exact Or.inr rfl))) (fun _ _ _ _ _ => pts_nil) (fun _ _ _ _ _ => (pe_callTy call_int_str (by rfl) T.b_int (by decide +kernel) (pa_cons (pv 6) pa_nil)))) pa_nil)) pa_nil))))))))
 (pss_one (ps_ret (pe_tup (pa_cons pe_str (pa_cons (pv 1) pa_nil))))))), ?_⟩
    obtain ⟨xs, hs, hxl, hrow⟩ := rows_get hrw
    have hlen := ra.len
    refine ⟨Nat.le_of_lt (line5 (by simp)), fun D hD => ?_⟩
    refine ⟨_, rfl, r, xs, rfl, sqL_kp .nil (Kp.refl.new hD) hs, for_it (walk_enum (K := K) (a := r) (xs := xs)) (fun i σ H3 => ∃ o2 o3 o4 acc ds, σ = [some (.ref r), some (.ref D), o2, o3, o4, none, none] ∧ readM rdFd 0 rows = cont ds (readM rdFd i (rows.drop i)) ∧ H3 D = some (.lst acc) ∧ DpAll K H3 acc ds ∧ acc.length = i ∧ noLis ds = true ∧ Kt (TL K) [] H H3)
      ⟨none, none, none, [], [], rfl, readM_start, upd_same, .nil, rfl, rfl, Kt.refl.new hD⟩ (fun i σ H3 _ p => ?_) ?_ ?_⟩
    · obtain ⟨_, _, _, _, _, _, _, _, _, _, _, k3⟩ := p
      exact sqL_kp .nil k3.k hs
    · rintro i x σ H3 H4 hi ⟨o2, o3, o4, acc, ds, rfl, hm, hd3, hds, hal, hnl, k3⟩ ⟨Tp, x1, x2, rfl, hT0, rfl, e1, e2⟩
      cases e1
      obtain ⟨q, hj, rfl, hq⟩ := hrow i x2 e2
      have k4 : Kt (TL K) [] H (upd H3 Tp (.tup [.int (i : Nat), .ref q])) := k3.new hT0
      have hd4 : (upd H3 Tp (.tup [.int (i : Nat), .ref q])) D = some (.lst acc) := by rw [upd_ne (ne_of_none hd3 hT0)]; exact hd3
      have hds4 : DpAll K (upd H3 Tp (.tup [.int (i : Nat), .ref q])) acc ds := dps_kp .nil (Kp.refl.new hT0) hds
      have hq4 : SqL K (upd H3 Tp (.tup [.int (i : Nat), .ref q])) q (rows[i].map V.str) := sqL_kp .nil k4.k hq
      refine ⟨Tp, _, rfl, .inl (.of upd_same), rfl, _, _, rfl, _, _, rfl, rfl, ?_⟩
      generalize upd H3 Tp (.tup [.int (i : Nat), .ref q]) = H4 at k4 hd4 hds4 hq4 ⊢
      have hmem : rows[i] ∈ rows := List.getElem_mem hj
      have hne := ra.ne _ hmem
      have hasc := ra.asc _ hmem
      have hwl := ra.rd.word _ hmem
      have hrl := ra.rd.len _ hmem
      generalize hr0 : rows[i] = r0 at hq4 hne hasc hwl hrl
      have h0 : 0 < r0.length := List.length_pos_iff.mpr hne
      have ax : atI (r0.map V.str) 0 = some (.str r0[0]) := by
        rw [at0 (l := r0.map V.str) (by simpa using h0), List.getElem_map]
      have line : ∀ {u : Sum Nat PyData}, lineM rdFd r0 = u → lineM rdFd rows[i] = u := fun h => by rw [hr0]; exact h
      refine ⟨_, rfl, q, _, 0, _, rfl, rfl, hq4, ax, rfl, _, rfl, ite2 (fun e3 => ?_) (fun e3 => ?_)⟩
      · have hz : r0[0]? = some ("-" : Str) := by
          rw [List.getElem?_eq_getElem h0]
          exact congrArg some (V.str.inj (of_decide_eq_true e3))
        have hrd : rdFd r0 = .inr (intsD [], 1) := by
          unfold rdFd rdF
          rw [if_pos hz]
        refine ⟨_, rfl, q, _, rfl, .inl hq4, _, _, rfl, rfl, _, rfl, ite2 (fun e4 => ?_) (fun e4 => ?_)⟩
        · have h1 : 1 < r0.length := by
            have : (1 : Int) < ((r0.map V.str).length : Int) := by simpa using e4
            rw [List.length_map] at this
            omega
          refine ⟨_, rfl, Nat.le_of_lt (line5 (by simp)), fun t ht => qn i 1 (readM_bad hm hj (line ?_)) _ _ (k4.new ht) (.tup (.of upd_same) (.cons (.str _) (.cons (.int _) (.cons (.int _) .nil))))⟩
          unfold lineM
          rw [hrd]
          show (if 1 < r0.length then _ else _) = _
          rw [if_pos h1]
        · have h1 : ¬ 1 < r0.length := by
            have : ¬ (1 : Int) < ((r0.map V.str).length : Int) := by simpa using e4
            rw [List.length_map] at this
            omega
          have hl : lineM rdFd r0 = .inr (intsD []) := by
            unfold lineM
            rw [hrd]
            show (if 1 < r0.length then _ else _) = _
            rw [if_neg h1]
          refine ⟨_, rfl, .inl ⟨rfl, _, .of hd4⟩, Nat.le_of_lt (line5 (by simp)), fun te hte => ?_⟩
          have k5 := k4.new (o := .tup []) hte
          have hd5 : (upd H4 te (.tup [])) D = some (.lst acc) := by rw [upd_ne (ne_of_none hd4 hte)]; exact hd4
          refine ⟨D, acc, _, rfl, rfl, hd5, by rw [hal, sizeLine_eq]; omega, ?_⟩
          refine ⟨_, _, _, _, _, rfl, readM_ok hm hj (line hl), upd_same, dat_add (F := fun _ => intsD []) (i := 0) hd5 (dps_kp .nil (Kp.refl.new hte) hds4) hnl (.tup (.of upd_same) .nil) rfl, by simp [hal], noLis_snoc hnl rfl, k5.mutNew hD hd5 soft_lst⟩
      · have hz : ¬ r0[0]? = some ("-" : Str) := by
          rw [List.getElem?_eq_getElem h0]
          intro z0
          have : ¬ V.str r0[0] = V.str "-" := by simpa using e3
          exact this (by rw [Option.some.inj z0])
        have getz : ∀ {j : Nat} {y : V}, (r0.map V.str)[j]? = some y → ∃ hj : j < r0.length, y = .str r0[j] := fun {j y} f => by
          rw [List.getElem?_map] at f
          cases e : r0[j]? with
          | none =>
            rw [e] at f
            cases f
          | some z =>
            rw [e] at f
            cases f
            obtain ⟨hj, e9⟩ := List.getElem?_eq_some_iff.mp e
            exact ⟨hj, by rw [e9]⟩
        have gD : ∀ {j : Nat} (hj : j < r0.length), r0.getD j "" = r0[j] := fun {j} hj => by
          rw [List.getD_eq_getElem?_getD, List.getElem?_eq_getElem hj]
          rfl
        refine ⟨_, rfl, q, _, rfl, hq4, fun W hW => lc_it (walk_enum (K := K) (a := q) (xs := r0.map V.str)) (FiltP (TL K) [] H4 W (fun j => V.int (j : Nat)) (fun j => !figB (r0.getD j ""))) (filt_0 hW) (fun j H5 _ p => sqL_kp .nil p.k.k hq4) ?_ ?_⟩
        · rintro j x H5 H6 hj2 p ⟨Tj, y1, y2, rfl, hTj, rfl, f1, f2⟩
          cases f1
          obtain ⟨hjr, rfl⟩ := getz f2
          have hmz : r0[j] ∈ r0 := List.getElem_mem hjr
          refine ⟨Tj, _, rfl, .inl (.of upd_same), rfl, _, _, rfl, _, _, rfl, rfl, rfl, ?_⟩
          refine ⟨_, rfl, r0[j], rfl, hwl _ hmz, hasc _ hmz, fun H7 k7 => ⟨_, rfl, ite2 (fun e5 => ?_) (fun e5 => ?_)⟩⟩
          · refine ⟨_, rfl, filt_yes p ((Kt.refl.new hTj).trans k7) .nil hW (Nat.lt_of_lt_of_le hjr (line_le hrl)) ?_ rfl⟩
            show (!figB (r0.getD j "")) = true
            rw [gD hjr]
            exact e5
          · refine filt_no p ((Kt.refl.new hTj).trans k7) .nil hW ?_
            show (!figB (r0.getD j "")) = false
            rw [gD hjr]
            exact Bool.eq_false_iff.mpr e5
        · intro H5 p5
          rw [List.length_map] at p5
          have k5 := k4.trans p5.k
          have hd5 := p5.k.k _ _ hd4 (by simp) (by intro _ z; cases z)
          have hds5 := dps_kp (K := K) .nil p5.k.k hds4
          have hq5 := sqL_kp (K := K) .nil p5.k.k hq4
          refine ⟨_, rfl, Nat.le_of_lt (line5 (by simp)), fun L hL => ?_⟩
          have k6 := k5.new (o := .lst []) hL
          have k56 : Kt (TL K) [] H5 (upd H5 L (.lst [])) := Kt.refl.new hL
          have hd6 := k56.k _ _ hd5 (by simp) (by intro _ z; cases z)
          have hds6 := dps_kp (K := K) .nil k56.k hds5
          have hq6 := sqL_kp (K := K) .nil k56.k hq5
          have hw6 := k56.k _ _ p5.d (by simp) (by intro _ z; cases z)
          have dw : Dp K (upd H5 L (.lst [])) (.ref W) (.list (((List.range r0.length).filter fun j => !figB (r0.getD j "")).map fun j => .int (j : Nat))) := by
            refine .lst (.of hw6) ?_
            have := dps_ints (K := K) (H := upd H5 L (.lst [])) (((List.range r0.length).filter fun j => !figB (r0.getD j "")).map fun j => ((j : Nat) : Int))
            rw [List.map_map, List.map_map] at this
            exact this
          have dl : Dp K (upd H5 L (.lst [])) (.ref L) (.list []) := .lst (.of upd_same) .nil
          generalize upd H5 L (.lst []) = H6 at k6 hd6 hds6 hq6 hw6 dw dl ⊢
          refine ⟨_, _, dw, dl, (Shp.lst (n := 0) fun d hd => by obtain ⟨i, _, rfl⟩ := List.mem_map.mp hd; exact .int).ok (by decide), by decide +kernel, _, rfl, ite2 (fun e5 => ?_) (fun e5 => ?_)⟩
          · cases hf : (List.range r0.length).filter fun j => !figB (r0.getD j "") with
            | nil =>
              rw [hf] at e5
              exact absurd e5 (by decide)
            | cons k ks =>
              have e6 : rdFd r0 = .inl k := by
                unfold rdFd rdF
                rw [if_neg hz, filt_some hf]
              have e7 : lineM rdFd r0 = .inl k := by
                unfold lineM
                rw [e6]
              rw [hf] at hw6
              refine ⟨_, rfl, _, rfl, W, _, 0, .int (k : Nat), rfl, rfl, .of hw6, by rw [List.map_cons]; exact at0 (by simp), Nat.le_of_lt (line5 (by simp)), fun t ht => qn i k (readM_bad hm hj (line e7)) _ _ (k6.new ht) (.tup (.of upd_same) (.cons (.str _) (.cons (.int _) (.cons (.int _) .nil))))⟩
          · have hf : ((List.range r0.length).filter fun j => !figB (r0.getD j "")) = [] := by
              cases hf : (List.range r0.length).filter fun j => !figB (r0.getD j "") with
              | nil => rfl
              | cons k ks =>
                rw [hf] at e5
                exact absurd rfl e5
            have hnone := filt_none hf
            have hall : ∀ j (hj : j < r0.length), figB r0[j] = true := fun j hj => by
              have := List.findIdx?_eq_none_iff.mp hnone r0[j] (List.getElem_mem hj)
              simpa using this
            have e6 : rdFd r0 = .inr (intsD (r0.map numW), r0.length) := by
              have e9 : rdF r0 = .inr (r0.map numW, r0.length) := by
                unfold rdF
                rw [if_neg hz, hnone]
                exact if_neg hne
              unfold rdFd
              rw [e9]
            have e7 : lineM rdFd r0 = .inr (intsD (r0.map numW)) := by
              unfold lineM
              rw [e6]
              show (if r0.length < r0.length then _ else _) = _
              rw [if_neg (Nat.lt_irrefl _)]
            refine ⟨_, rfl, .inl ⟨rfl, _, .of hd6⟩, _, rfl, q, rfl, ⟨_, hq6⟩, fun M hM => lc_it (walk_list (K := K) (a := q) (xs := r0.map V.str)) (FlatP (TL K) [] H6 M fun j => V.int (numW (r0.getD j ""))) (flat_0 hM) (fun j H7 _ p => sqL_kp .nil p.k.k hq6) ?_ ?_⟩
            · rintro j x H7 H8 hj2 p ⟨rfl, hx⟩
              obtain ⟨hjr, rfl⟩ := getz hx
              have hf1 := hall j hjr
              refine ⟨rfl, yes_if ⟨_, rfl, r0[j], numW r0[j], rfl, fig_int hf1, by have := fig_len hf1; omega, flat_step p .refl .nil hM (Nat.lt_of_lt_of_le hjr (line_le hrl)) ?_⟩⟩
              rw [gD hjr]
            · intro H7 p7
              have eM : H7 M = some (.lst ((r0.map numW).map V.int)) := by
                have e8 := p7.d
                rw [List.length_map, map_range_getD r0 "" (fun z => V.int (numW z))] at e8
                rw [e8, List.map_map]
                rfl
              have k7 := k6.trans p7.k
              have hd7 := p7.k.k _ _ hd6 (by simp) (by intro _ z; cases z)
              have hds7 := dps_kp (K := K) .nil p7.k.k hds6
              refine ⟨M, _, rfl, .inl ⟨.of eM, fun l hl => ?_⟩⟩
              have k8 := k7.new (o := .tup ((r0.map numW).map V.int)) hl
              have k78 : Kt (TL K) [] H7 (upd H7 l (.tup ((r0.map numW).map V.int))) := Kt.refl.new hl
              have hd8 := k78.k _ _ hd7 (by simp) (by intro _ z; cases z)
              have hds8 := dps_kp (K := K) .nil k78.k hds7
              refine ⟨D, acc, _, rfl, rfl, hd8, by rw [hal, sizeLine_eq]; omega, ?_⟩
              refine ⟨_, _, _, _, _, rfl, readM_ok hm hj (line e7), upd_same, dat_add (F := fun _ => intsD (r0.map numW)) (i := 0) hd8 hds8 hnl (.tup (.of upd_same) (dps_ints _)) (noLi_ints _), by simp [hal], noLis_snoc hnl (noLi_ints _), k8.mutNew hD hd8 soft_lst⟩
    · rintro σ H3 ⟨o2, o3, o4, acc, ds, rfl, hm, hd3, hds, hal, hnl, k3⟩
      rw [hxl] at hm
      refine ⟨_, rfl, Nat.le_of_lt (line5 (by simp)), fun t ht => qy ds (readM_end hm) _ _ (k3.new ht) (.tup (.of upd_same) (.cons (.str _) (.cons (.lst (.of ?_) (dps_kp .nil (Kp.refl.new ht) hds)) .nil)))⟩
      rw [upd_ne (ne_of_none hd3 ht)]
      exact hd3
end
end K75

namespace K75
open PySem PySem.Spec PyProof.Rows L2 XB LamX
section
variable {P : Program} {w : World} {K : PySem.W.Frag} {mg : Str → Option Value} {base : Heap}
/-! ### the first word of a step's line that cannot stand -/
def manyS (r : List Str) : Nat := if r.getD 0 "" = "do" then 3 else 4
def badS (r : List Str) (k : Nat) : Bool := decide (r.length ≤ k) || (decide (manyS r ≤ k) || !figB (r.getD k ""))
def headS (r : List Str) : Bool := decide (r.getD 0 "" = "do") || decide (r.getD 0 "" = "come")
theorem figO_good {r : List Str} {k : Nat} (h : badS r k = false) : figO r[k]? = true ∧ k < r.length ∧ k < manyS r := by
  unfold badS at h
  simp only [Bool.or_eq_false_iff, decide_eq_false_iff_not, Bool.not_eq_false'] at h
  obtain ⟨h1, h2, h3⟩ := h
  have hk : k < r.length := by omega
  refine ⟨?_, hk, by omega⟩
  rw [List.getD_eq_getElem?_getD, List.getElem?_eq_getElem hk, Option.getD_some] at h3
  rw [List.getElem?_eq_getElem hk]
  exact h3
theorem figO_bad {r : List Str} {k : Nat} (h : badS r k = true) (hk : k < manyS r) : figO r[k]? = false := by
  unfold badS at h
  rcases Nat.lt_or_ge k r.length with hl | hl
  · rw [decide_eq_false (show ¬ r.length ≤ k from by omega), decide_eq_false (show ¬ manyS r ≤ k from by omega), Bool.false_or, Bool.false_or, List.getD_eq_getElem?_getD, List.getElem?_eq_getElem hl, Option.getD_some] at h
    rw [List.getElem?_eq_getElem hl]
    show figB r[k] = false
    simpa using h
  · rw [List.getElem?_eq_none hl]
    rfl
theorem rdS_head {r : List Str} {x : Str} (h0 : r[0]? = some x) : rdS r = if (decide (x = "do") || decide (x = "come")) = true then
      (if figO r[1]? = false then .inl 1 else if figO r[2]? = false then .inl 2 else if x = "do" then .inr ((x, [numA r 1, numA r 2]), 3) else if figO r[3]? = false then .inl 3 else .inr ((x, [numA r 1, numA r 2, numA r 3]), 4))
    else .inl 0 := by
  unfold rdS
  rw [h0]
theorem lineM_inl {r : List Str} {i : Nat} (h : rdS r = .inl i) : lineM rdSd r = .inl i := by
  unfold lineM rdSd
  rw [h]
theorem lineM_inr {r : List Str} {s : Stp} {n : Nat} (h : rdS r = .inr (s, n)) : lineM rdSd r = if n < r.length then .inl n else .inr (stpD s) := by
  unfold lineM rdSd
  rw [h]
theorem line_head {r : List Str} (hne : r ≠ []) (h : headS r = false) : lineM rdSd r = .inl 0 := by
  cases r with
  | nil => exact absurd rfl hne
  | cons x t =>
    refine lineM_inl ?_
    rw [rdS_head (x := x) rfl]
    have : (decide (x = "do") || decide (x = "come")) = false := h
    rw [this, if_neg Bool.false_ne_true]
theorem line_bad {r : List Str} {k : Nat} (hne : r ≠ []) (hh : headS r = true) (h1 : 1 ≤ k) (hk : k < max (manyS r) r.length) (hg : ∀ j, 1 ≤ j → j < k → badS r j = false) (hb : badS r k = true) : lineM rdSd r = .inl k := by
  cases r with
  | nil => exact absurd rfl hne
  | cons x t =>
    have hh2 : (decide (x = "do") || decide (x = "come")) = true := hh
    have e := rdS_head (r := x :: t) (x := x) rfl
    rw [hh2, if_pos rfl] at e
    have em : manyS (x :: t) = if x = "do" then 3 else 4 := rfl
    generalize x :: t = r at hk hg hb e em ⊢
    have g1 : ∀ j, 1 ≤ j → j < k → ¬ figO r[j]? = false := fun j a b => by
      rw [(figO_good (hg j a b)).1]
      simp
    have gm : ∀ j, 1 ≤ j → j < k → j < manyS r := fun j a b => (figO_good (hg j a b)).2.2
    by_cases hx : x = "do"
    · rw [if_pos hx] at em
      rw [if_pos hx] at e
      rcases (by omega : k = 1 ∨ k = 2 ∨ k = 3 ∨ 4 ≤ k) with rfl | rfl | rfl | h4
      · rw [if_pos (figO_bad hb (by omega))] at e
        exact lineM_inl e
      · rw [if_neg (g1 1 (by omega) (by omega)), if_pos (figO_bad hb (by omega))] at e
        exact lineM_inl e
      · rw [if_neg (g1 1 (by omega) (by omega)), if_neg (g1 2 (by omega) (by omega))] at e
        rw [lineM_inr e, if_pos (by omega)]
      · have := gm 3 (by omega) (by omega)
        omega
    · rw [if_neg hx] at em
      rw [if_neg hx] at e
      rcases (by omega : k = 1 ∨ k = 2 ∨ k = 3 ∨ k = 4 ∨ 5 ≤ k) with rfl | rfl | rfl | rfl | h4
      · rw [if_pos (figO_bad hb (by omega))] at e
        exact lineM_inl e
      · rw [if_neg (g1 1 (by omega) (by omega)), if_pos (figO_bad hb (by omega))] at e
        exact lineM_inl e
      · rw [if_neg (g1 1 (by omega) (by omega)), if_neg (g1 2 (by omega) (by omega)), if_pos (figO_bad hb (by omega))] at e
        exact lineM_inl e
      · rw [if_neg (g1 1 (by omega) (by omega)), if_neg (g1 2 (by omega) (by omega)), if_neg (g1 3 (by omega) (by omega))] at e
        rw [lineM_inr e, if_pos (by omega)]
      · have := gm 4 (by omega) (by omega)
        omega
theorem line_ok {r : List Str} (hne : r ≠ []) (hh : headS r = true) (hg : ∀ j, 1 ≤ j → j < max (manyS r) r.length → badS r j = false) : lineM rdSd r = .inr (stpD (r.getD 0 "", (r.drop 1).map numW)) ∧ (∀ z ∈ r.drop 1, figB z = true) := by
  cases r with
  | nil => exact absurd rfl hne
  | cons x t =>
    have hh2 : (decide (x = "do") || decide (x = "come")) = true := hh
    have e := rdS_head (r := x :: t) (x := x) rfl
    rw [hh2, if_pos rfl] at e
    have em : manyS (x :: t) = if x = "do" then 3 else 4 := rfl
    have m3 : 3 ≤ manyS (x :: t) ∧ manyS (x :: t) ≤ 4 := by
      rw [em]
      split <;> omega
    have g1 : ∀ j, 1 ≤ j → j < max (manyS (x :: t)) (x :: t).length → ¬ figO (x :: t)[j]? = false := fun j a b => by
      rw [(figO_good (hg j a b)).1]
      simp
    have hl : (x :: t).length = manyS (x :: t) := by
      rcases Nat.lt_trichotomy (x :: t).length (manyS (x :: t)) with h | h | h
      · have h0 : 1 ≤ (x :: t).length := by simp
        have := (figO_good (hg (x :: t).length h0 (by omega))).2.1
        omega
      · exact h
      · have := (figO_good (hg (manyS (x :: t)) (by omega) (by omega))).2.2
        omega
    refine ⟨?_, fun z hz => ?_⟩
    · by_cases hx : x = "do"
      · rw [if_pos hx] at em e
        rw [em] at hl
        rw [if_neg (g1 1 (by omega) (by omega)), if_neg (g1 2 (by omega) (by omega))] at e
        rw [lineM_inr e, if_neg (by omega)]
        match t, hl with
        | [a, b], _ => rfl
      · rw [if_neg hx] at em e
        rw [em] at hl
        rw [if_neg (g1 1 (by omega) (by omega)), if_neg (g1 2 (by omega) (by omega)), if_neg (g1 3 (by omega) (by omega))] at e
        rw [lineM_inr e, if_neg (by omega)]
        match t, hl with
        | [a, b, c], _ => rfl
    · obtain ⟨j, hj, e9⟩ := List.getElem_of_mem hz
      have hj2 : j + 1 < (x :: t).length := by
        have : j < t.length := hj
        simp
        omega
      have := (figO_good (hg (j + 1) (by omega) (by omega))).1
      rw [List.getElem?_eq_getElem hj2] at this
      have e8 : (x :: t)[j + 1] = z := e9
      rw [e8] at this
      exact this
def sp__law_steps_read (K : PySem.W.Frag) : Sp := fun vs H Q _ => ∃ (r : Addr) (rows : List (List Str)), vs = [.ref r] ∧ Dp K H (.ref r) (rowsD rows) ∧ RowsA rows ∧
  (∀ ln i, readM rdSd 0 rows = .inl (ln, i) → ∀ v H', Kt (TL K) [] H H' → Dp K H' v (hText ln i) → Q v H') ∧ (∀ ds, readM rdSd 0 rows = .inr ds → ∀ v H', Kt (TL K) [] H H' → Dp K H' v (.tuple [.str "steps", .tuple ds]) → Q v H')
theorem cal__law_steps_read (B : BX P K mg base) : CalA P w K mg base 2 (He.ga K "_law_steps_read") (sp__law_steps_read K) := by
  have T := B.T
  have c__law_is_fig := (cal__law_is_fig (P := P) (w := w) (base := base) B).cal T.g__law_is_fig
  obtain ⟨fd, F⟩ := T.f__law_steps_read
  refine ⟨fd, p__law_steps_read, F.ok sc__law_steps_read (fun vs H Q E h => ?_) (fun cdv A outer s H vs Q E hr h => ?_), F.kp, (F.bindsN (ps := p__law_steps_read) fun _ _ _ _ _ _ us hl => match us, hl with | [_], _ => rfl)⟩
  · obtain ⟨r, rows, rfl, _⟩ := h
    rfl
  · obtain ⟨r, rows, rfl, hrw, ra, qn, qy⟩ := h
    refine ⟨_, (pss_cons (ps_set (i := 1) sc__law_steps_read.nd rfl (by first | exact Or.inl rfl | exact Or.inr rfl) (pe_lst pa_nil))
 (pss_cons (ps_for poX rfl (pi_enum (by rfl) T.b_enumerate (pa_cons (pv 0) pa_nil)) (pg_tup rfl (pgs_cons (pg_name (i := 2) sc__law_steps_read.nd rfl (by first | exact Or.inl rfl | exact Or.inr rfl)) (pgs_cons (pg_name (i := 3) sc__law_steps_read.nd rfl (by first | exact Or.inl rfl | exact Or.inr rfl)) pgs_nil)))
 (pss_cons (ps_if (pt_cmpR op_notIn_seq (pe_ix ix_list (pv 3) pe_int (fun _ _ => rfl)) (pe_tup (pa_cons pe_str (pa_cons pe_str pa_nil))) (by rfl))
 (pss_one (ps_ret (pe_tup (pa_cons pe_str (pa_cons (pv 2) (pa_cons pe_int pa_nil))))))
 pss_nil)
 (pss_cons (ps_set (i := 4) sc__law_steps_read.nd rfl (by first | exact Or.inl rfl | exact Or.inr rfl) (pe_ifExp (pt_cmpR op_eq (pe_ix ix_list (pv 3) pe_int (fun _ _ => rfl)) pe_str (nomark _)) pe_int pe_int))
 (pss_cons (ps_for poX rfl (pi_range2 rfl T.b_range (pa_cons pe_int (pa_cons (pe_callB (call_max2 rfl) (by rfl) T.b_max (by decide +kernel) (pa_cons (pv 4) (pa_cons (pe_callB call_len_seq (by rfl) T.b_len (by decide +kernel) (pa_cons (pv 3) pa_nil)) pa_nil))) pa_nil))) (pg_name (i := 5) sc__law_steps_read.nd rfl (by first | exact Or.inl rfl | exact Or.inr rfl))
 (pss_one (ps_if (PW.pt (pw_or (pt_cmpR op_ge (pv 5) (pe_callB call_len_seq (by rfl) T.b_len (by decide +kernel) (pa_cons (pv 3) pa_nil)) (nomark _)) (pw_or (pt_cmpR op_ge (pv 5) (pv 4) (nomark _)) (pw_or1 (pt_not (pt_val (pe_c (c__law_is_fig.mono (by first | decide | omega)) hr pX rfl (pa_cons (pe_ix ix_list (pv 3) (pv 5) (fun _ _ => rfl)) pa_nil))))))))
 (pss_one (ps_ret (pe_tup (pa_cons pe_str (pa_cons (pv 2) (pa_cons (pv 5) pa_nil))))))
 pss_nil)))
 (pss_one (ps_expr (pe_bm PySem.F.plainAttrs_list PySem.F.slot_list_append PySem.F.type_list_append mt_append (pv 1) (pa_cons (pe_op op_catT (pe_tup (pa_cons (pe_ix ix_list (pv 3) pe_int (fun _ _ => rfl)) pa_nil)) (pe_callTy call_tuple_of (by rfl) T.b_tuple (by decide +kernel) (pa_cons (pe_lc (own := [("word", 6)]) (g := gName 6) rfl sc__law_steps_read.nd (pi_list (pe_slice sl_list (pv 3) (po_some pe_int) po_none)) (blkOk_by (own := [("word", 6)]) (N := n__law_steps_read) (sc := defScope s__law_steps_read) (by decide +kernel)) (fun _ _ _ _ _ => (pg_name (i := 6) sc__law_steps_read.nd rfl (by first | exact Or.inl rfl | exact Or.inr rfl))) (fun _ _ _ _ _ => pts_nil) (fun _ _ _ _ _ => (pe_callTy call_int_str (by rfl) T.b_int (by decide +kernel) (pa_cons (pv 6) pa_nil)))) pa_nil))) pa_nil))))))))
 (pss_one (ps_ret (pe_tup (pa_cons pe_str (pa_cons (pe_callTy call_tuple_of (by rfl) T.b_tuple (by decide +kernel) (pa_cons (pv 1) pa_nil)) pa_nil))))))), ?_⟩
    obtain ⟨xs, hs, hxl, hrow⟩ := rows_get hrw
    have hlen := ra.len
    refine ⟨Nat.le_of_lt (line5 (by simp)), fun D hD => ?_⟩
    refine ⟨_, rfl, r, xs, rfl, sqL_kp .nil (Kp.refl.new hD) hs, for_it (walk_enum (K := K) (a := r) (xs := xs)) (fun i σ H3 => ∃ o2 o3 o4 o5 acc ds, σ = [some (.ref r), some (.ref D), o2, o3, o4, o5, none] ∧ readM rdSd 0 rows = cont ds (readM rdSd i (rows.drop i)) ∧ H3 D = some (.lst acc) ∧ DpAll K H3 acc ds ∧ acc.length = i ∧ noLis ds = true ∧ Kt (TL K) [] H H3)
      ⟨none, none, none, none, [], [], rfl, readM_start, upd_same, .nil, rfl, rfl, Kt.refl.new hD⟩ (fun i σ H3 _ p => ?_) ?_ ?_⟩
    · obtain ⟨_, _, _, _, _, _, _, _, _, _, _, _, k3⟩ := p
      exact sqL_kp .nil k3.k hs
    · rintro i x σ H3 H4 hi ⟨o2, o3, o4, o5, acc, ds, rfl, hm, hd3, hds, hal, hnl, k3⟩ ⟨Tp, x1, x2, rfl, hT0, rfl, e1, e2⟩
      cases e1
      obtain ⟨q, hj, rfl, hq⟩ := hrow i x2 e2
      have k4 : Kt (TL K) [] H (upd H3 Tp (.tup [.int (i : Nat), .ref q])) := k3.new hT0
      have hd4 : (upd H3 Tp (.tup [.int (i : Nat), .ref q])) D = some (.lst acc) := by rw [upd_ne (ne_of_none hd3 hT0)]; exact hd3
      have hds4 : DpAll K (upd H3 Tp (.tup [.int (i : Nat), .ref q])) acc ds := dps_kp .nil (Kp.refl.new hT0) hds
      have hq4 : SqL K (upd H3 Tp (.tup [.int (i : Nat), .ref q])) q (rows[i].map V.str) := sqL_kp .nil k4.k hq
      refine ⟨Tp, _, rfl, .inl (.of upd_same), rfl, _, _, rfl, _, _, rfl, rfl, ?_⟩
      generalize upd H3 Tp (.tup [.int (i : Nat), .ref q]) = H4 at k4 hd4 hds4 hq4 ⊢
      have hmem : rows[i] ∈ rows := List.getElem_mem hj
      have hne := ra.ne _ hmem
      have hasc := ra.asc _ hmem
      have hwl := ra.rd.word _ hmem
      have hrl := ra.rd.len _ hmem
      generalize hr0 : rows[i] = r0 at hq4 hne hasc hwl hrl
      have h0 : 0 < r0.length := List.length_pos_iff.mpr hne
      have ax : atI (r0.map V.str) 0 = some (.str r0[0]) := by
        rw [at0 (l := r0.map V.str) (by simpa using h0), List.getElem_map]
      have line : ∀ {u : Sum Nat PyData}, lineM rdSd r0 = u → lineM rdSd rows[i] = u := fun h => by rw [hr0]; exact h
      have getz : ∀ {j : Nat} {y : V}, (r0.map V.str)[j]? = some y → ∃ hj : j < r0.length, y = .str r0[j] := fun {j y} f => by
        rw [List.getElem?_map] at f
        cases e : r0[j]? with
        | none =>
          rw [e] at f
          cases f
        | some z =>
          rw [e] at f
          cases f
          obtain ⟨hj, e9⟩ := List.getElem?_eq_some_iff.mp e
          exact ⟨hj, by rw [e9]⟩
      have gD : ∀ {j : Nat} (hj : j < r0.length), r0.getD j "" = r0[j] := fun {j} hj => by
        rw [List.getD_eq_getElem?_getD, List.getElem?_eq_getElem hj]
        rfl
      refine ⟨_, rfl, q, _, 0, _, rfl, rfl, hq4, ax, Nat.le_of_lt (line5 (by simp)), fun tp htp => ?_⟩
      have k5 := k4.new (o := .tup [V.str "do", V.str "come"]) htp
      have k45 : Kt (TL K) [] H4 (upd H4 tp (.tup [V.str "do", V.str "come"])) := Kt.refl.new htp
      have hd5 := k45.k _ _ hd4 (by simp) (by intro _ z; cases z)
      have hds5 := dps_kp (K := K) .nil k45.k hds4
      have hq5 := sqL_kp (K := K) .nil k45.k hq4
      have et : (upd H4 tp (.tup [V.str "do", V.str "come"])) tp = some (.tup [V.str "do", V.str "come"]) := upd_same
      generalize upd H4 tp (.tup [V.str "do", V.str "come"]) = H5 at k5 hd5 hds5 hq5 et ⊢
      refine ⟨tp, _, rfl, .inr (.of et), rfl, rfl, _, rfl, ?_⟩
      have eh : inV (.str r0[0]) [V.str "do", V.str "come"] = headS r0 := by
        rw [inV_two]
        unfold headS
        rw [gD h0]
      rw [eh]
      cases hh : headS r0 with
      | false =>
        refine it1 ⟨_, rfl, Nat.le_of_lt (line5 (by simp)), fun t ht => qn i 0 (readM_bad hm hj (line (line_head hne hh))) _ _ (k5.new ht) (.tup (.of upd_same) (.cons (.str _) (.cons (.int _) (.cons (.int _) .nil))))⟩
      | true =>
        refine it0 ?_
        have em : ∀ {R : V → Hp → Prop}, R (.int (manyS r0 : Nat)) H5 → (if decide (V.str r0[0] = V.str "do") = true then R (.int 3) H5 else R (.int 4) H5) := fun {R} h => by
          unfold manyS at h
          rw [gD h0] at h
          by_cases hx : r0[0] = "do"
          · rw [hx]
            rw [if_pos hx] at h
            exact it1 h
          · rw [if_neg hx] at h
            rw [decide_eq_false (fun z => hx (V.str.inj z))]
            exact it0 h
        refine ⟨_, rfl, q, _, 0, _, rfl, rfl, hq5, ax, rfl, _, rfl, em (R := fun v H => gName 4 v _ H _) ?_⟩
        have m34 : 3 ≤ manyS r0 ∧ manyS r0 ≤ 4 := by
          unfold manyS
          split <;> omega
        have emx : (if ((r0.map V.str).length : Int) > ((manyS r0 : Nat) : Int) then ((r0.map V.str).length : Int) else ((manyS r0 : Nat) : Int)) = ((max (manyS r0) r0.length : Nat) : Int) := by
          rw [List.length_map]
          split <;> omega
        refine ⟨_, rfl, _, rfl, q, _, rfl, .inl hq5, _, _, rfl, 1, ((max (manyS r0) r0.length : Nat) : Int), by rw [emx], ⟨by decide, by decide, by omega, by omega⟩, ?_⟩
        have hn0 : (((max (manyS r0) r0.length : Nat) : Int) - 1).toNat = max (manyS r0) r0.length - 1 := by omega
        rw [hn0]
        refine for_it (walk_range (lo := 1) (n := max (manyS r0) r0.length - 1)) (fun j σ H6 => ∃ o5, σ = [some (.ref r), some (.ref D), some (.int (i : Nat)), some (.ref q), some (.int (manyS r0 : Nat)), o5, none] ∧ Kt (TL K) [] H5 H6 ∧ ∀ l, 1 ≤ l → l < 1 + j → badS r0 l = false)
          ⟨_, rfl, .refl, fun l h1 h2 => by omega⟩ (fun _ _ _ _ _ => trivial) ?_ ?_
        · rintro j x σ H6 H7 hj2 ⟨o5', rfl, k6, hg⟩ ⟨rfl, rfl⟩
          have hat : (1 + ((j : Nat) : Int)) = ((1 + j : Nat) : Int) := by omega
          have hq6 := sqL_kp (K := K) .nil k6.k hq5
          have kk := k5.trans k6
          have ret : ∀ {H8 : Hp}, Kt (TL K) [] H H8 → badS r0 (1 + j) = true → ∀ t, H8 t = none → Q (.ref t) (upd H8 t (.tup [V.str "text", .int (i : Nat), .int (1 + ((j : Nat) : Int))])) := fun {H8} k8 hb t ht => by
            refine qn i (1 + j) (readM_bad hm hj (line (line_bad hne hh (by omega) (by omega) (fun l h1 h2 => hg l h1 h2) hb))) _ _ (k8.new ht) (.tup (.of upd_same) (.cons (.str _) (.cons (.int _) (.cons ?_ .nil))))
            rw [hat]
            exact .int _
          refine ⟨_, rfl, _, rfl, q, _, rfl, .inl hq6, _, _, rfl, rfl, _, rfl, ite2 (fun e5 => ?_) (fun e5 => ?_)⟩
          · have e6 : r0.length ≤ 1 + j := by
              have : ((r0.map V.str).length : Int) ≤ 1 + ((j : Nat) : Int) := of_decide_eq_true e5
              rw [List.length_map] at this
              omega
            refine it1 ⟨_, rfl, _, rfl, Nat.le_of_lt (line5 (by simp)), ret kk ?_⟩
            unfold badS
            rw [decide_eq_true e6, Bool.true_or]
          · have e6 : ¬ r0.length ≤ 1 + j := by
              have : ¬ ((r0.map V.str).length : Int) ≤ 1 + ((j : Nat) : Int) := fun z => e5 (decide_eq_true z)
              rw [List.length_map] at this
              omega
            refine ⟨_, rfl, _, rfl, _, _, rfl, rfl, _, rfl, ite2 (fun e7 => ?_) (fun e7 => ?_)⟩
            · have e8 : manyS r0 ≤ 1 + j := by
                have : ((manyS r0 : Nat) : Int) ≤ 1 + ((j : Nat) : Int) := of_decide_eq_true e7
                omega
              refine it1 ⟨_, rfl, _, rfl, Nat.le_of_lt (line5 (by simp)), ret kk ?_⟩
              unfold badS
              rw [decide_eq_true e8, Bool.true_or, Bool.or_true]
            · have e8 : ¬ manyS r0 ≤ 1 + j := by
                have : ¬ ((manyS r0 : Nat) : Int) ≤ 1 + ((j : Nat) : Int) := fun z => e7 (decide_eq_true z)
                omega
              have hl : 1 + j < r0.length := by omega
              have hmz : r0[1 + j] ∈ r0 := List.getElem_mem hl
              have eb : badS r0 (1 + j) = !figB r0[1 + j] := by
                unfold badS
                rw [decide_eq_false e6, decide_eq_false e8, Bool.false_or, Bool.false_or, gD hl]
              have ai : atI (r0.map V.str) (1 + ((j : Nat) : Int)) = some (.str r0[1 + j]) := by
                rw [hat]
                have := atN (l := r0.map V.str) (i := 1 + j) (by simpa using hl)
                rw [List.getElem_map] at this
                exact this
              refine ⟨_, rfl, _, rfl, q, _, _, _, rfl, rfl, hq6, ai, _, rfl, hwl _ hmz, hasc _ hmz, fun H8 k8 => ⟨_, rfl, ite2 (fun e9 => ?_) (fun e9 => ?_)⟩⟩
              · exact ⟨_, rfl, _, rfl, Nat.le_of_lt (line5 (by simp)), ret (kk.trans k8) (by rw [eb]; exact e9)⟩
              · refine ⟨_, rfl, k6.trans k8, fun l h1 h2 => ?_⟩
                by_cases hlj : l = 1 + j
                · rw [hlj, eb]
                  exact Bool.eq_false_iff.mpr e9
                · exact hg l h1 (by omega)
        · rintro σ H6 ⟨o5', rfl, k6, hg⟩
          obtain ⟨e7, hfig⟩ := line_ok hne hh (fun l h1 h2 => hg l h1 (by omega))
          have kk := k5.trans k6
          have hd6 := k6.k _ _ hd5 (by simp) (by intro _ z; cases z)
          have hds6 := dps_kp (K := K) .nil k6.k hds5
          have hq6 := sqL_kp (K := K) .nil k6.k hq5
          refine ⟨_, rfl, .inl ⟨rfl, _, .of hd6⟩, _, rfl, q, _, 0, _, rfl, rfl, hq6, ax, Nat.le_of_lt (line5 (by simp)), fun t1 ht1 => ?_⟩
          have k7 := kk.new (o := .tup [V.str r0[0]]) ht1
          have k67 : Kt (TL K) [] H6 (upd H6 t1 (.tup [V.str r0[0]])) := Kt.refl.new ht1
          have hd7 := k67.k _ _ hd6 (by simp) (by intro _ z; cases z)
          have hds7 := dps_kp (K := K) .nil k67.k hds6
          have hq7 := sqL_kp (K := K) .nil k67.k hq6
          have ht7 : SqT K (upd H6 t1 (.tup [V.str r0[0]])) t1 [V.str r0[0]] := .of upd_same
          generalize upd H6 t1 (.tup [V.str r0[0]]) = H7 at k7 hd7 hds7 hq7 ht7 ⊢
          refine ⟨_, rfl, _, rfl, q, _, rfl, hq7, fun sl hsl => ?_⟩
          have ecut : cutV (r0.map V.str) (some 1) none = (r0.drop 1).map V.str := by
            cases r0 with
            | nil => exact absurd rfl hne
            | cons x t => exact cut1 _ _
          rw [ecut]
          have k8 := k7.new (o := .lst ((r0.drop 1).map V.str)) hsl
          have k78 : Kt (TL K) [] H7 (upd H7 sl (.lst ((r0.drop 1).map V.str))) := Kt.refl.new hsl
          have hd8 := k78.k _ _ hd7 (by simp) (by intro _ z; cases z)
          have hds8 := dps_kp (K := K) .nil k78.k hds7
          have ht8 := sqT_kp (K := K) .nil k78.k ht7
          have hs8 : SqL K (upd H7 sl (.lst ((r0.drop 1).map V.str))) sl ((r0.drop 1).map V.str) := .of upd_same
          generalize upd H7 sl (.lst ((r0.drop 1).map V.str)) = H8 at k8 hd8 hds8 ht8 hs8 ⊢
          have hdl : (r0.drop 1).length ≤ 16777214 := by
            rw [List.length_drop]
            omega
          have hl2 : 3 ≤ r0.length := by
            rcases Nat.lt_or_ge r0.length 3 with h | h
            · have := (figO_good (hg r0.length (by omega) (by omega))).2.1
              omega
            · exact h
          have hd0 : 0 < (r0.drop 1).length := by
            rw [List.length_drop]
            omega
          generalize r0.drop 1 = rt at e7 hfig hs8 hdl hd0 ⊢
          refine ⟨sl, rfl, ⟨_, hs8⟩, fun M hM => lc_it (walk_list (K := K) (a := sl) (xs := rt.map V.str)) (FlatP (TL K) [] H8 M fun j => V.int (numW (rt.getD j ""))) (flat_0 hM) (fun j H9 _ p => sqL_kp .nil p.k.k hs8) ?_ ?_⟩
          · rintro j x H9 H10 hj2 p ⟨rfl, hx⟩
            have hjr : j < rt.length := by simpa using hj2
            rw [List.getElem?_map, List.getElem?_eq_getElem hjr] at hx
            cases hx
            have hf1 := hfig _ (List.getElem_mem hjr)
            refine ⟨rfl, yes_if ⟨_, rfl, rt[j], numW rt[j], rfl, fig_int hf1, by have := fig_len hf1; omega, flat_step p .refl .nil hM (Nat.lt_of_lt_of_le hjr (line_le hdl)) ?_⟩⟩
            rw [List.getD_eq_getElem?_getD, List.getElem?_eq_getElem hjr]
            rfl
          · intro H9 p9
            have eM : H9 M = some (.lst ((rt.map numW).map V.int)) := by
              have e8 := p9.d
              rw [List.length_map, map_range_getD rt "" (fun z => V.int (numW z))] at e8
              rw [e8, List.map_map]
              rfl
            have k9 := k8.trans p9.k
            have hd9 := p9.k.k _ _ hd8 (by simp) (by intro _ z; cases z)
            have hds9 := dps_kp (K := K) .nil p9.k.k hds8
            have ht9 := sqT_kp (K := K) .nil p9.k.k ht8
            refine ⟨M, _, rfl, .inl ⟨.of eM, fun l hl => ?_⟩⟩
            have k10 := k9.new (o := .tup ((rt.map numW).map V.int)) hl
            have k910 : Kt (TL K) [] H9 (upd H9 l (.tup ((rt.map numW).map V.int))) := Kt.refl.new hl
            have hd10 := k910.k _ _ hd9 (by simp) (by intro _ z; cases z)
            have hds10 := dps_kp (K := K) .nil k910.k hds9
            have ht10 := sqT_kp (K := K) .nil k910.k ht9
            refine ⟨t1, l, _, _, rfl, rfl, ht10, .of upd_same, by simp, by simp [sizeLine_eq]; omega, fun z => ?_, fun _ t2 ht2 => ?_⟩
            · rw [List.map_eq_nil_iff, List.map_eq_nil_iff] at z
              rw [z] at hd0
              exact absurd hd0 (Nat.lt_irrefl 0)
            · have k11 := k10.new (o := .tup ([V.str r0[0]] ++ (rt.map numW).map V.int)) ht2
              have k1011 : Kt (TL K) [] (upd H9 l (.tup ((rt.map numW).map V.int))) (upd (upd H9 l (.tup ((rt.map numW).map V.int))) t2 (.tup ([V.str r0[0]] ++ (rt.map numW).map V.int))) := Kt.refl.new ht2
              have hd11 := k1011.k _ _ hd10 (by simp) (by intro _ z; cases z)
              have hds11 := dps_kp (K := K) .nil k1011.k hds10
              refine ⟨D, acc, _, rfl, rfl, hd11, by rw [hal, sizeLine_eq]; omega, ?_⟩
              have e12 : Dp K (upd (upd H9 l (.tup ((rt.map numW).map V.int))) t2 (.tup ([V.str r0[0]] ++ (rt.map numW).map V.int))) (.ref t2) (stpD (r0.getD 0 "", rt.map numW)) := by
                rw [gD h0]
                exact .tup (.of upd_same) (.cons (.str _) (dps_ints _))
              exact ⟨_, _, _, _, _, _, rfl, readM_ok hm hj (line e7), upd_same, dat_add (F := fun _ => stpD (r0.getD 0 "", rt.map numW)) (i := 0) hd11 hds11 hnl e12 (noLi_stp _), by simp [hal], noLis_snoc hnl (noLi_stp _), k11.mutNew hD hd11 soft_lst⟩
    · rintro σ H3 ⟨o2, o3, o4, o5, acc, ds, rfl, hm, hd3, hds, hal, hnl, k3⟩
      rw [hxl] at hm
      refine ⟨_, rfl, D, _, rfl, .inl ⟨.of hd3, fun l hl => ⟨Nat.le_of_lt (line5 (by simp)), fun t ht => ?_⟩⟩⟩
      have ka : Kt (TL K) [] (upd H3 l (.tup acc)) (upd (upd H3 l (.tup acc)) t (.tup [V.str "steps", .ref l])) := Kt.refl.new ht
      have dl : Dp K (upd H3 l (.tup acc)) (.ref l) (.tuple ds) := .tup (.of upd_same) (dps_kp .nil (Kp.refl.new hl) hds)
      exact qy ds (readM_end hm) _ _ ((k3.new hl).new ht) (.tup (.of upd_same) (.cons (.str _) (.cons (dp_kp .nil ka.k dl) .nil)))
end
end K75

namespace K75
open PySem PySem.Spec PyProof.Rows L2 XB LamX
section
variable {P : Program} {w : World} {K : PySem.W.Frag} {mg : Str → Option Value} {base : Heap}
/-! ### bent texts -/
theorem seq_with {a b : TS} {D : Ends} {σ : L2.St} {H : Hp} (M : L2.St → Hp → Prop) (h2 : ∀ σ' H', M σ' H' → b D σ' H') (h1 : (∀ σ' H', M σ' H' → b D σ' H') → a { D with nx := b D } σ H) : tSeq a b D σ H := h1 h2
/-- a row as it stands -/
def RowAt (H : Hp) (R W : Nat) (x : V) : Prop := ∃ (q : Addr) (r : List Str), x = .ref q ∧ H q = some (.lst (r.map V.str)) ∧ r.length ≤ R ∧ ∀ w ∈ r, w.length ≤ W ∧ Pln w
def RowsAt (H : Hp) (N R W : Nat) (D : Addr) : Prop := ∃ xs : List V, H D = some (.lst xs) ∧ xs.length ≤ N ∧ ∀ x ∈ xs, RowAt H R W x
theorem RowAt.kp {H H' : Hp} {R W : Nat} {x : V} {S : List Addr} (h : RowAt H R W x) (k : Kp S H H') (n : ∀ q, x = .ref q → q ∉ S) : RowAt H' R W x := by
  obtain ⟨q, r, e, e2, e3, e4⟩ := h
  exact ⟨q, r, e, k _ _ e2 (n q e) (by intro _ z; cases z), e3, e4⟩
theorem RowAt.up {H : Hp} {R W R' W' : Nat} {x : V} (h : RowAt H R W x) (h1 : R ≤ R') (h2 : W ≤ W') : RowAt H R' W' x := by
  obtain ⟨q, r, e, e2, e3, e4⟩ := h
  exact ⟨q, r, e, e2, Nat.le_trans e3 h1, fun w hw => ⟨Nat.le_trans (e4 w hw).1 h2, (e4 w hw).2⟩⟩
theorem RowAt.ne {H : Hp} {R W : Nat} {x : V} {D : Addr} {xs : List V} (h : RowAt H R W x) (hD : H D = some (.lst xs)) (hx : x ∈ xs) : ∀ q, x = .ref q → q ∉ [D] := by
  obtain ⟨q, r, e, e2, e3, e4⟩ := h
  intro q2 e5 hm
  rw [List.mem_singleton] at hm
  have e6 : q = q2 := by
    rw [e] at e5
    exact V.ref.inj e5
  rw [e6, hm, hD] at e2
  have e7 : xs = r.map V.str := by
    have := Option.some.inj e2
    exact HO.lst.inj this
  rw [e7, e] at hx
  obtain ⟨w, _, e8⟩ := List.mem_map.mp hx
  cases e8
theorem RowsAt.kp {H H' : Hp} {N R W : Nat} {D : Addr} (h : RowsAt H N R W D) (k : Kp [] H H') : RowsAt H' N R W D := by
  obtain ⟨xs, e, e2, e3⟩ := h
  exact ⟨xs, k _ _ e (by simp) (by intro _ z; cases z), e2, fun x hx => (e3 x hx).kp k (by simp)⟩
theorem RowsAt.rows {H : Hp} {N R W : Nat} : ∀ {xs : List V}, xs.length ≤ N → (∀ x ∈ xs, RowAt H R W x) → ∃ rows, Gr N R W rows ∧ (∀ r ∈ rows, ∀ w ∈ r, Pln w) ∧ xs.length = rows.length ∧ ∀ (j : Nat) (x : V), xs[j]? = some x → ∃ (q : Addr) (hj : j < rows.length), x = .ref q ∧ H q = some (.lst (rows[j].map V.str)) := by
  have go : ∀ {xs : List V}, (∀ x ∈ xs, RowAt H R W x) → ∃ rows : List (List Str), (∀ r ∈ rows, r.length ≤ R ∧ ∀ w ∈ r, w.length ≤ W ∧ Pln w) ∧ xs.length = rows.length ∧ ∀ (j : Nat) (x : V), xs[j]? = some x → ∃ (q : Addr) (hj : j < rows.length), x = .ref q ∧ H q = some (.lst (rows[j].map V.str)) := by
    intro xs
    induction xs with
    | nil => exact fun _ => ⟨[], by simp, rfl, fun j x e => by simp at e⟩
    | cons y ys ih =>
      intro h
      obtain ⟨rows, h1, h2, h3⟩ := ih fun x hx => h x (List.mem_cons_of_mem _ hx)
      obtain ⟨q, r, e, e2, e3, e4⟩ := h y List.mem_cons_self
      refine ⟨r :: rows, fun r' hr => ?_, by simp [h2], fun j x ex => ?_⟩
      · rcases List.mem_cons.mp hr with z | z
        · rw [z]
          exact ⟨e3, e4⟩
        · exact h1 r' z
      · match j, ex with
        | 0, ex =>
          have ex2 : y = x := by simpa using ex
          exact ⟨q, by simp, by rw [← ex2, e], e2⟩
        | j + 1, ex =>
          obtain ⟨q2, hj, e5, e6⟩ := h3 j x (by simpa using ex)
          exact ⟨q2, by simp; omega, e5, e6⟩
  intro xs hl h
  obtain ⟨rows, h1, h2, h3⟩ := go h
  exact ⟨rows, ⟨by omega, fun r hr => (h1 r hr).1, fun r hr w hw => ⟨((h1 r hr).2 w hw).1, ((h1 r hr).2 w hw).2.asc⟩⟩, fun r hr w hw => ((h1 r hr).2 w hw).2, h2, h3⟩
theorem RowsAt.set {H : Hp} {N R W : Nat} {D : Addr} {xs : List V} {j : Nat} {v : V} (hD : H D = some (.lst xs)) (hl : xs.length ≤ N) (h : ∀ x ∈ xs, RowAt H R W x) (hv : RowAt H R W v) (nv : ∀ q, v = .ref q → q ≠ D) : RowsAt (upd H D (.lst (xs.set j v))) N R W D := by
  have k : Kp [D] H (upd H D (.lst (xs.set j v))) := Kp.refl.mut (by simp)
  refine ⟨_, upd_same, by rw [List.length_set]; exact hl, fun x hx => ?_⟩
  rcases List.mem_or_eq_of_mem_set hx with z | z
  · exact (h x z).kp k ((h x z).ne hD z)
  · rw [z]
    exact hv.kp k fun q e => by simpa using nv q e
theorem ixN_nat {n j : Nat} (h : j < n) : ixN n ((j : Nat) : Int) = some j := by
  unfold ixN
  simp [h]
theorem cut_mem {xs : List V} {lo hi : Option Int} {x : V} (h : x ∈ cutV xs lo hi) : x ∈ xs := by
  unfold cutV at h
  exact List.mem_of_mem_drop (List.mem_of_mem_take h)
theorem cut_map {r : List Str} {lo hi : Option Int} : ∃ r' : List Str, cutV (r.map V.str) lo hi = r'.map V.str ∧ r'.length ≤ r.length ∧ ∀ w ∈ r', w ∈ r := by
  refine ⟨(r.drop (HT.sIx (r.map V.str).length 0 lo)).take (HT.sIx (r.map V.str).length (r.map V.str).length hi - HT.sIx (r.map V.str).length 0 lo), ?_, ?_, fun w hw => List.mem_of_mem_drop (List.mem_of_mem_take hw)⟩
  · unfold cutV
    rw [List.map_take, List.map_drop]
  · rw [List.length_take, List.length_drop]
    omega
theorem cut_two (r : List Str) (k l : Nat) (h : k ≤ l) : (cutV (r.map V.str) none (some (k : Int))).length + (cutV (r.map V.str) (some (l : Int)) none).length ≤ r.length := by
  unfold cutV
  rw [HT.sIx_nat, HT.sIx_nat, List.length_take, List.length_take, List.length_drop, List.length_drop, List.length_map]
  show min (min k r.length - 0) (r.length - 0) + min (r.length - min l r.length) (r.length - min l r.length) ≤ r.length
  omega
def sp__law_bent_text (K : PySem.W.Frag) : Sp := fun vs H Q _ => ∃ (p c : Addr) (cs : List Int) (n : Nat) (z : Str) (so : Addr) (od : List Str), vs = [.ref p, .str z, .ref so] ∧ Pen H p c cs n ∧ n + 5 ≤ 100000 ∧ Asc z ∧ z.length ≤ 160 ∧
  H so = some (.lst (od.map V.str)) ∧ so ≠ p ∧ od ≠ [] ∧ od.length ≤ 1000 ∧ (∀ x ∈ od, x.length ≤ 160 ∧ Pln x) ∧ ∀ y H', Asc y → y.length ≤ 16000000 → (rowsOf y).length ≤ 400 → Kt (TL K) [p] H H' → Pen H' p c cs (n + 5) → Q (.str y) H'
theorem cal__law_bent_text (B : BX P K mg base) : CalA P w K mg base 3 (He.ga K "_law_bent_text") (sp__law_bent_text K) := by
  have T := B.T
  have c__law_draw := (cal__law_draw (P := P) (w := w) (base := base) B).cal T.g__law_draw
  have c__law_pick := (cal__law_pick (P := P) (w := w) (base := base) B).cal T.g__law_pick
  obtain ⟨fd, F⟩ := T.f__law_bent_text
  refine ⟨fd, p__law_bent_text, F.ok sc__law_bent_text (fun vs H Q E h => ?_) (fun cdv A outer s H vs Q E hr h => ?_), F.kp, (F.bindsN (ps := p__law_bent_text) fun _ _ _ _ _ _ us hl => match us, hl with | [_, _, _], _ => rfl)⟩
  · obtain ⟨p, c, cs, n, z, so, od, rfl, _⟩ := h
    rfl
  · obtain ⟨p, c, cs, n, z, so, od, rfl, hp, hn, hz, hzl, hso, nso, hod, hodl, hodx, q⟩ := h
    refine ⟨_, (pss_cons (ps_setLc (i := 3) (own := [("line", 4)]) (g := gName 4) rfl sc__law_bent_text.nd rfl rfl (sw_true rfl rfl rfl (by decide +kernel)) (pi_list (pe_sp rfl rfl rfl (pv 1) pe_str)) (blkOk_by (own := [("line", 4)]) (N := n__law_bent_text) (sc := defScope s__law_bent_text) (by decide +kernel)) (fun _ _ _ _ _ => (pg_name (i := 4) sc__law_bent_text.nd rfl (by first | exact Or.inl rfl | exact Or.inr rfl))) (fun _ _ _ _ _ => pts_nil) (fun _ _ _ _ _ => (pe_sp rfl rfl rfl (pv 4) pe_str)))
 (pss_cons (ps_par3 (i := 4) (j := 5) (l := 6) rfl sc__law_bent_text.nd rfl rfl rfl (by decide) (by decide) (by decide) rfl rfl rfl (pa_cons (pe_c (c__law_draw.mono (by first | decide | omega)) hr pX rfl (pa_cons (pv 0) (pa_cons (pe_callB call_len_seq (by rfl) T.b_len (by decide +kernel) (pa_cons (pv 3) pa_nil)) pa_nil))) (pa_cons (pe_c (c__law_draw.mono (by first | decide | omega)) hr pX rfl (pa_cons (pv 0) (pa_cons pe_int pa_nil))) (pa_cons (pe_c (c__law_pick.mono (by first | decide | omega)) hr pX rfl (pa_cons (pv 0) (pa_cons (pv 2) pa_nil))) pa_nil))) (by rfl))
 (pss_cons (ps_set (i := 7) sc__law_bent_text.nd rfl (by first | exact Or.inl rfl | exact Or.inr rfl) (pe_ix ix_list (pv 3) (pv 4) (fun _ _ => rfl)))
 (pss_cons (ps_asg (pe_tup (pa_cons (pe_c (c__law_draw.mono (by first | decide | omega)) hr pX rfl (pa_cons (pv 0) (pa_cons (pe_callB call_len_seq (by rfl) T.b_len (by decide +kernel) (pa_cons (pv 7) pa_nil)) pa_nil))) (pa_cons (pe_c (c__law_draw.mono (by first | decide | omega)) hr pX rfl (pa_cons (pv 0) (pa_cons (pe_callB call_len_seq (by rfl) T.b_len (by decide +kernel) (pa_cons (pv 7) pa_nil)) pa_nil))) pa_nil))) (pg_tup rfl (pgs_cons (pg_name (i := 8) sc__law_bent_text.nd rfl (by first | exact Or.inl rfl | exact Or.inr rfl)) (pgs_cons (pg_name (i := 9) sc__law_bent_text.nd rfl (by first | exact Or.inl rfl | exact Or.inr rfl)) pgs_nil))))
 (pss_cons (ps_if (pt_cmpR op_eq (pv 5) pe_int (nomark _))
 (pss_one (ps_asg (pe_op op_cat (pe_slice sl_list (pv 7) po_none (po_some (pv 8))) (pe_slice sl_list (pv 7) (po_some (pe_op op_add (pv 8) pe_int)) po_none)) (pg_sub (pv 3) (pv 4) set_list)))
 (pss_one (ps_if (pt_cmpR op_eq (pv 5) pe_int (nomark _))
 (pss_one (ps_asg (pe_op op_cat (pe_op op_cat (pe_slice sl_list (pv 7) po_none (po_some (pv 8))) (pe_lst (pa_cons (pv 6) pa_nil))) (pe_slice sl_list (pv 7) (po_some (pv 8)) po_none)) (pg_sub (pv 3) (pv 4) set_list)))
 (pss_one (ps_if (pt_cmpR op_in_seq (pv 5) (pe_tup (pa_cons pe_int (pa_cons pe_int (pa_cons pe_int pa_nil)))) (by rfl))
 (pss_one (ps_asg (pe_op op_cat (pe_op op_cat (pe_slice sl_list (pv 7) po_none (po_some (pv 8))) (pe_lst (pa_cons (pv 6) pa_nil))) (pe_slice sl_list (pv 7) (po_some (pe_op op_add (pv 8) pe_int)) po_none)) (pg_sub (pv 3) (pv 4) set_list)))
 (pss_one (ps_if (pt_cmpR op_eq (pv 5) pe_int (nomark _))
 (pss_one (ps_asg (pe_op op_cat (pv 7) (pe_lst (pa_cons (pv 6) pa_nil))) (pg_sub (pv 3) (pv 4) set_list)))
 (pss_one (ps_if (pt_cmpR op_eq (pv 5) pe_int (nomark _))
 (pss_one (ps_asg (pe_lc (own := [("spot", 10), ("word", 11)]) (g := gTup K 2 (gCons (gName 10) (gCons (gName 11) gNil))) rfl sc__law_bent_text.nd (pi_enum (by rfl) T.b_enumerate (pa_cons (pv 7) pa_nil)) (blkOk_by (own := [("spot", 10), ("word", 11)]) (N := n__law_bent_text) (sc := defScope s__law_bent_text) (by decide +kernel)) (fun _ _ _ _ _ => (pg_tup rfl (pgs_cons (pg_name (i := 10) sc__law_bent_text.nd rfl (by first | exact Or.inl rfl | exact Or.inr rfl)) (pgs_cons (pg_name (i := 11) sc__law_bent_text.nd rfl (by first | exact Or.inl rfl | exact Or.inr rfl)) pgs_nil)))) (fun _ _ _ _ _ => pts_nil) (fun _ _ _ _ _ => (pe_ifExp (pt_cmpR op_eq (pv 10) (pv 8) (nomark _)) (pe_ix (ix_listK (K := K) rfl) (pv 7) (pv 9) (fun _ _ => rfl)) (pe_ifExp (pt_cmpR op_eq (pv 10) (pv 9) (nomark _)) (pe_ix (ix_listK (K := K) rfl) (pv 7) (pv 8) (fun _ _ => rfl)) (pv 11))))) (pg_sub (pv 3) (pv 4) set_list)))
 (pss_one (ps_if (pt_cmpR op_eq (pv 5) pe_int (nomark _))
 (pss_one (ps_set (i := 3) sc__law_bent_text.nd rfl (by first | exact Or.inl rfl | exact Or.inr rfl) (pe_ifExp (pt_cmpR op_gt (pe_callB call_len_seq (by rfl) T.b_len (by decide +kernel) (pa_cons (pv 3) pa_nil)) pe_int (nomark _)) (pe_op op_cat (pe_slice sl_list (pv 3) po_none (po_some (pv 4))) (pe_slice sl_list (pv 3) (po_some (pe_op op_add (pv 4) pe_int)) po_none)) (pe_op op_cat (pv 3) (pv 3)))))
 (pss_one (ps_set (i := 3) sc__law_bent_text.nd rfl (by first | exact Or.inl rfl | exact Or.inr rfl) (pe_op op_cat (pe_slice sl_list (pv 3) po_none (po_some (pe_op op_add (pv 4) pe_int))) (pe_slice sl_list (pv 3) (po_some (pv 4)) po_none)))))))))))))))
 (pss_one (ps_ret (pe_jn (K := K) rfl rfl rfl rfl pe_str (pe_lc (own := [("row", 12)]) (g := gName 12) rfl sc__law_bent_text.nd (pi_list (pv 3)) (blkOk_by (own := [("row", 12)]) (N := n__law_bent_text) (sc := defScope s__law_bent_text) (by decide +kernel)) (fun _ _ _ _ _ => (pg_name (i := 12) sc__law_bent_text.nd rfl (by first | exact Or.inl rfl | exact Or.inr rfl))) (fun _ _ _ _ _ => pts_nil) (fun _ _ _ _ _ => (pe_jn (K := K) rfl rfl rfl rfl pe_str (pv 12)))))))))))), ?_⟩
    refine ⟨_, rfl, ⟨z, rfl⟩, z, nlS, rfl, rfl, by decide +kernel, line_len (by omega), fun P0 hP0 => ⟨P0, rfl, ⟨_, .of upd_same⟩, fun D hD => ?_⟩⟩
    have k0 : Kt (TL K) [] H (upd H P0 (.lst ((Txt.split z nlS).map V.str))) := Kt.refl.new hP0
    have ePL : (upd H P0 (.lst ((Txt.split z nlS).map V.str))) P0 = some (.lst ((Txt.split z nlS).map V.str)) := upd_same
    generalize upd H P0 (.lst ((Txt.split z nlS).map V.str)) = H0 at hD k0 ePL
    refine lc_it (walk_list (K := K) (a := P0) (xs := (Txt.split z nlS).map V.str)) (RowsP (TL K) [] H0 D fun i => ((rowsOf z).getD i []).map V.str) (rows_0 hD) (fun i H1 _ p1 => sqL_kp .nil p1.k.k (.of ePL)) ?_ ?_
    · rintro i x H1 H2 hi p1 ⟨rfl, hx⟩
      rw [List.getElem?_map] at hx
      rw [List.length_map] at hi
      rw [List.getElem?_eq_getElem hi] at hx
      obtain rfl : V.str (Txt.split z nlS)[i] = x := Option.some.inj hx
      have hmem : (Txt.split z nlS)[i] ∈ Txt.split z nlS := List.getElem_mem hi
      have hle := split1_len nl_tl (by decide +kernel) _ hmem
      refine ⟨rfl, yes_if ⟨_, rfl, ⟨_, rfl⟩, _, spS, rfl, rfl, by decide +kernel, line_len (by omega), fun l hl => ?_⟩⟩
      have hcnt := split1_count (z := z) nl_tl (by decide +kernel)
      refine rows_step p1 (Kt.refl.new hl) .nil hD (Nat.lt_of_lt_of_le hi (Nat.le_trans hcnt (by rw [sizeLine_eq]; omega))) hl ?_
      rw [upd_same]
      have er : (rowsOf z).getD i [] = Txt.split (Txt.split z nlS)[i] spS := by
        unfold rowsOf
        rw [List.getD_eq_getElem?_getD, List.getElem?_map, List.getElem?_eq_getElem hi] <;> rfl
      rw [er]
    · intro H1 p1
      have hn2 : ((Txt.split z nlS).map V.str).length = (rowsOf z).length := by
        unfold rowsOf
        rw [List.length_map, List.length_map]
      have k1 := k0.trans p1.k
      have gr := gr_rowsOf hz
      obtain ⟨ls, hD1, hll, hls⟩ := p1.d
      rw [hn2] at hll
      have hp1 := hp.kp k1.k (by simp) (by simp)
      have hso1 := k1.k _ _ hso (by simp) (by intro _ z; cases z)
      have hpD : p ≠ D := fun e => by
        obtain ⟨i, l, e2, _⟩ := hp1.pn
        rw [e, hD1] at e2
        cases ls with
        | nil =>
          cases e2
        | cons a t =>
          cases t with
          | nil => cases e2
          | cons b u => cases e2
      -- the draws
      refine ⟨_, rfl, _, rfl, D, _, rfl, .inl (.of hD1), p, c, cs, n, (ls.map V.ref).length, rfl, hp1, by omega, by rw [List.length_map, hll]; have := gr.len; omega, fun ln H2 hln k2 hp2 => ?_⟩
      have hlnl : ln < ls.length := by
        rcases hln with h | ⟨_, h⟩
        · simpa using h
        · have := rowsOf_ne z
          have : 0 < (rowsOf z).length := List.length_pos_iff.mpr this
          omega
      refine ⟨_, rfl, p, c, cs, n + 1, 9, rfl, hp2, by omega, by decide, fun way H3 hway k3 hp3 => ?_⟩
      have hso3 := k3.k _ _ (k2.k _ _ hso1 (by simpa using nso) (by intro _ z; cases z)) (by simpa using nso) (by intro _ z; cases z)
      refine ⟨_, rfl, _, rfl, p, c, cs, n + 2, so, od.map V.str, rfl, hp3, by omega, hso3, nso, by simpa using hod, by rw [List.length_map]; omega, fun ov H4 hov k4 hp4 => ?_⟩
      obtain ⟨odd, hodd, rfl⟩ := List.mem_map.mp hov
      have ho := hodx odd hodd
      refine ⟨_, _, _, rfl, ?_⟩
      have kk : Kt (TL K) [p] H1 H4 := (k2.trans k3).trans k4
      have hD4 : H4 D = some (.lst (ls.map V.ref)) := kk.k _ _ hD1 (by simpa using Ne.symm hpD) (by intro _ z; cases z)
      have k14 : Kt (TL K) [p] H H4 := k1.of0.trans kk
      have row1 : ∀ j l, ls[j]? = some l → ∃ hj : j < (rowsOf z).length, H4 l = some (.lst ((rowsOf z)[j].map V.str)) ∧ l ≠ D := fun j l e => by
        have hj : j < (rowsOf z).length := by
          have := (List.getElem?_eq_some_iff.mp e).1
          omega
        obtain ⟨n1, e2⟩ := hls j l e
        rw [List.getD_eq_getElem?_getD, List.getElem?_eq_getElem hj, Option.getD_some] at e2
        refine ⟨hj, kk.k _ _ e2 ?_ (by intro _ z; cases z), n1⟩
        intro hm
        rw [List.mem_singleton] at hm
        obtain ⟨i, l2, e3, _⟩ := hp1.pn
        rw [← hm, e2] at e3
        cases hr : (rowsOf z)[j] with
        | nil =>
          rw [hr] at e3
          cases e3
        | cons a t =>
          rw [hr] at e3
          cases e3
      have rows4 : ∀ x ∈ ls.map V.ref, RowAt H4 161 160 x := fun x hx => by
        obtain ⟨l, hl, rfl⟩ := List.mem_map.mp hx
        obtain ⟨j, hj, e⟩ := List.getElem_of_mem hl
        obtain ⟨hj2, e2, _⟩ := row1 j l (by rw [List.getElem?_eq_getElem hj, e])
        have hm : (rowsOf z)[j] ∈ rowsOf z := List.getElem_mem hj2
        exact ⟨l, _, rfl, e2, Nat.le_trans (gr.row _ hm) (by omega), fun w hw => ⟨Nat.le_trans (gr.word _ hm w hw).1 hzl, rowsOf_pln hz hm hw⟩⟩
      obtain ⟨hlr, eq4, nqD⟩ := row1 ln ls[ln] (List.getElem?_eq_getElem hlnl)
      have hw0 : (rowsOf z)[ln] ∈ rowsOf z := List.getElem_mem hlr
      have hwne := rowsOf_row hw0
      have hwl : (rowsOf z)[ln].length ≤ 161 := Nat.le_trans (gr.row _ hw0) (by omega)
      have hww : ∀ w ∈ (rowsOf z)[ln], w.length ≤ 160 ∧ Pln w := fun w hw => ⟨Nat.le_trans (gr.word _ hw0 w hw).1 hzl, rowsOf_pln hz hw0 hw⟩
      generalize (rowsOf z)[ln] = ws at eq4 hwne hwl hww
      generalize hq : ls[ln] = q4 at eq4 nqD
      have atD : atI (ls.map V.ref) (ln : Nat) = some (.ref q4) := by
        have := atN (l := ls.map V.ref) (i := ln) (by simpa using hlnl)
        rw [List.getElem_map, hq] at this
        exact this
      have hls161 : (ls.map V.ref).length ≤ 161 := by
        rw [List.length_map, hll]
        have := gr.len
        omega
      have hlnl2 : ln < (ls.map V.ref).length := by simpa using hlnl
      generalize ls.map V.ref = xs at hD4 rows4 atD hls161 hlnl2
      refine ⟨_, rfl, _, rfl, D, xs, _, _, rfl, rfl, .of hD4, atD, ?_⟩
      refine ⟨_, rfl, _, rfl, q4, _, rfl, .inl (.of eq4), p, c, cs, n + 3, (ws.map V.str).length, rfl, hp4, by omega, by rw [List.length_map]; omega, fun at_ H5 hat k5 hp5 => ?_⟩
      have nqp : ∀ {H9 : Hp}, H9 q4 = some (.lst (ws.map V.str)) → Pen H9 p c cs (n + 4) → q4 ∉ [p] := fun {H9} e9 hp9 hm => by
        rw [List.mem_singleton] at hm
        obtain ⟨i, l2, e3, _⟩ := hp9.pn
        rw [← hm, e9] at e3
        cases ws with
        | nil => cases e3
        | cons a t => cases e3
      have nqp4 : q4 ∉ [p] := fun hm => by
        rw [List.mem_singleton] at hm
        obtain ⟨i, l2, e3, _⟩ := hp4.pn
        rw [← hm, eq4] at e3
        cases ws with
        | nil => cases e3
        | cons a t => cases e3
      have eq5 := k5.k _ _ eq4 nqp4 (by intro _ z; cases z)
      refine ⟨_, rfl, _, rfl, q4, _, rfl, .inl (.of eq5), p, c, cs, n + 4, (ws.map V.str).length, rfl, hp5, by omega, by rw [List.length_map]; omega, fun oth H6 hoth k6 hp6 => ?_⟩
      have hwpos : 0 < ws.length := List.length_pos_iff.mpr hwne
      have hat2 : at_ < ws.length := by
        rcases hat with h | ⟨_, h⟩
        · simpa using h
        · omega
      have hot2 : oth < ws.length := by
        rcases hoth with h | ⟨_, h⟩
        · simpa using h
        · omega
      have xsp : ∀ {H9 : Hp}, H9 D = some (.lst xs) → (∀ x ∈ xs, RowAt H9 161 160 x) → True := fun _ _ => trivial
      have k46 : Kt (TL K) [p] H4 H6 := k5.trans k6
      have hDp : D ∉ [p] := by simpa using Ne.symm hpD
      have np4 : ∀ x ∈ xs, ∀ q, x = .ref q → q ∉ [p] := fun x hx q e hm => by
        rw [List.mem_singleton] at hm
        obtain ⟨q2, r, e2, e3, _⟩ := rows4 x hx
        rw [e] at e2
        obtain ⟨i, l2, e4, _⟩ := hp4.pn
        have e5 : q = q2 := V.ref.inj e2
        rw [← hm, e5, e3] at e4
        cases r with
        | nil => cases e4
        | cons a t => cases e4
      refine ⟨Nat.le_of_lt (line5 (by simp)), fun tp htp => ?_⟩
      have k7 := (k14.trans k46).new (o := .tup [V.int (at_ : Nat), V.int (oth : Nat)]) htp
      have k67 : Kt (TL K) [] H6 (upd H6 tp (.tup [V.int (at_ : Nat), V.int (oth : Nat)])) := Kt.refl.new htp
      have hD7 := k67.k _ _ (k46.k _ _ hD4 hDp (by intro _ z; cases z)) (by simp) (by intro _ z; cases z)
      have rows7 : ∀ x ∈ xs, RowAt (upd H6 tp (.tup [V.int (at_ : Nat), V.int (oth : Nat)])) 161 160 x := fun x hx => ((rows4 x hx).kp k46.k (np4 x hx)).kp k67.k (by simp)
      have eq7 := k67.k _ _ (k6.k _ _ eq5 nqp4 (by intro _ z; cases z)) (by simp) (by intro _ z; cases z)
      have hp7 := hp6.kp k67.k (by simp) (by simp)
      refine ⟨tp, _, rfl, .inl (.of upd_same), rfl, _, _, rfl, _, _, rfl, rfl, ?_⟩
      generalize upd H6 tp (.tup [V.int (at_ : Nat), V.int (oth : Nat)]) = H7 at k7 hD7 rows7 eq7 hp7 ⊢
      dsimp only
      refine seq_with (fun σ H8 => ∃ D' o4 o5 o6 o7 o8 o9, σ = [some (.ref p), some (.str z), some (.ref so), some (.ref D'), o4, o5, o6, o7, o8, o9, none, none, none] ∧ Kt (TL K) [p] H H8 ∧ Pen H8 p c cs (n + 5) ∧ RowsAt H8 322 162 160 D') ?_ (fun fin => ?_)
      · rintro σ H8 ⟨D', o4, o5, o6, o7, o8, o9, rfl, k8, hp8, xs8, hD8, hl8, hr8⟩
        obtain ⟨rows, g, hpl, hrl, hrows⟩ := RowsAt.rows hl8 hr8
        have hcnt := rowsOf_count hpl
        have hrn := g.len
        refine ⟨⟨_, rfl⟩, _, rfl, D', rfl, ⟨_, .of hD8⟩, fun M hM => lc_it (walk_list (K := K) (a := D') (xs := xs8)) (FlatP (TL K) [] H8 M fun i => V.str (Txt.join spS (rows.getD i []))) (flat_0 hM) (fun i H9 _ p1 => sqL_kp .nil p1.k.k (.of hD8)) ?_ ?_⟩
        · rintro i x H9 H10 hi p1 ⟨rfl, hx⟩
          obtain ⟨q9, hj, rfl, e9⟩ := hrows i x hx
          have er : rows.getD i [] = rows[i] := by rw [List.getD_eq_getElem?_getD, List.getElem?_eq_getElem hj] <;> rfl
          have hb1 := g.sum_row (List.getElem_mem hj)
          refine ⟨rfl, yes_if ⟨⟨_, rfl⟩, _, rfl, spS, q9, rows[i], rfl, rfl, .inl (sqL_kp .nil p1.k.k (.of e9)), ?_, ?_⟩⟩
          · rw [show spS.length = 1 from rfl, Nat.mul_one]
            omega
          · exact flat_step p1 .refl .nil hM (line5 (by omega)) (by rw [er])
        · intro H9 p1
          have e1 : (List.range xs8.length).map (fun i => V.str (Txt.join spS (rows.getD i []))) = (rows.map (Txt.join spS)).map V.str := by
            rw [hrl, map_range_getD rows [] (fun r => V.str (Txt.join spS r)), List.map_map]
            rfl
          have d1 := p1.d
          rw [e1] at d1
          have hsum := g.sum_all
          have hlen := g.join_len
          refine ⟨nlS, M, rows.map (Txt.join spS), rfl, rfl, .inl (.of d1), ?_, q _ H9 g.join_asc (by omega) (by omega) (k8.trans p1.k.of0) (hp8.kp p1.k.k (by simp) (by simp))⟩
          rw [show nlS.length = 1 from rfl, Nat.mul_one, List.length_map]
          omega
      · have hDH : H D = none := k0.g D hD
        have hDk : ∀ {H8 : Hp}, Kt (TL K) [] H7 H8 → H8 D = some (.lst xs) := fun k => k.k _ _ hD7 (by simp) (by intro _ z; cases z)
        have eqk : ∀ {H8 : Hp}, Kt (TL K) [] H7 H8 → H8 q4 = some (.lst (ws.map V.str)) := fun k => k.k _ _ eq7 (by simp) (by intro _ z; cases z)
        have penk : ∀ {H8 : Hp}, Kt (TL K) [] H7 H8 → Pen H8 p c cs (n + 5) := fun k => hp7.kp k.k (by simp) (by simp)
        have rowsk : ∀ {H8 : Hp}, Kt (TL K) [] H7 H8 → ∀ x ∈ xs, RowAt H8 162 160 x := fun k x hx => ((rows7 x hx).kp k.k (by simp)).up (by decide) (Nat.le_refl _)
        have cD : c ≠ D := fun e => by
          have := hp.at_
          rw [e, hDH] at this
          cases this
        have put : ∀ {H9 : Hp} {l : Addr} {r : List Str}, Kt (TL K) [] H7 H9 → H7 l = none → H9 l = some (.lst (r.map V.str)) → r.length ≤ 162 → (∀ w ∈ r, w.length ≤ 160 ∧ Pln w) →
            RowsAt (upd H9 D (.lst (xs.set ln (.ref l)))) 322 162 160 D ∧ Kt (TL K) [p] H (upd H9 D (.lst (xs.set ln (.ref l)))) ∧ Pen (upd H9 D (.lst (xs.set ln (.ref l)))) p c cs (n + 5) := fun {H9 l r} k hl e hr hw => by
          refine ⟨RowsAt.set (hDk k) (by omega) (rowsk k) ⟨l, r, rfl, e, hr, hw⟩ (fun q e2 => ?_), (k7.trans k.of0).mutNew hDH (hDk k) soft_lst, (penk k).kp (S := [D]) (Kp.refl.mut (by simp)) (by simpa using hpD) (by simpa using cD)⟩
          have e3 : l = q := V.ref.inj e2
          rw [← e3]
          intro e4
          rw [e4, hD7] at hl
          cases hl
        have ixln : ixN xs.length ((ln : Nat) : Int) = some ln := ixN_nat hlnl2
        have cat2 : ∀ {k l : Nat} {r1 r2 : List Str}, k ≤ l → cutV (ws.map V.str) none (some (k : Int)) = r1.map V.str → cutV (ws.map V.str) (some (l : Int)) none = r2.map V.str → r1.length + r2.length ≤ 161 := fun {k l r1 r2} h e1 e2 => by
          have := cut_two ws k l h
          rw [e1, e2, List.length_map, List.length_map] at this
          omega
        have mem2 : ∀ {r1 r2 : List Str}, (∀ w ∈ r1, w ∈ ws) → (∀ w ∈ r2, w ∈ ws) → ∀ w ∈ r1 ++ r2, w.length ≤ 160 ∧ Pln w := fun h1 h2 w hw => by
          rcases List.mem_append.mp hw with z | z
          · exact hww w (h1 w z)
          · exact hww w (h2 w z)
        have mem3 : ∀ {r1 r2 : List Str}, (∀ w ∈ r1, w ∈ ws) → (∀ w ∈ r2, w ∈ ws) → ∀ w ∈ r1 ++ [odd] ++ r2, w.length ≤ 160 ∧ Pln w := fun h1 h2 w hw => by
          rcases List.mem_append.mp hw with z | z
          · rcases List.mem_append.mp z with z | z
            · exact hww w (h1 w z)
            · rw [List.mem_singleton.mp z]
              exact ho
          · exact hww w (h2 w z)
        refine ⟨_, rfl, rfl, _, rfl, ite2 (fun e0 => ?_) (fun e0 => ?_)⟩
        · obtain ⟨r1, c1, l1, m1⟩ := cut_map (r := ws) (lo := none) (hi := some ((at_ : Nat) : Int))
          obtain ⟨r2, c2, l2, m2⟩ := cut_map (r := ws) (lo := some (((at_ : Nat) : Int) + 1)) (hi := none)
          refine ⟨_, rfl, _, rfl, _, rfl, q4, _, rfl, .of eq7, fun a1 h1 => ?_⟩
          rw [c1]
          have j1 : Kt (TL K) [] H7 (upd H7 a1 (.lst (r1.map V.str))) := Kt.refl.new h1
          have g1 : (upd H7 a1 (.lst (r1.map V.str))) a1 = some (.lst (r1.map V.str)) := upd_same
          generalize upd H7 a1 (.lst (r1.map V.str)) = G1 at j1 g1 ⊢
          refine ⟨_, rfl, _, rfl, _, _, rfl, rfl, _, rfl, q4, _, rfl, .of (eqk j1), fun a2 h2 => ?_⟩
          rw [c2]
          have j2 := j1.new (o := .lst (r2.map V.str)) h2
          have g2 : (upd G1 a2 (.lst (r2.map V.str))) a2 = some (.lst (r2.map V.str)) := upd_same
          have g12 : (upd G1 a2 (.lst (r2.map V.str))) a1 = some (.lst (r1.map V.str)) := by rw [upd_ne (ne_of_none g1 h2)]; exact g1
          generalize upd G1 a2 (.lst (r2.map V.str)) = G2 at j2 g2 g12 ⊢
          have hs := cat2 (k := at_) (l := at_ + 1) (by omega) c1 c2
          refine ⟨a1, a2, _, _, rfl, rfl, g12, g2, by rw [List.length_map, List.length_map, sizeLine_eq]; omega, fun a3 h3 => ?_⟩
          have j3 := j2.new (o := .lst (r1.map V.str ++ r2.map V.str)) h3
          obtain ⟨o1, o2, o3⟩ := put (H9 := upd G2 a3 (.lst (r1.map V.str ++ r2.map V.str))) (l := a3) (r := r1 ++ r2) j3 (j2.g a3 h3) (by rw [upd_same, List.map_append]) (by rw [List.length_append]; omega) (mem2 m1 m2)
          exact ⟨_, rfl, _, rfl, D, xs, _, ln, rfl, rfl, hDk j3, ixln, fin _ _ ⟨D, _, _, _, _, _, _, rfl, o2, o3, o1⟩⟩
        · refine ⟨_, rfl, rfl, _, rfl, ite2 (fun e1 => ?_) (fun e1 => ?_)⟩
          · have k0r : Kt (TL K) [] H7 H7 := Kt.refl
            obtain ⟨r1, c1, l1, m1⟩ := cut_map (r := ws) (lo := none) (hi := some ((at_ : Nat) : Int))
            obtain ⟨r2, c2, l2, m2⟩ := cut_map (r := ws) (lo := some ((at_ : Nat) : Int)) (hi := none)
            refine ⟨_, rfl, _, rfl, _, rfl, q4, _, rfl, .of (eqk k0r), fun a1 h1 => ?_⟩
            rw [c1]
            have j1 : Kt (TL K) [] H7 (upd H7 a1 (.lst (r1.map V.str))) := k0r.new h1
            have g1 : (upd H7 a1 (.lst (r1.map V.str))) a1 = some (.lst (r1.map V.str)) := upd_same
            generalize upd H7 a1 (.lst (r1.map V.str)) = G1 at j1 g1 ⊢
            refine ⟨_, rfl, Nat.le_of_lt (line5 (by simp)), fun a2 h2 => ?_⟩
            have j2 := j1.new (o := .lst [V.str odd]) h2
            have g2 : (upd G1 a2 (.lst [V.str odd])) a2 = some (.lst [V.str odd]) := upd_same
            have g12 : (upd G1 a2 (.lst [V.str odd])) a1 = some (.lst (r1.map V.str)) := by rw [upd_ne (ne_of_none g1 h2)]; exact g1
            generalize upd G1 a2 (.lst [V.str odd]) = G2 at j2 g2 g12 ⊢
            refine ⟨a1, a2, _, _, rfl, rfl, g12, g2, by rw [List.length_map, sizeLine_eq]; simp; omega, fun a3 h3 => ?_⟩
            have j3 := j2.new (o := .lst (r1.map V.str ++ [V.str odd])) h3
            have g3 : (upd G2 a3 (.lst (r1.map V.str ++ [V.str odd]))) a3 = some (.lst (r1.map V.str ++ [V.str odd])) := upd_same
            generalize upd G2 a3 (.lst (r1.map V.str ++ [V.str odd])) = G3 at j3 g3 ⊢
            refine ⟨_, rfl, _, rfl, _, rfl, q4, _, rfl, .of (eqk j3), fun a4 h4 => ?_⟩
            rw [c2]
            have j4 := j3.new (o := .lst (r2.map V.str)) h4
            have g4 : (upd G3 a4 (.lst (r2.map V.str))) a4 = some (.lst (r2.map V.str)) := upd_same
            have g34 : (upd G3 a4 (.lst (r2.map V.str))) a3 = some (.lst (r1.map V.str ++ [V.str odd])) := by rw [upd_ne (ne_of_none g3 h4)]; exact g3
            generalize upd G3 a4 (.lst (r2.map V.str)) = G4 at j4 g4 g34 ⊢
            have hs := cat2 (k := at_) (l := at_) (by omega) c1 c2
            refine ⟨a3, a4, _, _, rfl, rfl, g34, g4, by rw [List.length_append, List.length_map, List.length_map, sizeLine_eq]; simp; omega, fun a5 h5 => ?_⟩
            have j5 := j4.new (o := .lst (r1.map V.str ++ [V.str odd] ++ r2.map V.str)) h5
            obtain ⟨o1, o2, o3⟩ := put (H9 := upd G4 a5 (.lst (r1.map V.str ++ [V.str odd] ++ r2.map V.str))) (l := a5) (r := r1 ++ [odd] ++ r2) j5 (j4.g a5 h5) (by rw [upd_same, List.map_append, List.map_append]; rfl) (by simp; omega) (mem3 m1 m2)
            exact ⟨_, rfl, _, rfl, D, xs, _, ln, rfl, rfl, hDk j5, ixln, fin _ _ ⟨D, _, _, _, _, _, _, rfl, o2, o3, o1⟩⟩
          · refine ⟨_, rfl, Nat.le_of_lt (line5 (by simp)), fun tt htt => ?_⟩
            have k8 : Kt (TL K) [] H7 (upd H7 tt (.tup [V.int 2, V.int 3, V.int 4])) := Kt.refl.new htt
            have et : (upd H7 tt (.tup [V.int 2, V.int 3, V.int 4])) tt = some (.tup [V.int 2, V.int 3, V.int 4]) := upd_same
            generalize upd H7 tt (.tup [V.int 2, V.int 3, V.int 4]) = H8 at k8 et ⊢
            refine ⟨tt, _, rfl, .inr (.of et), rfl, rfl, _, rfl, ite2 (fun e2 => ?_) (fun e2 => ?_)⟩
            · obtain ⟨r1, c1, l1, m1⟩ := cut_map (r := ws) (lo := none) (hi := some ((at_ : Nat) : Int))
              obtain ⟨r2, c2, l2, m2⟩ := cut_map (r := ws) (lo := some (((at_ : Nat) : Int) + 1)) (hi := none)
              refine ⟨_, rfl, _, rfl, _, rfl, q4, _, rfl, .of (eqk k8), fun a1 h1 => ?_⟩
              rw [c1]
              have j1 : Kt (TL K) [] H7 (upd H8 a1 (.lst (r1.map V.str))) := k8.new h1
              have g1 : (upd H8 a1 (.lst (r1.map V.str))) a1 = some (.lst (r1.map V.str)) := upd_same
              generalize upd H8 a1 (.lst (r1.map V.str)) = G1 at j1 g1 ⊢
              refine ⟨_, rfl, Nat.le_of_lt (line5 (by simp)), fun a2 h2 => ?_⟩
              have j2 := j1.new (o := .lst [V.str odd]) h2
              have g2 : (upd G1 a2 (.lst [V.str odd])) a2 = some (.lst [V.str odd]) := upd_same
              have g12 : (upd G1 a2 (.lst [V.str odd])) a1 = some (.lst (r1.map V.str)) := by rw [upd_ne (ne_of_none g1 h2)]; exact g1
              generalize upd G1 a2 (.lst [V.str odd]) = G2 at j2 g2 g12 ⊢
              refine ⟨a1, a2, _, _, rfl, rfl, g12, g2, by rw [List.length_map, sizeLine_eq]; simp; omega, fun a3 h3 => ?_⟩
              have j3 := j2.new (o := .lst (r1.map V.str ++ [V.str odd])) h3
              have g3 : (upd G2 a3 (.lst (r1.map V.str ++ [V.str odd]))) a3 = some (.lst (r1.map V.str ++ [V.str odd])) := upd_same
              generalize upd G2 a3 (.lst (r1.map V.str ++ [V.str odd])) = G3 at j3 g3 ⊢
              refine ⟨_, rfl, _, rfl, _, _, rfl, rfl, _, rfl, q4, _, rfl, .of (eqk j3), fun a4 h4 => ?_⟩
              rw [c2]
              have j4 := j3.new (o := .lst (r2.map V.str)) h4
              have g4 : (upd G3 a4 (.lst (r2.map V.str))) a4 = some (.lst (r2.map V.str)) := upd_same
              have g34 : (upd G3 a4 (.lst (r2.map V.str))) a3 = some (.lst (r1.map V.str ++ [V.str odd])) := by rw [upd_ne (ne_of_none g3 h4)]; exact g3
              generalize upd G3 a4 (.lst (r2.map V.str)) = G4 at j4 g4 g34 ⊢
              have hs := cat2 (k := at_) (l := at_ + 1) (by omega) c1 c2
              refine ⟨a3, a4, _, _, rfl, rfl, g34, g4, by rw [List.length_append, List.length_map, List.length_map, sizeLine_eq]; simp; omega, fun a5 h5 => ?_⟩
              have j5 := j4.new (o := .lst (r1.map V.str ++ [V.str odd] ++ r2.map V.str)) h5
              obtain ⟨o1, o2, o3⟩ := put (H9 := upd G4 a5 (.lst (r1.map V.str ++ [V.str odd] ++ r2.map V.str))) (l := a5) (r := r1 ++ [odd] ++ r2) j5 (j4.g a5 h5) (by rw [upd_same, List.map_append, List.map_append]; rfl) (by simp; omega) (mem3 m1 m2)
              exact ⟨_, rfl, _, rfl, D, xs, _, ln, rfl, rfl, hDk j5, ixln, fin _ _ ⟨D, _, _, _, _, _, _, rfl, o2, o3, o1⟩⟩
            · refine ⟨_, rfl, rfl, _, rfl, ite2 (fun e3 => ?_) (fun e3 => ?_)⟩
              · refine ⟨_, rfl, _, rfl, Nat.le_of_lt (line5 (by simp)), fun a1 h1 => ?_⟩
                have j1 := k8.new (o := .lst [V.str odd]) h1
                have g1 : (upd H8 a1 (.lst [V.str odd])) a1 = some (.lst [V.str odd]) := upd_same
                generalize upd H8 a1 (.lst [V.str odd]) = G1 at j1 g1 ⊢
                refine ⟨q4, a1, _, _, rfl, rfl, eqk j1, g1, by rw [List.length_map, sizeLine_eq]; simp; omega, fun a2 h2 => ?_⟩
                have j2 := j1.new (o := .lst (ws.map V.str ++ [V.str odd])) h2
                obtain ⟨o1, o2, o3⟩ := put (H9 := upd G1 a2 (.lst (ws.map V.str ++ [V.str odd]))) (l := a2) (r := ws ++ [odd] ++ []) j2 (j1.g a2 h2) (by rw [upd_same, List.append_nil, List.map_append]; rfl) (by simp; omega) (mem3 (fun _ h => h) (by simp))
                exact ⟨_, rfl, _, rfl, D, xs, _, ln, rfl, rfl, hDk j2, ixln, fin _ _ ⟨D, _, _, _, _, _, _, rfl, o2, o3, o1⟩⟩
              · refine ⟨_, rfl, rfl, _, rfl, ite2 (fun e4 => ?_) (fun e4 => ?_)⟩
                · let F : Nat → Str := fun j => if j = at_ then ws.getD oth "" else if j = oth then ws.getD at_ "" else ws.getD j ""
                  have gD : ∀ {j : Nat} (hj : j < ws.length), ws.getD j "" = ws[j] := fun {j} hj => by
                    rw [List.getD_eq_getElem?_getD, List.getElem?_eq_getElem hj]
                    rfl
                  have atW : ∀ {H9 : Hp} {j : Nat}, Kt (TL K) [] H8 H9 → j < ws.length → SqL K H9 q4 (ws.map V.str) ∧ atI (ws.map V.str) ((j : Nat) : Int) = some (.str (ws.getD j "")) := fun {H9 j} k hj => by
                    refine ⟨.of (eqk (k8.trans k)), ?_⟩
                    have := atN (l := ws.map V.str) (i := j) (by simpa using hj)
                    rw [List.getElem_map] at this
                    rw [gD hj]
                    exact this
                  refine ⟨_, rfl, q4, _, rfl, .of (eqk k8), fun M hM => lc_it (walk_enum (K := K) (a := q4) (xs := ws.map V.str)) (FlatP (TL K) [] H8 M fun j => V.str (F j)) (flat_0 hM) (fun j H9 _ p1 => .of (eqk (k8.trans p1.k))) ?_ ?_⟩
                  · rintro j x H9 H10 hj2 p1 ⟨Tj, y1, y2, rfl, hTj, rfl, f1, f2⟩
                    cases f1
                    have hj : j < ws.length := by simpa using hj2
                    have f3 : (ws.map V.str)[j]? = some y2 := f2
                    rw [List.getElem?_map, List.getElem?_eq_getElem hj] at f3
                    cases f3
                    have kj : Kt (TL K) [] H9 (upd H9 Tj (.tup [V.int (j : Nat), V.str ws[j]])) := Kt.refl.new hTj
                    have kj8 := p1.k.trans kj
                    refine ⟨Tj, _, rfl, .inl (.of upd_same), rfl, _, _, rfl, _, _, rfl, rfl, rfl, ?_⟩
                    refine yes_if ?_
                    have stp : ∀ {y : V}, y = V.str (F j) → ∃ acc, (upd H9 Tj (.tup [V.int (j : Nat), V.str ws[j]])) M = some (.lst acc) ∧ acc.length < sizeLine ∧ FlatP (TL K) [] H8 M (fun j => V.str (F j)) (j + 1) (upd (upd H9 Tj (.tup [V.int (j : Nat), V.str ws[j]])) M (.lst (acc ++ [y]))) := fun {y} e => flat_step p1 kj .nil hM (line5 (by omega)) e
                    refine ⟨_, rfl, _, rfl, rfl, _, rfl, ite2 (fun e5 => ?_) (fun e5 => ?_)⟩
                    · have e6 : j = at_ := by
                        have := V.int.inj (of_decide_eq_true e5)
                        omega
                      obtain ⟨w1, w2⟩ := atW kj8 hot2
                      refine ⟨_, rfl, _, rfl, q4, _, _, _, rfl, rfl, w1, w2, stp ?_⟩
                      show _ = V.str (if j = at_ then _ else _)
                      rw [if_pos e6]
                    · have e6 : ¬ j = at_ := fun z => e5 (by rw [z]; exact decide_eq_true rfl)
                      refine ⟨_, rfl, _, rfl, rfl, _, rfl, ite2 (fun e7 => ?_) (fun e7 => ?_)⟩
                      · have e8 : j = oth := by
                          have := V.int.inj (of_decide_eq_true e7)
                          omega
                        obtain ⟨w1, w2⟩ := atW kj8 hat2
                        refine ⟨_, rfl, _, rfl, q4, _, _, _, rfl, rfl, w1, w2, stp ?_⟩
                        show _ = V.str (if j = at_ then _ else if j = oth then _ else _)
                        rw [if_neg e6, if_pos e8]
                      · have e8 : ¬ j = oth := fun z => e7 (by rw [z]; exact decide_eq_true rfl)
                        refine ⟨_, rfl, stp ?_⟩
                        show _ = V.str (if j = at_ then _ else if j = oth then _ else _)
                        rw [if_neg e6, if_neg e8, gD hj]
                  · intro H9 p9
                    have j9 := k8.trans p9.k
                    have inws : ∀ {j : Nat}, j < ws.length → ws.getD j "" ∈ ws := fun {j} hj => by
                      rw [gD hj]
                      exact List.getElem_mem hj
                    obtain ⟨o1, o2, o3⟩ := put (H9 := H9) (l := M) (r := (List.range (ws.map V.str).length).map F) j9 (k8.g M hM) (by rw [p9.d, List.map_map]; rfl) (by simp; omega) (fun w hw => by
                      obtain ⟨j, hj, rfl⟩ := List.mem_map.mp hw
                      have hj2 : j < ws.length := by simpa using hj
                      show (if j = at_ then ws.getD oth "" else if j = oth then ws.getD at_ "" else ws.getD j "").length ≤ 160 ∧ Pln (if j = at_ then ws.getD oth "" else if j = oth then ws.getD at_ "" else ws.getD j "")
                      split
                      · exact hww _ (inws hot2)
                      · split
                        · exact hww _ (inws hat2)
                        · exact hww _ (inws hj2))
                    exact ⟨_, rfl, _, rfl, D, xs, _, ln, rfl, rfl, hDk j9, ixln, fin _ _ ⟨D, _, _, _, _, _, _, rfl, o2, o3, o1⟩⟩
                · have cat : ∀ {H9 : Hp} {a3 : Addr} {ys : List V}, Kt (TL K) [] H7 H9 → H9 a3 = some (.lst ys) → ys.length ≤ 322 → (∀ x ∈ ys, x ∈ xs) → Kt (TL K) [p] H H9 ∧ Pen H9 p c cs (n + 5) ∧ RowsAt H9 322 162 160 a3 := fun {H9 a3 ys} k e hl hm =>
                    ⟨k7.trans k.of0, penk k, ys, e, hl, fun x hx => rowsk k x (hm x hx)⟩
                  refine ⟨_, rfl, rfl, _, rfl, ite2 (fun e5 => ?_) (fun e5 => ?_)⟩
                  · refine ⟨_, rfl, D, _, rfl, .inl (.of (hDk k8)), _, _, rfl, rfl, _, rfl, ite2 (fun e6 => ?_) (fun e6 => ?_)⟩
                    · refine ⟨_, rfl, _, rfl, _, rfl, D, _, rfl, .of (hDk k8), fun a1 h1 => ?_⟩
                      have b1 := cutV_length xs none (some ((ln : Nat) : Int))
                      have j1 := k8.new (o := .lst (cutV xs none (some ((ln : Nat) : Int)))) h1
                      have g1 : (upd H8 a1 (.lst (cutV xs none (some ((ln : Nat) : Int))))) a1 = some (.lst (cutV xs none (some ((ln : Nat) : Int)))) := upd_same
                      generalize upd H8 a1 (.lst (cutV xs none (some ((ln : Nat) : Int)))) = G1 at j1 g1 ⊢
                      refine ⟨_, rfl, _, rfl, _, _, rfl, rfl, _, rfl, D, _, rfl, .of (hDk j1), fun a2 h2 => ?_⟩
                      have b2 := cutV_length xs (some (((ln : Nat) : Int) + 1)) none
                      have j2 := j1.new (o := .lst (cutV xs (some (((ln : Nat) : Int) + 1)) none)) h2
                      have g2 : (upd G1 a2 (.lst (cutV xs (some (((ln : Nat) : Int) + 1)) none))) a2 = some (.lst (cutV xs (some (((ln : Nat) : Int) + 1)) none)) := upd_same
                      have g12 : (upd G1 a2 (.lst (cutV xs (some (((ln : Nat) : Int) + 1)) none))) a1 = some (.lst (cutV xs none (some ((ln : Nat) : Int)))) := by rw [upd_ne (ne_of_none g1 h2)]; exact g1
                      generalize upd G1 a2 (.lst (cutV xs (some (((ln : Nat) : Int) + 1)) none)) = G2 at j2 g2 g12 ⊢
                      refine ⟨a1, a2, _, _, rfl, rfl, g12, g2, by rw [sizeLine_eq]; omega, fun a3 h3 => ?_⟩
                      exact fin _ _ ⟨a3, _, _, _, _, _, _, rfl, cat (j2.new h3) upd_same (by rw [List.length_append]; omega) fun x hx => (List.mem_append.mp hx).elim cut_mem cut_mem⟩
                    · refine ⟨_, rfl, _, rfl, D, D, _, _, rfl, rfl, hDk k8, hDk k8, by rw [sizeLine_eq]; omega, fun a3 h3 => ?_⟩
                      exact fin _ _ ⟨a3, _, _, _, _, _, _, rfl, cat (k8.new h3) upd_same (by rw [List.length_append]; omega) fun x hx => (List.mem_append.mp hx).elim id id⟩
                  · refine ⟨_, rfl, _, rfl, _, _, rfl, rfl, _, rfl, D, _, rfl, .of (hDk k8), fun a1 h1 => ?_⟩
                    have b1 := cutV_length xs none (some (((ln : Nat) : Int) + 1))
                    have j1 := k8.new (o := .lst (cutV xs none (some (((ln : Nat) : Int) + 1)))) h1
                    have g1 : (upd H8 a1 (.lst (cutV xs none (some (((ln : Nat) : Int) + 1))))) a1 = some (.lst (cutV xs none (some (((ln : Nat) : Int) + 1)))) := upd_same
                    generalize upd H8 a1 (.lst (cutV xs none (some (((ln : Nat) : Int) + 1)))) = G1 at j1 g1 ⊢
                    refine ⟨_, rfl, _, rfl, _, rfl, D, _, rfl, .of (hDk j1), fun a2 h2 => ?_⟩
                    have b2 := cutV_length xs (some ((ln : Nat) : Int)) none
                    have j2 := j1.new (o := .lst (cutV xs (some ((ln : Nat) : Int)) none)) h2
                    have g2 : (upd G1 a2 (.lst (cutV xs (some ((ln : Nat) : Int)) none))) a2 = some (.lst (cutV xs (some ((ln : Nat) : Int)) none)) := upd_same
                    have g12 : (upd G1 a2 (.lst (cutV xs (some ((ln : Nat) : Int)) none))) a1 = some (.lst (cutV xs none (some (((ln : Nat) : Int) + 1)))) := by rw [upd_ne (ne_of_none g1 h2)]; exact g1
                    generalize upd G1 a2 (.lst (cutV xs (some ((ln : Nat) : Int)) none)) = G2 at j2 g2 g12 ⊢
                    refine ⟨a1, a2, _, _, rfl, rfl, g12, g2, by rw [sizeLine_eq]; omega, fun a3 h3 => ?_⟩
                    exact fin _ _ ⟨a3, _, _, _, _, _, _, rfl, cat (j2.new h3) upd_same (by rw [List.length_append]; omega) fun x hx => (List.mem_append.mp hx).elim cut_mem cut_mem⟩
end
end K75

namespace K75
open PySem PySem.Spec PyProof.Rows L2 XB LamX
/-! ### the law's own statements -/
theorem ps_weak {X : Cx} {st : Stmt} {t R : TS} (h : PS X st t) (w : ∀ D σ H, R D σ H → t D σ H) : PS X st R := ⟨fun pins s σ H D I r => h.run pins s σ H D I (w D σ H r)⟩
def subs : Stmt → List Stmt
  | .FunctionDef _ _ b _ _ _ _ _ _ _ => b
  | .For _ _ b _ _ => b
  | .If _ b _ _ => b
  | _ => []
def sub (s : Stmt) (i : Nat) : Stmt := (subs s).getD i (.Pass ⟨0, 0, 0, 0⟩)
/-- the names of law as they stand -/
abbrev Sg (sc pe od tn nu tx st ln lp be to he ba : Option V) : L2.St := [sc, pe, od, tn, nu, tx, st, ln, lp, be, to, he, ba, none, none, none, none, none, none, none]
section
variable {P : Program} {w : World} {K : PySem.W.Frag} {mg : Str → Option Value} {base : Heap}
abbrev lawX (P : Program) (w : World) (K : PySem.W.Frag) (mg : Str → Option Value) (base : Heap) (A : Around) (outer : List Env) (s : Shared) (H : Hp) (E : XK) : Cx :=
  cxOf (L2.CX P w) P w K mg base n_law "law" (defScope s_law) (He.ga K "law") (.ref (He.codeOf K ("law", none))) A outer s H E
abbrev lawA (K : PySem.W.Frag) (A : Around) (s : Shared) : Around := A.deeper (envOfC "law" (defScope s_law) s.heap.objs.size (He.ga K "law") (.ref (He.codeOf K ("law", none))))
theorem tl_uniq (B : BX P K mg base) : ∀ q ∈ TL K, q.1 = (He.cT K dLaw).2 → q.2 = qLaw := fun q hq eq => by
  rcases List.mem_cons.mp hq with z | z
  · rw [z]
  · rw [List.mem_singleton.mp z] at eq
    exact absurd eq.symm B.dis
/-- lambda: read_log(bent) -/
def spl_bl (K : PySem.W.Frag) : List (Option V) → Sp := fun ws vs H Q E => ∃ z : Str, ws = [some (.str z)] ∧ vs = [] ∧ sp_read_log K [.str z] H Q E
theorem spl_bl_len {K : PySem.W.Frag} : ∀ ws vs H Q E, spl_bl K ws vs H Q E → vs.length = ([] : List Str).length := by
  rintro ws vs H Q E ⟨z, _, rfl, _⟩
  rfl
def spl_bs (K : PySem.W.Frag) : List (Option V) → Sp := fun ws vs H Q E => ∃ z : Str, ws = [some (.str z)] ∧ vs = [] ∧ sp_read_steps K [.str z] H Q E
theorem spl_bs_len {K : PySem.W.Frag} : ∀ ws vs H Q E, spl_bs K ws vs H Q E → vs.length = ([] : List Str).length := by
  rintro ws vs H Q E ⟨z, _, rfl, _⟩
  rfl
/-- lambda a1=0: Log(told[1]) -/
def spl_bg (K : PySem.W.Frag) : List (Option V) → Sp := fun ws vs H Q E => ∃ (p : Addr) (v : V), ws = [some (.ref p)] ∧ vs = [.int 0] ∧ SqT K H p [.str "log", v] ∧
  ∀ x dx, H x = none → H dx = none → dx ≠ x → sp_Log_init K [.ref x, v] (upd (upd H dx (.own x)) x (.ins (He.ga K "Log") dx [])) (fun u H3 => u = .non ∧ Q (.ref x) H3) E
theorem spl_bg_len {K : PySem.W.Frag} : ∀ ws vs H Q E, spl_bg K ws vs H Q E → vs.length = (["a1"] : List Str).length := by
  rintro ws vs H Q E ⟨p, v, _, rfl, _⟩
  rfl
def spl_b0 (K : PySem.W.Frag) : List (Option V) → Sp := fun ws vs H Q E => ∃ (p : Addr) (v u : V), ws = [some (.ref p)] ∧ vs = [] ∧ SqL K H p [v, u] ∧ sp_log_text K [v] H Q E
theorem spl_b0_len {K : PySem.W.Frag} : ∀ ws vs H Q E, spl_b0 K ws vs H Q E → vs.length = ([] : List Str).length := by
  rintro ws vs H Q E ⟨p, v, u, _, rfl, _⟩
  rfl
def spl_b1 (K : PySem.W.Frag) : List (Option V) → Sp := fun ws vs H Q E => ∃ (p : Addr) (v u : V), ws = [some (.ref p)] ∧ vs = [.int 0] ∧ SqL K H p [v, u] ∧ sp_steps_text K [u] H Q E
theorem spl_b1_len {K : PySem.W.Frag} : ∀ ws vs H Q E, spl_b1 K ws vs H Q E → vs.length = (["a1"] : List Str).length := by
  rintro ws vs H Q E ⟨p, v, u, _, rfl, _⟩
  rfl
def spl_b2 (K : PySem.W.Frag) : List (Option V) → Sp := fun ws vs H Q E => ws = [] ∧ vs = [.int 0] ∧ sp_read_log K [.non] H Q E
theorem spl_b2_len {K : PySem.W.Frag} : ∀ ws vs H Q E, spl_b2 K ws vs H Q E → vs.length = (["a2"] : List Str).length := by
  rintro ws vs H Q E ⟨_, rfl, _⟩
  rfl
def spl_b3 (K : PySem.W.Frag) : List (Option V) → Sp := fun ws vs H Q E => ws = [] ∧ vs = [.int 0] ∧ sp_read_steps K [.int 5] H Q E
theorem spl_b3_len {K : PySem.W.Frag} : ∀ ws vs H Q E, spl_b3 K ws vs H Q E → vs.length = (["a3"] : List Str).length := by
  rintro ws vs H Q E ⟨_, rfl, _⟩
  rfl
def spl_b4 (K : PySem.W.Frag) : List (Option V) → Sp := fun ws vs H Q E => ws = [] ∧ vs = [.int 0] ∧ sp_read_log K [.str ""] H Q E
theorem spl_b4_len {K : PySem.W.Frag} : ∀ ws vs H Q E, spl_b4 K ws vs H Q E → vs.length = (["a4"] : List Str).length := by
  rintro ws vs H Q E ⟨_, rfl, _⟩
  rfl
theorem rcLog (B : BX P K mg base) {A : Around} {outer : List Env} {s : Shared} {H : Hp} {E : XK} : RcN (lawX P w K mg base A outer s H E) 2 (DIns (He.ga K "Log") (REq K)) := by
  obtain ⟨fd, G, b⟩ := cal_Log_eq (w := w) B
  exact rcN_ins (n := 1) G B.T.i_Log.hm B.T.ne_Log B.T.m_Log_eq.at_ B.T.m_Log_eq.fn b pX
theorem REq_mono : ∀ a b (H H' : Hp), Ext H H' → REq K a b H → REq K a b H' := by
  rintro a b H H' e ⟨dx, dy, va, vb, d, h1, h2, h3, h4, h5⟩
  exact ⟨dx, dy, va, vb, d, e _ _ h1, e _ _ h2, dp_same (fun b o z => e _ _ z) h3, dp_same (fun b o z => e _ _ z) h4, h5⟩
theorem rcHeard (B : BX P K mg base) {A : Around} {outer : List Env} {s : Shared} {H : Hp} {E : XK} : RcN (lawX P w K mg base A outer s H E) 2 (DList (DIns (He.ga K "Log") (REq K))) := by
  obtain ⟨fd, G, b⟩ := cal_Log_eq (w := w) B
  exact rcN_list (n := 1) (mon_ins REq_mono) ((rcG_ins (n := 1) G B.T.m_Log_eq.at_ B.T.m_Log_eq.fn b pX).eqG fun _ _ _ d => let ⟨a, b, _, _, _, _, hx, hy, _⟩ := d; ⟨a, b, hx, hy⟩)
end
end K75

namespace K75
open PySem PySem.Spec PyProof.Rows L2 XB LamX
/-! ### the law's own values, in plain words -/
abbrev nums : List Int := [0, 1, 2, 9, 10, 400]
def goodR (r : List Int) : Prop := r.length ≤ 4 ∧ ∀ i ∈ r, i ∈ nums
def goodN (rows : List (List Int)) : Prop := 1 ≤ rows.length ∧ rows.length ≤ 5 ∧ ∀ r ∈ rows, goodR r
theorem noLis_rows : ∀ rows : List (List Int), noLis (rows.map intsD) = true
  | [] => rfl
  | r :: rs => by rw [List.map_cons, noLis, noLi_ints r, noLis_rows rs] <;> rfl
/-- a whole number's word -/
def wordB (i : Int) (n : Nat) : Bool := decide ((strI i).length ≤ n) && ((TL.tl (strI i)).all (fun c => decide (c < 128) && (!decide (c = 32) && !decide (c = 10))) && (figB (strI i) && (decide (numW (strI i) = i) && decide (i.natAbs.log2 < 1920))))
structure WordI (i : Int) (n : Nat) : Prop where
  len : (strI i).length ≤ n
  pln : Pln (strI i)
  fig : figB (strI i) = true
  num : numW (strI i) = i
  sm : Small i
theorem WordI.of {i : Int} {n : Nat} (h : wordB i n = true) : WordI i n := by
  unfold wordB at h
  obtain ⟨h1, h⟩ := Bool.and_eq_true_iff.mp h
  obtain ⟨h2, h⟩ := Bool.and_eq_true_iff.mp h
  obtain ⟨h3, h⟩ := Bool.and_eq_true_iff.mp h
  obtain ⟨h4, h⟩ := Bool.and_eq_true_iff.mp h
  exact ⟨of_decide_eq_true h1, .of h2, h3, of_decide_eq_true h4, (of_decide_eq_true h : i.natAbs.log2 < 1920)⟩
theorem all_words {l : List Int} {n : Nat} (h : l.all (fun i => wordB i n) = true) : ∀ i ∈ l, WordI i n := fun i hi => .of (List.all_eq_true.mp h i hi)
theorem nums_words : ∀ i ∈ nums, WordI i 3 := all_words (by decide +kernel)
theorem nums_in : ∀ i ∈ nums, inN i = true := by decide +kernel
theorem dash_pln : Pln "-" := .of (by decide +kernel)
theorem figW_ne (r : List Int) : figW r ≠ [] := by
  unfold figW
  split
  · simp
  · simpa using ‹¬ r = []›
/-- rows of plain words, none without words -/
structure PlnR (N R W : Nat) (rows : List (List Str)) : Prop where
  len : rows.length ≤ N
  row : ∀ r ∈ rows, r ≠ [] ∧ r.length ≤ R
  word : ∀ r ∈ rows, ∀ x ∈ r, x.length ≤ W ∧ Pln x
theorem PlnR.gr {N R W : Nat} {rows : List (List Str)} (h : PlnR N R W rows) : Gr N R W rows := ⟨h.len, fun r hr => (h.row r hr).2, fun r hr x hx => ⟨(h.word r hr x hx).1, (h.word r hr x hx).2.asc⟩⟩
/-- read back -/
theorem rows_back {rows : List (List Str)} (hne : rows ≠ []) (h : ∀ r ∈ rows, r ≠ [] ∧ ∀ x ∈ r, Pln x) : rowsOf (textOf rows) = rows := by
  unfold rowsOf textOf
  rw [TL.split_join (y := nlS) (s := 10) (S := []) nl_tl (by decide +kernel) (by simpa using hne) (fun p hp => ?_), List.map_map]
  · refine (List.map_congr_left fun r hr => ?_).trans (List.map_id _)
    show Txt.split (Txt.join spS r) spS = r
    exact TL.split_join (y := spS) (s := 32) (S := []) sp_tl (by decide +kernel) (h r hr).1 fun p hp => ((h r hr).2 p hp).sp
  · obtain ⟨q, hq, rfl⟩ := List.mem_map.mp hp
    rw [join_tl, sp_tl]
    intro hm
    refine joinL_mem 32 (fun c => c ≠ 10) (by decide) _ (fun p hp c hc => ?_) 10 hm rfl
    obtain ⟨x, hx, rfl⟩ := List.mem_map.mp hp
    intro e
    exact ((h q hq).2 x hx).nl (e ▸ hc)
theorem PlnR.back {N R W : Nat} {rows : List (List Str)} (h : PlnR N R W rows) (hne : rows ≠ []) : rowsOf (textOf rows) = rows := rows_back hne fun r hr => ⟨(h.row r hr).1, fun x hx => (h.word r hr x hx).2⟩
theorem PlnR.ok {N R W : Nat} {rows : List (List Str)} (h : PlnR N R W rows) (hb : N * (R * (W + 1) + 1) + R * (W + 1) ≤ 16777216) : RowsOk rows :=
  ⟨fun r hr => Nat.le_trans (h.gr.sum_row hr) (by omega), Nat.le_trans h.gr.sum_all (by omega)⟩
/-! rows of numbers -/
theorem good_pln {rows : List (List Int)} (h : goodN rows) : PlnR 5 4 3 (rows.map figW) := by
  refine ⟨by rw [List.length_map]; exact h.2.1, fun r hr => ?_, fun r hr x hx => ?_⟩
  · obtain ⟨r0, hr0, rfl⟩ := List.mem_map.mp hr
    refine ⟨figW_ne r0, ?_⟩
    unfold figW
    split
    · simp
    · rw [List.length_map]
      exact (h.2.2 r0 hr0).1
  · obtain ⟨r0, hr0, rfl⟩ := List.mem_map.mp hr
    unfold figW at hx
    split at hx
    · rw [List.mem_singleton.mp hx]
      exact ⟨by decide, dash_pln⟩
    · obtain ⟨i, hi, rfl⟩ := List.mem_map.mp hx
      have := nums_words i ((h.2.2 r0 hr0).2 i hi)
      exact ⟨this.len, this.pln⟩
theorem good_ne {rows : List (List Int)} (h : goodN rows) : rows ≠ [] := fun e => by
  have := h.1
  rw [e] at this
  exact absurd this (by decide)
theorem dash_not_fig : figB "-" = false := by decide +kernel
theorem lineM_fig {r : List Int} (h : ∀ i ∈ r, figB (strI i) = true ∧ numW (strI i) = i) : lineM rdFd (figW r) = .inr (intsD r) := by
  have e : rdF (figW r) = .inr (r, (figW r).length) := by
    unfold rdF figW
    by_cases hr : r = []
    · subst hr
      rfl
    · rw [if_neg hr, if_neg, figs_none (k := (r.map strI).length) (fun i z hi hz => ?_) (Nat.le_refl _)]
      · show (if r.map strI = [] then _ else _) = _
        rw [if_neg (by simpa using hr), List.map_map]
        congr 2
        refine (List.map_congr_left fun i hi => ?_).trans (List.map_id _)
        exact (h i hi).2
      · rw [List.getElem?_map] at hz
        cases e : r[i]? with
        | none =>
          rw [e] at hz
          cases hz
        | some v =>
          rw [e] at hz
          cases hz
          exact (h v (List.mem_of_getElem? e)).1
      · intro hz
        rw [List.getElem?_map] at hz
        cases e : r[0]? with
        | none =>
          rw [e] at hz
          cases hz
        | some v =>
          rw [e] at hz
          have h1 := (h v (List.mem_of_getElem? e)).1
          have h2 : strI v = "-" := Option.some.inj hz
          rw [h2, dash_not_fig] at h1
          cases h1
  unfold lineM rdFd
  rw [e]
  show (if (figW r).length < (figW r).length then _ else _) = _
  rw [if_neg (Nat.lt_irrefl _)]
theorem readM_all {rd : List Str → Sum Nat (PyData × Nat)} {α : Type} (f : α → List Str) (g : α → PyData) : ∀ (l : List α) (n : Nat), (∀ x ∈ l, lineM rd (f x) = .inr (g x)) → readM rd n (l.map f) = .inr (l.map g)
  | [], _, _ => rfl
  | x :: l, n, h => by
    rw [List.map_cons, readM, h x List.mem_cons_self]
    show (match readM rd (n + 1) (l.map f) with
      | .inl e => (.inl e : Sum (Nat × Nat) (List PyData))
      | .inr ds => .inr (g x :: ds)) = _
    rw [readM_all f g l (n + 1) fun y hy => h y (List.mem_cons_of_mem _ hy)]
    rfl
theorem good_read {rows : List (List Int)} (h : goodN rows) : readM rdFd 0 (rowsOf (textOf (rows.map figW))) = .inr (rows.map intsD) := by
  rw [(good_pln h).back (by simpa using good_ne h)]
  exact readM_all figW intsD rows 0 fun r hr => lineM_fig fun i hi => let q := nums_words i ((h.2.2 r hr).2 i hi); ⟨q.fig, q.num⟩
theorem good_logOk {rows : List (List Int)} (h : goodN rows) : logOk rows = true := by
  rw [logOk_eq]
  refine Bool.and_eq_true_iff.mpr ⟨Bool.and_eq_true_iff.mpr ⟨decide_eq_true ?_, decide_eq_true ?_⟩, Bool.and_eq_true_iff.mpr ⟨List.all_eq_true.mpr fun r hr => ?_, List.all_eq_true.mpr fun i hi => ?_⟩⟩
  · have := h.1
    omega
  · have := h.2.1
    omega
  · have := (h.2.2 r hr).1
    exact Bool.and_eq_true_iff.mpr ⟨decide_eq_true (by omega), decide_eq_true (by omega)⟩
  · obtain ⟨r, hr, hi2⟩ := List.mem_flatten.mp hi
    exact nums_in i ((h.2.2 r hr).2 i hi2)
theorem good_logB {rows : List (List Int)} (h : goodN rows) : LogB rows :=
  ⟨Nat.le_trans h.2.1 (by decide), fun r hr => Nat.le_trans (h.2.2 r hr).1 (by decide), fun r hr i hi => (nums_words i ((h.2.2 r hr).2 i hi)).sm, (good_pln h).ok (by decide)⟩
theorem good_len {rows : List (List Int)} (h : goodN rows) : (textOf (rows.map figW)).length ≤ 160 := Nat.le_trans (good_pln h).gr.join_len (by decide)
theorem good_asc {rows : List (List Int)} (h : goodN rows) : Asc (textOf (rows.map figW)) := (good_pln h).gr.join_asc
/-! rows of steps -/
abbrev das : List Int := [0, 1, 2, 3, 4, 5]
abbrev dbs : List Int := [0, 7, 48]
abbrev cbs : List Int := [0, 1, 2, 3, 4, 5, 6, 7, 8]
abbrev ccs : List Int := [0, 5, 100000000000000000000]
def goodS1 (s : Stp) : Prop := (∃ a b, s = (("do" : Str), [a, b]) ∧ a ∈ das ∧ b ∈ dbs) ∨ (∃ a b c, s = (("come" : Str), [a, b, c]) ∧ a ∈ das ∧ b ∈ cbs ∧ c ∈ ccs)
def goodSs (ss : List Stp) : Prop := ss.length ≤ 5 ∧ ∀ s ∈ ss, goodS1 s
theorem das_w : ∀ i ∈ das, WordI i 1 := all_words (by decide +kernel)
theorem dbs_w : ∀ i ∈ dbs, WordI i 2 := all_words (by decide +kernel)
theorem cbs_w : ∀ i ∈ cbs, WordI i 1 := all_words (by decide +kernel)
theorem ccs_w : ∀ i ∈ ccs, WordI i 21 := all_words (by decide +kernel)
theorem das_b : ∀ i ∈ das, inB (.int i) 0 bigM = true := by decide +kernel
theorem dbs_b : ∀ i ∈ dbs, inB (.int i) 0 bigM = true := by decide +kernel
theorem cbs_b : ∀ i ∈ cbs, inB (.int i) 0 bigM = true := by decide +kernel
theorem ccs_b : ∀ i ∈ ccs, inB (.int i) 0 bigM = true := by decide +kernel
theorem good_stepB {s : Stp} (h : goodS1 s) : stepB (stpD s) = true := by
  rcases h with ⟨a, b, rfl, ha, hb⟩ | ⟨a, b, c, rfl, ha, hb, hc⟩
  · have h1 := das_b a ha
    have h2 := dbs_b b hb
    show ((decide (("do" : Str) = "do") || decide (("do" : Str) = "come")) && (decide ((3 : Int) ≤ ((2 : Nat) : Int) + 1) && (decide (((2 : Nat) : Int) + 1 = if ("do" : Str) = "do" then 3 else 4) && (inB (.int a) 0 bigM && (inB (.int b) 0 bigM && true))))) = true
    rw [h1, h2]
    decide +kernel
  · have h1 := das_b a ha
    have h2 := cbs_b b hb
    have h3 := ccs_b c hc
    show ((decide (("come" : Str) = "do") || decide (("come" : Str) = "come")) && (decide ((3 : Int) ≤ ((3 : Nat) : Int) + 1) && (decide (((3 : Nat) : Int) + 1 = if ("come" : Str) = "do" then 3 else 4) && (inB (.int a) 0 bigM && (inB (.int b) 0 bigM && (inB (.int c) 0 bigM && true)))))) = true
    rw [h1, h2, h3]
    decide +kernel
theorem good_all {ss : List Stp} (h : goodSs ss) : (ss.map stpD).all stepB = true := List.all_eq_true.mpr fun d hd => by
  obtain ⟨s, hs, rfl⟩ := List.mem_map.mp hd
  exact good_stepB (h.2 s hs)
theorem do_pln : Pln "do" := .of (by decide +kernel)
theorem come_pln : Pln "come" := .of (by decide +kernel)
theorem goodS_words {s : Stp} (h : goodS1 s) : (stpW s).length ≤ 4 ∧ (∀ x ∈ stpW s, x.length ≤ 21 ∧ Pln x) ∧ (Txt.join spS (stpW s)).length ≤ 30 := by
  rcases h with ⟨a, b, rfl, ha, hb⟩ | ⟨a, b, c, rfl, ha, hb, hc⟩
  · have h1 := das_w a ha
    have h2 := dbs_w b hb
    refine ⟨by show 3 ≤ 4; decide, fun x hx => ?_, ?_⟩
    · rcases List.mem_cons.mp hx with z | z
      · rw [z]
        exact ⟨by show ("do" : Str).length ≤ 21; decide, do_pln⟩
      · rcases List.mem_cons.mp z with z | z
        · rw [z]
          exact ⟨Nat.le_trans h1.len (by decide), h1.pln⟩
        · rw [List.mem_singleton.mp z]
          exact ⟨Nat.le_trans h2.len (by decide), h2.pln⟩
    · have l1 := h1.len
      have l2 := h2.len
      rw [TL.len_tl, join_tl, sp_tl]
      show (TL.tl "do" ++ ([32] ++ (TL.tl (strI a) ++ ([32] ++ TL.tl (strI b))))).length ≤ 30
      simp only [List.length_append, tl_len]
      show 2 + (1 + ((strI a).length + (1 + (strI b).length))) ≤ 30
      omega
  · have h1 := das_w a ha
    have h2 := cbs_w b hb
    have h3 := ccs_w c hc
    refine ⟨by show 4 ≤ 4; decide, fun x hx => ?_, ?_⟩
    · rcases List.mem_cons.mp hx with z | z
      · rw [z]
        exact ⟨by show ("come" : Str).length ≤ 21; decide, come_pln⟩
      · rcases List.mem_cons.mp z with z | z
        · rw [z]
          exact ⟨Nat.le_trans h1.len (by decide), h1.pln⟩
        · rcases List.mem_cons.mp z with z | z
          · rw [z]
            exact ⟨Nat.le_trans h2.len (by decide), h2.pln⟩
          · rw [List.mem_singleton.mp z]
            exact ⟨Nat.le_trans h3.len (by decide), h3.pln⟩
    · have l1 := h1.len
      have l2 := h2.len
      have l3 := h3.len
      rw [TL.len_tl, join_tl, sp_tl]
      show (TL.tl "come" ++ ([32] ++ (TL.tl (strI a) ++ ([32] ++ (TL.tl (strI b) ++ ([32] ++ TL.tl (strI c))))))).length ≤ 30
      simp only [List.length_append, tl_len]
      show 4 + (1 + ((strI a).length + (1 + ((strI b).length + (1 + (strI c).length))))) ≤ 30
      omega
theorem goodS_pln {ss : List Stp} (h : goodSs ss) : PlnR 5 4 21 (ss.map stpW) := by
  refine ⟨by rw [List.length_map]; exact h.1, fun r hr => ?_, fun r hr x hx => ?_⟩
  · obtain ⟨s, hs, rfl⟩ := List.mem_map.mp hr
    exact ⟨by unfold stpW; simp, (goodS_words (h.2 s hs)).1⟩
  · obtain ⟨s, hs, rfl⟩ := List.mem_map.mp hr
    exact (goodS_words (h.2 s hs)).2.1 x hx
theorem goodS_stpB {ss : List Stp} (h : goodSs ss) : StpB ss := by
  refine ⟨Nat.le_trans h.1 (by decide), fun s hs => ?_, (goodS_pln h).ok (by decide)⟩
  rcases h.2 s hs with ⟨a, b, rfl, ha, hb⟩ | ⟨a, b, c, rfl, ha, hb, hc⟩
  · refine ⟨by simp, by show 2 ≤ 1000; decide, fun i hi => ?_⟩
    rcases List.mem_cons.mp hi with z | z
    · rw [z]
      exact (das_w a ha).sm
    · rw [List.mem_singleton.mp z]
      exact (dbs_w b hb).sm
  · refine ⟨by simp, by show 3 ≤ 1000; decide, fun i hi => ?_⟩
    rcases List.mem_cons.mp hi with z | z
    · rw [z]
      exact (das_w a ha).sm
    · rcases List.mem_cons.mp z with z | z
      · rw [z]
        exact (cbs_w b hb).sm
      · rw [List.mem_singleton.mp z]
        exact (ccs_w c hc).sm
theorem lineM_stp {s : Stp} (h : goodS1 s) : lineM rdSd (stpW s) = .inr (stpD s) := by
  rcases h with ⟨a, b, rfl, ha, hb⟩ | ⟨a, b, c, rfl, ha, hb, hc⟩
  · have h1 := das_w a ha
    have h2 := dbs_w b hb
    have e : rdS (stpW (("do" : Str), [a, b])) = .inr ((("do" : Str), [a, b]), 3) := by
      have e1 : figO (stpW (("do" : Str), [a, b]))[1]? = true := h1.fig
      have e2 : figO (stpW (("do" : Str), [a, b]))[2]? = true := h2.fig
      rw [rdS_head (x := "do") rfl, if_pos (by decide), e1, e2, if_neg (by simp), if_neg (by simp), if_pos rfl]
      show (Sum.inr ((("do" : Str), [numW (strI a), numW (strI b)]), 3) : Sum Nat (Stp × Nat)) = _
      rw [h1.num, h2.num]
    unfold lineM rdSd
    rw [e]
    rfl
  · have h1 := das_w a ha
    have h2 := cbs_w b hb
    have h3 := ccs_w c hc
    have e : rdS (stpW (("come" : Str), [a, b, c])) = .inr ((("come" : Str), [a, b, c]), 4) := by
      have e1 : figO (stpW (("come" : Str), [a, b, c]))[1]? = true := h1.fig
      have e2 : figO (stpW (("come" : Str), [a, b, c]))[2]? = true := h2.fig
      have e3 : figO (stpW (("come" : Str), [a, b, c]))[3]? = true := h3.fig
      rw [rdS_head (x := "come") rfl, if_pos (by decide), e1, e2, e3, if_neg (by simp), if_neg (by simp), if_neg (by decide), if_neg (by simp)]
      show (Sum.inr ((("come" : Str), [numW (strI a), numW (strI b), numW (strI c)]), 4) : Sum Nat (Stp × Nat)) = _
      rw [h1.num, h2.num, h3.num]
    unfold lineM rdSd
    rw [e]
    rfl
theorem goodS_back {ss : List Stp} (h : goodSs ss) (hne : ss ≠ []) : rowsOf (stepsText ss) = ss.map stpW := by
  unfold stepsText
  rw [if_neg hne]
  exact (goodS_pln h).back (by simpa using hne)
theorem goodS_read {ss : List Stp} (h : goodSs ss) (hne : ss ≠ []) : readM rdSd 0 (rowsOf (stepsText ss)) = .inr (ss.map stpD) := by
  rw [goodS_back h hne]
  exact readM_all stpW stpD ss 0 fun s hs => lineM_stp (h.2 s hs)
theorem goodS_dash {ss : List Stp} (h : goodSs ss) (hne : ss ≠ []) : stepsText ss ≠ "-" := fun e => by
  have e1 := goodS_back h hne
  rw [e, rows_dash] at e1
  cases ss with
  | nil => exact hne rfl
  | cons s r =>
    have e2 : (["-"] : List Str) = stpW s := (List.cons.inj e1).1
    rcases h.2 s List.mem_cons_self with ⟨a, b, rfl, _⟩ | ⟨a, b, c, rfl, _⟩ <;> cases e2
theorem goodS_len {ss : List Stp} (h : goodSs ss) : (stepsText ss).length ≤ 160 := by
  unfold stepsText
  split
  · decide
  · have := join1_len nl_tl (ps := (ss.map stpW).map (Txt.join spS)) (B := 30) fun x hx => by
      obtain ⟨r, hr, rfl⟩ := List.mem_map.mp hx
      obtain ⟨s, hs, rfl⟩ := List.mem_map.mp hr
      exact (goodS_words (h.2 s hs)).2.2
    rw [List.length_map, List.length_map] at this
    have := h.1
    show (Txt.join nlS ((ss.map stpW).map (Txt.join spS))).length ≤ 160
    omega
theorem goodS_asc {ss : List Stp} (h : goodSs ss) : Asc (stepsText ss) := by
  unfold stepsText
  split
  · exact dash_pln.asc
  · exact (goodS_pln h).gr.join_asc
/-! what can be shown (repr) -/
structure Rp (n W : Nat) (d : PyData) : Prop where
  sh : d.showable = true
  nd : d.hasDict = false
  dp : d.depth ≤ n
  lv : d.leavesShort 41 = true
  wt : d.weight ≤ W
theorem Rp.len {n W : Nat} {d : PyData} (h : Rp n W d) (hW : 43 * W + 41 ≤ 16777216) : d.shown.length ≤ sizeLine := by
  have h1 := PyData.shown_le 41 (by decide) d h.lv
  have h2 := h.wt
  rw [sizeLine_eq]
  omega
theorem Rp.all {n W : Nat} : ∀ {ds : List PyData}, (∀ d ∈ ds, Rp n W d) → PyData.showableAll ds = true ∧ PyData.hasDictAll ds = false ∧ PyData.depthAll ds ≤ n ∧ PyData.leavesShortAll 41 ds = true ∧ PyData.weightAll ds ≤ ds.length * (W + 1)
  | [], _ => ⟨by rw [PyData.showableAll], by rw [PyData.hasDictAll], by rw [PyData.depthAll]; omega, by rw [PyData.leavesShortAll], by rw [PyData.weightAll]; omega⟩
  | d :: r, h => by
    obtain ⟨h1, h2, h3, h4, h5⟩ := Rp.all (ds := r) fun x hx => h x (List.mem_cons_of_mem _ hx)
    have hd := h d List.mem_cons_self
    refine ⟨?_, ?_, ?_, ?_, ?_⟩
    · rw [PyData.showableAll, hd.sh, h1] <;> rfl
    · rw [PyData.hasDictAll, hd.nd, h2] <;> rfl
    · rw [PyData.depthAll]
      exact Nat.max_le.mpr ⟨hd.dp, h3⟩
    · rw [PyData.leavesShortAll, hd.lv, h4] <;> rfl
    · rw [PyData.weightAll, List.length_cons, Nat.add_mul]
      have := hd.wt
      omega
theorem Rp.tup {n W L : Nat} {ds : List PyData} (h : ∀ d ∈ ds, Rp n W d) (hl : ds.length ≤ L) : Rp (n + 1) (L * (W + 1)) (.tuple ds) := by
  obtain ⟨h1, h2, h3, h4, h5⟩ := Rp.all h
  refine ⟨by rw [PyData.showable]; exact h1, by rw [PyData.hasDict]; exact h2, by rw [PyData.depth]; omega, by rw [PyData.leavesShort]; exact h4, ?_⟩
  rw [PyData.weight]
  exact Nat.le_trans h5 (Nat.mul_le_mul_right _ hl)
theorem Rp.lst {n W L : Nat} {ds : List PyData} (h : ∀ d ∈ ds, Rp n W d) (hl : ds.length ≤ L) : Rp (n + 1) (L * (W + 1)) (.list ds) := by
  obtain ⟨h1, h2, h3, h4, h5⟩ := Rp.all h
  refine ⟨by rw [PyData.showable]; exact h1, by rw [PyData.hasDict]; exact h2, by rw [PyData.depth]; omega, by rw [PyData.leavesShort]; exact h4, ?_⟩
  rw [PyData.weight]
  exact Nat.le_trans h5 (Nat.mul_le_mul_right _ hl)
theorem Rp.up {n W n' W' : Nat} {d : PyData} (h : Rp n W d) (h1 : n ≤ n') (h2 : W ≤ W') : Rp n' W' d := ⟨h.sh, h.nd, Nat.le_trans h.dp h1, h.lv, Nat.le_trans h.wt h2⟩
theorem Rp.int {i : Int} (h : i.natAbs < 10 ^ 40) : Rp 0 133 (.int i) := by
  have h2 : i.natAbs.log2 < 133 := by
    by_cases h0 : i.natAbs = 0
    · rw [h0]
      decide
    · exact (Nat.log2_lt h0).mpr (Nat.lt_trans h (by decide))
  refine ⟨by rw [PyData.showable]; exact decide_eq_true (by omega), by rw [PyData.hasDict], by rw [PyData.depth]; exact Nat.le_refl _, ?_, ?_⟩
  · rw [PyData.leavesShort]
    refine decide_eq_true ?_
    rw [PyData.shown, PySem.ofString_length]
    exact int_text_length_le10 (by decide) h
  · rw [PyData.weight]
    split <;> omega
theorem Rp.str {x : Str} (h : Asc x) (hl : x.length ≤ 133) : Rp 0 133 (.str x) := by
  refine ⟨by rw [PyData.showable], by rw [PyData.hasDict], by rw [PyData.depth]; exact Nat.le_refl _, ?_, by rw [PyData.weight]; exact hl⟩
  rw [PyData.leavesShort]
  exact List.all_eq_true.mpr fun c hc => decide_eq_true (Nat.lt_trans (h c hc) (by decide))
theorem digits_lt : ∀ (cs : List Nat) (acc : Nat), (∀ c ∈ cs, c ≤ 57) → cs.foldl (fun acc c => acc * 10 + (c - 48)) acc < (acc + 1) * 10 ^ cs.length
  | [], acc, _ => by simp
  | c :: cs, acc, h => by
    have h1 := digits_lt cs (acc * 10 + (c - 48)) fun x hx => h x (List.mem_cons_of_mem _ hx)
    have h2 := h c List.mem_cons_self
    rw [List.foldl_cons, List.length_cons, Nat.pow_succ]
    refine Nat.lt_of_lt_of_le h1 ?_
    rw [Nat.mul_comm (10 ^ cs.length) 10, ← Nat.mul_assoc]
    exact Nat.mul_le_mul_right _ (by omega)
theorem numW_lt {z : Str} (h : figB z = true) : (numW z).natAbs < 10 ^ 40 := by
  have hl := fig_len h
  have h1 : z.cps.toList.all (fun c => decide (c ∈ digs)) = true := by
    unfold figB at h
    simp only [Bool.and_eq_true] at h
    exact h.2.1
  have h2 : ∀ c ∈ z.cps.toList, c ≤ 57 := fun c hc => by
    have := digs_ok c (of_decide_eq_true (List.all_eq_true.mp h1 c hc))
    simp only [Bool.and_eq_true, decide_eq_true_eq] at this
    exact this.2
  have h3 := digits_lt z.cps.toList 0 h2
  rw [Nat.zero_add, Nat.one_mul] at h3
  have e : z.cps.toList.length = z.length := by
    rw [Array.length_toList]
    rfl
  rw [e] at h3
  show (((NumText.digitsVal z.cps.toList : Nat) : Int)).natAbs < _
  rw [Int.natAbs_natCast]
  exact Nat.lt_of_lt_of_le h3 (Nat.pow_le_pow_right (by decide) hl.2)
/-- steps that were read -/
structure RdS (s : Stp) : Prop where
  hd : s.1 = "do" ∨ s.1 = "come"
  len : s.2.length ≤ 3
  num : ∀ i ∈ s.2, i.natAbs < 10 ^ 40
theorem RdS.rp {s : Stp} (h : RdS s) : Rp 1 536 (stpD s) := by
  refine (Rp.tup (n := 0) (W := 133) (L := 4) (fun d hd => ?_) (by have := h.len; simpa using this)).up (Nat.le_refl _) (by decide)
  rcases List.mem_cons.mp hd with z | z
  · rw [z]
    rcases h.hd with e | e
    · rw [e]
      exact .str asc_do (by decide)
    · rw [e]
      exact .str asc_come (by decide)
  · obtain ⟨i, hi, rfl⟩ := List.mem_map.mp z
    exact .int (h.num i hi)
theorem rp_steps {ss : List Stp} (h : ∀ s ∈ ss, RdS s) (hl : ss.length ≤ 400) : Rp 2 214800 (.tuple (ss.map stpD)) :=
  .tup (L := 400) (fun d hd => by obtain ⟨s, hs, rfl⟩ := List.mem_map.mp hd; exact (h s hs).rp) (by simpa using hl)
theorem figO_num {r : List Str} {i : Nat} (h : ¬ figO r[i]? = false) : (numA r i).natAbs < 10 ^ 40 := by
  cases e : r[i]? with
  | none =>
    rw [e] at h
    exact absurd rfl h
  | some z =>
    rw [e] at h
    rw [numA_of e]
    exact numW_lt (by simpa [figO] using h)
theorem rdS_good {r : List Str} {s : Stp} {n : Nat} (h : rdS r = .inr (s, n)) : RdS s := by
  cases e : r[0]? with
  | none =>
    unfold rdS at h
    rw [e] at h
    cases h
  | some x =>
    rw [rdS_head e] at h
    split at h
    · rename_i hx
      have hx2 : x = "do" ∨ x = "come" := by simpa using hx
      split at h
      · cases h
      · rename_i f1
        split at h
        · cases h
        · rename_i f2
          split at h
          · cases h
            exact ⟨hx2, by show 2 ≤ 3; decide, fun i hi => by
              rcases List.mem_cons.mp hi with z | z
              · rw [z]
                exact figO_num f1
              · rw [List.mem_singleton.mp z]
                exact figO_num f2⟩
          · split at h
            · cases h
            · rename_i f3
              cases h
              exact ⟨hx2, by show 3 ≤ 3; decide, fun i hi => by
                rcases List.mem_cons.mp hi with z | z
                · rw [z]
                  exact figO_num f1
                · rcases List.mem_cons.mp z with z | z
                  · rw [z]
                    exact figO_num f2
                  · rw [List.mem_singleton.mp z]
                    exact figO_num f3⟩
    · cases h
theorem lineS_good {r : List Str} {d : PyData} (h : lineM rdSd r = .inr d) : ∃ s, d = stpD s ∧ RdS s := by
  cases e : rdS r with
  | inl i =>
    rw [lineM_inl e] at h
    cases h
  | inr q =>
    obtain ⟨s, n⟩ := q
    rw [lineM_inr e] at h
    split at h
    · cases h
    · cases h
      exact ⟨s, rfl, rdS_good e⟩
theorem readS_good : ∀ (rows : List (List Str)) (n : Nat) (ds : List PyData), readM rdSd n rows = .inr ds → ∃ ss : List Stp, ds = ss.map stpD ∧ ss.length = rows.length ∧ ∀ s ∈ ss, RdS s
  | [], n, ds, h => by
    cases h
    exact ⟨[], rfl, rfl, by simp⟩
  | r :: rs, n, ds, h => by
    rw [readM] at h
    cases e : lineM rdSd r with
    | inl i =>
      rw [e] at h
      cases h
    | inr d =>
      rw [e] at h
      cases e2 : readM rdSd (n + 1) rs with
      | inl i =>
        rw [e2] at h
        cases h
      | inr ds2 =>
        rw [e2] at h
        cases h
        obtain ⟨s, rfl, hs⟩ := lineS_good e
        obtain ⟨ss, rfl, hl, hss⟩ := readS_good rs (n + 1) ds2 e2
        exact ⟨s :: ss, rfl, by simp [hl], fun x hx => by
          rcases List.mem_cons.mp hx with z | z
          · rw [z]
            exact hs
          · exact hss x z⟩
/-- where a reading stops -/
theorem readM_lt {rd : List Str → Sum Nat (PyData × Nat)} : ∀ (rows : List (List Str)) (n l i : Nat), readM rd n rows = .inl (l, i) → l < n + rows.length
  | [], n, l, i, h => by cases h
  | r :: rs, n, l, i, h => by
    rw [readM] at h
    cases e : lineM rd r with
    | inl j =>
      rw [e] at h
      cases h
      rw [List.length_cons]
      omega
    | inr d =>
      rw [e] at h
      cases e2 : readM rd (n + 1) rs with
      | inl q =>
        rw [e2] at h
        cases h
        have := readM_lt rs (n + 1) l i e2
        rw [List.length_cons]
        omega
      | inr ds =>
        rw [e2] at h
        cases h
theorem rdS_le {r : List Str} {i : Nat} (h : rdS r = .inl i) : i ≤ 3 := by
  cases e : r[0]? with
  | none =>
    unfold rdS at h
    rw [e] at h
    cases h
    decide
  | some x =>
    rw [rdS_head e] at h
    split at h
    · split at h
      · cases h
        decide
      · split at h
        · cases h
          decide
        · split at h
          · cases h
          · split at h <;> cases h
            decide
    · cases h
      decide
theorem lineS_le {r : List Str} {i : Nat} (h : lineM rdSd r = .inl i) : i ≤ r.length + 3 := by
  cases e : rdS r with
  | inl j =>
    rw [lineM_inl e] at h
    cases h
    have := rdS_le e
    omega
  | inr q =>
    obtain ⟨s, n⟩ := q
    rw [lineM_inr e] at h
    split at h
    · cases h
      omega
    · cases h
theorem readS_le {L : Nat} : ∀ (rows : List (List Str)) (n l i : Nat), (∀ r ∈ rows, r.length ≤ L) → readM rdSd n rows = .inl (l, i) → i ≤ L + 3
  | [], n, l, i, _, h => by cases h
  | r :: rs, n, l, i, hL, h => by
    rw [readM] at h
    cases e : lineM rdSd r with
    | inl j =>
      rw [e] at h
      cases h
      have h1 := lineS_le e
      have h2 := hL r List.mem_cons_self
      omega
    | inr d =>
      rw [e] at h
      cases e2 : readM rdSd (n + 1) rs with
      | inl q =>
        rw [e2] at h
        cases h
        exact readS_le rs (n + 1) l i (fun x hx => hL x (List.mem_cons_of_mem _ hx)) e2
      | inr ds =>
        rw [e2] at h
        cases h
theorem rp_text {l w : Nat} (hl : l ≤ 20000000) (hw : w ≤ 20000000) : Rp 1 402 (hText l w) := by
  refine .tup (n := 0) (W := 133) (L := 3) (fun d hd => ?_) (by show 3 ≤ 3; decide)
  rcases List.mem_cons.mp hd with z | z
  · rw [z]
    exact .str (Asc.of (by decide +kernel)) (by decide)
  · rcases List.mem_cons.mp z with z | z
    · rw [z]
      exact .int (by rw [Int.natAbs_natCast]; exact Nat.lt_of_le_of_lt hl (by decide))
    · rw [List.mem_singleton.mp z]
      exact .int (by rw [Int.natAbs_natCast]; exact Nat.lt_of_le_of_lt hw (by decide))
end K75

namespace K75
open PySem PySem.Spec PyProof.Rows L2 XB LamX
section
variable {P : Program} {w : World} {K : PySem.W.Frag} {mg : Str → Option Value} {base : Heap}
/-! ### law, its first statements -/
def R_pen (K : PySem.W.Frag) : TS := fun D σ H => ∃ (a : Addr) (ns : List Int), σ = Sg (some (.ref a)) none none none none none none none none none none none none ∧ SqL K H a (ns.map V.int) ∧
  ∀ p c cs H', Kt (TL K) [] H H' → H p = none → Pen H' p c cs 0 → D.nx (Sg (some (.ref a)) (some (.ref p)) none none none none none none none none none none none) H'
theorem st_pen (B : BX P K mg base) {A : Around} {outer : List Env} {s : Shared} {H : Hp} {E : XK} (hr : Room 20 (lawA K A s)) : PS (lawX P w K mg base A outer s H E) (sub s_law 0) (R_pen K) := by
  have T := B.T
  have c__law_pen := (cal__law_pen (P := P) (w := w) (base := base) B).cal T.g__law_pen
  refine ps_weak (ps_set (i := 1) sc_law.nd rfl (by first | exact Or.inl rfl | exact Or.inr rfl) (pe_c (c__law_pen.mono (by first | decide | omega)) hr pX rfl (pa_cons (pv 0) pa_nil))) ?_
  rintro D σ H1 ⟨a, ns, rfl, hs, q⟩
  exact ⟨_, rfl, a, ns, rfl, hs, fun p c cs H' k hp hpen => q p c cs H' k hp hpen⟩
/-- the odd words -/
def odds : List Str := ["", "-", "do", "come", "0", "1", "007", "-1", "400", "401", "x", Txt.mul "9" 40, Txt.mul "9" 41, "1.0"]
def R_odd (K : PySem.W.Frag) : TS := fun D σ H => ∃ (sc pe : Option V), σ = Sg sc pe none none none none none none none none none none none ∧
  ∀ l H', H l = none → Kt (TL K) [] H H' → H' l = some (.lst (odds.map V.str)) → D.nx (Sg sc pe (some (.ref l)) none none none none none none none none none none) H'
theorem st_odd (B : BX P K mg base) {A : Around} {outer : List Env} {s : Shared} {H : Hp} {E : XK} (hr : Room 20 (lawA K A s)) : PS (lawX P w K mg base A outer s H E) (sub s_law 1) (R_odd K) := by
  have T := B.T
  refine ps_weak (ps_set (i := 2) sc_law.nd rfl (by first | exact Or.inl rfl | exact Or.inr rfl) (pe_lst (pa_cons pe_str (pa_cons pe_str (pa_cons pe_str (pa_cons pe_str (pa_cons pe_str (pa_cons pe_str (pa_cons pe_str (pa_cons pe_str (pa_cons pe_str (pa_cons pe_str (pa_cons pe_str (pa_cons (pe_op op_mulS pe_str pe_int) (pa_cons (pe_op op_mulS pe_str pe_int) (pa_cons pe_str pa_nil)))))))))))))))) ?_
  rintro D σ H1 ⟨sc, pe, rfl, q⟩
  refine ⟨_, _, rfl, rfl, ⟨by decide +kernel, by decide +kernel, by decide +kernel⟩, _, _, rfl, rfl, ⟨by decide +kernel, by decide +kernel, by decide +kernel⟩, Nat.le_of_lt (line5 (by simp)), fun l hl => ?_⟩
  exact q l _ hl (Kt.refl.new hl) upd_same
def R_num (K : PySem.W.Frag) : TS := fun D σ H => ∃ (sc od tn nu tx st ln lp be to he ba : Option V) (p c : Addr) (cs : List Int) (n : Nat), σ = Sg sc (some (.ref p)) od tn nu tx st ln lp be to he ba ∧ Pen H p c cs n ∧ n + 60 ≤ 100000 ∧
  ∀ rows v H', goodN rows → Kt (TL K) [p] H H' → Pen H' p c cs (n + 60) → Dp K H' v (logD rows) → D.nx (Sg sc (some (.ref p)) od tn (some v) tx st ln lp be to he ba) H'
theorem st_num (B : BX P K mg base) {A : Around} {outer : List Env} {s : Shared} {H : Hp} {E : XK} (hr : Room 20 (lawA K A s)) : PS (lawX P w K mg base A outer s H E) (sub (sub s_law 2) 0) (R_num K) := by
  have T := B.T
  have c__law_draw := (cal__law_draw (P := P) (w := w) (base := base) B).cal T.g__law_draw
  have c__law_pick := (cal__law_pick (P := P) (w := w) (base := base) B).cal T.g__law_pick
  refine ps_weak (ps_set (i := 4) sc_law.nd rfl (by first | exact Or.inl rfl | exact Or.inr rfl) (pe_callTy call_tuple_of (by rfl) T.b_tuple (by decide +kernel) (pa_cons (pe_lc (own := [("hand", 13)]) (g := gName 13) rfl sc_law.nd (pi_range1 rfl T.b_range (pa_cons (pe_op op_add pe_int (pe_c (c__law_draw.mono (by first | decide | omega)) hr pX rfl (pa_cons (pv 1) (pa_cons pe_int pa_nil)))) pa_nil)) (blkOk_by (own := [("hand", 13)]) (N := n_law) (sc := defScope s_law) (by decide +kernel)) (fun _ _ _ _ _ => (pg_name (i := 13) sc_law.nd rfl (by first | exact Or.inl rfl | exact Or.inr rfl))) (fun _ _ _ _ _ => pts_nil) (fun _ _ _ _ _ => (pe_callTy (call_tuple_ofK (K := K) rfl) (by rfl) T.b_tuple (by decide +kernel) (pa_cons (pe_lc (own := [("at", 14)]) (g := gName 14) rfl sc_law.nd (pi_range1 rfl T.b_range (pa_cons (pe_c (c__law_draw.mono (by first | decide | omega)) hr passL rfl (pa_cons (pv 1) (pa_cons pe_int pa_nil))) pa_nil)) (blkOk_by (own := [("at", 14)]) (N := n_law) (sc := _) (by kernel_rfl)) (fun _ _ _ _ _ => (pg_name (i := 14) sc_law.nd rfl (by first | exact Or.inl rfl | exact Or.inr rfl))) (fun _ _ _ _ _ => pts_nil) (fun _ _ _ _ _ => (pe_c (c__law_pick.mono (by first | decide | omega)) hr passL rfl (pa_cons (pv 1) (pa_cons (pe_lst (pa_cons pe_int (pa_cons pe_int (pa_cons pe_int (pa_cons pe_int (pa_cons pe_int (pa_cons pe_int pa_nil))))))) pa_nil))))) pa_nil)))) pa_nil))) ?_
  rintro D σ H1 ⟨sc, od, tn, nu, tx, st, ln, lp, be, to, he, ba, p, c, cs, n, rfl, hp, hn, q⟩
  refine ⟨_, rfl, p, c, cs, n, 5, rfl, hp, by omega, by decide, fun j H2 hj k2 hp2 => ?_⟩
  have hj5 : j ≤ 4 := by omega
  refine ⟨_, _, rfl, rfl, 1 + j, rfl, by omega, by omega, fun D0 hD0 => ?_⟩
  have ej : (1 + (j : Int)).toNat = 1 + j := by omega
  rw [ej]
  have npD : p ≠ D0 := fun e => by
    obtain ⟨i, l, e2, _⟩ := hp2.pn
    rw [e, hD0] at e2
    cases e2
  have ncD : c ≠ D0 := fun e => by
    have e2 := hp2.at_
    rw [e, hD0] at e2
    cases e2
  refine lc_it walk_range (fun i H3 => ∃ (acc : List V) (rows : List (List Int)), H3 D0 = some (.lst acc) ∧ acc.length = i ∧ rows.length = i ∧ (∀ r ∈ rows, goodR r) ∧ DpAll K H3 acc (rows.map intsD) ∧ Kt (TL K) [p] H2 H3 ∧ Pen H3 p c cs (n + 1 + 5 * i)) ?_ (fun _ _ _ _ => trivial) ?_ ?_
  · exact ⟨[], [], upd_same, rfl, rfl, by simp, .nil, Kt.refl.new hD0, hp2.kp (S := []) (Kp.refl.new hD0) (by simp) (by simp)⟩
  · rintro i x H3x H3 hi ⟨acc, rows, e1, e2, e3, e4, e5, k3, hp3⟩ ⟨rfl, rfl⟩
    refine ⟨rfl, yes_if ?_⟩
    refine ⟨_, rfl, p, c, cs, _, 5, rfl, hp3, by omega, by decide, fun j2 H4 hj2 k4 hp4 => ?_⟩
    have hj24 : j2 ≤ 4 := by omega
    refine ⟨(j2 : Int), rfl, by omega, by omega, fun M hM => ?_⟩
    rw [Int.toNat_natCast]
    have npM : p ≠ M := fun e => by
      obtain ⟨i, l, e2, _⟩ := hp4.pn
      rw [e, hM] at e2
      cases e2
    have ncM : c ≠ M := fun e => by
      have e2 := hp4.at_
      rw [e, hM] at e2
      cases e2
    refine lc_it walk_range (fun i2 H5 => ∃ r : List Int, H5 M = some (.lst (r.map V.int)) ∧ r.length = i2 ∧ (∀ x ∈ r, x ∈ nums) ∧ Kt (TL K) [p] H4 H5 ∧ Pen H5 p c cs (n + 1 + 5 * i + 1 + i2)) ?_ (fun _ _ _ _ => trivial) ?_ ?_
    · exact ⟨[], upd_same, rfl, by simp, Kt.refl.new hM, hp4.kp (S := []) (Kp.refl.new hM) (by simp) (by simp)⟩
    · rintro i2 x H5x H5 hi2 ⟨r, f1, f2, f3, k5, hp5⟩ ⟨rfl, rfl⟩
      refine ⟨rfl, yes_if ?_⟩
      refine ⟨_, rfl, by decide, fun l hl => ?_⟩
      have k6 : Kt (TL K) [] H5 (upd H5 l (.lst (nums.map V.int))) := Kt.refl.new hl
      have hlp : l ≠ p := fun e => by
        obtain ⟨i, l, e2, _⟩ := hp5.pn
        rw [← e, hl] at e2
        cases e2
      refine ⟨p, c, cs, _, l, nums.map V.int, rfl, hp5.kp k6.k (by simp) (by simp), by omega, upd_same, hlp, by decide, by decide, fun v H7 hv k7 hp7 => ?_⟩
      obtain ⟨x, hx, rfl⟩ := List.mem_map.mp hv
      have k57 : Kt (TL K) [p] H5 H7 := k6.of0.trans k7
      have f7 : H7 M = some (.lst (r.map V.int)) := k57.k _ _ f1 (by simpa using Ne.symm npM) (by intro _ z; cases z)
      refine ⟨_, f7, by rw [List.length_map]; exact line5 (by omega), r ++ [x], by rw [upd_same, List.map_append]; rfl, by simp [f2], ?_, (k5.trans k57).mutNew hM f7 soft_lst, ?_⟩
      · intro y hy
        rcases List.mem_append.mp hy with z | z
        · exact f3 y z
        · rw [List.mem_singleton.mp z]
          exact hx
      · exact (hp7.le (by omega)).kp (S := [M]) (Kp.refl.mut (by simp)) (by simpa using npM) (by simpa using ncM)
    · intro H5 ⟨r, f1, f2, f3, k5, hp5⟩
      refine ⟨M, _, rfl, .inl ⟨.of f1, fun l hl => ?_⟩⟩
      have k35 : Kt (TL K) [p] H3 H5 := k4.trans k5
      have k36 : Kt (TL K) [p] H3 (upd H5 l (.tup (r.map V.int))) := k35.new hl
      have g1 := k36.k _ _ e1 (by simpa using Ne.symm npD) (by intro _ z; cases z)
      have li : Lis H3 [p] := fun a ha => by
        rw [List.mem_singleton.mp ha]
        obtain ⟨i, l, e2, _⟩ := hp3.pn
        exact .inr ⟨_, e2⟩
      have li2 : Lis (upd H5 l (.tup (r.map V.int))) [D0] := fun a ha => by
        rw [List.mem_singleton.mp ha]
        exact .inr ⟨_, g1⟩
      have km : Kp [D0] (upd H5 l (.tup (r.map V.int))) (upd (upd H5 l (.tup (r.map V.int))) D0 (.lst (acc ++ [.ref l]))) := Kp.refl.mut (by simp)
      have hpl : Pen (upd H5 l (.tup (r.map V.int))) p c cs (n + 1 + 5 * (i + 1)) := (hp5.le (by omega)).kp (S := []) (Kp.refl.new hl) (by simp) (by simp)
      refine ⟨acc, g1, line5 (by omega), acc ++ [.ref l], rows ++ [r], upd_same, by simp [e2], by simp [e3], ?_, ?_, ((k3.trans k36).mutNew hD0 g1 soft_lst), ?_⟩
      · intro y hy
        rcases List.mem_append.mp hy with z | z
        · exact e4 y z
        · rw [List.mem_singleton.mp z]
          exact ⟨by omega, f3⟩
      · rw [List.map_append]
        refine dps_snoc (dps_lis li2 km (noLis_rows rows) (dps_lis li k36.k (noLis_rows rows) e5)) (dp_lis li2 km (noLi_ints r) (.tup (.of upd_same) (dps_ints r)))
      · exact hpl.kp km (by simpa using npD) (by simpa using ncD)
  · intro H3 ⟨acc, rows, e1, e2, e3, e4, e5, k3, hp3⟩
    refine ⟨D0, _, rfl, .inl ⟨.of e1, fun l hl => ?_⟩⟩
    exact q rows (.ref l) _ ⟨by omega, by omega, e4⟩ ((k2.trans k3).new hl) ((hp3.le (by omega)).kp (S := []) (Kp.refl.new hl) (by simp) (by simp)) (.tup (.of upd_same) (dps_same (same_new hl) e5))
/-! the text of the numbers -/
def R_text (K : PySem.W.Frag) : TS := fun D σ H => ∃ (sc pe od tn tx st ln lp be to he ba : Option V) (v : V) (rows : List (List Int)), σ = Sg sc pe od tn (some v) tx st ln lp be to he ba ∧ Dp K H v (logD rows) ∧ goodN rows ∧
  ∀ H', Kt (TL K) [] H H' → D.nx (Sg sc pe od tn (some v) (some (.str (textOf (rows.map figW)))) st ln lp be to he ba) H'
theorem tup_ints {H : Hp} {v : V} {rows : List (List Int)} (h : Dp K H v (logD rows)) : ∃ (a : Addr) (xs : List V), v = .ref a ∧ SqT K H a xs ∧ xs.length = rows.length ∧ ∀ (i : Nat) (x : V), xs[i]? = some x → ∃ r, rows[i]? = some r ∧ Dp K H x (intsD r) := by
  cases h with
  | @tup a xs _ hs hd =>
    refine ⟨a, xs, rfl, hs, by rw [dps_len hd, List.length_map], fun i x hx => ?_⟩
    obtain ⟨d, e1, e2⟩ := dps_at hd hx
    rw [List.getElem?_map] at e1
    cases e : rows[i]? with
    | none =>
      rw [e] at e1
      cases e1
    | some r =>
      rw [e] at e1
      cases e1
      exact ⟨r, rfl, e2⟩
theorem tup_int {H : Hp} {v : V} {r : List Int} (h : Dp K H v (intsD r)) : ∃ a, v = .ref a ∧ SqT K H a (r.map V.int) := by
  cases h with
  | @tup a xs _ hs hd =>
    rw [dps_int hd] at hs
    exact ⟨a, rfl, hs⟩
theorem eqv_ints_nil (r : List Int) : PyData.eqv (intsD r) (.tuple []) = decide (r = []) := by
  cases r with
  | nil => decide +kernel
  | cons i r =>
    rw [decide_eq_false (by simp)]
    rfl
theorem shp_ints (r : List Int) : SeqAt.shaped (intsD r) = true := (Shp.tup (n := 0) fun d hd => by obtain ⟨i, _, rfl⟩ := List.mem_map.mp hd; exact .int).ok (by decide)
theorem st_text (B : BX P K mg base) {A : Around} {outer : List Env} {s : Shared} {H : Hp} {E : XK} (hr : Room 20 (lawA K A s)) : PS (lawX P w K mg base A outer s H E) (sub (sub s_law 2) 1) (R_text K) := by
  have T := B.T
  refine ps_weak (ps_set (i := 5) sc_law.nd rfl (by first | exact Or.inl rfl | exact Or.inr rfl) (pe_jn (K := K) rfl rfl rfl rfl pe_str (pe_lc (own := [("row", 15)]) (g := gName 15) rfl sc_law.nd (pi_tup (pv 4)) (blkOk_by (own := [("row", 15)]) (N := n_law) (sc := defScope s_law) (by decide +kernel)) (fun _ _ _ _ _ => (pg_name (i := 15) sc_law.nd rfl (by first | exact Or.inl rfl | exact Or.inr rfl))) (fun _ _ _ _ _ => pts_nil) (fun _ _ _ _ _ => (pe_ifExp (pt_cmpR (op_neDK (K := K) rfl hr.units) (pv 15) (pe_tup pa_nil) (nomark _)) (pe_jn (K := K) rfl rfl rfl rfl pe_str (pe_lc (own := [("one", 16)]) (g := gName 16) rfl sc_law.nd (pi_tupK (K := K) rfl (pv 15)) (blkOk_by (own := [("one", 16)]) (N := n_law) (sc := _) (by kernel_rfl)) (fun _ _ _ _ _ => (pg_name (i := 16) sc_law.nd rfl (by first | exact Or.inl rfl | exact Or.inr rfl))) (fun _ _ _ _ _ => pts_nil) (fun _ _ _ _ _ => (pe_callTy call_str_int (by rfl) T.b_str (by decide +kernel) (pa_cons (pv 16) pa_nil))))) pe_str))))) ?_
  rintro D σ H1 ⟨sc, pe, od, tn, tx, st, ln, lp, be, to, he, ba, v, rows, rfl, hv, hg, q⟩
  obtain ⟨a, xs, rfl, hs, hl, hx⟩ := tup_ints hv
  have hok := (good_pln hg).ok (by decide)
  refine ⟨⟨_, rfl⟩, _, rfl, a, rfl, ⟨xs, hs⟩, fun D0 hD0 => ?_⟩
  refine lc_it (walk_tup (K := K) (a := a) (xs := xs)) (FlatP (TL K) [] H1 D0 fun i => V.str (Txt.join spS (figW (rows.getD i [])))) (flat_0 hD0) (fun i H2 _ p1 => sqT_kp .nil p1.k.k hs) ?_ ?_
  · rintro i x H2x H2 hi p1 ⟨rfl, hxi⟩
    obtain ⟨r, er, hxr⟩ := hx i x hxi
    have hr2 : rows.getD i [] = r := by rw [List.getD_eq_getElem?_getD, er] <;> rfl
    have hrm : r ∈ rows := List.mem_of_getElem? er
    have hxr2 := dp_kp .nil p1.k.k hxr
    obtain ⟨b, rfl, hb⟩ := tup_int hxr2
    refine ⟨rfl, yes_if ?_⟩
    refine ⟨_, rfl, by decide, fun t0 ht0 => ?_⟩
    have k3 : Kt (TL K) [] H2 (upd H2 t0 (.tup [])) := Kt.refl.new ht0
    refine ⟨intsD r, .tuple [], dp_kp .nil k3.k hxr2, .tup (.of upd_same) .nil, shp_ints r, by decide +kernel, _, rfl, ?_⟩
    rw [eqv_ints_nil]
    have hi2 : i < sizeLine := by
      have := hg.2.1
      exact line5 (by omega)
    by_cases hre : r = []
    · rw [decide_eq_true hre]
      refine it0 ?_
      refine flat_step p1 k3 .nil hD0 hi2 ?_
      rw [hr2, hre]
      decide +kernel
    · rw [decide_eq_false hre]
      refine it1 ?_
      have hb3 := sqT_kp .nil k3.k hb
      refine ⟨⟨_, rfl⟩, _, rfl, b, rfl, ⟨_, hb3⟩, fun M hM => ?_⟩
      refine lc_it (walk_tup (K := K) (a := b) (xs := r.map V.int)) (FlatP (TL K) [] (upd H2 t0 (.tup [])) M fun j => V.str (strI (r.getD j 0))) (flat_0 hM) (fun j H4 _ p2 => sqT_kp .nil p2.k.k hb3) ?_ ?_
      · rintro j y H4x H4 hj p2 ⟨rfl, hyj⟩
        rw [List.length_map] at hj
        rw [List.getElem?_map, List.getElem?_eq_getElem hj] at hyj
        obtain rfl : V.int r[j] = y := Option.some.inj hyj
        have hsm := (nums_words _ ((hg.2.2 r hrm).2 _ (List.getElem_mem hj))).sm
        have hrl := (hg.2.2 r hrm).1
        refine ⟨rfl, yes_if ⟨_, rfl, _, rfl, hsm, flat_step p2 .refl .nil hM (line5 (by omega)) ?_⟩⟩
        rw [List.getD_eq_getElem?_getD, List.getElem?_eq_getElem hj] <;> rfl
      · intro H4 p2
        have e1 : (List.range (r.map V.int).length).map (fun i => V.str (strI (r.getD i 0))) = (r.map strI).map V.str := by
          rw [List.length_map, map_range_getD r 0 (fun i => V.str (strI i)), List.map_map]
          rfl
        have d1 := p2.d
        rw [e1] at d1
        have ef : figW r = r.map strI := by
          unfold figW
          rw [if_neg hre]
        have hrow := hok.row (figW r) (List.mem_map.mpr ⟨r, hrm, rfl⟩)
        rw [ef] at hrow
        refine ⟨_, M, r.map strI, rfl, rfl, .inl (.of d1), ?_, ?_⟩
        · rw [show (Str.ofString " ").length = 1 from rfl, Nat.mul_one]
          exact hrow
        · refine flat_step p1 (k3.trans p2.k) .nil hD0 hi2 ?_
          rw [hr2, ef]
          rfl
  · intro H2 p1
    have e1 : (List.range xs.length).map (fun i => V.str (Txt.join spS (figW (rows.getD i [])))) = ((rows.map figW).map (Txt.join spS)).map V.str := by
      rw [hl, map_range_getD rows [] (fun r => V.str (Txt.join spS (figW r))), List.map_map, List.map_map]
      rfl
    have d1 := p1.d
    rw [e1] at d1
    refine ⟨nlS, D0, (rows.map figW).map (Txt.join spS), rfl, rfl, .inl (.of d1), ?_, q H2 p1.k⟩
    rw [show nlS.length = 1 from rfl, Nat.mul_one, List.length_map]
    exact hok.all
/-! the steps -/
theorem push_dat {H3 H5 : Hp} {D0 p : Addr} {acc : List V} {ds : List PyData} {y : V} {d : PyData} (hp : ∃ xs, H3 p = some (.lst xs)) (k : Kp [p] H3 H5) (g1 : H5 D0 = some (.lst acc)) (nl : noLis ds = true) (e : DpAll K H3 acc ds) (hy : Dp K H5 y d) (ny : noLi d = true) :
    DpAll K (upd H5 D0 (.lst (acc ++ [y]))) (acc ++ [y]) (ds ++ [d]) := by
  have li : Lis H3 [p] := fun a ha => by
    rw [List.mem_singleton.mp ha]
    exact .inr hp
  have li2 : Lis H5 [D0] := fun a ha => by
    rw [List.mem_singleton.mp ha]
    exact .inr ⟨_, g1⟩
  have km : Kp [D0] H5 (upd H5 D0 (.lst (acc ++ [y]))) := Kp.refl.mut (by simp)
  exact dps_snoc (dps_lis li2 km nl (dps_lis li k nl e)) (dp_lis li2 km ny hy)
theorem noLis_stps : ∀ ss : List Stp, noLis (ss.map stpD) = true
  | [] => rfl
  | s :: ss => by rw [List.map_cons, noLis, noLi_stp s, noLis_stps ss] <;> rfl
theorem Pen.lst {H : Hp} {p c : Addr} {cs : List Int} {n : Nat} (h : Pen H p c cs n) : ∃ xs, H p = some (.lst xs) := by
  obtain ⟨i, l, e2, _⟩ := h.pn
  exact ⟨_, e2⟩
theorem Pen.ne1 {H : Hp} {p c D : Addr} {cs : List Int} {n : Nat} (h : Pen H p c cs n) (hD : H D = none) : p ≠ D := fun e => by
  obtain ⟨xs, e2⟩ := h.lst
  rw [e, hD] at e2
  cases e2
theorem Pen.ne2 {H : Hp} {p c D : Addr} {cs : List Int} {n : Nat} (h : Pen H p c cs n) (hD : H D = none) : c ≠ D := fun e => by
  have e2 := h.at_
  rw [e, hD] at e2
  cases e2
theorem Pen.new {H : Hp} {p c D : Addr} {cs : List Int} {n : Nat} {o : HO} (h : Pen H p c cs n) (hD : H D = none) : Pen (upd H D o) p c cs n := h.kp (S := []) (Kp.refl.new hD) (by simp) (by simp)
def R_steps (K : PySem.W.Frag) : TS := fun D σ H => ∃ (sc od tn nu tx st ln lp be to he ba : Option V) (p c : Addr) (cs : List Int) (n : Nat), σ = Sg sc (some (.ref p)) od tn nu tx st ln lp be to he ba ∧ Pen H p c cs n ∧ n + 60 ≤ 100000 ∧
  ∀ ss v H', goodSs ss → Kt (TL K) [p] H H' → Pen H' p c cs (n + 60) → Dp K H' v (.list (ss.map stpD)) → D.nx (Sg sc (some (.ref p)) od tn nu tx (some v) ln lp be to he ba) H'
theorem st_steps (B : BX P K mg base) {A : Around} {outer : List Env} {s : Shared} {H : Hp} {E : XK} (hr : Room 20 (lawA K A s)) : PS (lawX P w K mg base A outer s H E) (sub (sub s_law 2) 2) (R_steps K) := by
  have T := B.T
  have c__law_draw := (cal__law_draw (P := P) (w := w) (base := base) B).cal T.g__law_draw
  have c__law_pick := (cal__law_pick (P := P) (w := w) (base := base) B).cal T.g__law_pick
  refine ps_weak (ps_setLc (i := 6) (own := [("lap", 8)]) (g := gName 8) rfl sc_law.nd rfl rfl (sw_true rfl rfl rfl (by decide +kernel)) (pi_range1 rfl T.b_range (pa_cons (pe_c (c__law_draw.mono (by first | decide | omega)) hr pX rfl (pa_cons (pv 1) (pa_cons pe_int pa_nil))) pa_nil)) (blkOk_by (own := [("lap", 8)]) (N := n_law) (sc := defScope s_law) (by decide +kernel)) (fun _ _ _ _ _ => (pg_name (i := 8) sc_law.nd rfl (by first | exact Or.inl rfl | exact Or.inr rfl))) (fun _ _ _ _ _ => pts_nil) (fun _ _ _ _ _ => (pe_ifExp (pt_cmpR op_eq (pe_c (c__law_draw.mono (by first | decide | omega)) hr passL rfl (pa_cons (pv 1) (pa_cons pe_int pa_nil))) pe_int (nomark _)) (pe_tup (pa_cons pe_str (pa_cons (pe_c (c__law_draw.mono (by first | decide | omega)) hr passL rfl (pa_cons (pv 1) (pa_cons pe_int pa_nil))) (pa_cons (pe_c (c__law_pick.mono (by first | decide | omega)) hr passL rfl (pa_cons (pv 1) (pa_cons (pe_lst (pa_cons pe_int (pa_cons pe_int (pa_cons pe_int pa_nil)))) pa_nil))) pa_nil)))) (pe_tup (pa_cons pe_str (pa_cons (pe_c (c__law_draw.mono (by first | decide | omega)) hr passL rfl (pa_cons (pv 1) (pa_cons pe_int pa_nil))) (pa_cons (pe_c (c__law_draw.mono (by first | decide | omega)) hr passL rfl (pa_cons (pv 1) (pa_cons pe_int pa_nil))) (pa_cons (pe_c (c__law_pick.mono (by first | decide | omega)) hr passL rfl (pa_cons (pv 1) (pa_cons (pe_lst (pa_cons pe_int (pa_cons pe_int (pa_cons (pe_op op_pow pe_int pe_int) pa_nil)))) pa_nil))) pa_nil)))))))) ?_
  rintro D σ H1 ⟨sc, od, tn, nu, tx, st, ln, lp, be, to, he, ba, p, c, cs, n, rfl, hp, hn, q⟩
  refine ⟨_, rfl, p, c, cs, n, 6, rfl, hp, by omega, by decide, fun j H2 hj k2 hp2 => ?_⟩
  have hj5 : j ≤ 5 := by omega
  refine ⟨(j : Int), rfl, by omega, by omega, fun D0 hD0 => ?_⟩
  rw [Int.toNat_natCast]
  have npD := hp2.ne1 hD0
  have ncD := hp2.ne2 hD0
  refine lc_it walk_range (fun i H3 => ∃ (acc : List V) (ss : List Stp), H3 D0 = some (.lst acc) ∧ acc.length = i ∧ ss.length = i ∧ (∀ s ∈ ss, goodS1 s) ∧ DpAll K H3 acc (ss.map stpD) ∧ Kt (TL K) [p] H2 H3 ∧ Pen H3 p c cs (n + 1 + 4 * i)) ?_ (fun _ _ _ _ => trivial) ?_ ?_
  · exact ⟨[], [], upd_same, rfl, rfl, by simp, .nil, Kt.refl.new hD0, hp2.new hD0⟩
  · rintro i x H3x H3 hi ⟨acc, ss, e1, e2, e3, e4, e5, k3, hp3⟩ ⟨rfl, rfl⟩
    refine ⟨rfl, yes_if ?_⟩
    -- a step made: behind it the same
    have fin : ∀ (s : Stp) (t : Addr) (H5 : Hp), goodS1 s → Kt (TL K) [p] H3 H5 → H5 t = none → Pen H5 p c cs (n + 1 + 4 * (i + 1)) → ∃ acc2, (upd H5 t (.tup (.str s.1 :: s.2.map V.int))) D0 = some (.lst acc2) ∧ acc2.length < sizeLine ∧
        ∃ (acc : List V) (ss : List Stp), (upd (upd H5 t (.tup (.str s.1 :: s.2.map V.int))) D0 (.lst (acc2 ++ [.ref t]))) D0 = some (.lst acc) ∧ acc.length = i + 1 ∧ ss.length = i + 1 ∧ (∀ s ∈ ss, goodS1 s) ∧ DpAll K (upd (upd H5 t (.tup (.str s.1 :: s.2.map V.int))) D0 (.lst (acc2 ++ [.ref t]))) acc (ss.map stpD) ∧ Kt (TL K) [p] H2 (upd (upd H5 t (.tup (.str s.1 :: s.2.map V.int))) D0 (.lst (acc2 ++ [.ref t]))) ∧ Pen (upd (upd H5 t (.tup (.str s.1 :: s.2.map V.int))) D0 (.lst (acc2 ++ [.ref t]))) p c cs (n + 1 + 4 * (i + 1)) := by
      intro s t H5 hs k5 ht hp5
      have k6 : Kt (TL K) [p] H3 (upd H5 t (.tup (.str s.1 :: s.2.map V.int))) := k5.new ht
      have g1 := k6.k _ _ e1 (by simpa using Ne.symm npD) (by intro _ z; cases z)
      refine ⟨acc, g1, line5 (by omega), acc ++ [.ref t], ss ++ [s], upd_same, by simp [e2], by simp [e3], ?_, ?_, ((k3.trans k6).mutNew hD0 g1 soft_lst), ?_⟩
      · intro y hy
        rcases List.mem_append.mp hy with z | z
        · exact e4 y z
        · rw [List.mem_singleton.mp z]
          exact hs
      · rw [List.map_append]
        exact push_dat hp3.lst k6.k g1 (noLis_stps ss) e5 (.tup (.of upd_same) (.cons (.str _) (dps_ints _))) (noLi_stp s)
      · exact (hp5.new ht).kp (S := [D0]) (Kp.refl.mut (by simp)) (by simpa using npD) (by simpa using ncD)
    refine ⟨_, rfl, p, c, cs, _, 2, rfl, hp3, by omega, by decide, fun j2 H4 hj2 k4 hp4 => ?_⟩
    refine ⟨rfl, _, rfl, ite2 (fun e => ?_) (fun e => ?_)⟩
    · refine ⟨_, rfl, p, c, cs, _, 6, rfl, hp4, by omega, by decide, fun ja H5 hja k5 hp5 => ?_⟩
      refine ⟨_, rfl, by decide, fun l hl => ?_⟩
      refine ⟨p, c, cs, _, l, dbs.map V.int, rfl, hp5.new hl, by omega, upd_same, Ne.symm (hp5.ne1 hl), by decide, by decide, fun v H6 hv k6 hp6 => ?_⟩
      obtain ⟨x, hx, rfl⟩ := List.mem_map.mp hv
      refine ⟨by show 3 ≤ sizeLine; decide, fun t ht => ?_⟩
      have ha : (ja : Int) ∈ das := by
        have : ja < 6 := by omega
        match ja, this with
        | 0, _ => decide
        | 1, _ => decide
        | 2, _ => decide
        | 3, _ => decide
        | 4, _ => decide
        | 5, _ => decide
      exact fin (("do" : Str), [(ja : Int), x]) t H6 (.inl ⟨_, _, rfl, ha, hx⟩) (((k4.trans k5).trans (Kt.refl.new hl)).trans k6) ht (hp6.le (by omega))
    · refine ⟨_, rfl, p, c, cs, _, 6, rfl, hp4, by omega, by decide, fun ja H5 hja k5 hp5 => ?_⟩
      refine ⟨_, rfl, p, c, cs, _, 9, rfl, hp5, by omega, by decide, fun jb H6 hjb k6 hp6 => ?_⟩
      refine ⟨_, rfl, _, _, rfl, rfl, ⟨by decide, by decide, by decide⟩, by decide, fun l hl => ?_⟩
      refine ⟨p, c, cs, _, l, ccs.map V.int, rfl, hp6.new hl, by omega, upd_same, Ne.symm (hp6.ne1 hl), by decide, by decide, fun v H7 hv k7 hp7 => ?_⟩
      obtain ⟨x, hx, rfl⟩ := List.mem_map.mp hv
      refine ⟨by show 4 ≤ sizeLine; decide, fun t ht => ?_⟩
      have ha : (ja : Int) ∈ das := by
        have : ja < 6 := by omega
        match ja, this with
        | 0, _ => decide
        | 1, _ => decide
        | 2, _ => decide
        | 3, _ => decide
        | 4, _ => decide
        | 5, _ => decide
      have hb : (jb : Int) ∈ cbs := by
        have : jb < 9 := by omega
        match jb, this with
        | 0, _ => decide
        | 1, _ => decide
        | 2, _ => decide
        | 3, _ => decide
        | 4, _ => decide
        | 5, _ => decide
        | 6, _ => decide
        | 7, _ => decide
        | 8, _ => decide
      exact fin (("come" : Str), [(ja : Int), (jb : Int), x]) t H7 (.inr ⟨_, _, _, rfl, ha, hb, hx⟩) ((((k4.trans k5).trans k6).trans (Kt.refl.new hl)).trans k7) ht (hp7.le (by omega))
  · intro H3 ⟨acc, ss, e1, e2, e3, e4, e5, k3, hp3⟩
    exact q ss (.ref D0) _ ⟨by omega, e4⟩ (k2.trans k3) (hp3.le (by omega)) (.lst (.of e1) e5)
/-! the text of the steps -/
def R_lines (K : PySem.W.Frag) : TS := fun D σ H => ∃ (sc pe od tn nu tx ln lp be to he ba : Option V) (v : V) (ss : List Stp), σ = Sg sc pe od tn nu tx (some v) ln lp be to he ba ∧ Dp K H v (.list (ss.map stpD)) ∧ goodSs ss ∧
  ∀ H', Kt (TL K) [] H H' → D.nx (Sg sc pe od tn nu tx (some v) (some (.str (stepsText ss))) lp be to he ba) H'
theorem lst_stps {H : Hp} {v : V} {ss : List Stp} (h : Dp K H v (.list (ss.map stpD))) : ∃ (a : Addr) (xs : List V), v = .ref a ∧ SqL K H a xs ∧ xs.length = ss.length ∧ DpAll K H xs (ss.map stpD) ∧ ∀ (i : Nat) (x : V), xs[i]? = some x → ∃ s, ss[i]? = some s ∧ Dp K H x (stpD s) := by
  cases h with
  | @lst a xs _ hs hd =>
    refine ⟨a, xs, rfl, hs, by rw [dps_len hd, List.length_map], hd, fun i x hx => ?_⟩
    obtain ⟨d, e1, e2⟩ := dps_at hd hx
    rw [List.getElem?_map] at e1
    cases e : ss[i]? with
    | none =>
      rw [e] at e1
      cases e1
    | some r =>
      rw [e] at e1
      cases e1
      exact ⟨r, rfl, e2⟩
theorem tup_stp {H : Hp} {v : V} {s : Stp} (h : Dp K H v (stpD s)) : ∃ a, v = .ref a ∧ SqT K H a (.str s.1 :: s.2.map V.int) := by
  cases h with
  | @tup a xs _ hs hd =>
    cases hd with
    | cons h1 h2 =>
      cases h1
      rw [dps_int h2] at hs
      exact ⟨a, rfl, hs⟩
theorem eqv_stps_nil (ss : List Stp) : PyData.eqv (.list (ss.map stpD)) (.list []) = decide (ss = []) := by
  cases ss with
  | nil => decide +kernel
  | cons i r =>
    rw [decide_eq_false (by simp)]
    rfl
theorem shp_lstps {ss : List Stp} (h : (ss.map stpD).all stepB = true) : SeqAt.shaped (.list (ss.map stpD)) = true := (Shp.lst (n := 1) fun d hd => by
  obtain ⟨s, hs, rfl⟩ := List.mem_map.mp hd
  exact shp_stp (List.all_eq_true.mp h _ hd)).ok (by decide)
theorem st_lines (B : BX P K mg base) {A : Around} {outer : List Env} {s : Shared} {H : Hp} {E : XK} (hr : Room 20 (lawA K A s)) : PS (lawX P w K mg base A outer s H E) (sub (sub s_law 2) 3) (R_lines K) := by
  have T := B.T
  refine ps_weak (ps_set (i := 7) sc_law.nd rfl (by first | exact Or.inl rfl | exact Or.inr rfl) (pe_ifExp (pt_cmpR (op_neD hr.units) (pv 6) (pe_lst pa_nil) (nomark _)) (pe_jn (K := K) rfl rfl rfl rfl pe_str (pe_lc (own := [("step", 17)]) (g := gName 17) rfl sc_law.nd (pi_list (pv 6)) (blkOk_by (own := [("step", 17)]) (N := n_law) (sc := defScope s_law) (by decide +kernel)) (fun _ _ _ _ _ => (pg_name (i := 17) sc_law.nd rfl (by first | exact Or.inl rfl | exact Or.inr rfl))) (fun _ _ _ _ _ => pts_nil) (fun _ _ _ _ _ => (pe_jn (K := K) rfl rfl rfl rfl pe_str (pe_lc (own := [("part", 18)]) (g := gName 18) rfl sc_law.nd (pi_tupK (K := K) rfl (pv 17)) (blkOk_by (own := [("part", 18)]) (N := n_law) (sc := _) (by kernel_rfl)) (fun _ _ _ _ _ => (pg_name (i := 18) sc_law.nd rfl (by first | exact Or.inl rfl | exact Or.inr rfl))) (fun _ _ _ _ _ => pts_nil) (fun _ _ _ _ _ => (pe_callTy call_str_both (by rfl) T.b_str (by decide +kernel) (pa_cons (pv 18) pa_nil)))))))) pe_str)) ?_
  rintro D σ H1 ⟨sc, pe, od, tn, nu, tx, ln, lp, be, to, he, ba, v, ss, rfl, hv, hg, q⟩
  obtain ⟨a, xs, rfl, hs, hl, hda, hx⟩ := lst_stps hv
  have hok := (goodS_pln hg).ok (by decide)
  refine ⟨_, rfl, by decide, fun e0 he0 => ?_⟩
  have k0 : Kt (TL K) [] H1 (upd H1 e0 (.lst [])) := Kt.refl.new he0
  refine ⟨.list (ss.map stpD), .list [], dp_kp .nil k0.k hv, .lst (.of upd_same) .nil, shp_lstps (good_all hg), by decide +kernel, _, rfl, ?_⟩
  rw [eqv_stps_nil]
  have q2 : ∀ H', Kt (TL K) [] (upd H1 e0 (.lst [])) H' → D.nx (Sg sc pe od tn nu tx (some (.ref a)) (some (.str (stepsText ss))) lp be to he ba) H' := fun H' k => q H' (k0.trans k)
  have hs2 := sqL_kp .nil k0.k hs
  have hda2 := dps_kp .nil k0.k hda
  have hx2 : ∀ (i : Nat) (x : V), xs[i]? = some x → ∃ s, ss[i]? = some s ∧ Dp K (upd H1 e0 (.lst [])) x (stpD s) := fun i x e => let ⟨s, h1, h2⟩ := hx i x e; ⟨s, h1, dp_kp .nil k0.k h2⟩
  generalize upd H1 e0 (.lst []) = H0 at q2 hs2 hx2
  by_cases hre : ss = []
  · rw [decide_eq_true hre]
    refine it0 ?_
    have q3 := q2 H0 .refl
    rw [hre] at q3
    exact q3
  · rw [decide_eq_false hre]
    refine it1 ?_
    refine ⟨⟨_, rfl⟩, _, rfl, a, rfl, ⟨xs, hs2⟩, fun D0 hD0 => ?_⟩
    refine lc_it (walk_list (K := K) (a := a) (xs := xs)) (FlatP (TL K) [] H0 D0 fun i => V.str (Txt.join spS (stpW (ss.getD i ("", []))))) (flat_0 hD0) (fun i H2 _ p1 => sqL_kp .nil p1.k.k hs2) ?_ ?_
    · rintro i x H2x H2 hi p1 ⟨rfl, hxi⟩
      obtain ⟨s0, es, hxs⟩ := hx2 i x hxi
      have hr2 : ss.getD i ("", []) = s0 := by rw [List.getD_eq_getElem?_getD, es] <;> rfl
      have hsm : s0 ∈ ss := List.mem_of_getElem? es
      obtain ⟨b, rfl, hb⟩ := tup_stp (dp_kp .nil p1.k.k hxs)
      have hi2 : i < sizeLine := by
        have := hg.1
        exact line5 (by omega)
      refine ⟨rfl, yes_if ?_⟩
      refine ⟨⟨_, rfl⟩, _, rfl, b, rfl, ⟨_, hb⟩, fun M hM => ?_⟩
      refine lc_it (walk_tup (K := K) (a := b) (xs := .str s0.1 :: s0.2.map V.int)) (FlatP (TL K) [] H2 M fun j => V.str ((stpW s0).getD j "")) (flat_0 hM) (fun j H4 _ p2 => sqT_kp .nil p2.k.k hb) ?_ ?_
      · rintro j y H4x H4 hj p2 ⟨rfl, hyj⟩
        have hlen : j < sizeLine := by
          have := (goodS_words (hg.2 s0 hsm)).1
          unfold stpW at this
          simp only [List.length_cons, List.length_map] at this hj
          exact line5 (by omega)
        refine ⟨rfl, yes_if ⟨_, rfl, ?_⟩⟩
        cases j with
        | zero =>
          obtain rfl : V.str s0.1 = y := Option.some.inj hyj
          exact .inr ⟨_, rfl, flat_step p2 .refl .nil hM hlen rfl⟩
        | succ j =>
          rw [List.getElem?_cons_succ, List.getElem?_map] at hyj
          cases ei : s0.2[j]? with
          | none =>
            rw [ei] at hyj
            cases hyj
          | some i0 =>
            rw [ei] at hyj
            obtain rfl : V.int i0 = y := Option.some.inj hyj
            have hsm := ((goodS_stpB hg).row s0 hsm).2.2 i0 (List.mem_of_getElem? ei)
            refine .inl ⟨_, rfl, hsm, flat_step p2 .refl .nil hM hlen ?_⟩
            show _ = V.str ((s0.1 :: s0.2.map strI).getD (j + 1) "")
            rw [List.getD_cons_succ, List.getD_eq_getElem?_getD, List.getElem?_map, ei] <;> rfl
      · intro H4 p2
        have e1 : (List.range (V.str s0.1 :: s0.2.map V.int).length).map (fun i => V.str ((stpW s0).getD i "")) = (stpW s0).map V.str := by
          rw [show (V.str s0.1 :: s0.2.map V.int).length = (stpW s0).length from by unfold stpW; simp, map_range_getD (stpW s0) "" V.str]
        have d1 := p2.d
        rw [e1] at d1
        have hrow := hok.row (stpW s0) (List.mem_map.mpr ⟨s0, hsm, rfl⟩)
        refine ⟨_, M, stpW s0, rfl, rfl, .inl (.of d1), ?_, ?_⟩
        · rw [show (Str.ofString " ").length = 1 from rfl, Nat.mul_one]
          exact hrow
        · refine flat_step p1 p2.k .nil hD0 hi2 ?_
          rw [hr2]
          rfl
    · intro H2 p1
      have e1 : (List.range xs.length).map (fun i => V.str (Txt.join spS (stpW (ss.getD i ("", []))))) = ((ss.map stpW).map (Txt.join spS)).map V.str := by
        rw [hl, map_range_getD ss ("", []) (fun r => V.str (Txt.join spS (stpW r))), List.map_map, List.map_map]
        rfl
      have d1 := p1.d
      rw [e1] at d1
      refine ⟨nlS, D0, (ss.map stpW).map (Txt.join spS), rfl, rfl, .inl (.of d1), ?_, ?_⟩
      · rw [show nlS.length = 1 from rfl, Nat.mul_one, List.length_map]
        exact hok.all
      · have q3 := q2 H2 p1.k
        unfold stepsText at q3
        rw [if_neg hre] at q3
        exact q3
end
end K75

namespace K75
open PySem PySem.Spec PyProof.Rows L2 XB LamX
section
variable {P : Program} {w : World} {K : PySem.W.Frag} {mg : Str → Option Value} {base : Heap}
/-! ### law, its looks at texts -/
theorem mk_log {H1 : Hp} {x dx : Addr} {v : V} {d : PyData} {rows : List (List Int)} {Q : Hp → Prop} {E : XK} (hx : H1 x = none) (hdx : H1 dx = none) (ne : dx ≠ x) (hv : Dp K H1 v d) (hd : d = .list (rows.map intsD) ∨ d = .tuple (rows.map intsD)) (ok : logOk rows = true) (q : ∀ H', Kt (TL K) [] H1 H' → LogV K H' (.ref x) rows → Q H') :
    sp_Log_init K [.ref x, v] (upd (upd H1 dx (.own x)) x (.ins (He.ga K "Log") dx [])) (fun v H2 => v = .non ∧ Q H2) E := by
  have k0 : Kt (TL K) [] H1 (upd (upd H1 dx (.own x)) x (.ins (He.ga K "Log") dx [])) := (Kt.refl.new hdx).new (by rw [upd_ne (Ne.symm ne)]; exact hx)
  refine ⟨x, dx, v, d, rows, rfl, upd_same, dp_kp .nil k0.k hv, hd, fun _ v' H' k e1 e2 => ⟨rfl, ?_⟩, fun z => ?_⟩
  · have k2 : Kt (TL K) [x] H1 H' := k0.of0.trans k
    exact q _ (k2.drop hx) ⟨x, dx, v', rfl, e1, e2⟩
  · rw [ok] at z
    cases z
theorem shp_log (rows : List (List Int)) : SeqAt.shaped (logD rows) = true := (Shp.tup (n := 1) fun d hd => by
  obtain ⟨r, _, rfl⟩ := List.mem_map.mp hd
  exact Shp.tup (n := 0) fun d hd => by obtain ⟨i, _, rfl⟩ := List.mem_map.mp hd; exact .int).ok (by decide)
theorem log_eq {H : Hp} {u v : V} {rows : List (List Int)} (h1 : LogV K H u rows) (h2 : LogV K H v rows) : DIns (He.ga K "Log") (REq K) u v H := by
  obtain ⟨a, dx, va, rfl, e1, e2⟩ := h1.ex
  obtain ⟨b, dy, vb, rfl, f1, f2⟩ := h2.ex
  exact ⟨a, b, dx, dy, _, _, rfl, rfl, e1, f1, dx, dy, va, vb, logD rows, e1, f1, e2, f2, shp_log rows⟩
/-- the texts are read back -/
theorem rd_log {H1 : Hp} {rows : List (List Int)} {Q : VK} {E : XK} (hT : Tabs (TL K) H1) (hg : goodN rows) (q : ∀ u H', Kt (TL K) [] H1 H' → LogV K H' u rows → Q u H') : sp_read_log K [.str (textOf (rows.map figW))] H1 Q E := by
  refine ⟨_, _, rfl, .dat (.str _), hT, .inl ⟨_, rfl, Nat.le_trans (good_len hg) (by decide), fun ln i h => ?_, fun rows2 h => ?_⟩⟩
  · rw [good_read hg] at h
    cases h
  · rw [good_read hg] at h
    have e := Sum.inr.inj h
    have e2 : rows2 = rows := by
      have inj : ∀ a b : List (List Int), a.map intsD = b.map intsD → a = b := fun a b => List.map_inj_right (fun x y hxy => by
        have h2 : x.map PyData.int = y.map PyData.int := PyData.tuple.inj hxy
        exact (List.map_inj_right (fun i j hij => PyData.int.inj hij)).mp h2) |>.mp
      exact (inj _ _ e).symm
    rw [e2]
    refine ⟨fun _ v' H' k hl => q v' H' k hl, fun z => ?_⟩
    rw [good_logOk hg] at z
    cases z
def R_if1 (K : PySem.W.Frag) : TS := fun D σ H => ∃ (sc pe od tn st ln lp be to he ba : Option V) (v : V) (rows : List (List Int)), σ = Sg sc pe od tn (some v) (some (.str (textOf (rows.map figW)))) st ln lp be to he ba ∧ Dp K H v (logD rows) ∧ goodN rows ∧ Tabs (TL K) H ∧
  ∀ H', Kt (TL K) [] H H' → D.nx σ H'
theorem st_if1 (B : BX P K mg base) {A : Around} {outer : List Env} {s : Shared} {H : Hp} {E : XK} (hr : Room 20 (lawA K A s)) : PS (lawX P w K mg base A outer s H E) (sub (sub s_law 2) 4) (R_if1 K) := by
  have T := B.T
  have c_log_text := (cal_log_text (P := P) (w := w) (base := base) B).cal T.g_log_text
  have c_read_log := (cal_read_log (P := P) (w := w) (base := base) B).cal T.g_read_log
  have c_Log_init := cal_Log_init (w := w) B
  obtain ⟨fd1, F1, G1⟩ := fok_log_text (w := w) B
  obtain ⟨fd2, F2, G2⟩ := fok_read_log (w := w) B
  refine ps_weak (ps_if (PW.pt (pw_or (pt_cmpR op_ne (pe_c (c_log_text.mono (by first | decide | omega)) hr pX rfl (pa_cons (pe_mk (c_Log_init.mono (by first | decide | omega)) hr pX rfl (pa_cons (pv 4) pa_nil)) pa_nil)) (pv 5) (nomark _)) (pw_or (pt_cmpR (op_neG (rcLog B) (hr.mono (by omega))) (pe_c (c_read_log.mono (by first | decide | omega)) hr pX rfl (pa_cons (pv 5) pa_nil)) (pe_mk (c_Log_init.mono (by first | decide | omega)) hr pX rfl (pa_cons (pv 4) pa_nil)) (nomark _)) (pw_or1 (pt_cmpR op_ne (pe_ck0 G1 (hr.mono (by omega)) rfl T.g_log_text F1.kp (kb_one (a := "log") F1 (fun _ _ _ _ _ _ _ => rfl)) pX (pk_cons (pe_ck0 G2 (hr.mono (by omega)) rfl T.g_read_log F2.kp (kb_one (a := "text") F2 (fun _ _ _ _ _ _ _ => rfl)) pX (pk_cons (pv 5) pk_nil)) pk_nil)) (pv 5) (nomark _))))))
 (pss_one (ps_ret pe_bl))
 pss_nil) ?_
  rintro D σ H1 ⟨sc, pe, od, tn, st, ln, lp, be, to, he, ba, v, rows, rfl, hv, hg, hT, q⟩
  refine ⟨_, rfl, fun x dx hx hdx ne => mk_log hx hdx ne hv (.inr rfl) (good_logOk hg) fun H2 k2 hl => ?_⟩
  refine ⟨_, rfl, .inl ⟨rows, hl, good_logB hg, fun H3 k3 => ?_⟩⟩
  have k13 := k2.trans k3
  refine ⟨_, rfl, rfl, _, rfl, ?_⟩
  rw [decide_eq_true (by rfl)]
  refine it0 ?_
  refine ⟨_, rfl, rd_log (k13.t hT) hg fun u2 H4 k4 hl4 => ?_⟩
  have k14 := k13.trans k4
  refine ⟨_, rfl, fun x dx hx hdx ne => mk_log hx hdx ne (dp_kp .nil k14.k hv) (.inr rfl) (good_logOk hg) fun H5 k5 hl5 => ?_⟩
  have k15 := k14.trans k5
  refine ⟨log_eq (hl4.kp k5.k) hl5, fun H6 x6 => ⟨_, rfl, ?_⟩⟩
  have k16 : Kt (TL K) [] H1 H6 := k15.trans (.same x6)
  refine it0 ?_
  refine ⟨_, rfl, rfl, rd_log (k16.t hT) hg fun u4 H7 k7 hl7 => ⟨rfl, u4, rfl, .inl ⟨rows, hl7, good_logB hg, fun H8 k8 => ?_⟩⟩⟩
  refine ⟨_, rfl, rfl, _, rfl, ?_⟩
  rw [decide_eq_true (by rfl)]
  refine it0 ?_
  exact q H8 ((k16.trans k7).trans k8)
/-! steps -/
theorem sizDs_le (B : Nat) : ∀ ds : List PyData, (∀ d ∈ ds, sizD d ≤ B) → sizDs ds ≤ ds.length * B
  | [], _ => by rw [sizDs]; omega
  | d :: ds, h => by
    rw [sizDs, List.length_cons, Nat.add_mul]
    have h1 := sizDs_le B ds fun x hx => h x (List.mem_cons_of_mem _ hx)
    have h2 := h d List.mem_cons_self
    omega
theorem deepDs_le (B : Nat) : ∀ ds : List PyData, (∀ d ∈ ds, deepD d ≤ B) → deepDs ds ≤ B
  | [], _ => by rw [deepDs]; omega
  | d :: ds, h => by
    rw [deepDs]
    exact Nat.max_le.mpr ⟨h d List.mem_cons_self, deepDs_le B ds fun x hx => h x (List.mem_cons_of_mem _ hx)⟩
theorem siz_int (i : Int) : sizD (.int i) = 1 := by rw [sizD] <;> simp
theorem siz_str (x : Str) : sizD (.str x) = 1 := by rw [sizD] <;> simp
theorem deep_int (i : Int) : deepD (.int i) = 0 := by rw [deepD] <;> simp
theorem deep_str (x : Str) : deepD (.str x) = 0 := by rw [deepD] <;> simp
def lstD (s : Stp) : PyData := .list (.str s.1 :: s.2.map PyData.int)
theorem fix_parts (s : Stp) : ((.str s.1 :: s.2.map PyData.int : List PyData)).map fixD = .str s.1 :: s.2.map PyData.int := by
  rw [List.map_cons, fix_ints, fixD_no (d := .str s.1) rfl]
theorem fix_stp (s : Stp) : fixD (stpD s) = stpD s := by
  unfold stpD
  rw [fixD_seq (.inr rfl), fix_parts]
theorem fix_lst (s : Stp) : fixD (lstD s) = stpD s := by
  unfold lstD stpD
  rw [fixD_seq (.inl rfl), fix_parts]
theorem stp_parts {s : Stp} (h : goodS1 s) : sizDs (.str s.1 :: s.2.map PyData.int) ≤ 4 ∧ deepDs (.str s.1 :: s.2.map PyData.int) ≤ 0 := by
  refine ⟨Nat.le_trans (sizDs_le 1 _ fun d hd => ?_) ?_, deepDs_le 0 _ fun d hd => ?_⟩
  · rcases List.mem_cons.mp hd with z | z
    · rw [z, siz_str]
      exact Nat.le_refl _
    · obtain ⟨i, _, rfl⟩ := List.mem_map.mp z
      rw [siz_int]
      exact Nat.le_refl _
  · have := (goodS_words h).1
    unfold stpW at this
    simpa using this
  · rcases List.mem_cons.mp hd with z | z
    · rw [z, deep_str]
      exact Nat.le_refl _
    · obtain ⟨i, _, rfl⟩ := List.mem_map.mp z
      rw [deep_int]
      exact Nat.le_refl _
theorem txt_steps {H1 : Hp} {v : V} {d : PyData} {ss : List Stp} {Q : VK} {E : XK} (hv : Dp K H1 v d) (hd : d = .list (ss.map lstD) ∨ d = .tuple (ss.map stpD)) (hg : goodSs ss) (q : ∀ H', Kt (TL K) [] H1 H' → Q (.str (stepsText ss)) H') : sp_steps_text K [v] H1 Q E := by
  have h1 : fixD d = .tuple (ss.map stpD) := by
    rcases hd with rfl | rfl
    · rw [fixD_seq (.inl rfl), List.map_map]
      exact congrArg _ (List.map_congr_left fun s _ => fix_lst s)
    · rw [fixD_seq (.inr rfl), List.map_map]
      exact congrArg _ (List.map_congr_left fun s _ => fix_stp s)
  have h2 : deepD d ≤ 3 ∧ sizD d ≤ 90000 := by
    have hl := hg.1
    have key : ∀ ds : List PyData, ds.length ≤ 5 → (∀ d ∈ ds, deepD d ≤ 2 ∧ sizD d ≤ 5) → deepDs ds ≤ 2 ∧ sizDs ds ≤ 25 := fun ds h1 h2 => by
      have a1 := deepDs_le 2 ds fun d hd => (h2 d hd).1
      have a2 := sizDs_le 5 ds fun d hd => (h2 d hd).2
      exact ⟨a1, by omega⟩
    rcases hd with rfl | rfl
    · rw [deep_seq (.inl rfl), siz_seq (.inl rfl)]
      have := key (ss.map lstD) (by simpa using hl) fun d hd => by
        obtain ⟨s, hs, rfl⟩ := List.mem_map.mp hd
        have hp := stp_parts (hg.2 s hs)
        unfold lstD
        rw [deep_seq (.inl rfl), siz_seq (.inl rfl)]
        omega
      omega
    · rw [deep_seq (.inr rfl), siz_seq (.inr rfl)]
      have := key (ss.map stpD) (by simpa using hl) fun d hd => by
        obtain ⟨s, hs, rfl⟩ := List.mem_map.mp hd
        have hp := stp_parts (hg.2 s hs)
        unfold stpD
        rw [deep_seq (.inr rfl), siz_seq (.inr rfl)]
        omega
      omega
  exact ⟨v, d, rfl, .dat hv, h2.1, h2.2, .inl ⟨ss, h1, good_all hg, goodS_stpB hg, q⟩⟩
theorem rd_steps {H1 : Hp} {ss : List Stp} {Q : VK} {E : XK} (hT : Tabs (TL K) H1) (hg : goodSs ss) (q : ∀ u H', Kt (TL K) [] H1 H' → Dp K H' u (.tuple (ss.map stpD)) → Q u H') : sp_read_steps K [.str (stepsText ss)] H1 Q E := by
  refine ⟨_, _, rfl, .dat (.str _), hT, .inl ⟨_, rfl, Nat.le_trans (goodS_len hg) (by decide), fun r hr x hx => rowsOf_asc (goodS_asc hg) hr hx, fun e v' H' k hd => q v' H' k ?_, fun e => ⟨fun ln i h => ?_, fun ds h v' H' k hd => q v' H' k ?_⟩⟩⟩
  · by_cases hne : ss = []
    · rw [hne]
      exact hd
    · exact absurd e (goodS_dash hg hne)
  · by_cases hne : ss = []
    · rw [hne] at e
      exact absurd rfl e
    · rw [goodS_read hg hne] at h
      cases h
  · by_cases hne : ss = []
    · rw [hne] at e
      exact absurd rfl e
    · rw [goodS_read hg hne] at h
      rw [Sum.inr.inj h]
      exact hd
theorem good_rdS {s : Stp} (h : goodS1 s) : RdS s := by
  have b : ∀ {i : Int}, inB (.int i) 0 bigM = true → i.natAbs < 10 ^ 40 := fun {i} h => by
    have h2 : (decide (0 ≤ i) && decide (i ≤ bigM)) = true := h
    obtain ⟨h3, h4⟩ := Bool.and_eq_true_iff.mp h2
    have h5 := of_decide_eq_true h3
    have h6 := of_decide_eq_true h4
    unfold bigM at h6
    omega
  rcases h with ⟨x, y, rfl, hx, hy⟩ | ⟨x, y, z, rfl, hx, hy, hz⟩
  · refine ⟨.inl rfl, by show 2 ≤ 3; decide, fun i hi => ?_⟩
    rcases List.mem_cons.mp hi with e | e
    · rw [e]
      exact b (das_b x hx)
    · rw [List.mem_singleton.mp e]
      exact b (dbs_b y hy)
  · refine ⟨.inr rfl, by show 3 ≤ 3; decide, fun i hi => ?_⟩
    rcases List.mem_cons.mp hi with e | e
    · rw [e]
      exact b (das_b x hx)
    · rcases List.mem_cons.mp e with e | e
      · rw [e]
        exact b (cbs_b y hy)
      · rw [List.mem_singleton.mp e]
        exact b (ccs_b z hz)
theorem rep_of {H1 : Hp} {v : V} {n W : Nat} {d : PyData} {Q : VK} (hv : Dp K H1 v d) (ht : (∃ ds, d = .list ds) ∨ ∃ ds, d = .tuple ds) (r : Rp n W d) (hn : n ≤ 64) (hW : 43 * W + 41 ≤ 16777216) (q : Q (.str d.shown) H1) : rReprD K [v] H1 Q := by
  have : ∃ a, v = .ref a := by
    rcases ht with ⟨ds, rfl⟩ | ⟨ds, rfl⟩
    · cases hv
      exact ⟨_, rfl⟩
    · cases hv
      exact ⟨_, rfl⟩
  obtain ⟨a, rfl⟩ := this
  exact ⟨a, d, rfl, hv, r.sh, r.nd, Nat.le_trans r.dp hn, r.len hW, q⟩
theorem rows_dpG {T : List (Addr × Str)} {S : List Addr} {H0 H : Hp} {D : Addr} {R : Nat → List V} {n : Nat} (p : RowsP T S H0 D R n H) (F : Nat → List PyData) (h : ∀ j, j < n → DpAll K H (R j) (F j)) : Dp K H (.ref D) (.list ((List.range n).map fun j => .list (F j))) := by
  obtain ⟨ls, e1, e2, e3⟩ := p.d
  refine .lst (.of e1) (dps_of_at (by simp [e2]) fun i v d h1 h2 => ?_)
  rw [List.getElem?_map] at h1
  cases e : ls[i]? with
  | none =>
    rw [e] at h1
    cases h1
  | some l =>
    rw [e] at h1
    cases h1
    have hi : i < n := by
      have := (List.getElem?_eq_some_iff.mp e).1
      omega
    rw [List.getElem?_map, List.getElem?_range hi] at h2
    cases h2
    exact .lst (.of (e3 i l e).2) (h i hi)
def R_if2 (K : PySem.W.Frag) : TS := fun D σ H => ∃ (sc pe od tn nu tx lp be to he ba : Option V) (v : V) (ss : List Stp), σ = Sg sc pe od tn nu tx (some v) (some (.str (stepsText ss))) lp be to he ba ∧ Dp K H v (.list (ss.map stpD)) ∧ goodSs ss ∧ Tabs (TL K) H ∧
  ∀ H', Kt (TL K) [] H H' → D.nx σ H'
theorem st_if2 (B : BX P K mg base) {A : Around} {outer : List Env} {s : Shared} {H : Hp} {E : XK} (hr : Room 20 (lawA K A s)) (hg0 : (lawA K A s).guards = some []) : PS (lawX P w K mg base A outer s H E) (sub (sub s_law 2) 5) (R_if2 K) := by
  have T := B.T
  have c_steps_text := (cal_steps_text (P := P) (w := w) (base := base) B).cal T.g_steps_text
  have c_read_steps := (cal_read_steps (P := P) (w := w) (base := base) B).cal T.g_read_steps
  obtain ⟨fd1, F1, G1⟩ := fok_steps_text (w := w) B
  obtain ⟨fd2, F2, G2⟩ := fok_read_steps (w := w) B
  have hg := hg0
  refine ps_weak (ps_if (PW.pt (pw_or (pt_cmpR op_ne (pe_c (c_steps_text.mono (by first | decide | omega)) hr pX rfl (pa_cons (pe_lc (own := [("step", 17)]) (g := gName 17) rfl sc_law.nd (pi_list (pv 6)) (blkOk_by (own := [("step", 17)]) (N := n_law) (sc := defScope s_law) (by decide +kernel)) (fun _ _ _ _ _ => (pg_name (i := 17) sc_law.nd rfl (by first | exact Or.inl rfl | exact Or.inr rfl))) (fun _ _ _ _ _ => pts_nil) (fun _ _ _ _ _ => (pe_callTy (call_list_ofK (K := K) rfl) (by rfl) T.b_list (by decide +kernel) (pa_cons (pv 17) pa_nil)))) pa_nil)) (pv 7) (nomark _)) (pw_or (pt_cmpR op_ne (pe_callB (call_reprD hg (room65 hr)) (by rfl) T.b_repr (by decide +kernel) (pa_cons (pe_c (c_read_steps.mono (by first | decide | omega)) hr pX rfl (pa_cons (pv 7) pa_nil)) pa_nil)) (pe_callB (call_reprD hg (room65 hr)) (by rfl) T.b_repr (by decide +kernel) (pa_cons (pe_callTy call_tuple_of (by rfl) T.b_tuple (by decide +kernel) (pa_cons (pv 6) pa_nil)) pa_nil)) (nomark _)) (pw_or1 (pt_cmpR op_ne (pe_ck0 G1 (hr.mono (by omega)) rfl T.g_steps_text F1.kp (kb_one (a := "steps") F1 (fun _ _ _ _ _ _ _ => rfl)) pX (pk_cons (pe_ck0 G2 (hr.mono (by omega)) rfl T.g_read_steps F2.kp (kb_one (a := "text") F2 (fun _ _ _ _ _ _ _ => rfl)) pX (pk_cons (pv 7) pk_nil)) pk_nil)) (pv 7) (nomark _))))))
 (pss_one (ps_ret pe_bl))
 pss_nil) ?_
  rintro D σ H1 ⟨sc, pe, od, tn, nu, tx, lp, be, to, he, ba, v, ss, rfl, hv, hgs, hT, q⟩
  obtain ⟨a, xs, rfl, hs, hl, hda, hx⟩ := lst_stps hv
  have rp := rp_steps (ss := ss) (fun s hs => good_rdS (hgs.2 s hs)) (Nat.le_trans hgs.1 (by decide))
  refine ⟨_, rfl, a, rfl, ⟨xs, hs⟩, fun D0 hD0 => ?_⟩
  refine lc_it (walk_list (K := K) (a := a) (xs := xs)) (RowsP (TL K) [] H1 D0 fun i => .str (ss.getD i ("", [])).1 :: (ss.getD i ("", [])).2.map V.int) (rows_0 hD0) (fun i H2 _ p1 => sqL_kp .nil p1.k.k hs) ?_ ?_
  · rintro i x H2x H2 hi p1 ⟨rfl, hxi⟩
    obtain ⟨s0, es, hxs⟩ := hx i x hxi
    have hr2 : ss.getD i ("", []) = s0 := by rw [List.getD_eq_getElem?_getD, es] <;> rfl
    obtain ⟨b, rfl, hb⟩ := tup_stp (dp_kp .nil p1.k.k hxs)
    refine ⟨rfl, yes_if ⟨_, rfl, b, _, rfl, .inr hb, fun l hl => ?_⟩⟩
    have hi2 : i < sizeLine := by
      have := hgs.1
      exact line5 (by omega)
    refine rows_step p1 (Kt.refl.new hl) .nil hD0 hi2 hl ?_
    rw [upd_same, hr2]
  · intro H2 p1
    have k2 : Kt (TL K) [] H1 H2 := p1.k
    have hd2 : Dp K H2 (.ref D0) (.list (ss.map lstD)) := by
      have := rows_dpG (K := K) p1 (fun i => .str (ss.getD i ("", [])).1 :: (ss.getD i ("", [])).2.map PyData.int) fun j hj => .cons (.str _) (dps_ints _)
      rw [hl] at this
      rw [show ((List.range ss.length).map fun j => PyData.list (.str (ss.getD j ("", [])).1 :: (ss.getD j ("", [])).2.map PyData.int)) = ss.map lstD from map_range_getD ss ("", []) lstD] at this
      exact this
    show tNil _ _ _
    unfold tNil
    show sp_steps_text _ _ _ _ _
    refine txt_steps hd2 (.inl rfl) hgs fun H3 k3 => ?_
    have k13 := k2.trans k3
    refine ⟨_, rfl, rfl, _, rfl, ?_⟩
    rw [decide_eq_true (by rfl)]
    refine it0 ?_
    refine ⟨_, rfl, rd_steps (k13.t hT) hgs fun u H4 k4 hu => ?_⟩
    have k14 := k13.trans k4
    refine rep_of hu (.inr ⟨_, rfl⟩) rp (by decide) (by decide) ?_
    refine ⟨_, rfl, a, xs, rfl, .inl ⟨sqL_kp .nil k14.k hs, fun l hl5 => ?_⟩⟩
    have k15 : Kt (TL K) [] H1 (upd H4 l (.tup xs)) := k14.new hl5
    refine rep_of (d := .tuple (ss.map stpD)) (.tup (.of upd_same) (dps_kp .nil k15.k hda)) (.inr ⟨_, rfl⟩) rp (by decide) (by decide) ?_
    refine ⟨rfl, _, rfl, ?_⟩
    rw [decide_eq_true (by rfl)]
    refine it0 ?_
    refine ⟨_, rfl, rfl, rd_steps (k15.t hT) hgs fun u2 H6 k6 hu2 => ⟨rfl, txt_steps hu2 (.inr rfl) hgs fun H7 k7 => ?_⟩⟩
    refine ⟨_, rfl, rfl, _, rfl, ?_⟩
    rw [decide_eq_true (by rfl)]
    refine it0 ?_
    exact q H7 ((k15.trans k6).trans k7)
end
end K75

namespace K75
open PySem PySem.Spec PyProof.Rows L2 XB LamX
section
variable {P : Program} {w : World} {K : PySem.W.Frag} {mg : Str → Option Value} {base : Heap}
/-! ### law, a lap with a bent text -/
theorem heard_lam {H : Hp} {qn : Str} {ws : List (Option V)} {dvs : List V} {spl : List (Option V) → Sp} {Q : VK} {E : XK} (hT : Tabs (TL K) H)
    (h : ∀ (H0 : Hp) (Q1 : VK) (E1 : XK), Kt (TL K) [] H H0 → Tabs (TL K) H0 → (∀ v H1, (∀ l, H1 l = none → Q (.ref l) (upd H1 l (.lst [v]))) → Q1 v H1) → (∀ cls d H1, HeardE K Q cls d H1 → E1 cls d H1) → spl ws dvs H0 Q1 E1) :
    Tabs (TL K) H ∧ ∀ (f c' : Addr) (H1 : Hp), ExtN H H1 → Tabs (TL K) H1 → (∀ b, H1 b = none → H b = none) → H1 c' = some (CodeO c' qn) → sp__law_heard K f (spLam qn c' ws dvs spl) [.ref f] H1 Q E := by
  refine ⟨hT, fun f c' H1 x1 t1 g1 hc => ⟨rfl, fun Q1 E1 H0 k0 hq he => ⟨code_kp .nil k0.k hc, ?_⟩⟩⟩
  exact h H0 Q1 E1 ((Kt.ext x1 t1 g1).trans k0) (k0.t t1) hq he
/-- what is heard of a log's text -/
def HeardL (K : PySem.W.Frag) (H : Hp) (z : Str) (u : V) : Prop := (∃ ln i, readM rdFd 0 (rowsOf z) = .inl (ln, i) ∧ Dp K H u (hText ln i)) ∨
  ∃ rows : List (List Int), readM rdFd 0 (rowsOf z) = .inr (rows.map intsD) ∧ ((logOk rows = true ∧ ∃ l v, u = .ref l ∧ H l = some (.lst [v]) ∧ LogV K H v rows) ∨ (logOk rows = false ∧ Dp K H u (hPart "log" "numbers")))
def ToldL (K : PySem.W.Frag) (H : Hp) (z : Str) (v : V) : Prop := (∃ ln i, readM rdFd 0 (rowsOf z) = .inl (ln, i) ∧ Dp K H v (hText ln i)) ∨
  ∃ rows : List (List Int), readM rdFd 0 (rowsOf z) = .inr (rows.map intsD) ∧ Dp K H v (.tuple [.str "log", .list (rows.map intsD)])
theorem heard_log {H : Hp} {qn : Str} {z : Str} {Q : VK} {E : XK} (hT : Tabs (TL K) H) (hz : z.length ≤ 16000000) (q : ∀ u H', Kt (TL K) [] H H' → HeardL K H' z u → Q u H') :
    Tabs (TL K) H ∧ ∀ (f c' : Addr) (H1 : Hp), ExtN H H1 → Tabs (TL K) H1 → (∀ b, H1 b = none → H b = none) → H1 c' = some (CodeO c' qn) → sp__law_heard K f (spLam qn c' [some (.str z)] [] (spl_bl K)) [.ref f] H1 Q E := by
  refine heard_lam hT fun H0 Q1 E1 k0 t0 hq he => ⟨z, rfl, rfl, _, _, rfl, .dat (.str _), t0, .inl ⟨_, rfl, by omega, fun ln i h => ?_, fun rows h => ⟨fun ok v' H' k hv => ?_, fun ok => ?_⟩⟩⟩
  · intro dd H' k hx
    refine he _ _ _ ⟨dd, rfl, .inl ⟨i, ln, rfl, hx, fun v H2 k2 hd => q v H2 ((k0.trans k).trans k2) (.inl ⟨ln, i, h, hd⟩)⟩⟩
  · refine hq v' H' fun l hl => q _ _ ((k0.trans k).new hl) (.inr ⟨rows, h, .inl ⟨ok, l, v', rfl, upd_same, hv.kp (Kp.refl.new hl)⟩⟩)
  · intro dd H' k hx
    refine he _ _ _ ⟨dd, rfl, .inr (.inl ⟨"numbers", rfl, hx, fun v H2 k2 hd => q v H2 ((k0.trans k).trans k2) (.inr ⟨rows, h, .inr ⟨ok, hd⟩⟩)⟩)⟩
theorem rowsA_of {z : Str} (ha : Asc z) (hz : z.length ≤ 16000000) : RowsA (rowsOf z) := ⟨rdB_of (by omega), Nat.le_trans rowsOf_len (by omega), fun r hr => rowsOf_row hr, fun r hr x hx => rowsOf_asc ha hr hx⟩
/-- [line.split(' ') for line in bent.split('\n')] -/
theorem rows_lc {H1 : Hp} {z : Str} {sc pe od tn nu tx st ln lp to he ba : Option V} {Q : VK} (hz : z.length ≤ 16000000) (q : ∀ D0 H', Kt (TL K) [] H1 H' → Dp K H' (.ref D0) (rowsD (rowsOf z)) → Q (.ref D0) H') :
    tLc (iList K (tM1 (fun x xs H Q => ∃ a b, x = V.str a ∧ xs = [V.str b] ∧ (b.length == 0) = false ∧ a.length + 2 ≤ sizeLine ∧ rNewStrs (Txt.split a b) H Q) (tVar 9) (tC (V.str (Str.ofString "\n"))))) (gName 19) tYes
      (tM1 (fun x xs H Q => ∃ a b, x = V.str a ∧ xs = [V.str b] ∧ (b.length == 0) = false ∧ a.length + 2 ≤ sizeLine ∧ rNewStrs (Txt.split a b) H Q) (tVar 19) (tC (V.str (Str.ofString " ")))) [19] (Sg sc pe od tn nu tx st ln lp (some (.str z)) to he ba) H1 Q := by
  refine ⟨_, rfl, ⟨z, rfl⟩, z, nlS, rfl, rfl, by decide +kernel, line_len (by omega), fun p hp => ⟨p, rfl, ⟨_, .of upd_same⟩, fun D hD => ?_⟩⟩
  have k0 : Kt (TL K) [] H1 (upd H1 p (.lst ((Txt.split z nlS).map V.str))) := Kt.refl.new hp
  have ePL : (upd H1 p (.lst ((Txt.split z nlS).map V.str))) p = some (.lst ((Txt.split z nlS).map V.str)) := upd_same
  generalize upd H1 p (.lst ((Txt.split z nlS).map V.str)) = H0 at hD k0 ePL
  refine lc_it (walk_list (K := K) (a := p) (xs := (Txt.split z nlS).map V.str)) (RowsP (TL K) [] H0 D fun i => ((rowsOf z).getD i []).map V.str) (rows_0 hD) (fun i H1 _ p1 => sqL_kp .nil p1.k.k (.of ePL)) ?_ ?_
  · rintro i x H1x H2 hi p1 ⟨rfl, hx⟩
    rw [List.getElem?_map] at hx
    rw [List.length_map] at hi
    rw [List.getElem?_eq_getElem hi] at hx
    obtain rfl : V.str (Txt.split z nlS)[i] = x := Option.some.inj hx
    have hmem : (Txt.split z nlS)[i] ∈ Txt.split z nlS := List.getElem_mem hi
    have hle := split1_len nl_tl (by decide +kernel) _ hmem
    refine ⟨rfl, yes_if ⟨_, rfl, ⟨_, rfl⟩, _, spS, rfl, rfl, by decide +kernel, line_len (by omega), fun l hl => ?_⟩⟩
    have hcnt := split1_count (z := z) nl_tl (by decide +kernel)
    refine rows_step p1 (Kt.refl.new hl) .nil hD (Nat.lt_of_lt_of_le hi (Nat.le_trans hcnt (by rw [sizeLine_eq]; omega))) hl ?_
    rw [upd_same]
    have er : (rowsOf z).getD i [] = Txt.split (Txt.split z nlS)[i] spS := by
      unfold rowsOf
      rw [List.getD_eq_getElem?_getD, List.getElem?_map, List.getElem?_eq_getElem hi] <;> rfl
    rw [er]
  · intro H2 p1
    have hn : ((Txt.split z nlS).map V.str).length = (rowsOf z).length := by
      unfold rowsOf
      rw [List.length_map, List.length_map]
    exact q D H2 (k0.trans p1.k) (rows_dp (K := K) p1 hn)
def R_bent1 (K : PySem.W.Frag) : TS := fun D σ H => ∃ (sc tn nu st ln lp be to he ba : Option V) (p c : Addr) (cs : List Int) (n : Nat) (so : Addr) (z : Str), σ = Sg sc (some (.ref p)) (some (.ref so)) tn nu (some (.str z)) st ln lp be to he ba ∧ Pen H p c cs n ∧ n + 5 ≤ 100000 ∧ Asc z ∧ z.length ≤ 160 ∧ H so = some (.lst (odds.map V.str)) ∧ so ≠ p ∧
  ∀ y H', Asc y → y.length ≤ 16000000 → (rowsOf y).length ≤ 400 → Kt (TL K) [p] H H' → Pen H' p c cs (n + 5) → D.nx (Sg sc (some (.ref p)) (some (.ref so)) tn nu (some (.str z)) st ln lp (some (.str y)) to he ba) H'
theorem odds_ok : ∀ x ∈ odds, x.length ≤ 160 ∧ Pln x := by
  have h : ∀ x ∈ odds, (decide (x.length ≤ 160) && decide ((TL.tl x).all (fun c => decide (c < 128) && (!decide (c = 32) && !decide (c = 10))) = true)) = true := by decide +kernel
  exact fun x hx => let q := Bool.and_eq_true_iff.mp (h x hx); ⟨of_decide_eq_true q.1, .of (of_decide_eq_true q.2)⟩
theorem st_bent1 (B : BX P K mg base) {A : Around} {outer : List Env} {s : Shared} {H : Hp} {E : XK} (hr : Room 20 (lawA K A s)) : PS (lawX P w K mg base A outer s H E) (sub (sub (sub s_law 2) 6) 0) (R_bent1 K) := by
  have T := B.T
  have c__law_bent_text := (cal__law_bent_text (P := P) (w := w) (base := base) B).cal T.g__law_bent_text
  refine ps_weak (ps_set (i := 9) sc_law.nd rfl (by first | exact Or.inl rfl | exact Or.inr rfl) (pe_c (c__law_bent_text.mono (by first | decide | omega)) hr pX rfl (pa_cons (pv 1) (pa_cons (pv 5) (pa_cons (pv 2) pa_nil))))) ?_
  rintro D σ H1 ⟨sc, tn, nu, st, ln, lp, be, to, he, ba, p, c, cs, n, so, z, rfl, hp, hn, ha, hl, hso, ne, q⟩
  exact ⟨_, rfl, _, rfl, _, rfl, p, c, cs, n, z, so, odds, rfl, hp, hn, ha, hl, hso, ne, by decide, by decide, odds_ok, fun y H' h1 h2 h3 k hp2 => q y H' h1 h2 h3 k hp2⟩
def R_bent2 (K : PySem.W.Frag) : TS := fun D σ H => ∃ (sc tn nu tx st lp be to he ba : Option V) (p c : Addr) (cs : List Int) (n : Nat) (so : Addr) (z : Str), σ = Sg sc (some (.ref p)) (some (.ref so)) tn nu tx st (some (.str z)) lp be to he ba ∧ Pen H p c cs n ∧ n + 5 ≤ 100000 ∧ Asc z ∧ z.length ≤ 160 ∧ H so = some (.lst (odds.map V.str)) ∧ so ≠ p ∧
  ∀ y H', Asc y → y.length ≤ 16000000 → (rowsOf y).length ≤ 400 → Kt (TL K) [p] H H' → Pen H' p c cs (n + 5) → D.nx (Sg sc (some (.ref p)) (some (.ref so)) tn nu tx st (some (.str z)) lp (some (.str y)) to he ba) H'
theorem st_bent2 (B : BX P K mg base) {A : Around} {outer : List Env} {s : Shared} {H : Hp} {E : XK} (hr : Room 20 (lawA K A s)) : PS (lawX P w K mg base A outer s H E) (sub (sub (sub s_law 2) 6) 3) (R_bent2 K) := by
  have T := B.T
  have c__law_bent_text := (cal__law_bent_text (P := P) (w := w) (base := base) B).cal T.g__law_bent_text
  refine ps_weak (ps_set (i := 9) sc_law.nd rfl (by first | exact Or.inl rfl | exact Or.inr rfl) (pe_c (c__law_bent_text.mono (by first | decide | omega)) hr pX rfl (pa_cons (pv 1) (pa_cons (pv 7) (pa_cons (pv 2) pa_nil))))) ?_
  rintro D σ H1 ⟨sc, tn, nu, tx, st, lp, be, to, he, ba, p, c, cs, n, so, z, rfl, hp, hn, ha, hl, hso, ne, q⟩
  exact ⟨_, rfl, _, rfl, _, rfl, p, c, cs, n, z, so, odds, rfl, hp, hn, ha, hl, hso, ne, by decide, by decide, odds_ok, fun y H' h1 h2 h3 k hp2 => q y H' h1 h2 h3 k hp2⟩
def R_told1 (K : PySem.W.Frag) : TS := fun D σ H => ∃ (sc pe od tn nu tx st ln lp to he ba : Option V) (z : Str), σ = Sg sc pe od tn nu tx st ln lp (some (.str z)) to he ba ∧ Asc z ∧ z.length ≤ 16000000 ∧ Tabs (TL K) H ∧
  ∀ v u H', Kt (TL K) [] H H' → ToldL K H' z v → HeardL K H' z u → D.nx (Sg sc pe od tn nu tx st ln lp (some (.str z)) (some v) (some u) ba) H'
theorem HeardL.kp {H H' : Hp} {z : Str} {u : V} (h : HeardL K H z u) (k : Kp [] H H') : HeardL K H' z u := by
  rcases h with ⟨ln, i, h1, h2⟩ | ⟨rows, h1, ⟨ok, l, v, rfl, h2, h3⟩ | ⟨ok, h2⟩⟩
  · exact .inl ⟨ln, i, h1, dp_kp .nil k h2⟩
  · exact .inr ⟨rows, h1, .inl ⟨ok, l, v, rfl, k _ _ h2 (by simp) (by intro _ z; cases z), h3.kp k⟩⟩
  · exact .inr ⟨rows, h1, .inr ⟨ok, dp_kp .nil k h2⟩⟩
theorem ToldL.kp {H H' : Hp} {z : Str} {u : V} (h : ToldL K H z u) (k : Kp [] H H') : ToldL K H' z u := by
  rcases h with ⟨ln, i, h1, h2⟩ | ⟨rows, h1, h2⟩
  · exact .inl ⟨ln, i, h1, dp_kp .nil k h2⟩
  · exact .inr ⟨rows, h1, dp_kp .nil k h2⟩
theorem told_log {H2 : Hp} {z : Str} {D0 : Addr} {Q : VK} {E : XK} (ha : Asc z) (hz : z.length ≤ 16000000) (hd : Dp K H2 (.ref D0) (rowsD (rowsOf z))) (q : ∀ v H', Kt (TL K) [] H2 H' → ToldL K H' z v → Q v H') : sp__law_log_read K [.ref D0] H2 Q E := by
  refine ⟨D0, rowsOf z, rfl, hd, rowsA_of ha hz, fun ln i h v H3 k3 hv => q v H3 k3 (.inl ⟨ln, i, h, hv⟩), fun ds h v H3 k3 hv => ?_⟩
  obtain ⟨nss, rfl⟩ := readF_ints (rowsOf z) 0 ds h
  exact q v H3 k3 (.inr ⟨nss, h, hv⟩)
theorem st_told1 (B : BX P K mg base) {A : Around} {outer : List Env} {s : Shared} {H : Hp} {E : XK} (hr : Room 20 (lawA K A s)) : PS (lawX P w K mg base A outer s H E) (sub (sub (sub s_law 2) 6) 1) (R_told1 K) := by
  have T := B.T
  have khd : PySem.W.keepIn K (.ref (He.ga K "_law_heard")) = true := by
    obtain ⟨fd, F⟩ := T.f__law_heard
    exact F.kp
  have c__law_log_read := (cal__law_log_read (P := P) (w := w) (base := base) B).cal T.g__law_log_read
  refine ps_weak (ps_asg (pe_tup (pa_cons (pe_c (c__law_log_read.mono (by first | decide | omega)) hr pX rfl (pa_cons (pe_lc (own := [("line", 19)]) (g := gName 19) rfl sc_law.nd (pi_list (pe_sp rfl rfl rfl (pv 9) pe_str)) (blkOk_by (own := [("line", 19)]) (N := n_law) (sc := defScope s_law) (by decide +kernel)) (fun _ _ _ _ _ => (pg_name (i := 19) sc_law.nd rfl (by first | exact Or.inl rfl | exact Or.inr rfl))) (fun _ _ _ _ _ => pts_nil) (fun _ _ _ _ _ => (pe_sp rfl rfl rfl (pv 19) pe_str))) pa_nil)) (pa_cons (pe_lamC (T := TL K) (N := ["bent"]) (ps := []) (fr := ["bent"]) (js := [9]) (dvs := []) (kl := 17) (k := 19) (spl := spl_bl K) (TT := fun f spf => sp__law_heard K f spf) rfl T.g__law_heard khd (fun G f spf hG kin cf => (cal__law_heard (w := w) (B.up hG kin) cf).v kin) (hr.mono (by omega)) pX0 ⟨NdefX.nscope_by (by decide +kernel), fun _ => rfl, NdefX.ndef_free (sc := defScope s_law) (fr := ["bent"]) (by decide +kernel), NdefX.ndef_fr (sc := defScope s_law) (by decide +kernel), rfl, .inl ⟨rfl, rfl⟩, (bnd_all (ps := []) (fun _ _ _ _ _ _ us hl => match us, hl with | [], _ => rfl)), ⟨_, _, B.tl, rfl, List.mem_cons_self, tl_uniq B⟩⟩ ⟨spl_bl_len, fun G cl f c A outer s H vs ws Q E hG hr2 kin h => by obtain ⟨z, rfl, rfl, q⟩ := h; exact ⟨_, pe_c ((cal_read_log (w := w) (B.up hG kin)).cal T.g_read_log) (hr2.mono (by omega)) pXn rfl (pa_cons (pv 0) pa_nil), ⟨_, rfl, q⟩⟩⟩) pa_nil))) (pg_tup rfl (pgs_cons (pg_name (i := 10) sc_law.nd rfl (by first | exact Or.inl rfl | exact Or.inr rfl)) (pgs_cons (pg_name (i := 11) sc_law.nd rfl (by first | exact Or.inl rfl | exact Or.inr rfl)) pgs_nil)))) ?_
  rintro D σ H1 ⟨sc, pe, od, tn, nu, tx, st, ln, lp, to, he, ba, z, rfl, ha, hz, hT, q⟩
  unfold tAsg tTup tCons tCall
  show tLc _ _ _ _ _ _ _ _
  refine rows_lc (K := K) hz fun D0 H2 k2 hd => ?_
  unfold tNil
  show sp__law_log_read _ _ _ _ _
  refine told_log ha hz hd fun v H3 k3 hv => ?_
  have k13 := k2.trans k3
  refine heard_log (k13.t hT) hz fun u H4 k4 hu => ?_
  refine ⟨by show 2 ≤ sizeLine; decide, fun t ht => ?_⟩
  have k14 : Kt (TL K) [] H1 (upd H4 t (.tup [v, u])) := (k13.trans k4).new ht
  have k45 : Kt (TL K) [] H4 (upd H4 t (.tup [v, u])) := Kt.refl.new ht
  refine ⟨t, _, rfl, .of upd_same, rfl, v, _, rfl, ?_⟩
  exact ⟨u, _, rfl, rfl, q v u _ k14 (hv.kp (k4.trans k45).k) (hu.kp k45.k)⟩
/-- what Log(told[1]) gives -/
def MadeL (K : PySem.W.Frag) (H : Hp) (rows : List (List Int)) (u : V) : Prop := (logOk rows = true ∧ ∃ l v, u = .ref l ∧ H l = some (.lst [v]) ∧ LogV K H v rows) ∨ (logOk rows = false ∧ Dp K H u (hPart "log" "numbers"))
theorem heard_new {H : Hp} {qn : Str} {p : Addr} {v : V} {rows : List (List Int)} {Q : VK} {E : XK} (hT : Tabs (TL K) H) (hp : SqT K H p [.str "log", v]) (hv : Dp K H v (.list (rows.map intsD))) (q : ∀ u H', Kt (TL K) [] H H' → MadeL K H' rows u → Q u H') :
    Tabs (TL K) H ∧ ∀ (f c' : Addr) (H1 : Hp), ExtN H H1 → Tabs (TL K) H1 → (∀ b, H1 b = none → H b = none) → H1 c' = some (CodeO c' qn) → sp__law_heard K f (spLam qn c' [some (.ref p)] [.int 0] (spl_bg K)) [.ref f] H1 Q E := by
  refine heard_lam hT fun H0 Q1 E1 k0 t0 hq he => ⟨p, v, rfl, rfl, sqT_kp .nil k0.k hp, fun x dx hx hdx ne => ?_⟩
  have k1 : Kt (TL K) [] H0 (upd (upd H0 dx (.own x)) x (.ins (He.ga K "Log") dx [])) := (Kt.refl.new hdx).new (by rw [upd_ne (Ne.symm ne)]; exact hx)
  refine ⟨x, dx, v, _, rows, rfl, upd_same, dp_kp .nil (k0.trans k1).k hv, .inl rfl, fun ok v' H' k e1 e2 => ⟨rfl, ?_⟩, fun ok => ?_⟩
  · have k2 : Kt (TL K) [] H0 H' := (k1.of0.trans k).drop hx
    have hl : LogV K H' (.ref x) rows := ⟨x, dx, v', rfl, e1, e2⟩
    exact hq (.ref x) H' fun l hl0 => q _ _ ((k0.trans k2).new hl0) (.inl ⟨ok, l, .ref x, rfl, upd_same, hl.kp (Kp.refl.new hl0)⟩)
  · intro dd H' k hxd
    have k2 : Kt (TL K) [] H0 H' := (k1.of0.trans k).drop hx
    exact he _ _ _ ⟨dd, rfl, .inr (.inl ⟨"numbers", rfl, hxd, fun u H2 k3 hd => q u H2 ((k0.trans k2).trans k3) (.inr ⟨ok, hd⟩)⟩)⟩
theorem map_inj_ints {a b : List (List Int)} (h : a.map intsD = b.map intsD) : a = b :=
  (List.map_inj_right (fun x y hxy => by
    have h2 : x.map PyData.int = y.map PyData.int := PyData.tuple.inj hxy
    exact (List.map_inj_right (fun i j hij => PyData.int.inj hij)).mp h2)).mp h
theorem hText_at {H : Hp} {v : V} {l i : Nat} (h : Dp K H v (hText l i)) : ∃ a, v = .ref a ∧ SqT K H a [.str "text", .int l, .int i] := by
  cases h with
  | tup hs hd =>
    cases hd with
    | cons h1 r =>
      cases r with
      | cons h2 r =>
        cases r with
        | cons h3 r =>
          cases r
          cases h1
          cases h2
          cases h3
          exact ⟨_, rfl, hs⟩
theorem two_at {H : Hp} {v : V} {x : Str} {d : PyData} (h : Dp K H v (.tuple [.str x, d])) : ∃ a u, v = .ref a ∧ SqT K H a [.str x, u] ∧ Dp K H u d := by
  cases h with
  | tup hs hd =>
    cases hd with
    | cons h1 r =>
      cases r with
      | cons h2 r =>
        cases r
        cases h1
        exact ⟨_, _, rfl, hs, h2⟩
theorem shp_text (l i : Nat) : SeqAt.shaped (hText l i) = true := (Shp.tup (n := 0) fun d hd => by
  rcases List.mem_cons.mp hd with z | z
  · rw [z]
    exact .str (by decide +kernel)
  · rcases List.mem_cons.mp z with z | z
    · rw [z]
      exact .int
    · rw [List.mem_singleton.mp z]
      exact .int).ok (by decide)
def R_if3 (K : PySem.W.Frag) : TS := fun D σ H => ∃ (sc pe od tn nu tx st ln lp be ba : Option V) (v u : V) (z : Str), σ = Sg sc pe od tn nu tx st ln lp be (some v) (some u) ba ∧ ToldL K H z v ∧ HeardL K H z u ∧ Tabs (TL K) H ∧ ∀ H', Kt (TL K) [] H H' → D.nx σ H'
theorem st_if3 (B : BX P K mg base) {A : Around} {outer : List Env} {s : Shared} {H : Hp} {E : XK} (hr : Room 20 (lawA K A s)) : PS (lawX P w K mg base A outer s H E) (sub (sub (sub s_law 2) 6) 2) (R_if3 K) := by
  have T := B.T
  have khd : PySem.W.keepIn K (.ref (He.ga K "_law_heard")) = true := by
    obtain ⟨fd, F⟩ := T.f__law_heard
    exact F.kp
  refine ps_weak (ps_if (PW.pt (pw_or (PW.pt (pw_and (pt_cmpR op_eq (pe_ix ix_tup (pv 10) pe_int (fun _ _ => rfl)) pe_str (nomark _)) (pw_and1 (pt_cmpR (op_neD hr.units) (pv 11) (pv 10) (nomark _))))) (pw_or1 (PW.pt (pw_and (pt_cmpR op_eq (pe_ix ix_tup (pv 10) pe_int (fun _ _ => rfl)) pe_str (nomark _)) (pw_and1 (pt_cmpR (op_or (op_neG (rcHeard B) (hr.mono (by omega))) (op_neD hr.units)) (pv 11) (pe_lamC (T := TL K) (N := ["a1", "told"]) (ps := ["a1"]) (fr := ["told"]) (js := [10]) (dvs := [.int 0]) (kl := 17) (k := 19) (spl := spl_bg K) (TT := fun f spf => sp__law_heard K f spf) rfl T.g__law_heard khd (fun G f spf hG kin cf => (cal__law_heard (w := w) (B.up hG kin) cf).v kin) (hr.mono (by omega)) pX0 ⟨NdefX.nscope_by (by decide +kernel), fun _ => rfl, NdefX.ndef_free (sc := defScope s_law) (fr := ["told"]) (by decide +kernel), NdefX.ndef_fr (sc := defScope s_law) (by decide +kernel), rfl, .inr ⟨0, _, _, rfl, rfl⟩, (bnd_dfl (a := "a1") (v := .int 0) (fun _ _ _ _ _ _ _ _ => ⟨_, rfl, rfl⟩)), ⟨_, _, B.tl, rfl, List.mem_cons_self, tl_uniq B⟩⟩ ⟨spl_bg_len, fun G cl f c A outer s H vs ws Q E hG hr2 kin h => by obtain ⟨p, v, rfl, rfl, hp, q⟩ := h; exact ⟨_, pe_mk (cal_Log_init (w := w) (B.up hG kin)) (hr2.mono (by omega)) pXn rfl (pa_cons (pe_ix ix_tup (pv 1) pe_int (fun _ _ => rfl)) pa_nil), ⟨_, rfl, p, _, 1, v, rfl, rfl, hp, rfl, q⟩⟩⟩) (nomark _))))))))
 (pss_one (ps_ret pe_bl))
 pss_nil) ?_
  rintro D σ H1 ⟨sc, pe, od, tn, nu, tx, st, ln, lp, be, ba, v, u, z, rfl, ht, hh, hT, q⟩
  rcases ht with ⟨l, i, hrd, hv⟩ | ⟨rows, hrd, hv⟩
  · obtain ⟨a, rfl, hs⟩ := hText_at hv
    have hu : Dp K H1 u (hText l i) := by
      rcases hh with ⟨l2, i2, h1, h2⟩ | ⟨rows, h1, _⟩
      · rw [hrd] at h1
        cases h1
        exact h2
      · rw [hrd] at h1
        cases h1
    have sh := shp_text l i
    refine ⟨_, rfl, a, _, _, _, rfl, rfl, hs, by rfl, rfl, _, rfl, ?_⟩
    rw [decide_eq_true (by rfl)]
    refine it1 ⟨_, rfl, _, rfl, hText l i, hText l i, hu, hv, sh, sh, _, rfl, ?_⟩
    rw [SeqAt.eqv_refl _ (SeqAt.canLay_of_shaped sh)]
    refine it0 ⟨_, rfl, a, _, _, _, rfl, rfl, hs, by rfl, rfl, _, rfl, ?_⟩
    rw [decide_eq_false (by intro z; cases z)]
    refine it0 ?_
    exact q H1 .refl
  · obtain ⟨a, x, rfl, hs, hx⟩ := two_at hv
    refine ⟨_, rfl, a, _, _, _, rfl, rfl, hs, by rfl, rfl, _, rfl, ?_⟩
    rw [decide_eq_false (by intro z; cases z)]
    refine it0 ?_
    refine ⟨_, rfl, a, _, _, _, rfl, rfl, hs, by rfl, rfl, _, rfl, ?_⟩
    rw [decide_eq_true (by rfl)]
    refine it1 ⟨_, rfl, ?_⟩
    refine heard_new hT hs hx fun u2 H2 k2 hm => ?_
    rcases hh with ⟨l2, i2, h1, h2⟩ | ⟨rows2, h1, h2⟩
    · rw [hrd] at h1
      cases h1
    · rw [hrd] at h1
      obtain rfl := map_inj_ints (Sum.inr.inj h1)
      rcases h2 with ⟨ok, b, y, rfl, hb, hy⟩ | ⟨ok, hu⟩
      · rcases hm with ⟨_, b2, y2, rfl, hb2, hy2⟩ | ⟨no, _⟩
        · refine .inl ⟨⟨b, b2, _, _, rfl, rfl, k2.k _ _ hb (by simp) (by intro _ z; cases z), hb2, ?_⟩, fun H3 x3 => ⟨_, rfl, ?_⟩⟩
          · exact Prs.cons (log_eq (hy.kp k2.k) hy2) Prs.nil
          · refine it0 ?_
            exact q H3 (k2.trans (.same x3))
        · rw [ok] at no
          cases no
      · rcases hm with ⟨yes, _⟩ | ⟨_, hu2⟩
        · rw [ok] at yes
          cases yes
        · have sh : SeqAt.shaped (hPart "log" "numbers") = true := by decide +kernel
          refine .inr ⟨_, _, dp_kp .nil k2.k hu, hu2, sh, sh, _, rfl, ?_⟩
          rw [SeqAt.eqv_refl _ (SeqAt.canLay_of_shaped sh)]
          refine it0 ?_
          exact q H2 k2
/-! steps -/
/-- what is heard, told, of steps' text -/
def ReadS (z : Str) (d : Sum (Nat × Nat) (List PyData)) : Prop := (z = "-" ∧ d = .inr []) ∨ (z ≠ "-" ∧ readM rdSd 0 (rowsOf z) = d)
def ToldS (K : PySem.W.Frag) (H : Hp) (z : Str) (v : V) : Prop := (∃ ln i, ReadS z (.inl (ln, i)) ∧ Dp K H v (hText ln i)) ∨ ∃ ds, ReadS z (.inr ds) ∧ Dp K H v (.tuple [.str "steps", .tuple ds])
def HeardS (K : PySem.W.Frag) (H : Hp) (z : Str) (u : V) : Prop := (∃ ln i, ReadS z (.inl (ln, i)) ∧ Dp K H u (hText ln i)) ∨ ∃ ds, ReadS z (.inr ds) ∧ Dp K H u (.list [.tuple ds])
theorem ReadS.one {z : Str} {d e : Sum (Nat × Nat) (List PyData)} (h1 : ReadS z d) (h2 : ReadS z e) : d = e := by
  rcases h1 with ⟨a, b⟩ | ⟨a, b⟩
  · rcases h2 with ⟨a2, b2⟩ | ⟨a2, b2⟩
    · rw [b, b2]
    · exact absurd a a2
  · rcases h2 with ⟨a2, b2⟩ | ⟨a2, b2⟩
    · exact absurd a2 a
    · rw [← b, ← b2]
theorem heard_steps {H : Hp} {qn : Str} {z : Str} {Q : VK} {E : XK} (hT : Tabs (TL K) H) (ha : Asc z) (hz : z.length ≤ 16000000) (q : ∀ u H', Kt (TL K) [] H H' → HeardS K H' z u → Q u H') :
    Tabs (TL K) H ∧ ∀ (f c' : Addr) (H1 : Hp), ExtN H H1 → Tabs (TL K) H1 → (∀ b, H1 b = none → H b = none) → H1 c' = some (CodeO c' qn) → sp__law_heard K f (spLam qn c' [some (.str z)] [] (spl_bs K)) [.ref f] H1 Q E := by
  refine heard_lam hT fun H0 Q1 E1 k0 t0 hq he => ⟨z, rfl, rfl, _, _, rfl, .dat (.str _), t0, .inl ⟨_, rfl, by omega, fun r hr x hx => rowsOf_asc ha hr hx, fun e v' H' k hv => ?_, fun e => ⟨fun ln i h => ?_, fun ds h v' H' k hv => ?_⟩⟩⟩
  · exact hq v' H' fun l hl => q _ _ ((k0.trans k).new hl) (.inr ⟨[], .inl ⟨e, rfl⟩, .lst (.of upd_same) (.cons (dp_same (same_new hl) hv) .nil)⟩)
  · intro dd H' k hx
    exact he _ _ _ ⟨dd, rfl, .inl ⟨i, ln, rfl, hx, fun v H2 k2 hd => q v H2 ((k0.trans k).trans k2) (.inl ⟨ln, i, .inr ⟨e, h⟩, hd⟩)⟩⟩
  · exact hq v' H' fun l hl => q _ _ ((k0.trans k).new hl) (.inr ⟨ds, .inr ⟨e, h⟩, .lst (.of upd_same) (.cons (dp_same (same_new hl) hv) .nil)⟩)
theorem told_steps {H2 : Hp} {z : Str} {D0 : Addr} {Q : VK} {E : XK} (hne : z ≠ "-") (ha : Asc z) (hz : z.length ≤ 16000000) (hd : Dp K H2 (.ref D0) (rowsD (rowsOf z))) (q : ∀ v H', Kt (TL K) [] H2 H' → ToldS K H' z v → Q v H') : sp__law_steps_read K [.ref D0] H2 Q E :=
  ⟨D0, rowsOf z, rfl, hd, rowsA_of ha hz, fun ln i h v H3 k3 hv => q v H3 k3 (.inl ⟨ln, i, .inr ⟨hne, h⟩, hv⟩), fun ds h v H3 k3 hv => q v H3 k3 (.inr ⟨ds, .inr ⟨hne, h⟩, hv⟩)⟩
def R_told2 (K : PySem.W.Frag) : TS := fun D σ H => ∃ (sc pe od tn nu tx st ln lp to he ba : Option V) (z : Str), σ = Sg sc pe od tn nu tx st ln lp (some (.str z)) to he ba ∧ Asc z ∧ z.length ≤ 16000000 ∧
  ∀ v H', Kt (TL K) [] H H' → ToldS K H' z v → D.nx (Sg sc pe od tn nu tx st ln lp (some (.str z)) (some v) he ba) H'
theorem st_told2 (B : BX P K mg base) {A : Around} {outer : List Env} {s : Shared} {H : Hp} {E : XK} (hr : Room 20 (lawA K A s)) : PS (lawX P w K mg base A outer s H E) (sub (sub (sub s_law 2) 6) 4) (R_told2 K) := by
  have T := B.T
  have c__law_steps_read := (cal__law_steps_read (P := P) (w := w) (base := base) B).cal T.g__law_steps_read
  refine ps_weak (ps_set (i := 10) sc_law.nd rfl (by first | exact Or.inl rfl | exact Or.inr rfl) (pe_ifExp (pt_cmpR op_ne (pv 9) pe_str (nomark _)) (pe_c (c__law_steps_read.mono (by first | decide | omega)) hr pX rfl (pa_cons (pe_lc (own := [("line", 19)]) (g := gName 19) rfl sc_law.nd (pi_list (pe_sp rfl rfl rfl (pv 9) pe_str)) (blkOk_by (own := [("line", 19)]) (N := n_law) (sc := defScope s_law) (by decide +kernel)) (fun _ _ _ _ _ => (pg_name (i := 19) sc_law.nd rfl (by first | exact Or.inl rfl | exact Or.inr rfl))) (fun _ _ _ _ _ => pts_nil) (fun _ _ _ _ _ => (pe_sp rfl rfl rfl (pv 19) pe_str))) pa_nil)) (pe_tup (pa_cons pe_str (pa_cons (pe_tup pa_nil) pa_nil))))) ?_
  rintro D σ H1 ⟨sc, pe, od, tn, nu, tx, st, ln, lp, to, he, ba, z, rfl, ha, hz, q⟩
  refine ⟨_, rfl, rfl, _, rfl, ?_⟩
  by_cases hd : z = "-"
  · rw [decide_eq_true (by rw [hd])]
    refine it0 ?_
    refine ⟨by decide, fun t ht => ⟨by show 2 ≤ sizeLine; decide, fun t2 ht2 => ?_⟩⟩
    refine q (.ref t2) _ ((Kt.refl.new ht).new ht2) (.inr ⟨[], .inl ⟨hd, rfl⟩, .tup (.of upd_same) (.cons (.str _) (.cons (dp_same (same_new ht2) (.tup (.of upd_same) .nil)) .nil))⟩)
  · rw [decide_eq_false (fun e => hd (V.str.inj e))]
    refine it1 ?_
    unfold tCall tCons
    show tLc _ _ _ _ _ _ _ _
    refine rows_lc (K := K) hz fun D0 H2 k2 hd2 => ?_
    unfold tNil
    show sp__law_steps_read _ _ _ _ _
    exact told_steps hd ha hz hd2 fun v H3 k3 hv => q v H3 (k2.trans k3) hv
def R_if4 (K : PySem.W.Frag) : TS := fun D σ H => ∃ (sc pe od tn nu tx st ln lp he ba : Option V) (v : V) (z : Str), σ = Sg sc pe od tn nu tx st ln lp (some (.str z)) (some v) he ba ∧ Asc z ∧ z.length ≤ 16000000 ∧ (rowsOf z).length ≤ 400 ∧ ToldS K H z v ∧ Tabs (TL K) H ∧ ∀ H', Kt (TL K) [] H H' → D.nx σ H'
theorem read_rp {z : Str} {d : Sum (Nat × Nat) (List PyData)} (h : ReadS z d) (hz : z.length ≤ 16000000) (hr : (rowsOf z).length ≤ 400) : (∀ ln i, d = .inl (ln, i) → Rp 1 402 (hText ln i)) ∧ ∀ ds, d = .inr ds → Rp 2 214800 (.tuple ds) := by
  rcases h with ⟨_, rfl⟩ | ⟨_, h⟩
  · refine ⟨fun ln i e => (by cases e), fun ds e => ?_⟩
    cases e
    exact rp_steps (ss := []) (by simp) (by simp)
  · refine ⟨fun ln i e => ?_, fun ds e => ?_⟩
    · rw [e] at h
      have h1 := readM_lt _ _ _ _ h
      have h2 := readS_le (L := 16000001) _ _ _ _ (fun r hr => Nat.le_trans (rowsOf_rlen hr) (by omega)) h
      exact rp_text (by omega) (by omega)
    · rw [e] at h
      obtain ⟨ss, rfl, hl, hss⟩ := readS_good _ _ _ h
      exact rp_steps hss (by omega)
theorem st_if4 (B : BX P K mg base) {A : Around} {outer : List Env} {s : Shared} {H : Hp} {E : XK} (hr : Room 20 (lawA K A s)) (hg0 : (lawA K A s).guards = some []) : PS (lawX P w K mg base A outer s H E) (sub (sub (sub s_law 2) 6) 5) (R_if4 K) := by
  have T := B.T
  have khd : PySem.W.keepIn K (.ref (He.ga K "_law_heard")) = true := by
    obtain ⟨fd, F⟩ := T.f__law_heard
    exact F.kp
  have hg := hg0
  refine ps_weak (ps_if (pt_cmpR op_ne (pe_callB (call_reprD hg (room65 hr)) (by rfl) T.b_repr (by decide +kernel) (pa_cons (pe_lamC (T := TL K) (N := ["bent"]) (ps := []) (fr := ["bent"]) (js := [9]) (dvs := []) (kl := 17) (k := 19) (spl := spl_bs K) (TT := fun f spf => sp__law_heard K f spf) rfl T.g__law_heard khd (fun G f spf hG kin cf => (cal__law_heard (w := w) (B.up hG kin) cf).v kin) (hr.mono (by omega)) pX0 ⟨NdefX.nscope_by (by decide +kernel), fun _ => rfl, NdefX.ndef_free (sc := defScope s_law) (fr := ["bent"]) (by decide +kernel), NdefX.ndef_fr (sc := defScope s_law) (by decide +kernel), rfl, .inl ⟨rfl, rfl⟩, (bnd_all (ps := []) (fun _ _ _ _ _ _ us hl => match us, hl with | [], _ => rfl)), ⟨_, _, B.tl, rfl, List.mem_cons_self, tl_uniq B⟩⟩ ⟨spl_bs_len, fun G cl f c A outer s H vs ws Q E hG hr2 kin h => by obtain ⟨z, rfl, rfl, q⟩ := h; exact ⟨_, pe_c ((cal_read_steps (w := w) (B.up hG kin)).cal T.g_read_steps) (hr2.mono (by omega)) pXn rfl (pa_cons (pv 0) pa_nil), ⟨_, rfl, q⟩⟩⟩) pa_nil)) (pe_callB (call_reprD hg (room65 hr)) (by rfl) T.b_repr (by decide +kernel) (pa_cons (pe_ifExp (pt_cmpR op_eq (pe_ix ix_tup (pv 10) pe_int (fun _ _ => rfl)) pe_str (nomark _)) (pe_lst (pa_cons (pe_ix ix_tup (pv 10) pe_int (fun _ _ => rfl)) pa_nil)) (pv 10)) pa_nil)) (nomark _))
 (pss_one (ps_ret pe_bl))
 pss_nil) ?_
  rintro D σ H1 ⟨sc, pe, od, tn, nu, tx, st, ln, lp, he, ba, v, z, rfl, ha, hz, hrw, ht, hT, q⟩
  refine heard_steps hT ha hz fun u H2 k2 hu => ?_
  rcases ht with ⟨l, i, hrd, hv⟩ | ⟨ds, hrd, hv⟩
  · have hu2 : Dp K H2 u (hText l i) := by
      rcases hu with ⟨l2, i2, h1, h2⟩ | ⟨ds, h1, _⟩
      · cases hrd.one h1
        exact h2
      · cases hrd.one h1
    have rp := (read_rp hrd hz hrw).1 l i rfl
    unfold tNil
    show rReprD _ _ _ _
    refine rep_of hu2 (.inr ⟨_, rfl⟩) rp (by decide) (by decide) ?_
    have hv2 := dp_kp .nil k2.k hv
    obtain ⟨a, rfl, hs⟩ := hText_at hv2
    refine ⟨_, rfl, a, _, _, _, rfl, rfl, hs, by rfl, rfl, _, rfl, ?_⟩
    rw [decide_eq_false (by intro z; cases z)]
    refine it0 ⟨_, rfl, ?_⟩
    refine rep_of (K := K) hv2 (.inr ⟨_, rfl⟩) rp (by decide) (by decide) ?_
    refine ⟨rfl, _, rfl, ?_⟩
    rw [decide_eq_true (by rfl)]
    exact it0 (q H2 k2)
  · have hu2 : Dp K H2 u (.list [.tuple ds]) := by
      rcases hu with ⟨l2, i2, h1, h2⟩ | ⟨ds2, h1, h2⟩
      · cases hrd.one h1
      · cases hrd.one h1
        exact h2
    have rp := Rp.lst (L := 1) (n := 2) (W := 214800) (ds := [.tuple ds]) (fun d hd => by
      rw [List.mem_singleton.mp hd]
      exact (read_rp hrd hz hrw).2 ds rfl) (by simp)
    unfold tNil
    show rReprD _ _ _ _
    refine rep_of hu2 (.inl ⟨_, rfl⟩) rp (by decide) (by decide) ?_
    have hv2 := dp_kp .nil k2.k hv
    obtain ⟨a, x, rfl, hs, hx⟩ := two_at hv2
    refine ⟨_, rfl, a, _, _, _, rfl, rfl, hs, by rfl, rfl, _, rfl, ?_⟩
    rw [decide_eq_true (by rfl)]
    refine it1 ⟨_, rfl, a, _, _, _, rfl, rfl, hs, by rfl, by show 1 ≤ sizeLine; decide, fun b hb => ?_⟩
    refine rep_of (K := K) (d := .list [.tuple ds]) (.lst (.of upd_same) (.cons (dp_same (same_new hb) hx) .nil)) (.inl ⟨_, rfl⟩) rp (by decide) (by decide) ?_
    refine ⟨rfl, _, rfl, ?_⟩
    rw [decide_eq_true (by rfl)]
    exact it0 (q _ (k2.new hb))
end
end K75

namespace K75
open PySem PySem.Spec PyProof.Rows L2 XB LamX
section
variable {P : Program} {w : World} {K : PySem.W.Frag} {mg : Str → Option Value} {base : Heap}
/-! ### law, values that have no text -/
theorem _root_.XB.Tk.kp {H H' : Hp} {v : V} {d : PyData} (h : Tk K H v d) (k : Kp [] H H') : Tk K H' v d := by
  cases h with
  | dat h => exact .dat (dp_kp .nil k h)
  | dic h e =>
    obtain ⟨a, kvs, rfl, h⟩ := h
    exact .dic ⟨a, kvs, rfl, k _ _ h (by simp) (by intro _ z; cases z)⟩ e
/-- values that stand while the list at p changes -/
inductive OkV (K : PySem.W.Frag) (p : Addr) (H : Hp) (v : V) (d : PyData) : Prop where
  | dat (h : Dp K H v d) (n : noLi d = true)
  | dic (a : Addr) (e1 : v = .ref a) (h : H a = some (.dK [])) (e : d = .dict [])
  | one (l : Addr) (u : V) (du : PyData) (e1 : v = .ref l) (n : l ≠ p) (h : H l = some (.lst [u])) (hu : Dp K H u du) (nu : noLi du = true) (e : d = .list [du])
theorem OkV.tk {p : Addr} {H : Hp} {v : V} {d : PyData} (h : OkV K p H v d) : Tk K H v d := by
  cases h with
  | dat h _ => exact .dat h
  | dic a e1 h e => exact .dic ⟨a, [], e1, h⟩ e
  | one l u du e1 n h hu nu e =>
    rw [e1, e]
    exact .dat (.lst (.of h) (.cons hu .nil))
theorem OkV.kp {p : Addr} {H H' : Hp} {v : V} {d : PyData} (h : OkV K p H v d) (hp : ∃ xs, H p = some (.lst xs)) (k : Kp [p] H H') : OkV K p H' v d := by
  have li : Lis H [p] := fun a ha => by
    rw [List.mem_singleton.mp ha]
    exact .inr hp
  cases h with
  | dat h n => exact .dat (dp_lis li k n h) n
  | dic a e1 h e =>
    refine .dic a e1 (k _ _ h ?_ (by intro _ z; cases z)) e
    intro hm
    rw [List.mem_singleton.mp hm] at h
    obtain ⟨xs, hp⟩ := hp
    rw [hp] at h
    cases h
  | one l u du e1 n h hu nu e => exact .one l u du e1 n (k _ _ h (by simpa using n) (by intro _ z; cases z)) (dp_lis li k nu hu) nu e
/-- such values, each with what is wanted of it -/
def AllV (K : PySem.W.Frag) (p : Addr) (B : PyData → Bool) (H : Hp) (xs : List V) : Prop := ∀ x ∈ xs, ∃ d, B d = true ∧ OkV K p H x d
theorem AllV.nil {p : Addr} {B : PyData → Bool} {H : Hp} : AllV K p B H [] := fun x h => absurd h (by simp)
theorem AllV.push {p : Addr} {B : PyData → Bool} {H H' : Hp} {xs : List V} {x : V} {d : PyData} (h : AllV K p B H xs) (hp : ∃ xs, H p = some (.lst xs)) (k : Kp [] H H') (hB : B d = true) (hx : OkV K p H' x d) : AllV K p B H' (xs ++ [x]) := fun y hy => by
  rcases List.mem_append.mp hy with z | z
  · obtain ⟨d, h1, h2⟩ := h y z
    exact ⟨d, h1, h2.kp hp (Kp.of0 k)⟩
  · rw [List.mem_singleton.mp z]
    exact ⟨d, hB, hx⟩
theorem AllV.flat {p : Addr} {B : PyData → Bool} {H : Hp} {xs : List V} {x : V} {d : PyData} (h : AllV K p B H xs) (hp : ∃ xs, H p = some (.lst xs)) (hB : B d = true) (hx : Dp K H x d) (n : noLi d = true) : AllV K p B H (xs ++ [x]) := h.push hp Kp.refl hB (.dat hx n)
theorem AllV.dic {p a : Addr} {B : PyData → Bool} {H : Hp} {xs : List V} (h : AllV K p B H xs) (hp : ∃ xs, H p = some (.lst xs)) (hB : B (.dict []) = true) (ha : H a = none) : AllV K p B (upd H a (.dK [])) (xs ++ [.ref a]) := h.push hp (Kp.refl.new ha) hB (.dic a rfl upd_same rfl)
theorem AllV.one1 {p l : Addr} {B : PyData → Bool} {H : Hp} {xs : List V} {u : V} {du : PyData} (h : AllV K p B H xs) (hp : ∃ xs, H p = some (.lst xs)) (hB : B (.list [du]) = true) (hl : H l = none) (hu : Dp K H u du) (nu : noLi du = true) : AllV K p B (upd H l (.lst [u])) (xs ++ [.ref l]) :=
  h.push hp (Kp.refl.new hl) hB (.one l u du rfl (fun e => by obtain ⟨ys, hp⟩ := hp; rw [e, hp] at hl; cases hl) upd_same (dp_same (same_new hl) hu) nu rfl)
theorem AllV.one2 {p l t : Addr} {B : PyData → Bool} {H : Hp} {xs us : List V} {ds : List PyData} (h : AllV K p B H xs) (hp : ∃ xs, H p = some (.lst xs)) (hB : B (.list [.tuple ds]) = true) (ht : H t = none) (hl : (upd H t (.tup us)) l = none) (hu : DpAll K H us ds) (nu : noLis ds = true) :
    AllV K p B (upd (upd H t (.tup us)) l (.lst [.ref t])) (xs ++ [.ref l]) := by
  have h2 : AllV K p B (upd H t (.tup us)) xs := fun x hx => by
    obtain ⟨d, h1, h2⟩ := h x hx
    exact ⟨d, h1, h2.kp hp (Kp.refl.new ht)⟩
  refine h2.one1 (du := .tuple ds) ?_ hB hl (.tup (.of upd_same) (dps_same (same_new ht) hu)) nu
  obtain ⟨ys, hp⟩ := hp
  exact ⟨ys, by rw [upd_ne (ne_of_none hp ht)]; exact hp⟩
def badB (d : PyData) : Bool := !goodS (fixD d) && (decide (deepD d ≤ 3) && decide (sizD d ≤ 90000))
def R_bad (K : PySem.W.Frag) : TS := fun D σ H => ∃ (sc od tn tx st ln lp be to he ba : Option V) (p c : Addr) (cs : List Int) (n : Nat) (v : V) (rows : List (List Int)), σ = Sg sc (some (.ref p)) od tn (some v) tx st ln lp be to he ba ∧ Pen H p c cs n ∧ n + 2 ≤ 100000 ∧ Dp K H v (logD rows) ∧
  ∀ D0 x y dx dy H', Kt (TL K) [p] H H' → H' D0 = some (.lst [x, y]) → Tk K H' x dx → Tk K H' y dy → badB dy = true → D.nx (Sg sc (some (.ref p)) od tn (some v) tx st ln lp be to he (some (.ref D0))) H'
theorem lst_new {H : Hp} {p t : Addr} {o : HO} (hp : ∃ xs, H p = some (.lst xs)) (ht : H t = none) : ∃ xs, (upd H t o) p = some (.lst xs) := by
  obtain ⟨ys, hp⟩ := hp
  exact ⟨ys, by rw [upd_ne (ne_of_none hp ht)]; exact hp⟩
theorem st_bad (B : BX P K mg base) {A : Around} {outer : List Env} {s : Shared} {H : Hp} {E : XK} (hr : Room 20 (lawA K A s)) : PS (lawX P w K mg base A outer s H E) (sub s_law 3) (R_bad K) := by
  have T := B.T
  have c__law_pick := (cal__law_pick (P := P) (w := w) (base := base) B).cal T.g__law_pick
  refine ps_weak (ps_set (i := 12) sc_law.nd rfl (by first | exact Or.inl rfl | exact Or.inr rfl) (pe_lst (pa_cons (pe_c (c__law_pick.mono (by first | decide | omega)) hr pX rfl (pa_cons (pv 1) (pa_cons (pe_lst (pa_cons pe_non (pa_cons pe_int (pa_cons (pv 4) (pa_cons pe_dnewK pa_nil))))) pa_nil))) (pa_cons (pe_c (c__law_pick.mono (by first | decide | omega)) hr pX rfl (pa_cons (pv 1) (pa_cons (pe_lst (pa_cons pe_non (pa_cons pe_int (pa_cons pe_str (pa_cons pe_dnewK (pa_cons (pe_lst (pa_cons pe_non pa_nil)) (pa_cons (pe_lst (pa_cons (pe_tup (pa_cons pe_str (pa_cons pe_int pa_nil))) pa_nil)) (pa_cons (pe_lst (pa_cons (pe_tup (pa_cons pe_str (pa_cons pe_int (pa_cons pe_int (pa_cons pe_int pa_nil))))) pa_nil)) (pa_cons (pe_lst (pa_cons (pe_tup (pa_cons pe_str (pa_cons pe_int (pa_cons pe_int pa_nil)))) pa_nil)) (pa_cons (pe_lst (pa_cons (pe_tup (pa_cons pe_str (pa_cons pe_int (pa_cons (pe_un un_neg pe_int) pa_nil)))) pa_nil)) (pa_cons (pe_lst (pa_cons (pe_tup (pa_cons pe_str (pa_cons pe_int (pa_cons pe_bl pa_nil)))) pa_nil)) (pa_cons (pe_lst (pa_cons (pe_tup (pa_cons pe_str (pa_cons pe_int (pa_cons pe_int pa_nil)))) pa_nil)) (pa_cons (pe_lst (pa_cons (pe_tup (pa_cons pe_str (pa_cons pe_int (pa_cons (pe_op op_pow pe_int pe_int) pa_nil)))) pa_nil)) (pa_cons (pe_lst (pa_cons (pe_tup (pa_cons pe_str (pa_cons pe_str (pa_cons pe_int pa_nil)))) pa_nil)) (pa_cons (pe_lst (pa_cons pe_str pa_nil)) pa_nil))))))))))))))) pa_nil))) pa_nil)))) ?_
  rintro D σ H1 ⟨sc, od, tn, tx, st, ln, lp, be, to, he, ba, p, c, cs, n, v, rows, rfl, hp, hn, hv, q⟩
  refine ⟨_, rfl, _, rfl, fun a ha => ⟨by show 4 ≤ sizeLine; decide, fun l hl => ?_⟩⟩
  have A1 : AllV K p (fun _ => true) (upd H1 a (.dK [])) ([] ++ [.non] ++ [.int 5] ++ [v] ++ [.ref a]) := AllV.dic (((AllV.nil.flat hp.lst rfl .non rfl).flat hp.lst rfl (.int 5) rfl).flat hp.lst rfl hv (noLis_rows rows)) hp.lst rfl ha
  have pa : Pen (upd H1 a (.dK [])) p c cs n := hp.new ha
  have A2 : AllV K p (fun _ => true) (upd (upd H1 a (.dK [])) l (.lst [.non, .int 5, v, .ref a])) ([] ++ [.non] ++ [.int 5] ++ [v] ++ [.ref a]) := fun x hx => let ⟨d, h1, h2⟩ := A1 x hx; ⟨d, h1, h2.kp pa.lst (Kp.refl.new hl)⟩
  have k2 : Kt (TL K) [p] H1 (upd (upd H1 a (.dK [])) l (.lst [.non, .int 5, v, .ref a])) := (Kt.refl.new ha).new hl
  refine ⟨p, c, cs, n, l, [.non, .int 5, v, .ref a], rfl, pa.new hl, by omega, upd_same, Ne.symm (pa.ne1 hl), by simp, by show 4 < 1073741824; decide, fun x H2 hx k3 hp2 => ?_⟩
  obtain ⟨dx, _, ox⟩ := A2 x hx
  have ox2 := ox.kp (pa.new hl).lst k3.k
  have k12 := k2.trans k3
  refine ⟨_, rfl, fun a2 ha2 => ?_⟩
  have L2 := hp2.lst
  have F := (((AllV.nil (K := K) (p := p) (B := badB) (H := H2)).flat L2 (d := .none) (by decide +kernel) .non rfl).flat L2 (d := .int 5) (by decide +kernel) (.int 5) rfl).flat L2 (d := .str "do 0 0") (by decide +kernel) (.str _) rfl
  have F := F.dic L2 (by decide +kernel) ha2
  have kk : Kt (TL K) [] H2 (upd H2 a2 (.dK [])) := Kt.refl.new ha2
  generalize upd H2 a2 (.dK []) = G at F kk
  have L := hp2.kp (S := []) kk.k (by simp) (by simp) |>.lst
  refine ⟨by decide, fun l0 hl0 => ?_⟩
  have F := F.one1 L (du := .none) (by decide +kernel) hl0 .non rfl
  have kk := kk.new (o := .lst [.non]) hl0
  generalize upd G l0 _ = G at F kk
  have L := hp2.kp (S := []) kk.k (by simp) (by simp) |>.lst
  refine ⟨by decide, fun t1 ht1 => ⟨by show 1 ≤ sizeLine; decide, fun l1 hl1 => ?_⟩⟩
  have F := F.one2 L (ds := [.str "do", .int 0]) (by decide +kernel) ht1 hl1 (.cons (.str _) (.cons (.int _) .nil)) rfl
  have kk := (kk.new (o := .tup _) ht1).new (o := .lst [.ref t1]) hl1
  generalize upd (upd G t1 _) l1 _ = G at F kk
  have L := hp2.kp (S := []) kk.k (by simp) (by simp) |>.lst
  refine ⟨by decide, fun t2 ht2 => ⟨by show 1 ≤ sizeLine; decide, fun l2 hl2 => ?_⟩⟩
  have F := F.one2 L (ds := [.str "do", .int 0, .int 0, .int 0]) (by decide +kernel) ht2 hl2 (.cons (.str _) (.cons (.int _) (.cons (.int _) (.cons (.int _) .nil)))) rfl
  have kk := (kk.new (o := .tup _) ht2).new (o := .lst [.ref t2]) hl2
  generalize upd (upd G t2 _) l2 _ = G at F kk
  have L := hp2.kp (S := []) kk.k (by simp) (by simp) |>.lst
  refine ⟨by decide, fun t3 ht3 => ⟨by show 1 ≤ sizeLine; decide, fun l3 hl3 => ?_⟩⟩
  have F := F.one2 L (ds := [.str "come", .int 0, .int 0]) (by decide +kernel) ht3 hl3 (.cons (.str _) (.cons (.int _) (.cons (.int _) .nil))) rfl
  have kk := (kk.new (o := .tup _) ht3).new (o := .lst [.ref t3]) hl3
  generalize upd (upd G t3 _) l3 _ = G at F kk
  have L := hp2.kp (S := []) kk.k (by simp) (by simp) |>.lst
  refine ⟨_, rfl, by decide, fun t4 ht4 => ⟨by show 1 ≤ sizeLine; decide, fun l4 hl4 => ?_⟩⟩
  have F := F.one2 L (ds := [.str "do", .int 0, .int (-1)]) (by decide +kernel) ht4 hl4 (.cons (.str _) (.cons (.int _) (.cons (.int _) .nil))) rfl
  have kk := (kk.new (o := .tup _) ht4).new (o := .lst [.ref t4]) hl4
  generalize upd (upd G t4 _) l4 _ = G at F kk
  have L := hp2.kp (S := []) kk.k (by simp) (by simp) |>.lst
  refine ⟨by decide, fun t5 ht5 => ⟨by show 1 ≤ sizeLine; decide, fun l5 hl5 => ?_⟩⟩
  have F := F.one2 L (ds := [.str "do", .int 0, .bool true]) (by decide +kernel) ht5 hl5 (.cons (.str _) (.cons (.int _) (.cons (.bl _) .nil))) rfl
  have kk := (kk.new (o := .tup _) ht5).new (o := .lst [.ref t5]) hl5
  generalize upd (upd G t5 _) l5 _ = G at F kk
  have L := hp2.kp (S := []) kk.k (by simp) (by simp) |>.lst
  refine ⟨by decide, fun t6 ht6 => ⟨by show 1 ≤ sizeLine; decide, fun l6 hl6 => ?_⟩⟩
  have F := F.one2 L (ds := [.str "keep", .int 0, .int 0]) (by decide +kernel) ht6 hl6 (.cons (.str _) (.cons (.int _) (.cons (.int _) .nil))) rfl
  have kk := (kk.new (o := .tup _) ht6).new (o := .lst [.ref t6]) hl6
  generalize upd (upd G t6 _) l6 _ = G at F kk
  have L := hp2.kp (S := []) kk.k (by simp) (by simp) |>.lst
  refine ⟨_, _, rfl, rfl, ⟨by decide, by decide, by decide⟩, by decide, fun t7 ht7 => ⟨by show 1 ≤ sizeLine; decide, fun l7 hl7 => ?_⟩⟩
  have F := F.one2 L (ds := [.str "do", .int 0, .int (10 ^ (40 : Int).toNat)]) (by decide +kernel) ht7 hl7 (.cons (.str _) (.cons (.int _) (.cons (.int _) .nil))) rfl
  have kk := (kk.new (o := .tup _) ht7).new (o := .lst [.ref t7]) hl7
  generalize upd (upd G t7 _) l7 _ = G at F kk
  have L := hp2.kp (S := []) kk.k (by simp) (by simp) |>.lst
  refine ⟨by decide, fun t8 ht8 => ⟨by show 1 ≤ sizeLine; decide, fun l8 hl8 => ?_⟩⟩
  have F := F.one2 L (ds := [.str "do", .str "0", .int 0]) (by decide +kernel) ht8 hl8 (.cons (.str _) (.cons (.str _) (.cons (.int _) .nil))) rfl
  have kk := (kk.new (o := .tup _) ht8).new (o := .lst [.ref t8]) hl8
  generalize upd (upd G t8 _) l8 _ = G at F kk
  have L := hp2.kp (S := []) kk.k (by simp) (by simp) |>.lst
  refine ⟨by decide, fun l9 hl9 => ?_⟩
  have F := F.one1 L (du := .str "do") (by decide +kernel) hl9 (.str _) rfl
  have kk := kk.new (o := .lst [.str "do"]) hl9
  generalize upd G l9 _ = G at F kk
  have pG := hp2.kp (S := []) kk.k (by simp) (by simp)
  refine ⟨by show 14 ≤ sizeLine; decide, fun lz hlz => ?_⟩
  refine ⟨p, c, cs, n + 1, lz, _, rfl, pG.new hlz, by omega, upd_same, Ne.symm (pG.ne1 hlz), by simp, by show 14 < 1073741824; decide, fun y H3 hy k4 hp3 => ?_⟩
  obtain ⟨dy, hB, oy⟩ := F y hy
  have oy2 := (oy.kp pG.lst (Kp.refl.new hlz)).kp (pG.new hlz).lst k4.k
  have k23 : Kt (TL K) [p] H2 H3 := (kk.new hlz).of0.trans k4
  have ox3 := ox2.kp hp2.lst k23.k
  refine ⟨by show 2 ≤ sizeLine; decide, fun D0 hD0 => ?_⟩
  have kn : Kp [p] H3 (upd H3 D0 (.lst [x, y])) := Kp.refl.new hD0
  exact q D0 x y dx dy _ ((k12.trans k23).new hD0) upd_same (ox3.kp hp3.lst kn).tk (oy2.kp hp3.lst kn).tk hB
/-! what is heard of them -/
section
variable {H : Hp} {qn : Str} {Q : VK} {E : XK} {D0 : Addr} {x y : V} {dx dy : PyData}
theorem heard_b0 (hT : Tabs (TL K) H) (hD : H D0 = some (.lst [x, y])) (hx : Tk K H x dx) (q : ∀ u H', Kt (TL K) [] H H' → Dp K H' u (hPart "log" "log") → Q u H') :
    Tabs (TL K) H ∧ ∀ (f c' : Addr) (H1 : Hp), ExtN H H1 → Tabs (TL K) H1 → (∀ b, H1 b = none → H b = none) → H1 c' = some (CodeO c' qn) → sp__law_heard K f (spLam qn c' [some (.ref D0)] [] (spl_b0 K)) [.ref f] H1 Q E := by
  refine heard_lam hT fun H0 Q1 E1 k0 t0 hq he => ⟨D0, x, y, rfl, rfl, sqL_kp .nil k0.k (.of hD), x, rfl, .inr ⟨dx, hx.kp k0.k, fun dd H' k hxd => ?_⟩⟩
  exact he _ _ _ ⟨dd, rfl, .inr (.inl ⟨"log", rfl, hxd, fun u H2 k3 hd => q u H2 ((k0.trans k).trans k3) hd⟩)⟩
theorem heard_b1 (hT : Tabs (TL K) H) (hD : H D0 = some (.lst [x, y])) (hy : Tk K H y dy) (hb : badB dy = true) (q : ∀ u H', Kt (TL K) [] H H' → Dp K H' u (hPart "value" "steps") → Q u H') :
    Tabs (TL K) H ∧ ∀ (f c' : Addr) (H1 : Hp), ExtN H H1 → Tabs (TL K) H1 → (∀ b, H1 b = none → H b = none) → H1 c' = some (CodeO c' qn) → sp__law_heard K f (spLam qn c' [some (.ref D0)] [.int 0] (spl_b1 K)) [.ref f] H1 Q E := by
  unfold badB at hb
  obtain ⟨h1, hb⟩ := Bool.and_eq_true_iff.mp hb
  obtain ⟨h2, h3⟩ := Bool.and_eq_true_iff.mp hb
  refine heard_lam hT fun H0 Q1 E1 k0 t0 hq he => ⟨D0, x, y, rfl, rfl, sqL_kp .nil k0.k (.of hD), y, dy, rfl, hy.kp k0.k, of_decide_eq_true h2, of_decide_eq_true h3, .inr ⟨by simpa using h1, fun dd H' k hxd => ?_⟩⟩
  exact he _ _ _ ⟨dd, rfl, .inr (.inr ⟨"steps", rfl, hxd, fun u H2 k3 hd => q u H2 ((k0.trans k).trans k3) hd⟩)⟩
theorem heard_b2 (hT : Tabs (TL K) H) (q : ∀ u H', Kt (TL K) [] H H' → Dp K H' u (hText 0 0) → Q u H') :
    Tabs (TL K) H ∧ ∀ (f c' : Addr) (H1 : Hp), ExtN H H1 → Tabs (TL K) H1 → (∀ b, H1 b = none → H b = none) → H1 c' = some (CodeO c' qn) → sp__law_heard K f (spLam qn c' [] [.int 0] (spl_b2 K)) [.ref f] H1 Q E := by
  refine heard_lam hT fun H0 Q1 E1 k0 t0 hq he => ⟨rfl, rfl, _, _, rfl, .dat .non, t0, .inr ⟨rfl, fun dd H' k hxd => ?_⟩⟩
  exact he _ _ _ ⟨dd, rfl, .inl ⟨0, 0, rfl, hxd, fun u H2 k3 hd => q u H2 ((k0.trans k).trans k3) hd⟩⟩
theorem heard_b3 (hT : Tabs (TL K) H) (q : ∀ u H', Kt (TL K) [] H H' → Dp K H' u (hText 0 0) → Q u H') :
    Tabs (TL K) H ∧ ∀ (f c' : Addr) (H1 : Hp), ExtN H H1 → Tabs (TL K) H1 → (∀ b, H1 b = none → H b = none) → H1 c' = some (CodeO c' qn) → sp__law_heard K f (spLam qn c' [] [.int 0] (spl_b3 K)) [.ref f] H1 Q E := by
  refine heard_lam hT fun H0 Q1 E1 k0 t0 hq he => ⟨rfl, rfl, _, _, rfl, .dat (.int 5), t0, .inr ⟨rfl, fun dd H' k hxd => ?_⟩⟩
  exact he _ _ _ ⟨dd, rfl, .inl ⟨0, 0, rfl, hxd, fun u H2 k3 hd => q u H2 ((k0.trans k).trans k3) hd⟩⟩
theorem read_empty : readM rdFd 0 (rowsOf "") = .inl (0, 0) := by
  have e : rowsOf "" = [[("" : Str)]] := by decide +kernel
  rw [e]
  have e2 : lineM rdFd [("" : Str)] = .inl 0 := by
    unfold lineM rdFd rdF
    rw [if_neg (by decide +kernel), show [("" : Str)].findIdx? (fun z => !figB z) = some 0 from by decide +kernel]
  rw [readM, e2]
theorem heard_b4 (hT : Tabs (TL K) H) (q : ∀ u H', Kt (TL K) [] H H' → Dp K H' u (hText 0 0) → Q u H') :
    Tabs (TL K) H ∧ ∀ (f c' : Addr) (H1 : Hp), ExtN H H1 → Tabs (TL K) H1 → (∀ b, H1 b = none → H b = none) → H1 c' = some (CodeO c' qn) → sp__law_heard K f (spLam qn c' [] [.int 0] (spl_b4 K)) [.ref f] H1 Q E := by
  refine heard_lam hT fun H0 Q1 E1 k0 t0 hq he => ⟨rfl, rfl, _, _, rfl, .dat (.str _), t0, .inl ⟨_, rfl, by decide, fun ln i h => ?_, fun rows h => ?_⟩⟩
  · rw [read_empty] at h
    cases h
    intro dd H' k hxd
    exact he _ _ _ ⟨dd, rfl, .inl ⟨0, 0, rfl, hxd, fun u H2 k3 hd => q u H2 ((k0.trans k).trans k3) hd⟩⟩
  · rw [read_empty] at h
    cases h
end
abbrev heardD : PyData := .list [hPart "log" "log", hPart "value" "steps", hText 0 0, hText 0 0, hText 0 0]
def R_heard (K : PySem.W.Frag) : TS := fun D σ H => ∃ (sc pe od tn nu tx st ln lp be to he : Option V) (D0 : Addr) (x y : V) (dx dy : PyData), σ = Sg sc pe od tn nu tx st ln lp be to he (some (.ref D0)) ∧ H D0 = some (.lst [x, y]) ∧ Tk K H x dx ∧ Tk K H y dy ∧ badB dy = true ∧ Tabs (TL K) H ∧
  ∀ u H', Kt (TL K) [] H H' → Dp K H' u heardD → D.nx (Sg sc pe od tn nu tx st ln lp be to (some u) (some (.ref D0))) H'
theorem st_heard (B : BX P K mg base) {A : Around} {outer : List Env} {s : Shared} {H : Hp} {E : XK} (hr : Room 20 (lawA K A s)) : PS (lawX P w K mg base A outer s H E) (sub s_law 4) (R_heard K) := by
  have T := B.T
  have khd : PySem.W.keepIn K (.ref (He.ga K "_law_heard")) = true := by
    obtain ⟨fd, F⟩ := T.f__law_heard
    exact F.kp
  refine ps_weak (ps_set (i := 11) sc_law.nd rfl (by first | exact Or.inl rfl | exact Or.inr rfl) (pe_lst (pa_cons (pe_lamC (T := TL K) (N := ["bad"]) (ps := []) (fr := ["bad"]) (js := [12]) (dvs := []) (kl := 17) (k := 19) (spl := spl_b0 K) (TT := fun f spf => sp__law_heard K f spf) rfl T.g__law_heard khd (fun G f spf hG kin cf => (cal__law_heard (w := w) (B.up hG kin) cf).v kin) (hr.mono (by omega)) pX0 ⟨NdefX.nscope_by (by decide +kernel), fun _ => rfl, NdefX.ndef_free (sc := defScope s_law) (fr := ["bad"]) (by decide +kernel), NdefX.ndef_fr (sc := defScope s_law) (by decide +kernel), rfl, .inl ⟨rfl, rfl⟩, (bnd_all (ps := []) (fun _ _ _ _ _ _ us hl => match us, hl with | [], _ => rfl)), ⟨_, _, B.tl, rfl, List.mem_cons_self, tl_uniq B⟩⟩ ⟨spl_b0_len, fun G cl f c A outer s H vs ws Q E hG hr2 kin h => by obtain ⟨p, v, u, rfl, rfl, hp, q⟩ := h; exact ⟨_, pe_c ((cal_log_text (w := w) (B.up hG kin)).cal T.g_log_text) (hr2.mono (by omega)) pXn rfl (pa_cons (pe_ix ix_list (pv 0) pe_int (fun _ _ => rfl)) pa_nil), ⟨_, rfl, p, _, 0, v, rfl, rfl, hp, rfl, q⟩⟩⟩) (pa_cons (pe_lamC (T := TL K) (N := ["a1", "bad"]) (ps := ["a1"]) (fr := ["bad"]) (js := [12]) (dvs := [.int 0]) (kl := 17) (k := 19) (spl := spl_b1 K) (TT := fun f spf => sp__law_heard K f spf) rfl T.g__law_heard khd (fun G f spf hG kin cf => (cal__law_heard (w := w) (B.up hG kin) cf).v kin) (hr.mono (by omega)) pX0 ⟨NdefX.nscope_by (by decide +kernel), fun _ => rfl, NdefX.ndef_free (sc := defScope s_law) (fr := ["bad"]) (by decide +kernel), NdefX.ndef_fr (sc := defScope s_law) (by decide +kernel), rfl, .inr ⟨0, _, _, rfl, rfl⟩, (bnd_dfl (a := "a1") (v := .int 0) (fun _ _ _ _ _ _ _ _ => ⟨_, rfl, rfl⟩)), ⟨_, _, B.tl, rfl, List.mem_cons_self, tl_uniq B⟩⟩ ⟨spl_b1_len, fun G cl f c A outer s H vs ws Q E hG hr2 kin h => by obtain ⟨p, v, u, rfl, rfl, hp, q⟩ := h; exact ⟨_, pe_c ((cal_steps_text (w := w) (B.up hG kin)).cal T.g_steps_text) (hr2.mono (by omega)) pXn rfl (pa_cons (pe_ix ix_list (pv 1) pe_int (fun _ _ => rfl)) pa_nil), ⟨_, rfl, p, _, 1, u, rfl, rfl, hp, rfl, q⟩⟩⟩) (pa_cons (pe_lamC (T := TL K) (N := ["a2"]) (ps := ["a2"]) (fr := []) (js := []) (dvs := [.int 0]) (kl := 17) (k := 19) (spl := spl_b2 K) (TT := fun f spf => sp__law_heard K f spf) rfl T.g__law_heard khd (fun G f spf hG kin cf => (cal__law_heard (w := w) (B.up hG kin) cf).v kin) (hr.mono (by omega)) pX0 ⟨NdefX.nscope_by (by decide +kernel), fun _ => rfl, NdefX.ndef_free (sc := defScope s_law) (fr := []) (by decide +kernel), NdefX.ndef_fr (sc := defScope s_law) (by decide +kernel), rfl, .inr ⟨0, _, _, rfl, rfl⟩, (bnd_dfl (a := "a2") (v := .int 0) (fun _ _ _ _ _ _ _ _ => ⟨_, rfl, rfl⟩)), ⟨_, _, B.tl, rfl, List.mem_cons_self, tl_uniq B⟩⟩ ⟨spl_b2_len, fun G cl f c A outer s H vs ws Q E hG hr2 kin h => by obtain ⟨rfl, rfl, q⟩ := h; exact ⟨_, pe_c ((cal_read_log (w := w) (B.up hG kin)).cal T.g_read_log) (hr2.mono (by omega)) pXn rfl (pa_cons pe_non pa_nil), q⟩⟩) (pa_cons (pe_lamC (T := TL K) (N := ["a3"]) (ps := ["a3"]) (fr := []) (js := []) (dvs := [.int 0]) (kl := 17) (k := 19) (spl := spl_b3 K) (TT := fun f spf => sp__law_heard K f spf) rfl T.g__law_heard khd (fun G f spf hG kin cf => (cal__law_heard (w := w) (B.up hG kin) cf).v kin) (hr.mono (by omega)) pX0 ⟨NdefX.nscope_by (by decide +kernel), fun _ => rfl, NdefX.ndef_free (sc := defScope s_law) (fr := []) (by decide +kernel), NdefX.ndef_fr (sc := defScope s_law) (by decide +kernel), rfl, .inr ⟨0, _, _, rfl, rfl⟩, (bnd_dfl (a := "a3") (v := .int 0) (fun _ _ _ _ _ _ _ _ => ⟨_, rfl, rfl⟩)), ⟨_, _, B.tl, rfl, List.mem_cons_self, tl_uniq B⟩⟩ ⟨spl_b3_len, fun G cl f c A outer s H vs ws Q E hG hr2 kin h => by obtain ⟨rfl, rfl, q⟩ := h; exact ⟨_, pe_c ((cal_read_steps (w := w) (B.up hG kin)).cal T.g_read_steps) (hr2.mono (by omega)) pXn rfl (pa_cons pe_int pa_nil), q⟩⟩) (pa_cons (pe_lamC (T := TL K) (N := ["a4"]) (ps := ["a4"]) (fr := []) (js := []) (dvs := [.int 0]) (kl := 17) (k := 19) (spl := spl_b4 K) (TT := fun f spf => sp__law_heard K f spf) rfl T.g__law_heard khd (fun G f spf hG kin cf => (cal__law_heard (w := w) (B.up hG kin) cf).v kin) (hr.mono (by omega)) pX0 ⟨NdefX.nscope_by (by decide +kernel), fun _ => rfl, NdefX.ndef_free (sc := defScope s_law) (fr := []) (by decide +kernel), NdefX.ndef_fr (sc := defScope s_law) (by decide +kernel), rfl, .inr ⟨0, _, _, rfl, rfl⟩, (bnd_dfl (a := "a4") (v := .int 0) (fun _ _ _ _ _ _ _ _ => ⟨_, rfl, rfl⟩)), ⟨_, _, B.tl, rfl, List.mem_cons_self, tl_uniq B⟩⟩ ⟨spl_b4_len, fun G cl f c A outer s H vs ws Q E hG hr2 kin h => by obtain ⟨rfl, rfl, q⟩ := h; exact ⟨_, pe_c ((cal_read_log (w := w) (B.up hG kin)).cal T.g_read_log) (hr2.mono (by omega)) pXn rfl (pa_cons pe_str pa_nil), q⟩⟩) pa_nil))))))) ?_
  rintro D σ H1 ⟨sc, pe, od, tn, nu, tx, st, ln, lp, be, to, he, D0, x, y, dx, dy, rfl, hD, hx, hy, hb, hT, q⟩
  refine heard_b0 hT hD hx fun u0 H2 k2 h0 => ?_
  have hD2 : H2 D0 = some (.lst [x, y]) := k2.k _ _ hD (by simp) (by intro _ z; cases z)
  refine heard_b1 (k2.t hT) hD2 (hy.kp k2.k) hb fun u1 H3 k3 h1 => ?_
  have k13 := k2.trans k3
  refine heard_b2 (k13.t hT) fun u2 H4 k4 h2 => ?_
  have k14 := k13.trans k4
  refine heard_b3 (k14.t hT) fun u3 H5 k5 h3 => ?_
  have k15 := k14.trans k5
  refine heard_b4 (k15.t hT) fun u4 H6 k6 h4 => ?_
  have k16 := k15.trans k6
  refine ⟨by show 5 ≤ sizeLine; decide, fun l hl => ?_⟩
  have kl : ∀ {G : Hp}, Kt (TL K) [] G H6 → Kp [] G (upd H6 l (.lst [u0, u1, u2, u3, u4])) := fun k => (k.new hl).k
  refine q (.ref l) _ (k16.new hl) (.lst (.of upd_same) (.cons (dp_kp .nil (kl (((k3.trans k4).trans k5).trans k6)) h0) (.cons (dp_kp .nil (kl ((k4.trans k5).trans k6)) h1) (.cons (dp_kp .nil (kl (k5.trans k6)) h2) (.cons (dp_kp .nil (kl k6) h3) (.cons (dp_kp .nil (kl .refl) h4) .nil))))))
def R_ret (K : PySem.W.Frag) : TS := fun D σ H => ∃ (sc pe od tn nu tx st ln lp be to ba : Option V) (u : V), σ = Sg sc pe od tn nu tx st ln lp be to (some u) ba ∧ Dp K H u heardD ∧ ∀ H', Kt (TL K) [] H H' → D.rt (.bl true) H'
def bigS : Stp := ("do", [10 ^ 40 - 1, 0])
theorem shp_heard : SeqAt.shaped heardD = true := by decide +kernel
theorem big_w : WordI (10 ^ 40 - 1) 41 := .of (by decide +kernel)
theorem zero_w : WordI 0 41 := .of (by decide +kernel)
theorem big_step : stepB (stpD bigS) = true := by decide +kernel
theorem big_B : StpB [bigS] := by
  refine ⟨by decide, fun s hs => ?_, ?_⟩
  · rw [List.mem_singleton.mp hs]
    refine ⟨by unfold bigS; simp, by unfold bigS; decide, fun i hi => ?_⟩
    rcases List.mem_cons.mp hi with z | z
    · rw [z]
      exact big_w.sm
    · rw [List.mem_singleton.mp z]
      exact zero_w.sm
  · have g : PlnR 1 3 41 ([bigS].map stpW) := by
      refine ⟨by decide, fun r hr => ?_, fun r hr x hx => ?_⟩
      · rw [List.mem_singleton.mp hr]
        exact ⟨by unfold stpW; simp, by show 3 ≤ 3; decide⟩
      · rw [List.mem_singleton.mp hr] at hx
        rcases List.mem_cons.mp hx with z | z
        · rw [z]
          exact ⟨by show ("do" : Str).length ≤ 41; decide, do_pln⟩
        · rcases List.mem_cons.mp z with z | z
          · rw [z]
            exact ⟨big_w.len, big_w.pln⟩
          · rw [List.mem_singleton.mp z]
            exact ⟨zero_w.len, zero_w.pln⟩
    exact g.ok (by decide)
theorem st_ret (B : BX P K mg base) {A : Around} {outer : List Env} {s : Shared} {H : Hp} {E : XK} (hr : Room 20 (lawA K A s)) : PS (lawX P w K mg base A outer s H E) (sub s_law 5) (R_ret K) := by
  have T := B.T
  have c_steps_text := (cal_steps_text (P := P) (w := w) (base := base) B).cal T.g_steps_text
  refine ps_weak (ps_ret (pe_and (pe_cmpR (op_eqD hr.units) (pv 11) (pe_lst (pa_cons (pe_tup (pa_cons pe_str (pa_cons pe_str pa_nil))) (pa_cons (pe_tup (pa_cons pe_str (pa_cons pe_str pa_nil))) (pa_cons (pe_tup (pa_cons pe_str (pa_cons pe_int (pa_cons pe_int pa_nil)))) (pa_cons (pe_tup (pa_cons pe_str (pa_cons pe_int (pa_cons pe_int pa_nil)))) (pa_cons (pe_tup (pa_cons pe_str (pa_cons pe_int (pa_cons pe_int pa_nil)))) pa_nil)))))) (nomark _)) (pe_one (pe_cmpR op_eq (pe_c (c_steps_text.mono (by first | decide | omega)) hr pX rfl (pa_cons (pe_lst (pa_cons (pe_tup (pa_cons pe_str (pa_cons (pe_op op_sub (pe_op op_pow pe_int pe_int) pe_int) (pa_cons pe_int pa_nil)))) pa_nil)) pa_nil)) (pe_op op_add_str (pe_op op_add_str pe_str (pe_op op_mulS pe_str pe_int)) pe_str) (nomark _))))) ?_
  rintro D σ H1 ⟨sc, pe, od, tn, nu, tx, st, ln, lp, be, to, ba, u, rfl, hu, q⟩
  refine ⟨_, rfl, by show 2 ≤ sizeLine; decide, fun t0 ht0 => ⟨by show 2 ≤ sizeLine; decide, fun t1 ht1 => ⟨by show 3 ≤ sizeLine; decide, fun t2 ht2 => ⟨by show 3 ≤ sizeLine; decide, fun t3 ht3 => ⟨by show 3 ≤ sizeLine; decide, fun t4 ht4 => ⟨by show 5 ≤ sizeLine; decide, fun l hl => ?_⟩⟩⟩⟩⟩⟩
  have s1 : Same H1 (upd H1 t0 (.tup [.str "log", .str "log"])) := same_new ht0
  have d0 : Dp K (upd H1 t0 (.tup [.str "log", .str "log"])) (.ref t0) (hPart "log" "log") := .tup (.of upd_same) (.cons (.str _) (.cons (.str _) .nil))
  generalize upd H1 t0 (.tup [.str "log", .str "log"]) = G1 at *
  have s2 : Same G1 (upd G1 t1 (.tup [.str "value", .str "steps"])) := same_new ht1
  have d1 : Dp K (upd G1 t1 (.tup [.str "value", .str "steps"])) (.ref t1) (hPart "value" "steps") := .tup (.of upd_same) (.cons (.str _) (.cons (.str _) .nil))
  generalize upd G1 t1 (.tup [.str "value", .str "steps"]) = G2 at *
  have s3 : Same G2 (upd G2 t2 (.tup [.str "text", .int 0, .int 0])) := same_new ht2
  have d2 : Dp K (upd G2 t2 (.tup [.str "text", .int 0, .int 0])) (.ref t2) (hText 0 0) := .tup (.of upd_same) (.cons (.str _) (.cons (.int _) (.cons (.int _) .nil)))
  generalize upd G2 t2 (.tup [.str "text", .int 0, .int 0]) = G3 at *
  have s4 : Same G3 (upd G3 t3 (.tup [.str "text", .int 0, .int 0])) := same_new ht3
  have d3 : Dp K (upd G3 t3 (.tup [.str "text", .int 0, .int 0])) (.ref t3) (hText 0 0) := .tup (.of upd_same) (.cons (.str _) (.cons (.int _) (.cons (.int _) .nil)))
  generalize upd G3 t3 (.tup [.str "text", .int 0, .int 0]) = G4 at *
  have s5 : Same G4 (upd G4 t4 (.tup [.str "text", .int 0, .int 0])) := same_new ht4
  have d4 : Dp K (upd G4 t4 (.tup [.str "text", .int 0, .int 0])) (.ref t4) (hText 0 0) := .tup (.of upd_same) (.cons (.str _) (.cons (.int _) (.cons (.int _) .nil)))
  generalize upd G4 t4 (.tup [.str "text", .int 0, .int 0]) = G5 at *
  have s6 : Same G5 (upd G5 l (.lst [.ref t0, .ref t1, .ref t2, .ref t3, .ref t4])) := same_new hl
  have d5 : Dp K (upd G5 l (.lst [.ref t0, .ref t1, .ref t2, .ref t3, .ref t4])) (.ref l) heardD := .lst (.of upd_same) (.cons (dp_same s6 (dp_same s5 (dp_same s4 (dp_same s3 (dp_same s2 d0))))) (.cons (dp_same s6 (dp_same s5 (dp_same s4 (dp_same s3 d1)))) (.cons (dp_same s6 (dp_same s5 (dp_same s4 d2))) (.cons (dp_same s6 (dp_same s5 d3)) (.cons (dp_same s6 d4) .nil)))))
  generalize upd G5 l (.lst [.ref t0, .ref t1, .ref t2, .ref t3, .ref t4]) = G6 at *
  have s16 : Same H1 G6 := ((((s1.trans s2).trans s3).trans s4).trans s5).trans s6
  refine ⟨heardD, heardD, dp_same s16 hu, d5, shp_heard, shp_heard, _, rfl, ?_⟩
  rw [SeqAt.eqv_refl _ (SeqAt.canLay_of_shaped shp_heard)]
  refine it1 ?_
  refine ⟨_, _, rfl, rfl, ⟨by decide, by decide, by decide⟩, _, _, rfl, rfl, by show 3 ≤ sizeLine; decide, fun t6 ht6 => ⟨by show 1 ≤ sizeLine; decide, fun l6 hl6 => ?_⟩⟩
  have k7 : Kt (TL K) [] G6 (upd (upd G6 t6 (.tup [.str "do", .int (10 ^ 40 - 1), .int 0])) l6 (.lst [.ref t6])) := (Kt.refl.new ht6).new hl6
  have d7 : Dp K (upd (upd G6 t6 (.tup [.str "do", .int (10 ^ 40 - 1), .int 0])) l6 (.lst [.ref t6])) (.ref l6) (.list [stpD bigS]) := .lst (.of upd_same) (.cons (dp_same (same_new hl6) (.tup (.of upd_same) (.cons (.str _) (.cons (.int _) (.cons (.int _) .nil))))) .nil)
  have ef : fixD (.list [stpD bigS]) = .tuple ([bigS].map stpD) := by
    rw [fixD_seq (ds := [stpD bigS]) (.inl rfl)]
    show PyData.tuple [fixD (stpD bigS)] = _
    rw [fix_stp]
    rfl
  refine ⟨.ref l6, _, rfl, .dat d7, by decide +kernel, by decide +kernel, .inl ⟨[bigS], ef, by decide +kernel, big_B, fun H8 k8 => ?_⟩⟩
  refine ⟨_, _, rfl, rfl, ⟨by decide +kernel, by decide +kernel, by decide +kernel⟩, ?_⟩
  refine ⟨_, _, rfl, rfl, by decide +kernel, _, _, rfl, rfl, by decide +kernel, rfl, ?_⟩
  rw [decide_eq_true (by decide +kernel)]
  exact q H8 (((Kt.same s16).trans k7).trans k8)
end
end K75

namespace K75
open PySem PySem.Spec PyProof.Rows L2 XB LamX
section
variable {P : Program} {w : World} {K : PySem.W.Frag} {mg : Str → Option Value} {base : Heap}
/-! ### law, its loops -/
def R_lap (K : PySem.W.Frag) : TS := fun D σ H => ∃ (sc tn nu st lp be to he ba : Option V) (p c : Addr) (cs : List Int) (n : Nat) (so : Addr) (zt zl : Str),
  σ = Sg sc (some (.ref p)) (some (.ref so)) tn nu (some (.str zt)) st (some (.str zl)) lp be to he ba ∧ Pen H p c cs n ∧ n + 80 ≤ 100000 ∧ Asc zt ∧ zt.length ≤ 160 ∧ Asc zl ∧ zl.length ≤ 160 ∧ H so = some (.lst (odds.map V.str)) ∧ so ≠ p ∧ Tabs (TL K) H ∧
  ∀ lp be to he H', Kt (TL K) [p] H H' → Pen H' p c cs (n + 80) → D.nx (Sg sc (some (.ref p)) (some (.ref so)) tn nu (some (.str zt)) st (some (.str zl)) lp be to he ba) H'
theorem lap_list : subs (sub (sub s_law 2) 6) = [sub (sub (sub s_law 2) 6) 0, sub (sub (sub s_law 2) 6) 1, sub (sub (sub s_law 2) 6) 2, sub (sub (sub s_law 2) 6) 3, sub (sub (sub s_law 2) 6) 4, sub (sub (sub s_law 2) 6) 5] := rfl
theorem pss_lap (B : BX P K mg base) {A : Around} {outer : List Env} {s : Shared} {H : Hp} {E : XK} (hr : Room 20 (lawA K A s)) (hg : (lawA K A s).guards = some []) :
    PSs (lawX P w K mg base A outer s H E) (subs (sub (sub s_law 2) 6)) (tSeq (R_bent1 K) (tSeq (R_told1 K) (tSeq (R_if3 K) (tSeq (R_bent2 K) (tSeq (R_told2 K) (R_if4 K)))))) := by
  rw [lap_list]
  exact pss_cons (st_bent1 B hr) (pss_cons (st_told1 B hr) (pss_cons (st_if3 B hr) (pss_cons (st_bent2 B hr) (pss_cons (st_told2 B hr) (pss_one (st_if4 B hr hg))))))
theorem st_lap (B : BX P K mg base) {A : Around} {outer : List Env} {s : Shared} {H : Hp} {E : XK} (hr : Room 20 (lawA K A s)) (hg : (lawA K A s).guards = some []) : PS (lawX P w K mg base A outer s H E) (sub (sub s_law 2) 6) (R_lap K) := by
  have T := B.T
  have b := pss_lap (w := w) (outer := outer) (H := H) (E := E) B hr hg
  refine ps_weak (ps_for poX rfl (pi_range1 rfl T.b_range (pa_cons pe_int pa_nil)) (pg_name (i := 8) sc_law.nd rfl (by first | exact Or.inl rfl | exact Or.inr rfl)) b) ?_
  rintro D σ H1 ⟨sc, tn, nu, st, lp, be, to, he, ba, p, c, cs, n, so, zt, zl, rfl, hp, hn, at_, lt, al, ll, hso, ne, hT, q⟩
  refine ⟨8, rfl, by decide, by decide, ?_⟩
  refine for_it walk_range (fun i σ H2 => ∃ lp be to he, σ = Sg sc (some (.ref p)) (some (.ref so)) tn nu (some (.str zt)) st (some (.str zl)) lp be to he ba ∧ Pen H2 p c cs (n + 10 * i) ∧ Kt (TL K) [p] H1 H2) ?_ (fun _ _ _ _ _ => trivial) ?_ ?_
  · exact ⟨lp, be, to, he, rfl, hp, .refl⟩
  · rintro i x σ H2x H2 hi ⟨lp, be, to, he, rfl, hp2, k2⟩ ⟨rfl, rfl⟩
    have hi8 : i < 8 := hi
    have so2 : ∀ {G : Hp}, Kt (TL K) [p] H1 G → G so = some (.lst (odds.map V.str)) := fun k => k.k _ _ hso (by simpa using ne) (by intro _ z; cases z)
    refine ⟨sc, tn, nu, st, some (.str zl), _, be, to, he, ba, p, c, cs, n + 10 * i, so, zt, rfl, hp2, by omega, at_, lt, so2 k2, ne, fun y H3 ya yl yr k3 hp3 => ?_⟩
    have k13 := k2.trans k3
    refine ⟨_, _, _, _, _, _, _, _, _, _, _, _, y, rfl, ya, yl, k13.t hT, fun v u H4 k4 ht hh => ?_⟩
    have k14 : Kt (TL K) [p] H1 H4 := k13.trans k4.of0
    refine ⟨_, _, _, _, _, _, _, _, _, _, _, v, u, y, rfl, ht, hh, k14.t hT, fun H5 k5 => ?_⟩
    have k15 : Kt (TL K) [p] H1 H5 := k14.trans k5.of0
    have hp5 : Pen H5 p c cs (n + 10 * i + 5) := (hp3.kp k4.k (by simp) (by simp)).kp k5.k (by simp) (by simp)
    refine ⟨_, _, _, _, _, _, _, _, _, _, p, c, cs, n + 10 * i + 5, so, zl, rfl, hp5, by omega, al, ll, so2 k15, ne, fun y2 H6 ya2 yl2 yr2 k6 hp6 => ?_⟩
    have k16 := k15.trans k6
    refine ⟨_, _, _, _, _, _, _, _, _, _, _, _, y2, rfl, ya2, yl2, fun v2 H7 k7 ht2 => ?_⟩
    have k17 : Kt (TL K) [p] H1 H7 := k16.trans k7.of0
    refine ⟨_, _, _, _, _, _, _, _, _, _, _, v2, y2, rfl, ya2, yl2, yr2, ht2, k17.t hT, fun H8 k8 => ?_⟩
    exact ⟨_, _, _, _, rfl, ((hp6.kp k7.k (by simp) (by simp)).kp k8.k (by simp) (by simp)).le (by omega), k17.trans k8.of0⟩
  · rintro σ H2 ⟨lp, be, to, he, rfl, hp2, k2⟩
    exact q lp be to he H2 k2 hp2
/-- the law's numbers stand -/
def NumOk (K : PySem.W.Frag) (H : Hp) (nu : Option V) : Prop := ∃ v rows, nu = some v ∧ Dp K H v (logD rows)
def R_turn (K : PySem.W.Frag) : TS := fun D σ H => ∃ (sc tn nu tx st ln lp be to he ba : Option V) (p c : Addr) (cs : List Int) (n : Nat) (so : Addr),
  σ = Sg sc (some (.ref p)) (some (.ref so)) tn nu tx st ln lp be to he ba ∧ Pen H p c cs n ∧ n + 1000 ≤ 100000 ∧ H so = some (.lst (odds.map V.str)) ∧ so ≠ p ∧ Tabs (TL K) H ∧
  ∀ tn nu tx st ln lp be to he H', NumOk K H' nu → Kt (TL K) [p] H H' → Pen H' p c cs (n + 1000) → D.nx (Sg sc (some (.ref p)) (some (.ref so)) tn nu tx st ln lp be to he ba) H'
theorem turn_list : subs (sub s_law 2) = [sub (sub s_law 2) 0, sub (sub s_law 2) 1, sub (sub s_law 2) 2, sub (sub s_law 2) 3, sub (sub s_law 2) 4, sub (sub s_law 2) 5, sub (sub s_law 2) 6] := rfl
theorem pss_turn (B : BX P K mg base) {A : Around} {outer : List Env} {s : Shared} {H : Hp} {E : XK} (hr : Room 20 (lawA K A s)) (hg : (lawA K A s).guards = some []) :
    PSs (lawX P w K mg base A outer s H E) (subs (sub s_law 2)) (tSeq (R_num K) (tSeq (R_text K) (tSeq (R_steps K) (tSeq (R_lines K) (tSeq (R_if1 K) (tSeq (R_if2 K) (R_lap K))))))) := by
  rw [turn_list]
  exact pss_cons (st_num B hr) (pss_cons (st_text B hr) (pss_cons (st_steps B hr) (pss_cons (st_lines B hr) (pss_cons (st_if1 B hr) (pss_cons (st_if2 B hr hg) (pss_one (st_lap B hr hg)))))))
theorem noLi_log (rows : List (List Int)) : noLi (logD rows) = true := noLis_rows rows
theorem Pen.lis {H : Hp} {p c : Addr} {cs : List Int} {n : Nat} (h : Pen H p c cs n) : Lis H [p] := fun a ha => by
  rw [List.mem_singleton.mp ha]
  exact .inr h.lst
theorem st_turn (B : BX P K mg base) {A : Around} {outer : List Env} {s : Shared} {H : Hp} {E : XK} (hr : Room 20 (lawA K A s)) (hg : (lawA K A s).guards = some []) : PS (lawX P w K mg base A outer s H E) (sub s_law 2) (R_turn K) := by
  have T := B.T
  have b := pss_turn (w := w) (outer := outer) (H := H) (E := E) B hr hg
  refine ps_weak (ps_for poX rfl (pi_range1 rfl T.b_range (pa_cons pe_int pa_nil)) (pg_name (i := 3) sc_law.nd rfl (by first | exact Or.inl rfl | exact Or.inr rfl)) b) ?_
  rintro D σ H1 ⟨sc, tn, nu, tx, st, ln, lp, be, to, he, ba, p, c, cs, n, so, rfl, hp, hn, hso, ne, hT, q⟩
  refine ⟨5, rfl, by decide, by decide, ?_⟩
  have so2 : ∀ {G : Hp}, Kt (TL K) [p] H1 G → G so = some (.lst (odds.map V.str)) := fun k => k.k _ _ hso (by simpa using ne) (by intro _ z; cases z)
  refine for_it walk_range (fun i σ H2 => ∃ tn nu tx st ln lp be to he, σ = Sg sc (some (.ref p)) (some (.ref so)) tn nu tx st ln lp be to he ba ∧ Pen H2 p c cs (n + 200 * i) ∧ Kt (TL K) [p] H1 H2 ∧ (0 < i → NumOk K H2 nu)) ?_ (fun _ _ _ _ _ => trivial) ?_ ?_
  · exact ⟨tn, nu, tx, st, ln, lp, be, to, he, rfl, hp, .refl, fun z => absurd z (by decide)⟩
  · rintro i x σ H2x H2 hi ⟨tn, nu, tx, st, ln, lp, be, to, he, rfl, hp2, k2, _⟩ ⟨rfl, rfl⟩
    have hi5 : i < 5 := hi
    refine ⟨_, _, _, _, tx, st, ln, lp, be, to, he, ba, p, c, cs, n + 200 * i, rfl, hp2, by omega, fun rows v H3 hgn k3 hp3 hv => ?_⟩
    have k13 := k2.trans k3
    refine ⟨_, _, _, _, tx, st, ln, lp, be, to, he, ba, v, rows, rfl, hv, hgn, fun H4 k4 => ?_⟩
    have k14 : Kt (TL K) [p] H1 H4 := k13.trans k4.of0
    have hp4 := hp3.kp k4.k (by simp) (by simp)
    have hv4 := dp_kp .nil k4.k hv
    refine ⟨_, _, _, _, _, st, ln, lp, be, to, he, ba, p, c, cs, n + 200 * i + 60, rfl, hp4, by omega, fun ss vs H5 hgs k5 hp5 hvs => ?_⟩
    have k15 := k14.trans k5
    have hv5 := dp_lis hp4.lis k5.k (noLi_log rows) hv4
    refine ⟨_, _, _, _, _, _, ln, lp, be, to, he, ba, vs, ss, rfl, hvs, hgs, fun H6 k6 => ?_⟩
    have k16 : Kt (TL K) [p] H1 H6 := k15.trans k6.of0
    have hp6 := hp5.kp k6.k (by simp) (by simp)
    have hv6 := dp_kp .nil k6.k hv5
    have hvs6 := dp_kp .nil k6.k hvs
    refine ⟨_, _, _, _, _, _, lp, be, to, he, ba, v, rows, rfl, hv6, hgn, k16.t hT, fun H7 k7 => ?_⟩
    have k17 : Kt (TL K) [p] H1 H7 := k16.trans k7.of0
    have hp7 := hp6.kp k7.k (by simp) (by simp)
    have hv7 := dp_kp .nil k7.k hv6
    refine ⟨_, _, _, _, _, _, lp, be, to, he, ba, vs, ss, rfl, dp_kp .nil k7.k hvs6, hgs, k17.t hT, fun H8 k8 => ?_⟩
    have k18 : Kt (TL K) [p] H1 H8 := k17.trans k8.of0
    have hp8 := hp7.kp k8.k (by simp) (by simp)
    have hv8 := dp_kp .nil k8.k hv7
    refine ⟨_, _, _, _, lp, be, to, he, ba, p, c, cs, n + 200 * i + 60 + 60, so, _, _, rfl, hp8, by omega, good_asc hgn, good_len hgn, goodS_asc hgs, goodS_len hgs, so2 k18, ne, k18.t hT, fun lp be to he H9 k9 hp9 => ?_⟩
    exact ⟨_, _, _, _, _, _, _, _, _, rfl, hp9.le (by omega), k18.trans k9, fun _ => ⟨v, rows, rfl, dp_lis hp8.lis k9.k (noLi_log rows) hv8⟩⟩
  · rintro σ H2 ⟨tn, nu, tx, st, ln, lp, be, to, he, rfl, hp2, k2, hnu⟩
    exact q tn nu tx st ln lp be to he H2 (hnu (by decide)) k2 hp2
/-! ### the law -/
theorem law_list : defBody s_law = [sub s_law 0, sub s_law 1, sub s_law 2, sub s_law 3, sub s_law 4, sub s_law 5] := rfl
def sp_law (K : PySem.W.Frag) : Sp := fun vs H Q _ => ∃ (a : Addr) (ns : List Int), vs = [.ref a] ∧ SqL K H a (ns.map V.int) ∧ Tabs (TL K) H ∧ ∀ H', Q (.bl true) H'
theorem law_body (B : BX P K mg base) {A : Around} {outer : List Env} {s : Shared} {H : Hp} {E : XK} {vs : List V} {Q : VK} (hr : Room 20 (lawA K A s)) (hg : (lawA K A s).guards = some []) (h : sp_law K vs H Q E) :
    ∃ t, PSs (lawX P w K mg base A outer s H E) (defBody s_law) t ∧ t { nx := fun _ H' => Q .non H', rt := Q } (start n_law vs) H := by
  refine ⟨tSeq (R_pen K) (tSeq (R_odd K) (tSeq (R_turn K) (tSeq (R_bad K) (tSeq (R_heard K) (R_ret K))))), ?_, ?_⟩
  · rw [law_list]
    exact pss_cons (st_pen B hr) (pss_cons (st_odd B hr) (pss_cons (st_turn B hr hg) (pss_cons (st_bad B hr) (pss_cons (st_heard B hr) (pss_one (st_ret B hr))))))
  · obtain ⟨a, ns, rfl, hs, hT, q⟩ := h
    refine ⟨a, ns, rfl, hs, fun p c cs H1 k1 hp0 hp => ?_⟩
    refine ⟨_, _, rfl, fun so H2 hso k2 eso => ?_⟩
    have k12 := k1.trans k2
    have hp2 := hp.kp k2.k (by simp) (by simp)
    have ne : so ≠ p := fun e => (hp.ne1 hso) e.symm
    refine ⟨_, _, _, _, _, _, _, _, _, _, _, p, c, cs, 0, so, rfl, hp2, by decide, eso, ne, k12.t hT, fun tn nu tx st ln lp be to he H3 hnu k3 hp3 => ?_⟩
    obtain ⟨v, rows, rfl, hv⟩ := hnu
    have t3 : Tabs (TL K) H3 := k3.t (k12.t hT)
    refine ⟨_, _, _, tx, st, ln, lp, be, to, he, _, p, c, cs, _, v, rows, rfl, hp3, by decide, hv, fun D0 x y dx dy H4 k4 hD hx hy hb => ?_⟩
    refine ⟨_, _, _, _, _, _, _, _, _, _, _, _, D0, x, y, dx, dy, rfl, hD, hx, hy, hb, k4.t t3, fun u H5 k5 hu => ?_⟩
    exact ⟨_, _, _, _, _, _, _, _, _, _, _, _, u, rfl, hu, fun H6 _ => q H6⟩
end
end K75

set_option maxHeartbeats 0
namespace K75
open PySem PySem.Spec PyProof.Rows L2
abbrev R : PySem.W.OpenRow := PySem.W.OpenLaw.row PySem.Challenge.rw_waitingpairs_k75_texts_of_logs_and_steps
abbrev qv : Program := PySem.W.view R.prog [57]
def names1 : List PySem.Str := ["_wall", "is_integer", "is_within", "is_listed", "is_row", "WaitError", "BadValue", "BadNumber", "BadProgram", "BadRule", "BadLog", "BadPair", "BadStep", "BadWord", "BadText", "Misfit", "Nothing", "TooMany", "fixed", "MOST_DEEDS", "MOST_PASSES", "MOST_NUMBER", "Log", "DO", "COME"]
def names2 : List PySem.Str := ["MOST_FIGURES", "MOST_TOLD", "DIGITS", "NONE", "is_figures", "Words", "lines_of", "read_lines", "figures", "read_figures", "log_text", "read_log", "is_step_row", "step_words", "steps_text", "step_read", "read_steps", "_law_pen", "_law_draw", "_law_pick", "_law_heard", "_law_is_fig", "_law_log_read", "_law_steps_read", "_law_bent_text"]
def names : List PySem.Str := names1 ++ names2
abbrev hk : PySem.W.Hook := XB.hookY 5 faL fnL tfL eyL
def ob (s : PySem.W.SharedT) : XB.AlY := XB.obsY 5 faL fnL tfL eyL (HandSHeadRun.getT s)
theorem run (w : World) : HandSHeadRun.RunEq R qv hk ob 20000 names w := by
  intro os
  kernel_rfl
end K75

set_option maxHeartbeats 4000000
namespace K75
open PySem PySem.Spec PyProof.Rows L2 XB LamX
/-! ### the end -/
theorem ob_eq (s : PySem.W.SharedT) : ob s = hk.obs s.abs := XB.obsY_eq (HandSHeadRun.getT_eq s)
theorem pf : PF (PySem.Challenge.rw_waitingpairs_k75_texts_of_logs_and_steps).prog := ⟨by kernel_rfl, by kernel_rfl⟩
theorem room21 : Room 21 callerA := ⟨rfl, by decide, by decide⟩
theorem tabs0 {K : PySem.W.Frag} {H : Hp} (h : ∀ p ∈ tfL.map (He.cT K), H p.2 = some (.tbl #[])) : Tabs (TL K) H := fun q hq => by
  rcases List.mem_cons.mp hq with z | z
  · rw [z]
    exact TabS.nil (h (He.cT K dLaw) (List.mem_map.mpr ⟨dLaw, by decide, rfl⟩))
  · rw [List.mem_singleton.mp z]
    exact TabS.nil (h (He.cT K dOne) (List.mem_map.mpr ⟨dOne, by decide, rfl⟩))
theorem facts {P : Program} {w : World} {h : Heap} {mg : Str → Option Value} {f : Addr} (hP : PF P) (G : h.Ns mainGlobals mg) (hfa : mg ("law" : Str) = some (.ref f)) (Y : hk.says w h) : LawC P w (L2.CX P w) 63 mg f h := by
  obtain ⟨K, KX, c⟩ := Y
  have T : TX K mg := tx_of KX G c
  obtain ⟨fd, F⟩ := T.f_law
  have e := hfa.symm.trans T.g_law
  cases e
  have b := FunD.bindsA (ps := p_law) F fun _ _ _ _ _ _ us hl => match us, hl with | [_], _ => rfl
  refine ⟨K, tfL.map (He.cT K), sp_law K, KX, fun p hp => ?_, fun p hp => ?_, fun p hp => ?_, fun H a ns _ _ hH hS => ⟨a, ns, rfl, hS, tabs0 hH, fun _ => rfl⟩, fun base kin _ TB s H a e0 hs => ?_⟩
  · obtain ⟨q, hq, rfl⟩ := List.mem_map.mp hp
    exact c.empty q hq
  · obtain ⟨q, hq, rfl⟩ := List.mem_map.mp hp
    exact c.out q hq
  · obtain ⟨q, hq, rfl⟩ := List.mem_map.mp hp
    exact PySem.W.codeHd_of_K KX (c.hd q hq)
  · have B : BX P K mg base := by
      refine ⟨T, hP, kin, TB _ (List.mem_map.mpr ⟨dLaw, by decide, rfl⟩), TB _ (List.mem_map.mpr ⟨dOne, by decide, rfl⟩), fun z => ?_⟩
      have n := c.apart
      rw [show tfL = [dLaw, dOne] from rfl, List.map_cons, List.map_cons, List.map_nil, List.nodup_cons] at n
      exact n.1 (List.mem_singleton.mpr z)
    exact run_c (p := dLaw) (vs := [.ref a]) F sc_law room21 e0 (b s [.ref a] rfl) (.cons rfl .nil) rfl (law_body B (room21.deeper _) rfl hs)
end K75
open PySem PySem.W PySem.Calls PyProof.Rows
theorem PySem.Challenge.cw_waitingpairs_k75_texts_of_logs_and_steps_holds : PySem.Challenge.rw_waitingpairs_k75_texts_of_logs_and_steps.Holds := by
  w_on; o_law
  refine HandSHeadRun.head_any (r := OpenLaw.row PySem.Challenge.rw_waitingpairs_k75_texts_of_logs_and_steps) (q := K75.qv) (H := K75.hk) (ob := K75.ob) (M := 20000) (loose := K75.names) (d := HandSHeadRun.topDef (OpenLaw.row PySem.Challenge.rw_waitingpairs_k75_texts_of_logs_and_steps).prog 57) (kwd := []) K75.ob_eq
    (by kernel_rfl) (fun s => by kernel_rfl) K75.run (by kernel_rfl) (by kernel_rfl) (by kernel_rfl) (by rfl) (by first | assumption | decide +kernel) (by decide +kernel) ⟨rfl, rfl, rfl, rfl, rfl, by decide +kernel⟩ ?hw ?hc
  case hw => w_witness2
  case hc =>
    refine XB.walk_c (l := PySem.Challenge.rw_waitingpairs_k75_texts_of_logs_and_steps) (n := 63) (CX := fun w => L2.CX (PySem.Challenge.rw_waitingpairs_k75_texts_of_logs_and_steps).prog w) rfl (by decide) (by kernel_rfl) ?F (fun _ _ _ _ _ z => ?cx)
    case F =>
      intro w mg fa h Y G hmg0
      have hmg : mg ("law" : PySem.Str) = some (.ref fa) := by
        have e : (HandSHeadRun.topDef (OpenLaw.row PySem.Challenge.rw_waitingpairs_k75_texts_of_logs_and_steps).prog 57).name = ("law" : PySem.Str) := by kernel_rfl
        rw [← e]
        exact hmg0
      exact K75.facts K75.pf G hmg Y
    case cx =>
      obtain ⟨_, _, _, _, _, _, _, _, _, _, _, _, f⟩ := z
      exact f
