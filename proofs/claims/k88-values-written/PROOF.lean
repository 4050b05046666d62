import PyProof.Rows.All
import Wide.All
import OpenK.AllK
import Wide.FinOn
import PyProof.EqAt
import PyProof.EqKinds
import PyProof.TupleCall
import KE.KLam
import KE.KExcSuper
import KE.IntTextLaws
import KE.KStateDown
import Lean
import HandS.Base
import HandS.Call
import HandS.List
import HandS.Comp
import HandS.Ends
import HandS.Dict
import HandS.Iter
import HandS.Text
import HandS.More
import HandS.Exc
import HandS.TryOnly
import HandS.ExcOwn
import HandS.ExcInit
import HandS.ExcIs
import HandS.ExcField
import HandS.ExcValue
import HandS.RaiseMore
import HandS.Codes
import HandS.Lambda
import HandS.Words
import HandS.WordsList
import HandS.WordsDict
import HandS.WordsExc
import HandS.Defaults
import HandS.IsInst
import HandS.Flow
import HandS.Rev
import HandS.Conv
import HandS.Wide
import HandS.Steps
import HandS.Head0
import HandS.Head1
import HandS.Head2
import HandS.HeadEnd
import HandS.HeadHook1
import HandS.HeadHook2
import HandS.HeadHook3
import HandS.HeadHook4
import HandS.HeadWalk
import PySem.Challenge.RW_weightbook_k88_values_written
import HandS.Walk
import KE.KSuper
import HandS.ExcSuper
import KE.GoesEnum
import HandS.EndTab
set_option Elab.async false
set_option linter.all false
set_option maxRecDepth 100000
set_option maxHeartbeats 4000000
namespace KX
open PySem PySem.Spec PyProof.Rows L2 LamX

/-! ### calls whose frames hold no display under way -/
structure FnG (P : Program) (w : World) (K : PySem.W.Frag) (mg : Str → Option Value) (base : Heap) (k : Nat) (f : Addr) (fd : FuncData) (ps : List Str) (sp : Sp) : Prop where
  len : ∀ vs H Q E, sp vs H Q E → vs.length = ps.length
  run : ∀ (A : Around) (outer : List Env) (s : Shared) (H : Hp) (args : Args) (us : List Value) (vs : List V) (Q : VK) (E : XK),
    A.guards = some [] → Room k A → Env0 P w K mg base A outer s H → BindsTo s fd args (ps.zip us) → Vals vs us → sp vs H Q E →
    codeAny (model P w) A (.call (.ref f) args) (CR (L2.CX P w) outer P w H s Q E) s
section
variable {P : Program} {w : World} {K : PySem.W.Frag} {mg : Str → Option Value} {base : Heap} {k j : Nat} {f : Addr} {fd : FuncData} {ps : List Str} {sp sp' : Sp}
theorem FnG.mono (F : FnG P w K mg base j f fd ps sp) (h : j ≤ k) : FnG P w K mg base k f fd ps sp :=
  ⟨F.len, fun A outer s H args us vs Q E hg hr => F.run A outer s H args us vs Q E hg (hr.mono h)⟩
theorem FnG.imp (F : FnG P w K mg base k f fd ps sp) (h : ∀ vs H Q E, sp' vs H Q E → sp vs H Q E) : FnG P w K mg base k f fd ps sp' :=
  ⟨fun vs H Q E q => F.len vs H Q E (h _ _ _ _ q), fun A outer s H args us vs Q E hg hr he hb hv hs => F.run A outer s H args us vs Q E hg hr he hb hv (h _ _ _ _ hs)⟩
/-- a def of the text, its body walked -/
theorem okG {x qual : Str} {params : Arguments} {body : List Stmt} {scope : Scope} {dvs : List V} {kws : List (Str × V)} {N : List Str} (F : FunD K x qual params body scope dvs kws f fd) (S : FnScope N ps scope)
    (len : ∀ vs H Q E, sp vs H Q E → vs.length = ps.length)
    (hbody : ∀ (cdv : Value) (A : Around) (outer : List Env) (s : Shared) (H : Hp) (vs : List V) (Q : VK) (E : XK), A.guards = some [] → Room k (A.deeper (envOfC qual scope s.heap.objs.size f cdv)) → sp vs H Q E →
      ∃ t, PSs (cxOf (L2.CX P w) P w K mg base N qual scope f cdv A outer s H E) body t ∧ t { nx := fun _ H' => Q .non H', rt := Q } (L2.start N vs) H) : FnG P w K mg base (k + 1) f fd ps sp := by
  obtain ⟨oc, od, dV, kV, doc, pm, an, cdv, ct, osl, rfl, lk, hcd, _, _⟩ := F.ex
  exact ⟨len, fun A outer s H args us vs Q E hg hr e0 hb r hsp => run_ofS lk hcd S hr e0 hb r (len _ _ _ _ hsp) fun hr' => hbody cdv A outer s H vs Q E hg hr' hsp⟩
end
section
variable {X : Cx} {k : Nat} {f : Addr} {fd : FuncData} {ps : List Str} {sp : Sp} {dvs : List V} {ds : List Value} {E : XK} {x : Str} {p pos : Pos} {e : Expr} {es : List Expr} {t : TA}
theorem run_g {pins : List (Addr × Obj)} {σ : L2.St} {H : Hp} {s : Shared} {Q : VK} {us : List Value} {vs : List V} (F : FnG X.prog X.w X.K X.mg X.base k f fd ps sp) (hg : X.A.guards = some []) (hr : Room k X.A) (hb : Binds X.K fd ps ds) (hd : Vals dvs ds)
    (hx : Passes (L2.CX X.prog X.w) X E) (I : Inv X pins σ H s) (r : Vals vs us) (h : sp (vs ++ dvs) H Q E) : wpAny (model X.prog X.w) X.A (call (.ref f) us) (EP X pins σ Q) X.xe s := by
  have r2 : Vals (vs ++ dvs) (us ++ ds) := r.append hd
  have hl : (us ++ ds).length = ps.length := by rw [← r2.length]; exact F.len _ _ _ _ h
  refine wpAny_call (codeAny_mono (F.run X.A X.stack s H ⟨us, []⟩ (us ++ ds) (vs ++ dvs) Q E hg hr I.env0 (hb s us I.kIn hl) r2 h) fun r s' hq => ?_)
  cases r with
  | error e => exact hx pins σ H s e s' I hq
  | ok fl =>
    cases fl with
    | ret u => exact I.after hq
    | next => exact False.elim hq
    | brk => exact False.elim hq
    | cont => exact False.elim hq
/-- f(e, ..) -/
theorem pe_g (F : FnG X.prog X.w X.K X.mg X.base k f fd ps sp) (hg : X.A.guards = some []) (hr : Room k X.A) (hgl : Gl X x) (hm : X.mg x = some (.ref f)) (hk : PySem.W.keepIn X.K (.ref f) = true) (hb : Binds X.K fd ps ds) (hd : Vals dvs ds)
    (hx : Passes (L2.CX X.prog X.w) X E) (ha : PA X (e :: es) t) (hdb : (x == ("__debug__" : Str)) = false := by decide)
    (he : starEach (e :: es) X.env = (false, eval e X.env) :: starEach es X.env := by rfl) (hpl : (backTo pos (starEach es X.env)).any (·.1) = false := by rfl) :
    PE X (.Call (.Name x p) (e :: es) [] pos) (tCall sp dvs E t) := by
  refine ⟨fun pins s σ H Q I h => ?_⟩
  refine wpAny_Call_Name_kw (ld_glob I hgl hm ?_ hdb)
  exact PySem.W.callWith_K (h₀ := X.base) I.ok.mod.kin hk (thn (ha.run pos pins s σ H _ I h) fun us s1 ⟨vs, H1, I1, r, q⟩ => ⟨I1.kIn, run_g F hg hr hb hd hx I1 r q⟩) he hpl
end
end KX

set_option maxRecDepth 100000
set_option maxHeartbeats 4000000
namespace KX
open PySem PySem.Spec PyProof.Rows L2 LamX

/-! ### data that stands in tracked lists and tuples -/
mutual
inductive Dt (H : Hp) : V → PyData → Prop
  | non : Dt H .non .none
  | bl (b : Bool) : Dt H (.bl b) (.bool b)
  | int (i : Int) : Dt H (.int i) (.int i)
  | str (x : Str) : Dt H (.str x) (.str x)
  | lst {a : Addr} {xs : List V} {ds : List PyData} : H a = some (.lst xs) → DtAll H xs ds → Dt H (.ref a) (.list ds)
  | tup {a : Addr} {xs : List V} {ds : List PyData} : H a = some (.tup xs) → DtAll H xs ds → Dt H (.ref a) (.tuple ds)
inductive DtAll (H : Hp) : List V → List PyData → Prop
  | nil : DtAll H [] []
  | cons {v : V} {vs : List V} {d : PyData} {ds : List PyData} : Dt H v d → DtAll H vs ds → DtAll H (v :: vs) (d :: ds)
end
mutual
theorem Dt.dp {K : PySem.W.Frag} {H : Hp} : ∀ {d : PyData} {v : V}, Dt H v d → Dp K H v d
  | .none, _, h => by cases h; exact .non
  | .bool _, _, h => by cases h; exact .bl _
  | .int _, _, h => by cases h; exact .int _
  | .str _, _, h => by cases h; exact .str _
  | .list ds, _, h => by
    cases h with
    | lst h1 h2 => exact .lst (SqL.of h1) (DtAll.dp h2)
  | .tuple ds, _, h => by
    cases h with
    | tup h1 h2 => exact .tup (SqT.of h1) (DtAll.dp h2)
  | .dict _, _, h => by cases h
theorem DtAll.dp {K : PySem.W.Frag} {H : Hp} : ∀ {ds : List PyData} {vs : List V}, DtAll H vs ds → DpAll K H vs ds
  | [], _, h => by cases h; exact .nil
  | d :: ds, _, h => by
    cases h with
    | cons h1 h2 => exact .cons (Dt.dp h1) (DtAll.dp h2)
end
mutual
theorem Dt.same {H H' : Hp} (e : Same H H') : ∀ {d : PyData} {v : V}, Dt H v d → Dt H' v d
  | .none, _, h => by cases h; exact .non
  | .bool _, _, h => by cases h; exact .bl _
  | .int _, _, h => by cases h; exact .int _
  | .str _, _, h => by cases h; exact .str _
  | .list ds, _, h => by
    cases h with
    | lst h1 h2 => exact .lst (e _ _ h1) (DtAll.same e h2)
  | .tuple ds, _, h => by
    cases h with
    | tup h1 h2 => exact .tup (e _ _ h1) (DtAll.same e h2)
  | .dict _, _, h => by cases h
theorem DtAll.same {H H' : Hp} (e : Same H H') : ∀ {ds : List PyData} {vs : List V}, DtAll H vs ds → DtAll H' vs ds
  | [], _, h => by cases h; exact .nil
  | d :: ds, _, h => by
    cases h with
    | cons h1 h2 => exact .cons (Dt.same e h1) (DtAll.same e h2)
end
theorem DtAll.append {H : Hp} : ∀ {ds es : List PyData} {vs us : List V}, DtAll H vs ds → DtAll H us es → DtAll H (vs ++ us) (ds ++ es)
  | [], _, _, _, h, k => by cases h; exact k
  | d :: ds, _, _, _, h, k => by
    cases h with
    | cons h1 h2 => exact .cons h1 (DtAll.append h2 k)
theorem DtAll.length {H : Hp} : ∀ {ds : List PyData} {vs : List V}, DtAll H vs ds → vs.length = ds.length
  | [], _, h => by cases h; rfl
  | d :: ds, _, h => by
    cases h with
    | cons h1 h2 => rw [List.length_cons, List.length_cons, DtAll.length h2]
theorem DtAll.get {H : Hp} : ∀ {ds : List PyData} {vs : List V} {i : Nat} {v : V}, DtAll H vs ds → vs[i]? = some v → ∃ d, ds[i]? = some d ∧ Dt H v d
  | [], _, _, _, h, k => by cases h; simp at k
  | d :: ds, _, 0, _, h, k => by
    cases h with
    | cons h1 h2 => simp at k; subst k; exact ⟨_, rfl, h1⟩
  | d :: ds, _, i + 1, _, h, k => by
    cases h with
    | cons h1 h2 =>
      obtain ⟨e, k1, k2⟩ := DtAll.get (i := i) h2 (by simpa using k)
      exact ⟨e, by simpa using k1, k2⟩
theorem DtAll.strs {H : Hp} : ∀ (xs : List Str), DtAll H (xs.map V.str) (xs.map PyData.str)
  | [] => .nil
  | x :: xs => .cons (.str x) (DtAll.strs xs)
/-- the built-in type of a datum -/
def tyD : PyData → String
  | .none => "NoneType" | .bool _ => "bool" | .int _ => "int" | .str _ => "str" | .list _ => "list" | .tuple _ => "tuple" | .dict _ => "dict"
theorem Dt.ty {K : PySem.W.Frag} {H : Hp} {v : V} {d : PyData} (h : Dt H v d) : TyX K H v (.type (tyD d)) := by
  cases h with
  | non => exact .base .non
  | bl b => exact .base (.bl b)
  | int i => exact .base (.int i)
  | str x => exact .base (.str x)
  | lst h1 h2 => exact .base (.lst h1)
  | tup h1 h2 => exact .base (.tup h1)
/-- a heap that knows no more of a -/
theorem same_upd {H : Hp} {p : Addr} {o : HO} (h : H p = none) : Same H (upd H p o) := fun b x e => by
  rw [upd_ne (ne_of_none e h)]
  exact e
/-- a new thing at p is changed -/
theorem chg {H H1 : Hp} {p : Addr} {o : HO} (s : Same H H1) (h : H p = none) : Same H (upd H1 p o) := fun b x e => by
  rw [upd_ne (ne_of_none e h)]
  exact s _ _ e

section
variable {X : Cx}
/-- == and != of data, one of them not deep -/
def rEqM (K : PySem.W.Frag) : R2 := fun x y H Q => ∃ d e, Dp K H x d ∧ Dp K H y e ∧ PyData.canLay0 d = true ∧ PyData.canLay0 e = true ∧ min d.depth e.depth ≤ 64 ∧ Q (.bl (PyData.eqv d e)) H
def rNeM (K : PySem.W.Frag) : R2 := fun x y H Q => ∃ d e, Dp K H x d ∧ Dp K H y e ∧ PyData.canLay0 d = true ∧ PyData.canLay0 e = true ∧ min d.depth e.depth ≤ 64 ∧ Q (.bl (!PyData.eqv d e)) H
theorem op_eqM (hu : X.A.units + 64 < cLine) : OpR X (compareOp .Eq) (rEqM X.K) := by
  intro pins s σ H x y v u Q I rx ry h
  obtain ⟨d, e, hd, he, sd, se, dp, q⟩ := h
  obtain ⟨as, r1⟩ := Dp.reads I d x v hd rx
  obtain ⟨bs, r2⟩ := Dp.reads I e y u he ry
  exact SeqAt.compareEq_reads r1 r2 sd se (by omega) ⟨.bl _, H, I, rfl, q⟩
theorem op_neM (hu : X.A.units + 64 < cLine) : OpR X (compareOp .NotEq) (rNeM X.K) := by
  intro pins s σ H x y v u Q I rx ry h
  obtain ⟨d, e, hd, he, sd, se, dp, q⟩ := h
  obtain ⟨as, r1⟩ := Dp.reads I d x v hd rx
  obtain ⟨bs, r2⟩ := Dp.reads I e y u he ry
  exact SeqAt.compareNe_reads r1 r2 sd se (by omega) ⟨.bl _, H, I, rfl, q⟩
end

/-! ### functions by name -/
structure GF (P : Program) (w : World) (K : PySem.W.Frag) (mg : Str → Option Value) (base : Heap) (k : Nat) (x : Str) (ps : List Str) (dvs : List V) (sp : Sp) : Prop where
  ex : ∃ f fd ds, mg x = some (.ref f) ∧ PySem.W.keepIn K (.ref f) = true ∧ Binds K fd ps ds ∧ Vals dvs ds ∧ FnG P w K mg base k f fd ps sp
section
variable {P : Program} {w : World} {K : PySem.W.Frag} {mg : Str → Option Value} {base : Heap} {k j : Nat} {x : Str} {ps : List Str} {dvs : List V} {sp sp' : Sp}
theorem GF.mono (G : GF P w K mg base j x ps dvs sp) (h : j ≤ k) : GF P w K mg base k x ps dvs sp := by
  obtain ⟨f, fd, ds, a, b, c, d, F⟩ := G.ex
  exact ⟨f, fd, ds, a, b, c, d, F.mono h⟩
end
section
variable {X : Cx} {k : Nat} {ps : List Str} {sp : Sp} {dvs : List V} {E : XK} {x : Str} {p pos : Pos} {e : Expr} {es : List Expr} {t : TA}
theorem pe_gf (G : GF X.prog X.w X.K X.mg X.base k x ps dvs sp) (hg : X.A.guards = some []) (hr : Room k X.A) (hx : Passes (L2.CX X.prog X.w) X E) (ha : PA X (e :: es) t) (hgl : Gl X x := by rfl) (hdb : (x == ("__debug__" : Str)) = false := by decide)
    (he : starEach (e :: es) X.env = (false, eval e X.env) :: starEach es X.env := by rfl) (hpl : (backTo pos (starEach es X.env)).any (·.1) = false := by rfl) :
    PE X (.Call (.Name x p) (e :: es) [] pos) (tCall sp dvs E t) := by
  obtain ⟨f, fd, ds, hm, hk, hb, hd, F⟩ := G.ex
  exact pe_g F hg hr hgl hm hk hb hd hx ha hdb he hpl
end
end KX

set_option maxRecDepth 100000
set_option maxHeartbeats 4000000
/-! The mathematics of k88, no program in sight. -/
namespace M8
open PySem
def small (c : Nat) : Bool := decide (97 ≤ c) && decide (c ≤ 122)
def digit (c : Nat) : Bool := decide (48 ≤ c) && decide (c ≤ 57)
def word (l : List Nat) : Bool := !l.isEmpty && l.all small
def isWord (x : Str) : Bool := word x.cps.toList
def isFig (i : Int) : Bool := decide (i < 1000000000000) && decide (-1000000000000 < i)
def leafOk : PyData → Bool
  | .none => true
  | .str x => isWord x
  | .int i => isFig i
  | _ => false
def isTup : PyData → Bool
  | .tuple _ => true
  | _ => false
def kids : PyData → List PyData
  | .tuple ds => ds
  | _ => []
def turnOk (n : Nat) (d : PyData) : Bool := (isTup d && decide (0 < n)) || leafOk d
def isV : Nat → List PyData → Bool
  | 0, _ => false
  | n + 1, layer => layer.all (turnOk n) && ((layer.flatMap kids).isEmpty || isV n (layer.flatMap kids))
def isValue (d : PyData) : Bool := isV 60 [d]
/-- the text of an int -/
def intT (i : Int) : List Nat := (Str.ofString (toString i)).cps.toList
def leafT : PyData → List Nat
  | .none => [45]
  | .str x => x.cps.toList
  | .int i => intT i
  | _ => []
mutual
def vt : PyData → List Nat
  | .tuple ds => 40 :: (vtIn ds ++ [41])
  | .none => [45]
  | .str x => x.cps.toList
  | .int i => intT i
  | .bool _ => []
  | .list _ => []
  | .dict _ => []
/-- what stands between the brackets -/
def vtIn : List PyData → List Nat
  | [] => []
  | d :: ds => vt d ++ vtTl ds
def vtTl : List PyData → List Nat
  | [] => []
  | d :: ds => 32 :: (vt d ++ vtTl ds)
end
def VT (d : PyData) : Str := ⟨(vt d).toArray⟩
/-! ### reading -/
def sp (c : Nat) : Bool := c == 40 || c == 41 || c == 32
def pieces : List Nat → List (List Nat)
  | [] => []
  | c :: r => if sp c = true then [c] :: pieces r else match r with
    | [] => [[c]]
    | d :: r' => if sp d = true then [c] :: pieces (d :: r') else match pieces (d :: r') with
      | p :: ps => (c :: p) :: ps
      | [] => [[c]]
theorem pieces_sp {c : Nat} {r : List Nat} (h : sp c = true) : pieces (c :: r) = [c] :: pieces r := by
  rw [pieces.eq_def]
  exact if_pos h
theorem pieces_run : ∀ (m r : List Nat), m ≠ [] → (∀ c ∈ m, sp c = false) → (r = [] ∨ ∃ d r', r = d :: r' ∧ sp d = true) → pieces (m ++ r) = m :: pieces r
  | [c], r, _, hm, hr => by
    have hc := hm c (List.mem_singleton.mpr rfl)
    show pieces (c :: r) = [c] :: pieces r
    rw [pieces.eq_def]
    refine (if_neg (by rw [hc]; exact Bool.false_ne_true)).trans ?_
    rcases hr with rfl | ⟨d, r', rfl, hd⟩
    · rfl
    · show (if sp d = true then [c] :: pieces (d :: r') else _) = _
      rw [if_pos hd]
  | c :: d :: m, r, _, hm, hr => by
    have hc := hm c List.mem_cons_self
    have hd := hm d (List.mem_cons_of_mem _ List.mem_cons_self)
    have ih := pieces_run (d :: m) r (List.cons_ne_nil _ _) (fun x hx => hm x (List.mem_cons_of_mem _ hx)) hr
    show pieces (c :: d :: (m ++ r)) = _
    rw [pieces.eq_def]
    refine (if_neg (by rw [hc]; exact Bool.false_ne_true)).trans ((if_neg (by rw [hd]; exact Bool.false_ne_true)).trans ?_)
    rw [List.cons_append] at ih
    rw [ih]
def bareOf (x : List Nat) : List Nat := if x.take 1 = [45] then x.drop 1 else x
def numV (x : List Nat) : Int := if x.take 1 = [45] then -((NumText.digitsVal (bareOf x) : Nat) : Int) else ((NumText.digitsVal (bareOf x) : Nat) : Int)
def bareOk (b : List Nat) : Bool := decide (1 ≤ b.length) && decide (b.length ≤ 12) && b.all digit
def plainV (x : List Nat) : List PyData :=
  if x = [45] then [.none]
  else if word x = true then [.str ⟨x.toArray⟩]
  else if bareOk (bareOf x) = true then (if intT (numV x) = x then [.int (numV x)] else [])
  else []
abbrev VSt := List (List PyData) × List PyData
/-- what one piece brings: itself, and the lists that stay open -/
def oneOf (p : List Nat) (st : VSt) : Option (List PyData × List (List PyData)) :=
  if p = [41] then (match st.1 with
    | [] => none
    | l :: rest => some ([.tuple l], rest))
  else some (plainV p, st.1)
def putOne (done : List PyData) : List PyData → List (List PyData) → Option VSt
  | [], _ => none
  | o :: os, [] => if done.isEmpty = true then some ([], o :: os) else none
  | o :: _, l :: rest => some ((l ++ [o]) :: rest, done)
def vstep (p : List Nat) (st : VSt) : Option VSt :=
  if p = [40] then some ([] :: st.1, st.2)
  else if p = [32] then some st
  else match oneOf p st with
    | none => none
    | some (one, opens) => putOne st.2 one opens
def vrun : List (List Nat) → VSt → List PyData
  | [], st => if st.1.isEmpty = true then st.2 else []
  | p :: ps, st => match vstep p st with
    | none => []
    | some st' => vrun ps st'
def valueOf (ps : List (List Nat)) : List PyData := vrun ps ([], [])
def S (l : List Nat) : Str := ⟨l.toArray⟩
end M8

set_option maxRecDepth 100000
set_option maxHeartbeats 4000000
namespace K8
open PySem PySem.Spec PyProof.Rows L2 LamX KX M8
def top (i : Nat) : Stmt := PySem.Challenge.pw_weightbook_k88_values_written.main.body.getD i (.Pass ⟨0, 0, 0, 0⟩)
abbrev sIsWord : Stmt := top 25
abbrev sIsFigure : Stmt := top 26
abbrev sIsValue : Stmt := top 27
abbrev sValueText : Stmt := top 28
abbrev sPieces : Stmt := top 29
abbrev sPlainOf : Stmt := top 30
abbrev sValueOf : Stmt := top 31
abbrev sReadValue : Stmt := top 32
abbrev sBegun : Stmt := top 34
abbrev sMixed : Stmt := top 35
abbrev sDraw : Stmt := top 36
abbrev sPick : Stmt := top 37
abbrev sPlain : Stmt := top 38
abbrev sIs : Stmt := top 39
abbrev sLVT : Stmt := top 40
abbrev sCaught : Stmt := top 41
abbrev sWordOf : Stmt := top 42
abbrev sSome : Stmt := top 43
abbrev sNested : Stmt := top 44
abbrev sLaw : Stmt := top 45
def SMALL : Str := "abcdefghijklmnopqrstuvwxyz"
def FIGURES : Str := "0123456789"
/-- the names that the module leaves to the built-in ones, its constants -/
structure Nm (mg : Str → Option Value) : Prop where
  isinstance : mg "isinstance" = none
  str : mg "str" = none
  int : mg "int" = none
  bool : mg "bool" = none
  tuple : mg "tuple" = none
  list : mg "list" = none
  dict : mg "dict" = none
  abs : mg "abs" = none
  all : mg "all" = none
  len : mg "len" = none
  reversed : mg "reversed" = none
  enumerate : mg "enumerate" = none
  range : mg "range" = none
  repr : mg "repr" = none
  min : mg "min" = none
  deep : ∃ t, mg "MOST_DEEP" = some (.int 60 t)
  figs : ∃ t, mg "MOST_FIGURES" = some (.int 12 t)
  numb : ∃ t, mg "MOST_NUMBER" = some (.int 1000000000000 t)
  small : ∃ t, mg "SMALL" = some (.str SMALL t)
  figures : ∃ t, mg "FIGURES" = some (.str FIGURES t)

theorem bISI : bootBuiltins "isinstance" = some (.builtin "isinstance") := by decide +kernel
theorem bSTR : bootBuiltins "str" = some (.type "str") := by decide +kernel
theorem bINT : bootBuiltins "int" = some (.type "int") := by decide +kernel
theorem bBOOL : bootBuiltins "bool" = some (.type "bool") := by decide +kernel
theorem bTUPLE : bootBuiltins "tuple" = some (.type "tuple") := by decide +kernel
theorem bLIST : bootBuiltins "list" = some (.type "list") := by decide +kernel
theorem bDICT : bootBuiltins "dict" = some (.type "dict") := by decide +kernel
theorem bABS : bootBuiltins "abs" = some (.builtin "abs") := by decide +kernel
theorem bALL : bootBuiltins "all" = some (.builtin "all") := by decide +kernel
theorem bLEN : bootBuiltins "len" = some (.builtin "len") := by decide +kernel
theorem bREPR : bootBuiltins "repr" = some (.builtin "repr") := by decide +kernel
theorem bMIN : bootBuiltins "min" = some (.builtin "min") := by decide +kernel
theorem kt {K : PySem.W.Frag} {a b : String} {r : Bool} (h : kitB a b = some r) : PySem.W.kitOne K (.type a) (.type b) = some r := kit_ty h
theorem isStr {K : PySem.W.Frag} (d : PyData) : PySem.W.kitOne K (.type (tyD d)) (.type "str") = some (match d with | .str _ => true | _ => false) :=
  match d with
  | .none => kit_ty (show kitB "NoneType" "str" = some false by decide +kernel)
  | .bool _ => kit_ty (show kitB "bool" "str" = some false by decide +kernel)
  | .int _ => kit_ty (show kitB "int" "str" = some false by decide +kernel)
  | .str _ => kit_ty (show kitB "str" "str" = some true by decide +kernel)
  | .list _ => kit_ty (show kitB "list" "str" = some false by decide +kernel)
  | .tuple _ => kit_ty (show kitB "tuple" "str" = some false by decide +kernel)
  | .dict _ => kit_ty (show kitB "dict" "str" = some false by decide +kernel)
theorem isInt {K : PySem.W.Frag} (d : PyData) : PySem.W.kitOne K (.type (tyD d)) (.type "int") = some (match d with | .int _ => true | .bool _ => true | _ => false) :=
  match d with
  | .none => kit_ty (show kitB "NoneType" "int" = some false by decide +kernel)
  | .bool _ => kit_ty (show kitB "bool" "int" = some true by decide +kernel)
  | .int _ => kit_ty (show kitB "int" "int" = some true by decide +kernel)
  | .str _ => kit_ty (show kitB "str" "int" = some false by decide +kernel)
  | .list _ => kit_ty (show kitB "list" "int" = some false by decide +kernel)
  | .tuple _ => kit_ty (show kitB "tuple" "int" = some false by decide +kernel)
  | .dict _ => kit_ty (show kitB "dict" "int" = some false by decide +kernel)
theorem isBool {K : PySem.W.Frag} (d : PyData) : PySem.W.kitOne K (.type (tyD d)) (.type "bool") = some (match d with | .bool _ => true | _ => false) :=
  match d with
  | .none => kit_ty (show kitB "NoneType" "bool" = some false by decide +kernel)
  | .bool _ => kit_ty (show kitB "bool" "bool" = some true by decide +kernel)
  | .int _ => kit_ty (show kitB "int" "bool" = some false by decide +kernel)
  | .str _ => kit_ty (show kitB "str" "bool" = some false by decide +kernel)
  | .list _ => kit_ty (show kitB "list" "bool" = some false by decide +kernel)
  | .tuple _ => kit_ty (show kitB "tuple" "bool" = some false by decide +kernel)
  | .dict _ => kit_ty (show kitB "dict" "bool" = some false by decide +kernel)
theorem isTuple {K : PySem.W.Frag} (d : PyData) : PySem.W.kitOne K (.type (tyD d)) (.type "tuple") = some (isTup d) :=
  match d with
  | .none => kit_ty (show kitB "NoneType" "tuple" = some false by decide +kernel)
  | .bool _ => kit_ty (show kitB "bool" "tuple" = some false by decide +kernel)
  | .int _ => kit_ty (show kitB "int" "tuple" = some false by decide +kernel)
  | .str _ => kit_ty (show kitB "str" "tuple" = some false by decide +kernel)
  | .list _ => kit_ty (show kitB "list" "tuple" = some false by decide +kernel)
  | .tuple _ => kit_ty (show kitB "tuple" "tuple" = some true by decide +kernel)
  | .dict _ => kit_ty (show kitB "dict" "tuple" = some false by decide +kernel)
theorem isList {K : PySem.W.Frag} (d : PyData) : PySem.W.kitOne K (.type (tyD d)) (.type "list") = some (match d with | .list _ => true | _ => false) :=
  match d with
  | .none => kit_ty (show kitB "NoneType" "list" = some false by decide +kernel)
  | .bool _ => kit_ty (show kitB "bool" "list" = some false by decide +kernel)
  | .int _ => kit_ty (show kitB "int" "list" = some false by decide +kernel)
  | .str _ => kit_ty (show kitB "str" "list" = some false by decide +kernel)
  | .list _ => kit_ty (show kitB "list" "list" = some true by decide +kernel)
  | .tuple _ => kit_ty (show kitB "tuple" "list" = some false by decide +kernel)
  | .dict _ => kit_ty (show kitB "dict" "list" = some false by decide +kernel)


theorem small_iff (c : Nat) : decide (c ∈ SMALL.cps.toList) = small c := by
  have e : SMALL.cps.toList = List.range' 97 26 := by decide +kernel
  rw [e]
  unfold small
  rw [Bool.eq_iff_iff]
  simp only [decide_eq_true_eq, Bool.and_eq_true, List.mem_range'_1]
  omega
theorem digit_iff (c : Nat) : decide (c ∈ FIGURES.cps.toList) = digit c := by
  have e : FIGURES.cps.toList = List.range' 48 10 := by decide +kernel
  rw [e]
  unfold digit
  rw [Bool.eq_iff_iff]
  simp only [decide_eq_true_eq, Bool.and_eq_true, List.mem_range'_1]
  omega
def rSign : R2 := fun x y H Q => ∃ (c : Nat) (z : Str), x = .str ⟨#[c]⟩ ∧ y = .str z ∧ Q (.bl (decide (c ∈ z.cps.toList))) H
/-- [sign in S for sign in x] -/
theorem lc_signs {i j : Nat} {x S : Str} {σ : L2.St} {H : Hp} {Q : VK} (hj : σ[j]? = some (some (.str x))) (hi : i < σ.length) (hz : x.length ≤ 1000000)
    (q : ∀ D H', H D = none → Same H H' → H' D = some (.lst (x.cps.toList.map fun c => V.bl (decide (c ∈ S.cps.toList)))) → Q (.ref D) H') :
    tLc (iStr (tVar j)) (gName i) tYes (tOp rSign (tVar i) (tC (.str S))) [i] σ H Q := by
  refine ⟨_, hj, x, rfl, fun D hD => ?_⟩
  have hsz : x.cps.size = x.cps.toList.length := (Array.length_toList).symm
  refine lc_it walk_str (fun k H' => Same H H' ∧ H' D = some (.lst ((x.cps.toList.take k).map fun c => V.bl (decide (c ∈ S.cps.toList))))) ⟨same_upd hD, by rw [upd_same]; rfl⟩ (fun _ _ _ _ => True.intro) ?_ ?_
  · rintro k v H1 H2 hk ⟨s1, e1⟩ ⟨rfl, c, hc, rfl⟩
    have hset : (wipe σ [i])[i]? = some none := by
      show (σ.set i none)[i]? = _
      rw [List.getElem?_set_self hi]
    have hlen : i < (wipe σ [i]).length := by
      show i < (σ.set i none).length
      rw [List.length_set]; exact hi
    have hc' : x.cps.toList[k]? = some c := by rw [Array.getElem?_toList]; exact hc
    refine ⟨?_, _, List.getElem?_set_self hlen, c, S, rfl, rfl, _, e1, ?_, chg s1 hD, ?_⟩
    · show ((σ.set i none).set i _).set i none = σ.set i none
      rw [List.set_set, List.set_set]
    · rw [List.length_map, List.length_take]
      refine Nat.lt_of_le_of_lt (Nat.min_le_right _ _) ?_
      have : x.length = x.cps.toList.length := (Array.length_toList).symm
      rw [sizeLine_eq]; omega
    · rw [upd_same, List.take_add_one, hc', List.map_append]
      rfl
  · rintro H1 ⟨s1, e1⟩
    rw [hsz, List.take_length] at e1
    exact q D H1 hD s1 e1

section
variable {P : Program} {w : World} {K : PySem.W.Frag} {mg : Str → Option Value} {base : Heap}
theorem scIsWord : FnScope ["thing", "sign"] ["thing"] (defScope sIsWord) := ⟨rfl, rfl, rfl, by decide +kernel, rfl, by decide +kernel, by decide +kernel⟩
def wordD : PyData → Bool
  | .str x => isWord x
  | _ => false
def strLen : PyData → Nat
  | .str x => x.length
  | _ => 0
def spIsWord : Sp := fun vs H Q _ => ∃ v d, vs = [v] ∧ Dt H v d ∧ strLen d ≤ 1000000 ∧ ∀ H', Same H H' → Q (.bl (wordD d)) H'
theorem ok_isWord {f : Addr} {fd : FuncData} (F : FunD K "is_word" "is_word" (defArgs sIsWord) (defBody sIsWord) (defScope sIsWord) [] [] f fd) (T : Nm mg) : FnG P w K mg base 1 f fd ["thing"] spIsWord := by
  refine okG F scIsWord (fun vs H Q E h => ?_) (fun cdv A outer s H vs Q E hg hr h => ?_)
  · obtain ⟨v, d, rfl, _⟩ := h
    rfl
  · obtain ⟨v, d, rfl, hd, hz, q⟩ := h
    obtain ⟨tS, hSMALL⟩ := T.small
    refine ⟨_, PSs.nox ((pss_one (ps_ret (pe_and (pe_callB call_isi (by rfl) T.isinstance bISI (pa_cons (pv 0) (pa_cons (pe_bltn (v := .ty "str") (by rfl) T.str bSTR rfl) pa_nil))) (pe_and (pe_cmpR op_ne (pv 0) pe_str (nomark _)) (pe_one (pe_callB (cr_all rfl) (by rfl) T.all bALL (pa_cons (pe_lc (own := [("sign", 1)]) (g := gName 1) (tt := tYes) rfl scIsWord.nd (pi_str (pv 0)) (blkOk_by (N := ["thing", "sign"]) (sc := defScope sIsWord) (by decide +kernel)) (fun _ _ _ _ _ => pg_name (i := 1) scIsWord.nd rfl (Or.inl rfl)) (fun _ _ _ _ _ => pts_nil) (fun _ _ _ _ _ => (pe_cmpR op_in_sign (pv 1) (pe_glob (v := .str SMALL) (by rfl) hSMALL ⟨_, rfl⟩) (by rfl)))) pa_nil)))))))), ?_⟩
    refine ⟨v, rfl, v, .ty "str", _, _, _, rfl, .ty _, hd.ty, isStr d, _, rfl, ?_⟩
    cases hd with
    | str x =>
      refine iteT ⟨_, rfl, rfl, _, rfl, ite2 (fun e => ?_) (fun e => ?_)⟩
      · have hx : ¬ (V.str x = V.str ("" : Str)) := by
          intro z
          rw [decide_eq_true z] at e
          exact Bool.noConfusion e
        refine lc_signs (S := SMALL) (H := H) (Q := fun y H1 => rAll K [y] H1 Q) (σ := L2.start ["thing", "sign"] [.str x]) (j := 0) (i := 1) (x := x) rfl (Nat.lt_succ_self 1) hz fun D H' nD s1 e1 => ?_
        refine ⟨D, x.cps.toList.map fun c => decide (c ∈ SMALL.cps.toList), rfl, SqL.of (by rw [List.map_map]; exact e1), ?_⟩
        have ev : wordD (.str x) = (x.cps.toList.map fun c => decide (c ∈ SMALL.cps.toList)).all id := by
          show (!x.cps.toList.isEmpty && x.cps.toList.all small) = _
          have hne : x.cps.toList.isEmpty = false := by
            cases hq : x.cps.toList with
            | nil => exact absurd (congrArg V.str (TL.ext_tl (x := x) (y := "") (by rw [show TL.tl x = [] from hq]; rfl))) hx
            | cons a r => rfl
          rw [hne, List.all_map]
          show (x.cps.toList.all small) = _
          congr 1
          funext c
          exact (small_iff c).symm
        rw [← ev]
        exact q _ s1
      · have hx : x = ("" : Str) := by
          by_cases z : x = ("" : Str)
          · exact z
          · exfalso
            apply e
            rw [decide_eq_false (fun y => z (V.str.inj y))]
            rfl
        subst hx
        exact q _ (Same.refl _)
    | non => exact iteF (q _ (Same.refl _))
    | bl b => exact iteF (q _ (Same.refl _))
    | int i => exact iteF (q _ (Same.refl _))
    | lst h1 h2 => exact iteF (q _ (Same.refl _))
    | tup h1 h2 => exact iteF (q _ (Same.refl _))
theorem scIsFigure : FnScope ["thing"] ["thing"] (defScope sIsFigure) := ⟨rfl, rfl, rfl, by decide +kernel, rfl, by decide +kernel, by decide +kernel⟩
def figD : PyData → Bool
  | .int i => isFig i
  | _ => false
def spIsFigure : Sp := fun vs H Q _ => ∃ v d, vs = [v] ∧ Dt H v d ∧ ∀ H', Same H H' → Q (.bl (figD d)) H'
theorem ok_isFigure {f : Addr} {fd : FuncData} (F : FunD K "is_figure" "is_figure" (defArgs sIsFigure) (defBody sIsFigure) (defScope sIsFigure) [] [] f fd) (T : Nm mg) : FnG P w K mg base 1 f fd ["thing"] spIsFigure := by
  refine okG F scIsFigure (fun vs H Q E h => ?_) (fun cdv A outer s H vs Q E hg hr h => ?_)
  · obtain ⟨v, d, rfl, _⟩ := h
    rfl
  · obtain ⟨v, d, rfl, hd, q⟩ := h
    obtain ⟨tN, hMOST_NUMBER⟩ := T.numb
    refine ⟨_, PSs.nox ((pss_one (ps_ret (pe_and (pe_callB call_isi (by rfl) T.isinstance bISI (pa_cons (pv 0) (pa_cons (pe_bltn (v := .ty "int") (by rfl) T.int bINT rfl) pa_nil))) (pe_and (pe_not (pe_callB call_isi (by rfl) T.isinstance bISI (pa_cons (pv 0) (pa_cons (pe_bltn (v := .ty "bool") (by rfl) T.bool bBOOL rfl) pa_nil)))) (pe_one (pe_cmpR op_lt (pe_callB call_abs (by rfl) T.abs bABS (pa_cons (pv 0) pa_nil)) (pe_glob (v := .int 1000000000000) (by rfl) hMOST_NUMBER ⟨_, rfl⟩) (nomark _)))))))), ?_⟩
    refine ⟨v, rfl, v, .ty "int", _, _, _, rfl, .ty _, hd.ty, isInt d, _, rfl, ?_⟩
    cases hd with
    | int i =>
      refine iteT ⟨_, rfl, _, .ty "bool", _, _, _, rfl, .ty _, (Dt.int (H := H) i).ty, isBool _, _, rfl, _, rfl, iteT ⟨_, rfl, i, rfl, _, _, rfl, rfl, ?_⟩⟩
      have e : decide ((if i < 0 then -i else i) < (1000000000000 : Int)) = isFig i := by
        unfold isFig
        rw [Bool.eq_iff_iff]
        simp only [decide_eq_true_eq, Bool.and_eq_true]
        split <;> omega
      show Q (V.bl (decide ((if i < 0 then -i else i) < (1000000000000 : Int)))) H
      rw [e]
      exact q _ (Same.refl _)
    | bl b => exact iteT ⟨_, rfl, _, .ty "bool", _, _, _, rfl, .ty _, (Dt.bl (H := H) b).ty, isBool _, _, rfl, _, rfl, iteF (q _ (Same.refl _))⟩
    | str x => exact iteF (q _ (Same.refl _))
    | non => exact iteF (q _ (Same.refl _))
    | lst h1 h2 => exact iteF (q _ (Same.refl _))
    | tup h1 h2 => exact iteF (q _ (Same.refl _))
end
end K8

set_option maxRecDepth 100000
set_option maxHeartbeats 4000000
namespace KX
open PySem PySem.Spec PyProof.Rows L2 LamX
section
open PySem.SeqAt
open PySem.AutoSeq1 (wpAny_loadPart')
open PySem.MeetsSeq PySem.MeetsSeq2 PySem.MeetsSeq3
/-- list.extend of a tuple, whatever its dict and slots -/
theorem ext_tup (l : Addr) (items : Array Value) (n : Nat) (b : Addr) (items2 : Array Value) (n2 : Nat) (dd : Option Addr) (sl : Array (Option Value)) (h0 : ¬(!items.isEmpty && Builtin.List.listTooLong (items.size + items2.size)) = true) (h1 : items.size ≤ sizeLine)
    (h2 : items.size + items2.size ≤ sizeLine + 1) :
    Meets (Builtin.«list.extend» ⟨[.ref l, .ref b], []⟩) (fun _ R s => s.heap.get? l = some { cls := .type "list", dict := none, data := .seq items n, slots := #[] } ∧ s.heap.get? b = some { cls := .type "tuple", dict := dd, data := .seq items2 n2, slots := sl } ∧
      R (.ok (.ret Value.none)) { s with heap := s.heap.update l (Obj.mapSeq fun x => x ++ items2), toks := s.toks }) :=
  .of_wp fun prog w A R s h => by
    obtain ⟨hp, g, d, tk, os⟩ := s
    obtain ⟨hl, hb, h⟩ := h
    have f1 := AutoSeq1.idx_int
    have f2 := AutoSeq1.sub_tuple_tuple
    have f3 := AutoSeq1.sub_list_list
    have f4 := AutoSeq1.sub_tuple_list
    have f5 := AutoSeq1.sub_list_tuple
    have hz' : (items ++ items2).size ≤ sizeLine + 1 := by rw [Array.size_append]; exact h2
    wp_walk using (wpAny_updateSeq hl rfl (hz := h1) (_hz' := hz')), wpAny_loadPart' hl, wpAny_loadPart' hb
    exact ⟨_, rfl, h⟩
end
section
variable {X : Cx}
def rExtendT (K : PySem.W.Frag) : V → List V → Hp → VK → Prop := fun x vs H Q => ∃ l b xs zs, x = .ref l ∧ vs = [.ref b] ∧ H l = some (.lst xs) ∧ SqT K H b zs ∧ xs.length + zs.length ≤ sizeLine ∧ Q .non (upd H l (.lst (xs ++ zs)))
theorem mt_extendT : MtM X "list.extend" (rExtendT X.K) := by
  intro pins s σ H x vs v us Q I rx rv h
  obtain ⟨l, b, xs, zs, rfl, rfl, hH, hB, hz, q⟩ := h
  cases rx
  obtain ⟨u, rfl, ru⟩ := rv.one
  cases ru
  obtain ⟨z, its, n, r, hl, e⟩ := I.lstM hH
  obtain ⟨its2, r2, ⟨⟨cls, dd, data, sl⟩, ho2, hc2, n2, hd2⟩, hz2⟩ := I.tuple hB
  simp only at hc2 hd2
  subst hc2 hd2
  have hl2 := r2.length
  have hsz : its.toArray.size + its2.toArray.size ≤ sizeLine := by rw [List.size_toArray, List.size_toArray]; omega
  have hlong : ¬ (!its.toArray.isEmpty && Builtin.List.listTooLong (its.toArray.size + its2.toArray.size)) = true := by
    rw [notLongL hsz, Bool.and_false]
    exact Bool.false_ne_true
  refine call_meets F.slot_list_extend ⟨_, e, rfl⟩ F.entry_list_extend (F.args_list_extend_2 _ _)
    (ext_tup l its.toArray n b its2.toArray n2 dd sl hlong (by rw [List.size_toArray]; omega) (by omega)) ⟨e, ho2, ?_⟩
  refine ⟨.non, _, I.lset (its' := its ++ its2) hH e (by simp) (r.append r2) ?_, rfl, q⟩
  rw [List.length_append]
  omega
/-- a list == [], a list != [] -/
def rEqNil (K : PySem.W.Frag) : R2 := fun x y H Q => ∃ a b xs, x = .ref a ∧ y = .ref b ∧ SqL K H a xs ∧ SqL K H b [] ∧ Q (.bl xs.isEmpty) H
def rNeNil (K : PySem.W.Frag) : R2 := fun x y H Q => ∃ a b xs, x = .ref a ∧ y = .ref b ∧ SqL K H a xs ∧ SqL K H b [] ∧ Q (.bl (!xs.isEmpty)) H
theorem op_eqNil (hu : X.A.units + 64 < cLine) : OpR X (compareOp .Eq) (rEqNil X.K) := by
  intro pins s σ H x y v u Q I rx ry h
  obtain ⟨a, b, xs, rfl, rfl, h1, h2, q⟩ := h
  cases rx
  cases ry
  have hu' : X.A.units < cLine := by omega
  obtain ⟨its, rv, p, _⟩ := I.list h1
  obtain ⟨its2, rv2, p2, _⟩ := I.list h2
  have e2 : its2 = [] := Vals.zero rv2
  subst e2
  cases xs with
  | nil =>
    have e1 : its = [] := Vals.zero rv
    subst e1
    have := SeqAt.RcAt.lists (s := s) (A := X.A) (e := fun _ => true) p.isList p2.isList rfl hu' (fun j h1 => absurd h1 (Nat.not_lt_zero _)) X.prog X.w X.xe (EP X pins σ Q)
    exact this ⟨.bl true, H, I, rfl, q⟩
  | cons z zs =>
    have hne : (its.toArray.size != ([] : List Value).toArray.size) = true := by
      have := rv.length
      simp only [List.size_toArray, List.length_nil, bne_iff_ne]
      rw [← this, List.length_cons]
      omega
    exact SeqAt.RcAt.lists_lengths (s := s) (A := X.A) p.isList p2.isList hne hu' X.prog X.w X.xe (EP X pins σ Q) ⟨.bl false, H, I, rfl, q⟩
theorem op_neNil (hu : X.A.units + 64 < cLine) : OpR X (compareOp .NotEq) (rNeNil X.K) := by
  intro pins s σ H x y v u Q I rx ry h
  obtain ⟨a, b, xs, rfl, rfl, h1, h2, q⟩ := h
  cases rx
  cases ry
  have hu' : X.A.units < cLine := by omega
  obtain ⟨its, rv, p, _⟩ := I.list h1
  obtain ⟨its2, rv2, p2, _⟩ := I.list h2
  have e2 : its2 = [] := Vals.zero rv2
  subst e2
  cases xs with
  | nil =>
    have e1 : its = [] := Vals.zero rv
    subst e1
    have := SeqAt.RcNeAt.lists (s := s) (A := X.A) (e := fun _ => true) p.isList p2.isList rfl hu' (fun j h1 => absurd h1 (Nat.not_lt_zero _)) X.prog X.w X.xe (EP X pins σ Q)
    exact this ⟨.bl false, H, I, rfl, q⟩
  | cons z zs =>
    have hne : (its.toArray.size != ([] : List Value).toArray.size) = true := by
      have := rv.length
      simp only [List.size_toArray, List.length_nil, bne_iff_ne]
      rw [← this, List.length_cons]
      omega
    exact SeqAt.RcNeAt.lists_lengths (s := s) (A := X.A) p.isList p2.isList hne hu' X.prog X.w X.xe (EP X pins σ Q) ⟨.bl true, H, I, rfl, q⟩
end
end KX

set_option maxRecDepth 100000
set_option maxHeartbeats 4000000
namespace K8
open PySem PySem.Spec PyProof.Rows L2 LamX KX M8
mutual
/-- how much a datum holds -/
def sz : PyData → Nat
  | .tuple ds => 1 + szA ds
  | .list ds => 1 + szA ds
  | .str x => 1 + x.length
  | .none => 1
  | .bool _ => 1
  | .int _ => 1
  | .dict _ => 1
def szA : List PyData → Nat
  | [] => 0
  | d :: ds => sz d + szA ds
end
theorem sz_pos (d : PyData) : 1 ≤ sz d := by
  cases d <;> simp only [sz] <;> omega
theorem len_szA : ∀ ds : List PyData, ds.length ≤ szA ds
  | [] => Nat.le_refl _
  | d :: ds => by
    rw [szA, List.length_cons]
    have := len_szA ds
    have := sz_pos d
    omega
theorem szA_app : ∀ ds es : List PyData, szA (ds ++ es) = szA ds + szA es
  | [], es => by rw [List.nil_append, szA]; omega
  | d :: ds, es => by rw [List.cons_append, szA, szA, szA_app ds es]; omega
theorem kids_sz (d : PyData) : szA (kids d) ≤ sz d := by
  cases d with
  | tuple ds => show szA ds ≤ sz (.tuple ds); rw [sz]; omega
  | _ => exact Nat.zero_le _
theorem kidsA_sz : ∀ ds : List PyData, szA (ds.flatMap kids) ≤ szA ds
  | [] => Nat.le_refl _
  | d :: ds => by
    rw [List.flatMap_cons, szA_app, szA]
    have := kids_sz d
    have := kidsA_sz ds
    omega
theorem szA_mem {d : PyData} : ∀ {ds : List PyData}, d ∈ ds → sz d ≤ szA ds
  | e :: ds, h => by
    rw [szA]
    rcases List.mem_cons.mp h with rfl | h
    · omega
    · have := szA_mem h
      omega
theorem szA_take (ds : List PyData) (i : Nat) : szA (ds.take i) ≤ szA ds := by
  have h := szA_app (ds.take i) (ds.drop i)
  rw [List.take_append_drop] at h
  omega
theorem strLen_sz (d : PyData) : strLen d ≤ sz d := by
  cases d with
  | str x => show x.length ≤ sz (.str x); rw [sz]; omega
  | _ => exact Nat.zero_le _
theorem layA_app : ∀ ds es : List PyData, PyData.canLayAll0 (ds ++ es) = (PyData.canLayAll0 ds && PyData.canLayAll0 es)
  | [], es => rfl
  | d :: ds, es => by
    rw [List.cons_append, PyData.canLayAll0, PyData.canLayAll0, layA_app ds es, Bool.and_assoc]
theorem layA_mem {d : PyData} : ∀ {ds : List PyData}, PyData.canLayAll0 ds = true → d ∈ ds → PyData.canLay0 d = true
  | e :: ds, h, m => by
    rw [PyData.canLayAll0, Bool.and_eq_true] at h
    rcases List.mem_cons.mp m with rfl | m
    · exact h.1
    · exact layA_mem h.2 m
theorem layA_take {ds : List PyData} (h : PyData.canLayAll0 ds = true) (i : Nat) : PyData.canLayAll0 (ds.take i) = true := by
  rw [← List.take_append_drop i ds, layA_app, Bool.and_eq_true] at h
  exact h.1
theorem lay_kids {d : PyData} (h : PyData.canLay0 d = true) : PyData.canLayAll0 (kids d) = true := by
  cases d with
  | tuple ds => rw [PyData.canLay0] at h; exact h
  | _ => rfl
theorem layA_kids : ∀ {ds : List PyData}, PyData.canLayAll0 ds = true → PyData.canLayAll0 (ds.flatMap kids) = true
  | [], _ => rfl
  | d :: ds, h => by
    rw [PyData.canLayAll0, Bool.and_eq_true] at h
    rw [List.flatMap_cons, layA_app, lay_kids h.1, layA_kids h.2]
    rfl
/-- a datum that may be handed about -/
structure Good (d : PyData) : Prop where
  lay : PyData.canLay0 d = true
  sz : sz d ≤ 100000
theorem eqv_nil (ds : List PyData) : PyData.eqv (.list ds) (.list []) = ds.isEmpty := by
  cases ds <;> rfl
theorem depth_nil (ds : List PyData) : min (PyData.depth (.list ds)) (PyData.depth (.list [])) ≤ 64 := by
  have : PyData.depth (.list []) = 1 := rfl
  omega
theorem leafOk_eq (e : PyData) : leafOk e = (match e with | .none => true | _ => wordD e || figD e) := by
  cases e with
  | str x => show isWord x = (isWord x || false); rw [Bool.or_false]
  | _ => rfl
theorem mid {A G B : Prop} (a : (B → G) → A) (b : B → G) : A := a b
theorem isV_succ (n : Nat) (ds : List PyData) : isV (n + 1) ds = (ds.all (turnOk n) && ((ds.flatMap kids).isEmpty || isV n (ds.flatMap kids))) := rfl
theorem lt_line {n : Nat} (h : n ≤ 100000) : n < sizeLine := Nat.lt_of_le_of_lt h (by decide)
theorem dt_none {H : Hp} {v : V} {d : PyData} (h : Dt H v d) : v = .non ↔ d = .none := by
  cases h <;> simp
theorem not_dict {H : Hp} {v : V} {d : PyData} (h : Dt H v d) : ∀ x, d ≠ .dict x := by
  cases h <;> (intro x z; cases z)
theorem take_succ_flat {ds : List PyData} {i : Nat} {e : PyData} (h : ds[i]? = some e) : (ds.take (i + 1)).flatMap kids = (ds.take i).flatMap kids ++ kids e := by
  rw [List.take_add_one, h]
  simp
theorem all_take {ds : List PyData} {p : PyData → Bool} {i : Nat} {e : PyData} (h : ds[i]? = some e) (h1 : (ds.take i).all p = true) (h2 : p e = true) : (ds.take (i + 1)).all p = true := by
  rw [List.take_add_one, h]
  simp [h1, h2]
theorem all_bad {ds : List PyData} {p : PyData → Bool} {i : Nat} {e : PyData} (h : ds[i]? = some e) (h2 : p e = false) : ds.all p = false := by
  cases q : ds.all p with
  | false => rfl
  | true =>
    have := List.all_eq_true.mp q e (List.mem_of_getElem? h)
    rw [h2] at this
    cases this
section
variable {P : Program} {w : World} {K : PySem.W.Frag} {mg : Str → Option Value} {base : Heap}
theorem scIsValue : FnScope ["thing", "layer", "deep", "later", "one"] ["thing"] (defScope sIsValue) := ⟨rfl, rfl, rfl, by decide +kernel, rfl, by decide +kernel, by decide +kernel⟩
def spIsValue : Sp := fun vs H Q _ => ∃ v d, vs = [v] ∧ Dt H v d ∧ Good d ∧ ∀ H', Same H H' → Q (.bl (isValue d)) H'
theorem ok_isValue {f : Addr} {fd : FuncData} (F : FunD K "is_value" "is_value" (defArgs sIsValue) (defBody sIsValue) (defScope sIsValue) [] [] f fd) (T : Nm mg)
    (Gis_word : GF P w K mg base 1 "is_word" ["thing"] [] spIsWord) (Gis_figure : GF P w K mg base 1 "is_figure" ["thing"] [] spIsFigure) : FnG P w K mg base 2 f fd ["thing"] spIsValue := by
  refine okG F scIsValue (fun vs H Q E h => ?_) (fun cdv A outer s H vs Q E hg hr h => ?_)
  · obtain ⟨v, d, rfl, _⟩ := h
    rfl
  · obtain ⟨v, d, rfl, hd, gd, q⟩ := h
    obtain ⟨tD, hMOST_DEEP⟩ := T.deep
    have hu := hr.units
    have hu : (A.deeper (envOfC "is_value" (defScope sIsValue) s.heap.objs.size f cdv)).units + 64 < cLine := by
      have h1 := hr.units
      have h2 : cLine = 9900 := rfl
      omega
    refine ⟨_, PSs.nox ((pss_cons (ps_set (i := 1) scIsValue.nd rfl (Or.inl rfl) (pe_lst (pa_cons (pv 0) pa_nil)))
      (pss_cons (ps_for PassesOwn.never rfl (pi_range1 (by rfl) T.range (pa_cons (pe_glob (v := .int 60) (by rfl) hMOST_DEEP ⟨_, rfl⟩) pa_nil)) (pg_name (i := 2) scIsValue.nd rfl (Or.inl rfl))
      (pss_cons (ps_set (i := 3) scIsValue.nd rfl (Or.inl rfl) (pe_lst pa_nil))
      (pss_cons (ps_for PassesOwn.never rfl (pi_list (pv 1)) (pg_name (i := 4) scIsValue.nd rfl (Or.inl rfl))
      (pss_one (ps_if (PW.pt (pw_and (pt_val (pe_callB call_isi (by rfl) T.isinstance bISI (pa_cons (pv 4) (pa_cons (pe_bltn (v := .ty "tuple") (by rfl) T.tuple bTUPLE rfl) pa_nil)))) (pw_and1 (pt_cmpR op_lt (pv 2) (pe_op op_sub (pe_glob (v := .int 60) (by rfl) hMOST_DEEP ⟨_, rfl⟩) pe_int) (nomark _))))) (pss_one (ps_expr (pe_bm PySem.F.plainAttrs_list PySem.F.slot_list_extend PySem.F.type_list_extend mt_extendT (pv 3) (pa_cons (pv 4) pa_nil)))) (pss_one (ps_if (PW.pt (pw_and (pt_cmpR op_notN (pv 4) pe_non (nomark _)) (pw_and (pt_not (pt_val (pe_gf Gis_word hg hr passL (pa_cons (pv 4) pa_nil)))) (pw_and1 (pt_not (pt_val (pe_gf Gis_figure hg hr passL (pa_cons (pv 4) pa_nil)))))))) (pss_one (ps_ret pe_bl)) pss_nil)))))
      (pss_cons (ps_if (pt_cmpR (op_eqNil hu) (pv 3) (pe_lst pa_nil) (nomark _)) (pss_one (ps_ret pe_bl)) pss_nil)
      (pss_one (ps_set (i := 1) scIsValue.nd rfl (Or.inl rfl) (pv 3)))))))
      (pss_one (ps_ret pe_bl))))), ?_⟩
    refine ⟨v, rfl, (by show 1 ≤ sizeLine; decide), fun L hL => ⟨60, rfl, by decide, by decide, for_range (n := 60) (fun i σ H' => ∃ (L : Addr) (vs : List V) (ds : List PyData) (o2 o3 o4 : Option V), σ = [some v, some (.ref L), o2, o3, o4] ∧
      Same H H' ∧ H L = none ∧ H' L = some (.lst vs) ∧ DtAll H vs ds ∧ PyData.canLayAll0 ds = true ∧ szA ds ≤ 100000 ∧ isValue d = isV (60 - i) ds) ?_ ?_ ?_⟩⟩
    · refine ⟨L, [v], [d], none, none, none, rfl, same_upd hL, hL, upd_same, .cons hd .nil, ?_, ?_, rfl⟩
      · rw [PyData.canLayAll0, gd.lay]; rfl
      · rw [szA, szA]; exact gd.sz
    · rintro i σ H1 hi ⟨L, vs, ds, o2, o3, o4, rfl, s1, nL, eL, hD, lD, zD, eq⟩
      -- later = []
      refine ⟨Nat.zero_le _, fun W nW => ?_⟩
      have nWL : L ≠ W := ne_of_none eL nW
      have nWH : H W = none := s1.free nW
      have s2 : Same H (upd H1 W (.lst [])) := s1.trans (same_upd nW)
      have en : 60 - i = (59 - i) + 1 := by omega
      rw [en, isV_succ] at eq
      refine ⟨_, rfl, L, rfl, ⟨_, SqL.of (by rw [upd_ne nWL]; exact eL)⟩, for_list (K := K) (a := L) (xs := vs) (fun k σ H' => ∃ (us : List V) (o4 : Option V), σ = [some v, some (.ref L), some (.int (0 + (i : Int))), some (.ref W), o4] ∧
        Same H H' ∧ H' L = some (.lst vs) ∧ H' W = some (.lst us) ∧ DtAll H us ((ds.take k).flatMap kids) ∧ (ds.take k).all (turnOk (59 - i)) = true) ?_ ?_ ?_ ?_⟩
      · exact ⟨[], o4, rfl, s2, by rw [upd_ne nWL]; exact eL, upd_same, .nil, rfl⟩
      · rintro k σ H2 _ ⟨us, o4, _, _, h3, _⟩
        exact SqL.of h3
      · rintro k x σ H2 hk ⟨us, o4, rfl, s3, e3, eW, hU, hall⟩
        obtain ⟨e, he, hx⟩ := hD.get hk
        have hem : e ∈ ds := List.mem_of_getElem? he
        have hse : sz e ≤ 100000 := Nat.le_trans (szA_mem hem) zD
        have hle : PyData.canLay0 e = true := layA_mem lD hem
        have hx2 := hx.same s3
        -- what is let through leaves the turn
        have nxt : ∀ (us' : List V) (H3 : Hp), Same H H3 → H3 L = some (.lst vs) → H3 W = some (.lst (us ++ us')) → DtAll H us' (kids e) → turnOk (59 - i) e = true → ∃ (us : List V) (o4 : Option V), ([some v, some (.ref L), some (.int (0 + (i : Int))), some (.ref W), some x] : L2.St) = [some v, some (.ref L), some (.int (0 + (i : Int))), some (.ref W), o4] ∧
            Same H H3 ∧ H3 L = some (.lst vs) ∧ H3 W = some (.lst us) ∧ DtAll H us ((ds.take (k + 1)).flatMap kids) ∧ (ds.take (k + 1)).all (turnOk (59 - i)) = true := fun us' H3 a b c d t =>
          ⟨us ++ us', some x, rfl, a, b, c, by rw [take_succ_flat he]; exact hU.append d, all_take he hall t⟩
        refine' mid (B := isTup e = false ∨ 59 - i = 0) ?main ?elif
        case main =>
          intro hel
          refine ⟨x, rfl, x, .ty "tuple", _, _, _, rfl, .ty _, hx2.ty, isTuple e, _, rfl, ?_⟩
          cases ht : isTup e with
          | false => exact iteF (iteF (hel (.inl ht)))
          | true =>
            refine iteT ⟨_, rfl, _, _, rfl, rfl, _, _, rfl, rfl, _, rfl, ?_⟩
            by_cases hi9 : i < 59
            · rw [decide_eq_true (by omega)]
              cases hx with
              | @tup a xs es h1 h2 =>
                have hus := hU.length
                have hes := h2.length
                have hl1 := len_szA ((ds.take k).flatMap kids)
                have hl2 := kidsA_sz (ds.take k)
                have hl3 := szA_take ds k
                have hl4 := len_szA es
                have hl5 : szA es ≤ sz (.tuple es) := kids_sz (.tuple es)
                have nWa : a ≠ W := ne_of_none h1 nWH
                refine iteT ⟨_, rfl, .inl ⟨rfl, _, SqL.of eW⟩, _, rfl, W, _, us, _, rfl, rfl, eW, SqT.of (s3 _ _ h1), Nat.le_trans (by rw [hus, hes]; exact Nat.add_le_add (Nat.le_trans (Nat.le_trans hl1 hl2) (Nat.le_trans hl3 zD)) (Nat.le_trans hl4 (Nat.le_trans hl5 hse))) (by decide), ?_⟩
                exact nxt xs _ (chg s3 nWH) (by rw [upd_ne nWL]; exact e3) upd_same h2 (by unfold turnOk; rw [ht, decide_eq_true (by omega)]; rfl)
              | _ => cases ht
            · rw [decide_eq_false (by omega)]
              exact iteF (hel (.inr (by omega)))
        case elif =>
          intro hno
          have hk0 : turnOk (59 - i) e = leafOk e := by
            unfold turnOk
            rcases hno with h | h
            · rw [h]; rfl
            · rw [h]
              show (isTup e && false || leafOk e) = leafOk e
              rw [Bool.and_false, Bool.false_or]
          have kn : leafOk e = true → kids e = [] := fun h => by
            cases e <;> first | rfl | cases h
          have bad : leafOk e = false → ∀ H', Same H H' → Q (.bl false) H' := fun h H' s' => by
            have ev : isValue d = false := by
              rw [eq, all_bad he (by rw [hk0]; exact h)]
              rfl
            rw [← ev]
            exact q _ s'
          have good : leafOk e = true → ∀ H3, Same H2 H3 → _ := fun h H3 s4 => nxt [] H3 (s3.trans s4) (s4 _ _ e3) (by rw [List.append_nil]; exact s4 _ _ eW) (by rw [kn h]; exact .nil) (by rw [hk0]; exact h)
          by_cases hn : e = .none
          · subst hn
            cases hx
            exact ⟨_, rfl, rfl, _, rfl, iteF (iteF (good rfl H2 (Same.refl _)))⟩
          · have hv : ¬ x = .non := fun z => hn ((dt_none hx).mp z)
            have hlf : leafOk e = (wordD e || figD e) := by rw [leafOk_eq]; cases e <;> first | rfl | exact absurd rfl hn
            refine ⟨_, rfl, rfl, _, rfl, ?_⟩
            rw [decide_eq_false hv]
            refine iteT ⟨x, rfl, x, e, rfl, hx2, Nat.le_trans (strLen_sz e) (Nat.le_trans hse (by decide)), fun H3 s4 => ⟨_, rfl, ?_⟩⟩
            cases hw : wordD e with
            | true => exact iteF (iteF (good (by rw [hlf, hw]; rfl) H3 s4))
            | false =>
              refine iteT ⟨x, rfl, x, e, rfl, hx2.same s4, fun H4 s5 => ⟨_, rfl, ?_⟩⟩
              cases hf : figD e with
              | true => exact iteF (good (by rw [hlf, hw, hf]; rfl) H4 (s4.trans s5))
              | false => exact iteT (bad (by rw [hlf, hw, hf]; rfl) H4 (s3.trans (s4.trans s5)))
      · rintro σ H2 ⟨us, o4, rfl, s3, e3, eW, hU, hall⟩
        have hlen := hD.length
        rw [hlen, List.take_length] at hU hall
        rw [hall, Bool.true_and] at eq
        have hl2 := kidsA_sz ds
        have hlay := layA_kids lD
        -- if later == []: return True
        refine ⟨_, rfl, Nat.zero_le _, fun N nN => ?_⟩
        have nNW : W ≠ N := ne_of_none eW nN
        have s4 : Same H2 (upd H2 N (.lst [])) := same_upd nN
        refine ⟨W, N, us, rfl, rfl, SqL.of (s4 _ _ eW), SqL.of upd_same, _, rfl, ?_⟩
        have ee : us.isEmpty = (ds.flatMap kids).isEmpty := by
          have := hU.length
          cases hu1 : us <;> cases hu2 : ds.flatMap kids <;> simp_all
        rw [ee]
        cases hE : (ds.flatMap kids).isEmpty with
        | true =>
          refine iteT ?_
          rw [hE] at eq
          have ev : isValue d = true := eq
          show Q (.bl true) _
          rw [← ev]
          exact q _ (s3.trans s4)
        | false =>
          refine iteF ⟨_, rfl, ?_⟩
          rw [hE, Bool.false_or] at eq
          have e2 : 60 - (i + 1) = 59 - i := by omega
          exact ⟨W, us, _, _, _, _, rfl, s3.trans s4, nWH, s4 _ _ eW, hU, hlay, Nat.le_trans hl2 zD, by rw [e2]; exact eq⟩
    · rintro σ H1 ⟨L, vs, ds, o2, o3, o4, rfl, s1, nL, eL, hD, lD, zD, eq⟩
      show Q (.bl false) H1
      have e0 : isValue d = false := eq
      rw [← e0]
      exact q _ s1
end
end K8

set_option maxRecDepth 100000
set_option maxHeartbeats 4000000
namespace K8
open PySem PySem.Spec PyProof.Rows L2 LamX KX M8
theorem midF {A : Prop} {ι : Type} {G B : ι → Prop} (a : (∀ i, B i → G i) → A) (b : ∀ i, B i → G i) : A := a b
theorem tlS (x : Str) : S x.cps.toList = x := TL.ext_tl rfl
theorem lenL (x : Str) : x.length = x.cps.toList.length := (Array.length_toList).symm
def BR : Str := "() "
theorem sp_iff (c : Nat) : (!decide (c ∈ (BR).cps.toList)) = !sp c := by
  have e : (BR).cps.toList = [40, 41, 32] := by decide +kernel
  rw [e]
  unfold sp
  rw [Bool.eq_iff_iff]
  simp [beq_iff_eq, and_assoc]
theorem cutS_nat (x : Str) (a e : Nat) (ha : a ≤ x.length) (he : e ≤ x.length) : cutS x (some (a : Int)) (some (e : Int)) = S ((x.cps.toList.drop a).take (e - a)) := by
  unfold cutS S
  rw [HT.sIx_nat, HT.sIx_nat, Nat.min_eq_left ha, Nat.min_eq_left he]
def mkS (l : List Nat) : V := V.str (S l)
section
variable {P : Program} {w : World} {K : PySem.W.Frag} {mg : Str → Option Value} {base : Heap}
theorem scPieces : FnScope ["text", "found", "at", "end"] ["text"] (defScope sPieces) := ⟨rfl, rfl, rfl, by decide +kernel, rfl, by decide +kernel, by decide +kernel⟩
def spPieces : Sp := fun vs H Q _ => ∃ x, vs = [.str x] ∧ x.length ≤ 100000 ∧ ∀ H' p, Same H H' → H p = none → H' p = some (.lst ((pieces x.cps.toList).map mkS)) → Q (.ref p) H'
theorem ok_pieces {f : Addr} {fd : FuncData} (F : FunD K "pieces_of" "pieces_of" (defArgs sPieces) (defBody sPieces) (defScope sPieces) [] [] f fd) (T : Nm mg) : FnG P w K mg base 1 f fd ["text"] spPieces := by
  refine okG F scPieces (fun vs H Q E h => ?_) (fun cdv A outer s H vs Q E hg hr h => ?_)
  · obtain ⟨x, rfl, _⟩ := h
    rfl
  · obtain ⟨x, rfl, hz, q⟩ := h
    have hz' : x.length ≤ sizeLine := Nat.le_trans hz (by decide)
    refine ⟨_, PSs.nox ((pss_cons (ps_par (i := 1) (j := 2) rfl scPieces.nd rfl rfl (by decide) rfl rfl (pa_cons (pe_lst pa_nil) (pa_cons pe_int pa_nil)) rfl)
      (pss_cons (ps_while PassesOwn.never (pt_cmpR op_lt (pv 2) (pe_callB call_len_str (by rfl) T.len bLEN (pa_cons (pv 0) pa_nil)) (nomark _)) (pss_cons (ps_set (i := 3) scPieces.nd rfl (Or.inl rfl) (pe_op op_add (pv 2) pe_int))
      (pss_cons (ps_if (pt_cmpR op_notIn_sign (pe_ix ix_str (pv 0) (pv 2) (fun _ _ => rfl)) pe_str (by rfl)) (pss_one (ps_while PassesOwn.never (PW.pt (pw_and (pt_cmpR op_lt (pv 3) (pe_callB call_len_str (by rfl) T.len bLEN (pa_cons (pv 0) pa_nil)) (nomark _)) (pw_and1 (pt_cmpR op_notIn_sign (pe_ix ix_str (pv 0) (pv 3) (fun _ _ => rfl)) pe_str (by rfl))))) (pss_one (ps_aug (i := 3) scPieces.nd rfl (Or.inl rfl) pe_int ip_add)))) pss_nil)
      (pss_cons (ps_expr (pe_bm PySem.F.plainAttrs_list PySem.F.slot_list_append PySem.F.type_list_append mt_append (pv 1) (pa_cons (pe_slice sl_str (pv 0) (po_some (pv 2)) (po_some (pv 3))) pa_nil)))
      (pss_one (ps_set (i := 2) scPieces.nd rfl (Or.inl rfl) (pv 3)))))))
      (pss_one (ps_ret (pv 1)))))), ?_⟩
    generalize hX : x.cps.toList = X at q
    have hL : x.length = X.length := by rw [lenL, hX]
    refine ⟨Nat.zero_le _, fun F nF => ⟨_, _, rfl, ?_⟩⟩
    refine ⟨fun m σ H' => ∃ (a : Nat) (acc : List (List Nat)) (o3 : Option V), σ = [some (.str x), some (.ref F), some (.int a), o3] ∧ Same H H' ∧ H' F = some (.lst (acc.map mkS)) ∧ a ≤ X.length ∧ m = X.length - a ∧ acc ++ pieces (X.drop a) = pieces X ∧ acc.length ≤ a,
      ⟨X.length, 0, [], none, rfl, same_upd nF, upd_same, Nat.zero_le _, rfl, rfl, Nat.le_refl _⟩, ?_⟩
    rintro m σ H1 ⟨a, acc, o3, rfl, s1, eF, ha, rfl, hacc, hal⟩
    refine ⟨_, rfl, _, rfl, x, rfl, hz', _, _, rfl, rfl, _, rfl, ite2 (fun hlt => ?_) (fun hge => ?_)⟩
    · have hlt : a < X.length := by
        have := of_decide_eq_true hlt
        rw [hL] at this
        omega
      refine ⟨fun σ' H' => ∃ m', m' < X.length - a ∧ ∃ (a : Nat) (acc : List (List Nat)) (o3 : Option V), σ' = [some (.str x), some (.ref F), some (.int a), o3] ∧ Same H H' ∧ H' F = some (.lst (acc.map mkS)) ∧ a ≤ X.length ∧ m' = X.length - a ∧ acc ++ pieces (X.drop a) = pieces X ∧ acc.length ≤ a, fun _ _ h => h, ?_⟩
      have hd : X.drop a = X[a] :: X.drop (a + 1) := List.drop_eq_getElem_cons hlt
      -- end = at + 1
      refine ⟨_, rfl, _, _, rfl, rfl, ?_⟩
      refine' midF (ι := Nat) (B := fun e => a < e ∧ e ≤ X.length ∧ pieces (X.drop a) = ((X.drop a).take (e - a)) :: pieces (X.drop e)) ?main ?rest
      case main =>
        intro hel
        refine ⟨_, rfl, _, rfl, x, _, X[a], rfl, rfl, hz', atI_nat (by rw [hX]; exact List.getElem?_eq_getElem hlt), X[a], BR, rfl, rfl, _, rfl, ?_⟩
        rw [sp_iff]
        by_cases hs : sp X[a] = false
        · rw [hs]
          refine iteT ?_
          refine ⟨fun m σ H' => ∃ e : Nat, σ = [some (.str x), some (.ref F), some (.int a), some (.int e)] ∧ H' = H1 ∧ a < e ∧ e ≤ X.length ∧ m = X.length - e ∧ ∀ c ∈ (X.drop a).take (e - a), sp c = false,
            ⟨_, a + 1, rfl, rfl, by omega, by omega, rfl, ?_⟩, ?_⟩
          · rw [hd, Nat.add_sub_cancel_left]
            intro c hc
            rw [List.take_succ_cons, List.take_zero, List.mem_singleton] at hc
            rw [hc]
            exact hs
          · rintro m σ H2 ⟨e, rfl, rfl, h1, h2, rfl, h3⟩
            have hap : X.drop a = (X.drop a).take (e - a) ++ X.drop e := by
              conv => lhs; rw [← List.take_append_drop (e - a) (X.drop a), List.drop_drop]
              rw [show a + (e - a) = e by omega]
            have hne : (X.drop a).take (e - a) ≠ [] := by
              rw [hd, show e - a = (e - a - 1) + 1 by omega]
              exact List.cons_ne_nil _ _
            refine ⟨_, rfl, _, rfl, x, rfl, hz', _, _, rfl, rfl, _, rfl, ?_⟩
            by_cases h4 : e < X.length
            · rw [decide_eq_true (by rw [hL]; omega)]
              refine iteT ⟨_, rfl, _, rfl, x, _, X[e], rfl, rfl, hz', atI_nat (by rw [hX]; exact List.getElem?_eq_getElem h4), X[e], BR, rfl, rfl, _, rfl, ?_⟩
              have hd2 : X.drop e = X[e] :: X.drop (e + 1) := List.drop_eq_getElem_cons h4
              rw [sp_iff]
              cases hs2 : sp X[e] with
              | true =>
                exact iteF (hel e ⟨h1, h2, by
                  rw [← pieces_run _ (X.drop e) hne h3 (.inr ⟨_, _, hd2, hs2⟩), ← hap]⟩)
              | false =>
                refine iteT ⟨fun σ' H' => ∃ m', m' < X.length - e ∧ ∃ e : Nat, σ' = [some (.str x), some (.ref F), some (.int a), some (.int e)] ∧ H' = H2 ∧ a < e ∧ e ≤ X.length ∧ m' = X.length - e ∧ ∀ c ∈ (X.drop a).take (e - a), sp c = false, fun _ _ h => h, ?_⟩
                refine ⟨_, rfl, _, _, rfl, rfl, _, by omega, e + 1, rfl, rfl, by omega, by omega, rfl, ?_⟩
                intro c hc
                rw [show e + 1 - a = (e - a) + 1 by omega, List.take_add_one, List.mem_append] at hc
                rcases hc with hc | hc
                · exact h3 c hc
                · rw [List.getElem?_drop, show a + (e - a) = e by omega, List.getElem?_eq_getElem h4] at hc
                  rw [List.mem_singleton.mp hc]
                  exact hs2
            · rw [decide_eq_false (by rw [hL]; omega)]
              refine iteF (iteF (hel e ⟨h1, h2, ?_⟩))
              have hnil : X.drop e = [] := List.drop_eq_nil_of_le (by omega)
              rw [← pieces_run _ (X.drop e) hne h3 (.inl hnil), ← hap]
        · have hs : sp X[a] = true := by
            cases h : sp X[a] with
            | true => rfl
            | false => exact absurd h hs
          rw [hs]
          exact iteF (hel (a + 1) ⟨by omega, by omega, by rw [hd, pieces_sp hs, Nat.add_sub_cancel_left]; rfl⟩)
      case rest =>
        rintro e ⟨h1, h2, h3⟩
        refine ⟨_, rfl, .inl ⟨rfl, _, SqL.of eF⟩, _, rfl, _, rfl, _, rfl, _, rfl, _, rfl, x, rfl, hz', F, _, _, rfl, rfl, eF, ?_, ?_⟩
        · rw [List.length_map]
          exact lt_line (by omega)
        · refine ⟨_, rfl, X.length - e, by omega, e, acc ++ [(X.drop a).take (e - a)], _, rfl, chg s1 nF, ?_, h2, rfl, ?_, ?_⟩
          · rw [upd_same, List.map_append, cutS_nat x a e (by omega) (by omega), hX]
            rfl
          · rw [List.append_assoc, ← hacc, h3]
            rfl
          · rw [List.length_append]
            show acc.length + 1 ≤ e
            omega
    · have hge : a = X.length := by
        have h : ¬ ((a : Int) < (x.length : Int)) := fun z => hge (decide_eq_true z)
        rw [hL] at h
        omega
      have hnil : X.drop a = [] := List.drop_eq_nil_of_le (by omega)
      rw [hnil] at hacc
      have hacc : acc = pieces X := by
        rw [← hacc]
        exact (List.append_nil acc).symm
      subst hacc
      exact ⟨_, rfl, q H1 F s1 nF eF⟩
end
end K8

set_option maxRecDepth 100000
set_option maxHeartbeats 4000000
namespace K8
open PySem PySem.Spec PyProof.Rows L2 LamX KX M8
theorem digitsVal_lt : ∀ (l : List Nat) (a : Nat), (∀ c ∈ l, c ≤ 57) → l.foldl (fun acc c => acc * 10 + (c - 48)) a < (a + 1) * 10 ^ l.length
  | [], a, _ => by simp
  | c :: l, a, h => by
    have h1 := digitsVal_lt l (a * 10 + (c - 48)) fun d hd => h d (List.mem_cons_of_mem _ hd)
    have hc := h c List.mem_cons_self
    have h2 : a * 10 + (c - 48) + 1 ≤ (a + 1) * 10 := by omega
    rw [List.foldl_cons, List.length_cons, Nat.pow_succ]
    calc _ < (a * 10 + (c - 48) + 1) * 10 ^ l.length := h1
      _ ≤ (a + 1) * 10 * 10 ^ l.length := Nat.mul_le_mul_right _ h2
      _ = _ := by rw [Nat.mul_assoc, Nat.mul_comm 10]
theorem allDigits {l : List Nat} (h : l.all digit = true) : NumText.AllDigits l := fun c hc => by
  have := List.all_eq_true.mp h c hc
  unfold digit at this
  simpa [Bool.and_eq_true] using this
theorem val_lt {l : List Nat} (h : l.all digit = true) (hl : l.length ≤ 12) : NumText.digitsVal l < 10 ^ 12 := by
  have h1 := digitsVal_lt l 0 fun c hc => (allDigits h c hc).2
  have h2 : 10 ^ l.length ≤ 10 ^ 12 := Nat.pow_le_pow_right (by decide) hl
  unfold NumText.digitsVal
  omega
theorem numV_abs {x : List Nat} (h : bareOk (bareOf x) = true) : (numV x).natAbs < 10 ^ 12 := by
  unfold bareOk at h
  simp only [Bool.and_eq_true, decide_eq_true_eq] at h
  have := val_lt h.2 h.1.2
  unfold numV
  split <;> omega
theorem small_log {n : Nat} (h : n < 10 ^ 12) : n.log2 < 1920 := by
  by_cases h0 : n = 0
  · subst h0; decide
  · have h1 : n < 2 ^ 1920 := Nat.lt_of_lt_of_le h (by decide +kernel)
    exact (Nat.log2_lt h0).mpr h1
theorem int_piece {x : Str} (h : bareOk (bareOf x.cps.toList) = true) : PySem.intText? x = some (numV x.cps.toList) ∧ x.length ≤ 13 := by
  unfold bareOk at h
  simp only [Bool.and_eq_true, decide_eq_true_eq] at h
  obtain ⟨⟨h1, h2⟩, h3⟩ := h
  unfold numV
  unfold bareOf at h1 h2 h3 ⊢
  by_cases hc : x.cps.toList.take 1 = [45]
  · rw [if_pos hc] at h1 h2 h3 ⊢
    have hx : x.cps.toList = 45 :: x.cps.toList.drop 1 := by
      cases e : x.cps.toList with
      | nil => rw [e] at hc; cases hc
      | cons c r =>
        rw [e] at hc
        have : c = 45 := by simpa using hc
        rw [this]; rfl
    have hl : x.length ≤ 13 := by
      rw [lenL, hx, List.length_cons]; omega
    rw [if_pos hc]
    exact ⟨intText_neg hx (allDigits h3) (by intro z; rw [z] at h1; simp at h1) (by omega), hl⟩
  · rw [if_neg hc] at h1 h2 h3 ⊢
    have hl : x.length ≤ 13 := by rw [lenL]; omega
    rw [if_neg hc]
    exact ⟨intText_digits (allDigits h3) (by intro z; rw [z] at h1; simp at h1) (by omega), hl⟩
theorem cutS_hd (x : Str) : cutS x none (some 1) = S (x.cps.toList.take 1) := by
  unfold cutS S
  rw [show HT.sIx x.length x.length (some 1) = min 1 x.length from HT.sIx_nat _ _ 1, HT.sIx_none]
  congr 2
  rw [List.drop_zero, Nat.sub_zero, lenL]
  cases e : x.cps.toList with
  | nil => rfl
  | cons c r => rw [List.length_cons, Nat.min_eq_left (by omega)]
theorem cutS_tl (x : Str) : cutS x (some 1) none = S (x.cps.toList.drop 1) := by
  unfold cutS S
  rw [show HT.sIx x.length 0 (some 1) = min 1 x.length from HT.sIx_nat _ _ 1, HT.sIx_none]
  congr 2
  rw [lenL]
  cases e : x.cps.toList with
  | nil => rfl
  | cons c r =>
    rw [List.length_cons, Nat.min_eq_left (by omega)]
    exact List.take_of_length_le (by simp)
theorem str_eq {x : Str} {l : List Nat} (y : Str) (hy : y.cps.toList = l) : decide (V.str x = V.str y) = decide (x.cps.toList = l) := by
  subst hy
  rw [Bool.eq_iff_iff, decide_eq_true_eq, decide_eq_true_eq]
  exact ⟨fun h => by rw [V.str.inj h], fun h => congrArg V.str (TL.ext_tl h)⟩
theorem hyphen : ("-" : Str).cps.toList = [45] := by decide +kernel
theorem intT_eq (i : Int) (x : Str) : decide (V.str (toString i) = V.str x) = decide (intT i = x.cps.toList) := by
  rw [Bool.eq_iff_iff, decide_eq_true_eq, decide_eq_true_eq]
  exact ⟨fun h => by rw [← V.str.inj h]; rfl, fun h => congrArg V.str (TL.ext_tl h)⟩
theorem int_ok (i : Int) : True := trivial
theorem tNot_mk {t : TT} {σ : L2.St} {H : Hp} {Q : Bool → Hp → Prop} (h : t σ H (fun c H1 => Q (!c) H1)) : tNot t σ H Q := h
/-- all([sign in S for sign in x]), as a test -/
theorem all_signs {K : PySem.W.Frag} {i j : Nat} {x S : Str} {σ : L2.St} {H : Hp} {Q : Bool → Hp → Prop} (hj : σ[j]? = some (some (.str x))) (hi : i < σ.length) (hz : x.length ≤ 1000000)
    (q : ∀ H', Same H H' → Q (x.cps.toList.all fun c => decide (c ∈ S.cps.toList)) H') :
    tB (tCB (rAll K) (tCons (tLc (iStr (tVar j)) (gName i) tYes (tOp rSign (tVar i) (tC (.str S))) [i]) tNil)) σ H Q := by
  refine lc_signs (Q := fun y H1 => rAll K [y] H1 fun v H2 => ∃ c, v = .bl c ∧ Q c H2) hj hi hz fun D H' nD s1 e1 => ?_
  refine ⟨D, x.cps.toList.map fun c => decide (c ∈ S.cps.toList), rfl, SqL.of (by rw [List.map_map]; exact e1), _, rfl, ?_⟩
  rw [List.all_map]
  exact q _ s1
section
variable {P : Program} {w : World} {K : PySem.W.Frag} {mg : Str → Option Value} {base : Heap}
theorem scPlainOf : FnScope ["piece", "bare", "sign"] ["piece"] (defScope sPlainOf) := ⟨rfl, rfl, rfl, by decide +kernel, rfl, by decide +kernel, by decide +kernel⟩
/-- a new list of data -/
def NewL (H : Hp) (ds : List PyData) (Q : VK) : Prop := ∀ H' p vs, Same H H' → H p = none → H' p = some (.lst vs) → DtAll H' vs ds → Q (.ref p) H'
def spPlainOf : Sp := fun vs H Q _ => ∃ x, vs = [.str x] ∧ x.length ≤ 100000 ∧ NewL H (plainV x.cps.toList) Q
theorem ok_plainOf {f : Addr} {fd : FuncData} (F : FunD K "plain_of" "plain_of" (defArgs sPlainOf) (defBody sPlainOf) (defScope sPlainOf) [] [] f fd) (T : Nm mg)
    (Gis_word : GF P w K mg base 1 "is_word" ["thing"] [] spIsWord) : FnG P w K mg base 2 f fd ["piece"] spPlainOf := by
  refine okG F scPlainOf (fun vs H Q E h => ?_) (fun cdv A outer s H vs Q E hg hr h => ?_)
  · obtain ⟨x, rfl, _⟩ := h
    rfl
  · obtain ⟨x, rfl, hz, q⟩ := h
    have hz' : x.length ≤ sizeLine := Nat.le_trans hz (by decide)
    obtain ⟨tF, hFIGURES⟩ := T.figures
    obtain ⟨t12, hMOST_FIGURES⟩ := T.figs
    refine ⟨_, PSs.nox ((pss_cons (ps_if (pt_cmpR op_eq (pv 0) pe_str (nomark _)) (pss_one (ps_ret (pe_lst (pa_cons pe_non pa_nil)))) pss_nil)
      (pss_cons (ps_if (pt_val (pe_gf Gis_word hg hr passL (pa_cons (pv 0) pa_nil))) (pss_one (ps_ret (pe_lst (pa_cons (pv 0) pa_nil)))) pss_nil)
      (pss_cons (ps_set (i := 1) scPlainOf.nd rfl (Or.inl rfl) (pe_ifExp (pt_cmpR op_eq (pe_slice sl_str (pv 0) po_none (po_some pe_int)) pe_str (nomark _)) (pe_slice sl_str (pv 0) (po_some pe_int) po_none) (pv 0)))
      (pss_cons (ps_if (PW.pt (pw_or (pt_not (pt_chain op_le op_le pe_int (pe_callB call_len_str (by rfl) T.len bLEN (pa_cons (pv 1) pa_nil)) (pe_glob (v := .int 12) (by rfl) hMOST_FIGURES ⟨_, rfl⟩))) (pw_or1 (pt_not (pt_val (pe_callB (cr_all rfl) (by rfl) T.all bALL (pa_cons (pe_lc (own := [("sign", 2)]) (g := gName 2) (tt := tYes) rfl scPlainOf.nd (pi_str (pv 1)) (blkOk_by (N := ["piece", "bare", "sign"]) (sc := defScope sPlainOf) (by decide +kernel)) (fun _ _ _ _ _ => pg_name (i := 2) scPlainOf.nd rfl (Or.inl rfl)) (fun _ _ _ _ _ => pts_nil) (fun _ _ _ _ _ => (pe_cmpR op_in_sign (pv 2) (pe_glob (v := .str FIGURES) (by rfl) hFIGURES ⟨_, rfl⟩) (by rfl)))) pa_nil))))))) (pss_one (ps_ret (pe_lst pa_nil))) pss_nil)
      (pss_one (ps_ret (pe_ifExp (pt_cmpR op_eq (pe_callTy call_str_int (by rfl) T.str bSTR (pa_cons (pe_callTy call_int_str (by rfl) T.int bINT (pa_cons (pv 0) pa_nil)) pa_nil)) (pv 0) (nomark _)) (pe_lst (pa_cons (pe_callTy call_int_str (by rfl) T.int bINT (pa_cons (pv 0) pa_nil)) pa_nil)) (pe_lst pa_nil))))))))), ?_⟩
    have ret : ∀ (ds : List PyData) (vs : List V) (H1 : Hp), Same H H1 → plainV x.cps.toList = ds → (∀ H', DtAll H' vs ds) → ∀ p, H1 p = none → Q (.ref p) (upd H1 p (.lst vs)) := fun ds vs H1 s1 e hD p np => by
      subst e
      exact q _ p vs (chg s1 (s1.free np)) (s1.free np) upd_same (hD _)
    -- '-'
    refine ⟨_, rfl, rfl, _, rfl, ?_⟩
    rw [str_eq "-" hyphen]
    by_cases h1 : x.cps.toList = [45]
    · rw [decide_eq_true h1]
      refine iteT ⟨(by show 1 ≤ sizeLine; decide), ret _ _ H (Same.refl _) (by unfold plainV; rw [if_pos h1]) fun _ => .cons .non .nil⟩
    rw [decide_eq_false h1]
    refine iteF ?_
    -- a word
    refine ⟨_, rfl, _, .str x, rfl, .str x, Nat.le_trans hz (by decide), fun H1 s1 => ⟨_, rfl, ?_⟩⟩
    have ew : wordD (.str x) = word x.cps.toList := rfl
    rw [ew]
    cases hw : word x.cps.toList with
    | true =>
      refine iteT ⟨_, rfl, (by show 1 ≤ sizeLine; decide), ret [.str x] _ H1 s1 (by unfold plainV; rw [if_neg h1, if_pos hw]) fun _ => .cons (.str x) .nil⟩
    | false =>
      have hpl : plainV x.cps.toList = if bareOk (bareOf x.cps.toList) = true then (if intT (numV x.cps.toList) = x.cps.toList then [.int (numV x.cps.toList)] else []) else [] := by
        unfold plainV
        rw [if_neg h1, if_neg (by rw [hw]; exact Bool.false_ne_true)]
      refine iteF ?_
      have bS : ∀ l : List Nat, (S l).cps.toList = l := fun _ => rfl
      refine' mid (B := True) ?main ?rest
      case main =>
        intro hel
        refine ⟨_, rfl, 1, rfl, x, rfl, hz', rfl, _, rfl, ?_⟩
        rw [cutS_hd, str_eq "-" hyphen, bS]
        by_cases hc : x.cps.toList.take 1 = [45]
        · rw [decide_eq_true hc]
          refine iteT ⟨_, rfl, 1, rfl, x, rfl, hz', ?_⟩
          have e : cutS x (some 1) none = S (bareOf x.cps.toList) := by rw [cutS_tl]; unfold bareOf; rw [if_pos hc]
          rw [e]
          exact hel trivial
        · rw [decide_eq_false hc]
          have e : V.str x = V.str (S (bareOf x.cps.toList)) := by unfold bareOf; rw [if_neg hc, tlS]
          exact iteF ⟨V.str (S (bareOf x.cps.toList)), congrArg (fun y => some (some y)) e, hel trivial⟩
      case rest =>
        intro _
        have hbl : (S (bareOf x.cps.toList)).length = (bareOf x.cps.toList).length := by rw [lenL, bS]
        have hbx : (bareOf x.cps.toList).length ≤ x.length := by
          unfold bareOf
          rw [lenL]
          split
          · rw [List.length_drop]; omega
          · exact Nat.le_refl _
        have no : bareOk (bareOf x.cps.toList) = false → ∀ H1, Same H H1 → ∀ p, H1 p = none → Q (.ref p) (upd H1 p (.lst [])) := fun hb H1 s1 => ret [] [] H1 s1 (by rw [hpl, hb, if_neg Bool.false_ne_true]) fun _ => .nil
        refine ⟨_, rfl, _, rfl, (by rw [hbl]; omega), _, _, rfl, rfl, _, rfl, ?_⟩
        rw [hbl]
        by_cases hA : 1 ≤ (bareOf x.cps.toList).length
        · rw [decide_eq_true (by omega)]
          refine iteT ⟨_, _, rfl, rfl, _, rfl, ?_⟩
          by_cases hB : (bareOf x.cps.toList).length ≤ 12
          · rw [decide_eq_true (by omega)]
            refine iteF ?_
            refine tNot_mk (all_signs (σ := [some (.str x), some (.str (S (bareOf x.cps.toList))), none]) rfl (Nat.lt_succ_self 2) (by rw [hbl]; omega) fun H2 s2 => ?_)
            have ea : ((S (bareOf x.cps.toList)).cps.toList.all fun c => decide (c ∈ FIGURES.cps.toList)) = (bareOf x.cps.toList).all digit := by
              rw [bS]
              congr 1
              funext c
              exact digit_iff c
            rw [ea]
            cases hC : (bareOf x.cps.toList).all digit with
            | false => exact iteT ⟨Nat.zero_le _, no (by unfold bareOk; rw [hC, Bool.and_false]) H2 (s1.trans s2)⟩
            | true =>
              have hb : bareOk (bareOf x.cps.toList) = true := by unfold bareOk; rw [hC, decide_eq_true hA, decide_eq_true hB]; rfl
              obtain ⟨hi, hl⟩ := int_piece hb
              have hlog := small_log (numV_abs hb)
              rw [hb, if_pos rfl] at hpl
              refine iteF ⟨_, rfl, x, _, rfl, hi, by omega, _, rfl, hlog, _, rfl, rfl, _, rfl, ?_⟩
              rw [intT_eq]
              by_cases hT : intT (numV x.cps.toList) = x.cps.toList
              · rw [if_pos hT] at hpl
                rw [decide_eq_true hT]
                exact iteT ⟨_, rfl, x, _, rfl, hi, by omega, (by show 1 ≤ sizeLine; decide), ret [.int (numV x.cps.toList)] _ H2 (s1.trans s2) hpl fun _ => .cons (.int _) .nil⟩
              · rw [if_neg hT] at hpl
                rw [decide_eq_false hT]
                exact iteF ⟨Nat.zero_le _, ret [] [] H2 (s1.trans s2) hpl fun _ => .nil⟩
          · rw [decide_eq_false (by omega)]
            exact iteT (iteT ⟨Nat.zero_le _, no (by unfold bareOk; rw [decide_eq_false hB, Bool.and_false, Bool.false_and]) H1 s1⟩)
        · rw [decide_eq_false (by omega)]
          exact iteF ⟨_, rfl, iteT (iteT ⟨Nat.zero_le _, no (by unfold bareOk; rw [decide_eq_false hA, Bool.false_and, Bool.false_and]) H1 s1⟩)⟩
end
end K8

set_option maxRecDepth 100000
set_option maxHeartbeats 4000000
namespace K8
open PySem PySem.Spec PyProof.Rows L2 LamX KX M8
theorem midF2 {A : Prop} {α β : Type} {G B : α → β → Prop} (a : (∀ i j, B i j → G i j) → A) (b : ∀ i j, B i j → G i j) : A := a b
mutual
def noL : PyData → Bool
  | .tuple ds => noLA ds
  | .none => true
  | .bool _ => true
  | .int _ => true
  | .str _ => true
  | .list _ => false
  | .dict _ => false
def noLA : List PyData → Bool
  | [] => true
  | d :: ds => noL d && noLA ds
end
theorem noLA_app : ∀ ds es : List PyData, noLA (ds ++ es) = (noLA ds && noLA es)
  | [], es => rfl
  | d :: ds, es => by rw [List.cons_append, noLA, noLA, noLA_app ds es, Bool.and_assoc]
def Keep (H H' : Hp) : Prop := ∀ a xs, H a = some (.tup xs) → H' a = some (.tup xs)
mutual
theorem dtKeep {H H' : Hp} (k : Keep H H') : ∀ {d : PyData} {v : V}, Dt H v d → noL d = true → Dt H' v d
  | .none, _, h, _ => by cases h; exact .non
  | .bool _, _, h, _ => by cases h; exact .bl _
  | .int _, _, h, _ => by cases h; exact .int _
  | .str _, _, h, _ => by cases h; exact .str _
  | .list ds, _, h, n => by rw [noL] at n; cases n
  | .tuple ds, _, h, n => by
    cases h with
    | tup h1 h2 => exact .tup (k _ _ h1) (dtKeepA k h2 (by rw [noL] at n; exact n))
  | .dict _, _, h, _ => by cases h
theorem dtKeepA {H H' : Hp} (k : Keep H H') : ∀ {ds : List PyData} {vs : List V}, DtAll H vs ds → noLA ds = true → DtAll H' vs ds
  | [], _, h, _ => by cases h; exact .nil
  | d :: ds, _, h, n => by
    cases h with
    | cons h1 h2 =>
      rw [noLA, Bool.and_eq_true] at n
      exact .cons (dtKeep k h1 n.1) (dtKeepA k h2 n.2)
end
theorem keep_upd {H : Hp} {l : Addr} {xs : List V} {o : HO} (h : H l = some (.lst xs)) : Keep H (upd H l o) := fun a ys e => by
  rw [upd_ne (ne_of e h (by intro z; cases z))]
  exact e
/-- what stands for an open list -/
def OpenAt (H0 H' : Hp) (O Dn : Addr) (n : Nat) (p : Addr × List V) (ds : List PyData) : Prop :=
  H' p.1 = some (.lst p.2) ∧ DtAll H' p.2 ds ∧ noLA ds = true ∧ H0 p.1 = none ∧ p.1 ≠ O ∧ p.1 ≠ Dn ∧ p.2.length ≤ n
structure VR (H0 H' : Hp) (O Dn : Addr) (n : Nat) (os : List (Addr × List V)) (dv : List V) (st : VSt) : Prop where
  same : Same H0 H'
  nO : H0 O = none
  nD : H0 Dn = none
  OD : O ≠ Dn
  eO : H' O = some (.lst ((os.map fun p => V.ref p.1).reverse))
  eD : H' Dn = some (.lst dv)
  dD : DtAll H' dv st.2
  lD : noLA st.2 = true
  ops : Paired (OpenAt H0 H' O Dn n) os st.1
  nd : (os.map (·.1)).Nodup
  sz : os.length ≤ n
theorem OpenAt.grow {H0 H' H'' : Hp} {O Dn : Addr} {m n : Nat} {p : Addr × List V} {ds : List PyData} (h : OpenAt H0 H' O Dn m p ds) (s : Same H' H'') (hn : m ≤ n) : OpenAt H0 H'' O Dn n p ds := by
  obtain ⟨a, b, c, d, e, f, g⟩ := h
  exact ⟨s _ _ a, b.same s, c, d, e, f, Nat.le_trans g hn⟩
theorem VR.grow {H0 H' H'' : Hp} {O Dn : Addr} {m n : Nat} {os : List (Addr × List V)} {dv : List V} {st : VSt} (r : VR H0 H' O Dn m os dv st) (s : Same H' H'') (hn : m ≤ n) : VR H0 H'' O Dn n os dv st :=
  ⟨r.same.trans s, r.nO, r.nD, r.OD, s _ _ r.eO, s _ _ r.eD, r.dD.same s, r.lD, Paired.mapP r.ops fun _ _ h => h.grow s hn, r.nd, Nat.le_trans r.sz hn⟩
theorem paired_mem {α β : Type} {F : α → β → Prop} : ∀ {l : List α} {m : List β}, Paired F l m → ∀ a ∈ l, ∃ b, F a b
  | _, _, .cons r t, a, h => by
    rcases List.mem_cons.mp h with rfl | h
    · exact ⟨_, r⟩
    · exact paired_mem t a h
theorem paired_with {α β : Type} {F G : α → β → Prop} : ∀ {l : List α} {m : List β}, Paired F l m → (∀ a ∈ l, ∀ b, F a b → G a b) → Paired G l m
  | _, _, .nil, _ => .nil
  | _, _, .cons r t, f => .cons (f _ List.mem_cons_self _ r) (paired_with t fun a ha => f a (List.mem_cons_of_mem _ ha))
/-- the outer list is changed: other lists open -/
theorem VR.setO {H0 H' : Hp} {O Dn : Addr} {n : Nat} {os os' : List (Addr × List V)} {dv : List V} {st : VSt} {opens' : List (List PyData)} (r : VR H0 H' O Dn n os dv st)
    (h : Paired (OpenAt H0 H' O Dn n) os' opens') (nd : (os'.map (·.1)).Nodup) (hz : os'.length ≤ n) :
    VR H0 (upd H' O (.lst ((os'.map fun p => V.ref p.1).reverse))) O Dn n os' dv (opens', st.2) := by
  have kp : Keep H' (upd H' O (.lst ((os'.map fun p => V.ref p.1).reverse))) := keep_upd r.eO
  refine ⟨chg r.same r.nO, r.nO, r.nD, r.OD, upd_same, by rw [upd_ne r.OD.symm]; exact r.eD, dtKeepA kp r.dD r.lD, r.lD, Paired.mapP h fun p ds q => ?_, nd, hz⟩
  obtain ⟨a, b, c, d, e, f, g⟩ := q
  exact ⟨by rw [upd_ne e]; exact a, dtKeepA kp b c, c, d, e, f, g⟩
/-- the last open list takes one more -/
theorem VR.put {H0 H' : Hp} {O Dn l : Addr} {n : Nat} {vs : List V} {os : List (Addr × List V)} {dv : List V} {ds : List PyData} {opens : List (List PyData)} {done : List PyData} {x : V} {o : PyData} (r : VR H0 H' O Dn n ((l, vs) :: os) dv (ds :: opens, done))
    (hx : Dt H' x o) (ho : noL o = true) : VR H0 (upd H' l (.lst (vs ++ [x]))) O Dn (n + 1) ((l, vs ++ [x]) :: os) dv ((ds ++ [o]) :: opens, done) := by
  obtain ⟨a, b, c, d, e, f, g⟩ : OpenAt H0 H' O Dn n (l, vs) ds := by cases r.ops; assumption
  have hos : Paired (OpenAt H0 H' O Dn n) os opens := by cases r.ops; assumption
  have kp : Keep H' (upd H' l (.lst (vs ++ [x]))) := keep_upd a
  have nd := r.nd
  rw [List.map_cons, List.nodup_cons] at nd
  refine ⟨chg r.same d, r.nO, r.nD, r.OD, by rw [upd_ne (Ne.symm e)]; exact r.eO, by rw [upd_ne (Ne.symm f)]; exact r.eD, dtKeepA kp r.dD r.lD, r.lD, .cons ⟨upd_same, (dtKeepA kp b c).append (.cons (dtKeep kp hx ho) .nil), ?_, d, e, f, ?_⟩ (paired_with hos fun p hp es q => ?_), by rw [List.map_cons, List.nodup_cons]; exact nd, Nat.le_succ_of_le r.sz⟩
  · rw [noLA_app, c, noLA, ho]; rfl
  · rw [List.length_append]; exact Nat.succ_le_succ g
  · obtain ⟨a', b', c', d', e', f', g'⟩ := q
    have hm : p.1 ∈ os.map (·.1) := List.mem_map.mpr ⟨p, hp, rfl⟩
    have hne : p.1 ≠ l := fun z => nd.1 (by rw [← z]; exact hm)
    exact ⟨by rw [upd_ne hne]; exact a', dtKeepA kp b' c', c', d', e', f', Nat.le_succ_of_le g'⟩
/-- another list is what is done -/
theorem VR.setD {H0 H' : Hp} {O Dn L1 : Addr} {n : Nat} {dv ov : List V} {done one : List PyData} (r : VR H0 H' O Dn n [] dv ([], done)) (e1 : H' L1 = some (.lst ov)) (d1 : DtAll H' ov one) (l1 : noLA one = true) (n1 : H0 L1 = none) (O1 : L1 ≠ O) :
    VR H0 H' O L1 n [] ov ([], one) := ⟨r.same, r.nO, n1, Ne.symm O1, r.eO, e1, d1, l1, .nil, r.nd, r.sz⟩
theorem noLA_plain (x : List Nat) : noLA (plainV x) = true := by
  unfold plainV
  split
  · rfl
  · split
    · rfl
    · split
      · split <;> rfl
      · rfl
theorem str_eq2 {l m : List Nat} (y : Str) (hy : y.cps.toList = m) : decide (mkS l = V.str y) = decide (l = m) := str_eq (x := S l) y hy
theorem brOpen : ("(" : Str).cps.toList = [40] := by decide +kernel
theorem brClose : (")" : Str).cps.toList = [41] := by decide +kernel
theorem blank : (" " : Str).cps.toList = [32] := by decide +kernel
section
variable {P : Program} {w : World} {K : PySem.W.Frag} {mg : Str → Option Value} {base : Heap}
theorem scVO : FnScope ["pieces", "open_ones", "done", "piece", "one"] ["pieces"] (defScope sValueOf) := ⟨rfl, rfl, rfl, by decide +kernel, rfl, by decide +kernel, by decide +kernel⟩
def spValueOf : Sp := fun vs H Q _ => ∃ p ps, vs = [.ref p] ∧ H p = some (.lst (ps.map mkS)) ∧ ps.length ≤ 100000 ∧ (∀ l ∈ ps, l.length ≤ 100000) ∧ NewL H (valueOf ps) Q
theorem ok_valueOf {f : Addr} {fd : FuncData} (F : FunD K "value_of" "value_of" (defArgs sValueOf) (defBody sValueOf) (defScope sValueOf) [] [] f fd) (T : Nm mg)
    (Gplain_of : GF P w K mg base 2 "plain_of" ["piece"] [] spPlainOf) : FnG P w K mg base 3 f fd ["pieces"] spValueOf := by
  refine okG F scVO (fun vs H Q E h => ?_) (fun cdv A outer s H vs Q E hg hr h => ?_)
  · obtain ⟨p, ps, rfl, _⟩ := h
    rfl
  · obtain ⟨p, ps, rfl, hp, hlen, hpl, q⟩ := h
    have hu : (A.deeper (envOfC "value_of" (defScope sValueOf) s.heap.objs.size f cdv)).units + 64 < cLine := by
      have h1 := hr.units
      have h2 : cLine = 9900 := rfl
      omega
    refine ⟨_, PSs.nox ((pss_cons (ps_par (i := 1) (j := 2) rfl scVO.nd rfl rfl (by decide) rfl rfl (pa_cons (pe_lst pa_nil) (pa_cons (pe_lst pa_nil) pa_nil)) rfl)
      (pss_cons (ps_for PassesOwn.never rfl (pi_list (pv 0)) (pg_name (i := 3) scVO.nd rfl (Or.inl rfl))
      (pss_cons (ps_if (pt_cmpR op_eq (pv 3) pe_str (nomark _)) (pss_cons (ps_expr (pe_bm PySem.F.plainAttrs_list PySem.F.slot_list_append PySem.F.type_list_append mt_append (pv 1) (pa_cons (pe_lst pa_nil) pa_nil)))
      (pss_one (ps_continue))) pss_nil)
      (pss_cons (ps_if (pt_cmpR op_eq (pv 3) pe_str (nomark _)) (pss_one (ps_continue)) pss_nil)
      (pss_cons (ps_if (pt_cmpR op_eq (pv 3) pe_str (nomark _)) (pss_cons (ps_if (pt_cmpR (op_eqNil hu) (pv 1) (pe_lst pa_nil) (nomark _)) (pss_one (ps_ret (pe_lst pa_nil))) pss_nil)
      (pss_one (ps_set (i := 4) scVO.nd rfl (Or.inl rfl) (pe_lst (pa_cons (pe_callTy call_tuple_of (by rfl) T.tuple bTUPLE (pa_cons (pe_bm0 PySem.F.plainAttrs_list PySem.F.slot_list_pop PySem.F.type_list_pop mt_pop (pv 1)) pa_nil)) pa_nil))))) (pss_one (ps_set (i := 4) scVO.nd rfl (Or.inl rfl) (pe_gf Gplain_of hg hr passL (pa_cons (pv 3) pa_nil)))))
      (pss_cons (ps_if (PW.pt (pw_or (pt_cmpR (op_eqNil hu) (pv 4) (pe_lst pa_nil) (nomark _)) (pw_or1 (PW.pt (pw_and (pt_cmpR (op_eqNil hu) (pv 1) (pe_lst pa_nil) (nomark _)) (pw_and1 (pt_cmpR (op_neNil hu) (pv 2) (pe_lst pa_nil) (nomark _)))))))) (pss_one (ps_ret (pe_lst pa_nil))) pss_nil)
      (pss_one (ps_if (pt_cmpR (op_eqNil hu) (pv 1) (pe_lst pa_nil) (nomark _)) (pss_one (ps_set (i := 2) scVO.nd rfl (Or.inl rfl) (pv 4))) (pss_one (ps_expr (pe_bm PySem.F.plainAttrs_list PySem.F.slot_list_append PySem.F.type_list_append mt_append (pe_ix ix_list (pv 1) (pe_un un_neg pe_int) (fun _ _ => rfl)) (pa_cons (pe_ix ix_list (pv 4) pe_int (fun _ _ => rfl)) pa_nil)))))))))))
      (pss_one (ps_ret (pe_ifExp (pt_cmpR (op_eqNil hu) (pv 1) (pe_lst pa_nil) (nomark _)) (pv 2) (pe_lst pa_nil))))))), ?_⟩
    have ret0 : valueOf ps = [] → ∀ H1, Same H H1 → ∀ p, H1 p = none → Q (.ref p) (upd H1 p (.lst [])) := fun e H1 s1 p np => q _ p [] (chg s1 (s1.free np)) (s1.free np) upd_same (by rw [e]; exact .nil)
    refine ⟨Nat.zero_le _, fun O nO => ⟨Nat.zero_le _, fun Dn nD => ⟨_, _, rfl, ?_⟩⟩⟩
    have hOD : O ≠ Dn := fun z => by rw [← z, upd_same] at nD; cases nD
    have nD0 : H Dn = none := (same_upd nO).free nD
    have s1 : Same H (upd (upd H O (.lst [])) Dn (.lst [])) := (same_upd nO).trans (same_upd nD)
    refine ⟨_, rfl, p, rfl, ⟨_, SqL.of (s1 _ _ hp)⟩, for_list (K := K) (a := p) (xs := ps.map mkS) (fun i σ H' => ∃ (Dn : Addr) (o3 o4 : Option V) (os : List (Addr × List V)) (dv : List V) (st : VSt), σ = [some (.ref p), some (.ref O), some (.ref Dn), o3, o4] ∧
      VR H H' O Dn i os dv st ∧ valueOf ps = vrun (ps.drop i) st) ?_ ?_ ?_ ?_⟩
    · exact ⟨Dn, none, none, [], [], ([], []), rfl, ⟨s1, nO, nD0, hOD, by rw [upd_ne hOD, upd_same]; rfl, upd_same, .nil, rfl, .nil, List.nodup_nil, Nat.le_refl _⟩, rfl⟩
    · rintro i σ H' _ ⟨_, _, _, _, _, _, _, r, _⟩
      exact SqL.of (r.same _ _ hp)
    · rintro i x σ H1 hi ⟨Dn, o3, o4, os, dv, st, rfl, r, ev⟩
      obtain ⟨l, hl, rfl⟩ : ∃ l, ps[i]? = some l ∧ x = mkS l := by
        rw [List.getElem?_map] at hi
        cases e : ps[i]? with
        | none => rw [e] at hi; cases hi
        | some l => rw [e] at hi; exact ⟨l, rfl, (Option.some.inj hi).symm⟩
      have hil : i < ps.length := (List.getElem?_eq_some_iff.mp hl).1
      have hd : ps.drop i = l :: ps.drop (i + 1) := by
        rw [List.drop_eq_getElem_cons hil]
        congr 1
        exact (List.getElem?_eq_some_iff.mp hl).2
      have hll := hpl l (List.mem_of_getElem? hl)
      rw [hd] at ev
      have ev : valueOf ps = match vstep l st with | none => [] | some st' => vrun (ps.drop (i + 1)) st' := ev
      -- '('
      refine ⟨_, rfl, rfl, _, rfl, ?_⟩
      rw [str_eq2 "(" brOpen]
      have nin : ∀ {H2 : Hp} {n : Nat} {os : List (Addr × List V)} {dv : List V} {st : VSt} {N : Addr}, VR H H2 O Dn n os dv st → H2 N = none → N ∉ os.map (·.1) := fun {H2 n os dv st N} r nN hm => by
        obtain ⟨p, hp, e⟩ := List.mem_map.mp hm
        obtain ⟨b, hb⟩ := paired_mem r.ops p hp
        have h1 := hb.1
        rw [e, nN] at h1
        cases h1
      by_cases h40 : l = [40]
      · rw [decide_eq_true h40]
        refine iteT ⟨_, rfl, .inl ⟨rfl, _, SqL.of r.eO⟩, Nat.zero_le _, fun N nN => ⟨O, _, _, rfl, rfl, (same_upd nN) _ _ r.eO, ?_, ?_⟩⟩
        · rw [List.length_reverse, List.length_map]
          have := r.sz
          exact lt_line (by omega)
        · have r1 := r.grow (same_upd (o := .lst []) nN) (Nat.le_succ i)
          have r2 := r1.setO (os' := (N, []) :: os) (opens' := [] :: st.1) (.cons ⟨upd_same, .nil, rfl, r.same.free nN, (ne_of_none r.eO nN).symm, (ne_of_none r.eD nN).symm, Nat.zero_le _⟩ r1.ops)
            (by rw [List.map_cons, List.nodup_cons]; exact ⟨nin r nN, r.nd⟩) (Nat.succ_le_succ r.sz)
          refine ⟨Dn, _, o4, (N, []) :: os, dv, ([] :: st.1, st.2), rfl, ?_, ?_⟩
          · rw [List.map_cons, List.reverse_cons] at r2
            exact r2
          · rw [ev]
            unfold vstep
            rw [if_pos h40]
      rw [decide_eq_false h40]
      refine iteF ⟨_, rfl, rfl, _, rfl, ?_⟩
      rw [str_eq2 " " blank]
      by_cases h32 : l = [32]
      · rw [decide_eq_true h32]
        refine iteT ⟨Dn, _, o4, os, dv, st, rfl, r.grow (Same.refl _) (Nat.le_succ i), ?_⟩
        rw [ev]
        unfold vstep
        rw [if_neg h40, if_pos h32]
      rw [decide_eq_false h32]
      refine iteF ?_
      have ev2 : valueOf ps = match oneOf l st with
          | none => []
          | some (one, opens) => match putOne st.2 one opens with
            | none => []
            | some st' => vrun (ps.drop (i + 1)) st' := by
        rw [ev]
        unfold vstep
        rw [if_neg h40, if_neg h32]
        cases oneOf l st <;> rfl
      refine' midF2 (α := Addr) (β := Hp) (B := fun L1 H2 => ∃ os' dv ov one opens, oneOf l st = some (one, opens) ∧ VR H H2 O Dn i os' dv (opens, st.2) ∧ H2 L1 = some (.lst ov) ∧ DtAll H2 ov one ∧ noLA one = true ∧ H L1 = none ∧ L1 ≠ O ∧ L1 ≠ Dn ∧ L1 ∉ os'.map (·.1)) ?main ?rest
      case main =>
        intro hel
        refine ⟨_, rfl, rfl, _, rfl, ?_⟩
        rw [str_eq2 ")" brClose]
        by_cases h41 : ¬ l = [41]
        · rw [decide_eq_false h41]
          refine iteF ⟨_, rfl, S l, rfl, (by rw [lenL]; exact hll), fun H2 L1 ov s2 nL e2 d2 => ?_⟩
          exact hel L1 H2 ⟨os, dv, ov, plainV l, st.1, by unfold oneOf; rw [if_neg h41], r.grow s2 (Nat.le_refl _), e2, d2, noLA_plain l, r.same.free nL, (ne_of_none r.eO nL).symm, (ne_of_none r.eD nL).symm, nin r nL⟩
        · have h41 : l = [41] := Decidable.not_not.mp h41
          rw [decide_eq_true h41]
          refine iteT ⟨_, rfl, Nat.zero_le _, fun N nN => ⟨O, N, _, rfl, rfl, SqL.of ((same_upd nN) _ _ r.eO), SqL.of upd_same, _, rfl, ?_⟩⟩
          have sN : Same H1 (upd H1 N (.lst [])) := same_upd nN
          obtain ⟨opens0, done⟩ := st
          cases os with
          | nil =>
            have e0 : opens0 = [] := by cases r.ops; rfl
            subst e0
            refine iteT ⟨Nat.zero_le _, ret0 ?_ _ (r.same.trans sN)⟩
            rw [ev2]
            unfold oneOf
            rw [if_pos h41]
          | cons kv os' =>
            obtain ⟨k, vs⟩ := kv
            obtain ⟨ds, opens', rfl⟩ : ∃ ds opens', opens0 = ds :: opens' := by cases r.ops; exact ⟨_, _, rfl⟩
            have hk : OpenAt H H1 O Dn i (k, vs) ds := by cases r.ops; assumption
            have hos : Paired (OpenAt H H1 O Dn i) os' opens' := by cases r.ops; assumption
            have rN := r.grow sN (Nat.le_refl i)
            have eO : (upd H1 N (.lst [])) O = some (.lst (((os'.map fun p => V.ref p.1).reverse) ++ [V.ref k])) := by
              have := rN.eO
              rw [List.map_cons, List.reverse_cons] at this
              exact this
            have hne : (((k, vs) :: os').map fun p => V.ref p.1).reverse.isEmpty = false := by
              rw [List.map_cons, List.reverse_cons]
              cases (os'.map fun p => V.ref p.1).reverse <;> rfl
            rw [hne]
            have nd := r.nd
            rw [List.map_cons, List.nodup_cons] at nd
            have rA := rN.setO (os' := os') (opens' := opens') (Paired.mapP hos fun _ _ h => h.grow sN (Nat.le_refl _)) nd.2 (Nat.le_trans (Nat.le_succ _) r.sz)
            refine iteF ⟨_, rfl, .inl ⟨rfl, _, SqL.of eO⟩, O, _, V.ref k, rfl, rfl, eO, by simp, ?_⟩
            rw [List.dropLast_concat]
            obtain ⟨a, b, c, d, e, f, g⟩ := hk
            have kpA : Keep (upd H1 N (.lst [])) (upd (upd H1 N (.lst [])) O (.lst ((os'.map fun p => V.ref p.1).reverse))) := keep_upd eO
            have bA := dtKeepA kpA (b.same sN) c
            refine ⟨k, vs, rfl, .inl ⟨SqL.of (by rw [upd_ne e]; exact sN _ _ a), fun T nT => ⟨(by show 1 ≤ sizeLine; decide), fun L1 nL => ?_⟩⟩⟩
            have sT := same_upd (o := .tup vs) nT
            have sL := same_upd (o := .lst [V.ref T]) nL
            have rT := rA.grow sT (Nat.le_refl i)
            refine hel L1 _ ⟨os', dv, [.ref T], [.tuple ds], opens', ?_, rT.grow sL (Nat.le_refl i), upd_same, .cons (.tup (sL _ _ upd_same) ((bA.same sT).same sL)) .nil, ?_, rT.same.free nL, (ne_of_none rT.eO nL).symm, (ne_of_none rT.eD nL).symm, nin rT nL⟩
            · unfold oneOf
              rw [if_pos h41]
            · show (noLA ds && true) = true
              rw [c]; rfl
      case rest =>
        rintro L1 H2 ⟨os', dv, ov, one, opens, h1, r2, e2, d2, l2, n2, nO2, nD2, nos⟩
        rw [h1] at ev2
        have ev2 : valueOf ps = match putOne st.2 one opens with
            | none => []
            | some st' => vrun (ps.drop (i + 1)) st' := ev2
        refine ⟨_, rfl, Nat.zero_le _, fun N nN => ⟨L1, N, ov, rfl, rfl, SqL.of ((same_upd nN) _ _ e2), SqL.of upd_same, _, rfl, ?_⟩⟩
        have sN : Same H2 (upd H2 N (.lst [])) := same_upd nN
        cases d2 with
        | nil => exact iteT (iteT ⟨Nat.zero_le _, ret0 ev2 _ (r2.same.trans sN)⟩)
        | @cons x xs1 o one1 dx dxs =>
          refine iteF ⟨_, rfl, Nat.zero_le _, fun N2 nN2 => ⟨O, N2, _, rfl, rfl, SqL.of ((same_upd nN2) _ _ (sN _ _ r2.eO)), SqL.of upd_same, _, rfl, ?_⟩⟩
          have sN2 := sN.trans (same_upd (o := .lst []) nN2)
          have l2' : noL o = true ∧ noLA one1 = true := by rw [noLA, Bool.and_eq_true] at l2; exact l2
          cases os' with
          | nil =>
            have e0 : opens = [] := by cases r2.ops; rfl
            subst e0
            refine iteT ⟨_, rfl, Nat.zero_le _, fun N3 nN3 => ⟨Dn, N3, dv, rfl, rfl, SqL.of ((same_upd nN3) _ _ (sN2 _ _ r2.eD)), SqL.of upd_same, _, rfl, ?_⟩⟩
            have sN3 := sN2.trans (same_upd (o := .lst []) nN3)
            have hdl := r2.dD.length
            cases hdn : st.2 with
            | cons y ys =>
              have hdv : dv.isEmpty = false := by
                rw [hdn] at hdl
                cases dv with
                | nil => cases hdl
                | cons _ _ => rfl
              rw [hdv]
              exact iteT ⟨Nat.zero_le _, ret0 (by rw [ev2, hdn]; rfl) _ (r2.same.trans sN3)⟩
            | nil =>
              have hdv : dv = [] := by
                rw [hdn] at hdl
                cases dv with
                | nil => rfl
                | cons _ _ => cases hdl
              subst hdv
              refine iteF ⟨_, rfl, Nat.zero_le _, fun N4 nN4 => ⟨O, N4, _, rfl, rfl, SqL.of ((same_upd nN4) _ _ (sN3 _ _ r2.eO)), SqL.of upd_same, _, rfl, iteT ⟨_, rfl, ?_⟩⟩⟩
              have sN4 := sN3.trans (same_upd (o := .lst []) nN4)
              have r4 := r2.grow sN4 (Nat.le_succ i)
              refine ⟨L1, _, _, [], x :: xs1, ([], o :: one1), rfl, r4.setD (sN4 _ _ e2) ((DtAll.cons dx dxs).same sN4) l2 n2 nO2, ?_⟩
              rw [ev2, hdn]
              rfl
          | cons kv os'' =>
            obtain ⟨k, vs⟩ := kv
            obtain ⟨ds, opens', rfl⟩ : ∃ ds opens', opens = ds :: opens' := by cases r2.ops; exact ⟨_, _, rfl⟩
            have hk : OpenAt H H2 O Dn i (k, vs) ds := by cases r2.ops; assumption
            have hne : (((k, vs) :: os'').map fun p => V.ref p.1).reverse.isEmpty = false := by
              rw [List.map_cons, List.reverse_cons]
              cases (os''.map fun p => V.ref p.1).reverse <;> rfl
            rw [hne]
            refine iteF (iteF ⟨_, rfl, Nat.zero_le _, fun N3 nN3 => ⟨O, N3, _, rfl, rfl, SqL.of ((same_upd nN3) _ _ (sN2 _ _ r2.eO)), SqL.of upd_same, _, rfl, ?_⟩⟩)
            have sN3 := sN2.trans (same_upd (o := .lst []) nN3)
            rw [hne]
            have r3 := r2.grow sN3 (Nat.le_refl i)
            have eO : (upd (upd (upd H2 N (.lst [])) N2 (.lst [])) N3 (.lst [])) O = some (.lst (((os''.map fun p => V.ref p.1).reverse) ++ [V.ref k])) := by
              have := r3.eO
              rw [List.map_cons, List.reverse_cons] at this
              exact this
            have ek := sN3 _ _ hk.1
            refine iteF ⟨_, rfl, 1, rfl, O, _, _, _, rfl, rfl, SqL.of eO, atI_last _ _, .inl ⟨rfl, _, SqL.of ek⟩, _, rfl, L1, _, 0, x, rfl, rfl, SqL.of (sN3 _ _ e2), atI_nat (j := 0) rfl, k, vs, x, rfl, rfl, ek, ?_, ?_⟩
            · have hg : vs.length ≤ i := hk.2.2.2.2.2.2
              exact lt_line (by omega)
            · refine ⟨Dn, _, _, (k, vs ++ [x]) :: os'', dv, ((ds ++ [o]) :: opens', st.2), rfl, r3.put (dx.same sN3) l2'.1, ?_⟩
              rw [ev2]
              rfl
    · rintro σ H1 ⟨Dn, o3, o4, os, dv, st, rfl, r, ev⟩
      rw [List.length_map, List.drop_length] at ev
      have ev : valueOf ps = if st.1.isEmpty = true then st.2 else [] := ev
      refine ⟨_, rfl, Nat.zero_le _, fun N nN => ⟨O, N, _, rfl, rfl, SqL.of ((same_upd nN) _ _ r.eO), SqL.of upd_same, _, rfl, ?_⟩⟩
      have sN : Same H1 (upd H1 N (.lst [])) := same_upd nN
      cases os with
      | nil =>
        have e0 : st.1 = [] := by
          have h := r.ops
          generalize st.1 = z at h
          cases h
          rfl
        rw [e0] at ev
        have ev : valueOf ps = st.2 := ev
        exact iteT ⟨_, rfl, q _ Dn dv (r.same.trans sN) r.nD (sN _ _ r.eD) (by rw [ev]; exact r.dD.same sN)⟩
      | cons kv os' =>
        obtain ⟨ds, opens', e0⟩ : ∃ ds opens', st.1 = ds :: opens' := by
          have h := r.ops
          generalize st.1 = z at h
          cases h
          exact ⟨_, _, rfl⟩
        have hne : ((kv :: os').map fun p => V.ref p.1).reverse.isEmpty = false := by
          rw [List.map_cons, List.reverse_cons]
          cases (os'.map fun p => V.ref p.1).reverse <;> rfl
        rw [hne]
        rw [e0] at ev
        exact iteF ⟨Nat.zero_le _, ret0 ev _ (r.same.trans sN)⟩
end
end K8

set_option maxRecDepth 100000
set_option maxHeartbeats 4000000
namespace K8
open PySem PySem.Spec PyProof.Rows L2 LamX KX M8
open PySem.W (Frag Looks ksFn ksEnv)
abbrev sNTInit : Stmt := inClass (top 16) 0
/-- what the written part says of NoText -/
structure NT (P : Program) (K : Frag) (mg : Str → Option Value) (C : Addr) : Prop where
  mgC : mg "NoText" = some (.ref C)
  mgSuper : mg "super" = none
  cls : ∃ nm q N bs bm sn sub ab col dd k0 k1 k2 k3 k5, K.lookup C = some (excClassObj nm q C N bs bm true sn sub ab col dd k0 k1 k2 k3 k5 "ValueError.__new__") ∧ PySem.HandSPX.refsVE bm = true ∧
    PySem.W.alongIn K "__init__" bm = some (some (.builtin "ValueError.__init__"))
  sa : PySem.W.findIn K (.ref C) "__setattr__" = some (some (.builtin "object.__setattr__"))
  exC : PySem.W.subIn K (.ref C) (.type "BaseException") = some true
  veC : PySem.W.subIn K (.ref C) (.type "ValueError") = some true
  tyC : PySem.W.typeIn K (.ref C) = some (.type "type")
  kC : PySem.W.keepIn K (.ref C) = true
  line : PySem.W.findIn K (.ref C) "line" = some none
  any : PySem.W.nsIn K cStatics "thirdparty.any" = some none
  init : ∃ fI oc od Td kV doc pm an cda ct cc osl, PySem.W.findIn K (.ref C) "__init__" = some (some (.ref fI)) ∧ PySem.W.typeIn K (.ref fI) = some (.type "function") ∧
    K.lookup fI = some ⟨oc, od, .func (ksFn "__init__" "NoText.__init__" (defArgs sNTInit) (defBody sNTInit) (defScope sNTInit) (.ref Td) kV doc pm an (.ref cda) ct cc), osl⟩ ∧ PySem.W.codeIn K (.ref cda) "NoText.__init__" = true ∧
    (∃ ccl cdd vs ccs file tf, K.lookup cda = some ⟨ccl, cdd, .fields vs, ccs⟩ ∧ vs[2]? = some (.str file tf) ∧ ((P.main.file : Str) == file) = true) ∧
    (∃ cl cld csl, K.lookup cc = some ⟨cl, cld, .cell (some (.ref C)), csl⟩) ∧ ∃ o n, K.lookup Td = some o ∧ o.data = .seq #[.none] n
  top : (P.main.scope.names.lookup ("super" : Str)).isSome = false
theorem bootSuper : bootBuiltins "super" = some (.type "super") := by decide +kernel

section
variable {P : Program} {w : World} {K : Frag} {mg : Str → Option Value} {C : Addr} {A : Around} {h : Heap} {g : Array GenState} {d : Drawn} {t : Nat} {os : OsState} {E : Value → Shared → Prop}
/-- ValueError.__init__ bound to the exception, called -/
theorem vbound {nm q : Str} {N u e t0 : Addr} {bs bm : List Value} {hdct : Bool} {sn : List Str} {sub : List Value} {ab : Bool} {col : Option Bool} {dd : Option Addr} {k0 k1 k2 k3 k5 : Option Value} {rest : List Value} {Q : Value → Shared → Prop}
    (hC : h.get? C = some (excClassObj nm q C N bs bm hdct sn sub ab col dd k0 k1 k2 k3 k5 "ValueError.__new__")) (he : h.get? e = some (PySem.HandSPX.excO C t0)) (hu : h.get? u = some (PySem.W.kxs_mw "ValueError.__init__" e)) (hrest : rest.length ≤ sizeLine)
    (hq : ∀ h' t1, (∀ b o, b ≠ e → h.get? b = some o → h'.get? b = some o) → h'.get? e = some (PySem.HandSPX.excO C t1) → Q .none ⟨h', g, d, t, os⟩) :
    wpAny (model P w) A (call (.ref u) rest) Q E ⟨h, g, d, t, os⟩ := by
  refine wpAny_call (codeAny_of_tree ?_)
  show wpAny _ A.in1 (callAny (.ref u) ⟨rest, []⟩) _ _ _
  simp only [callAny]
  refine wpAny_bind (wpAny_load hu ?_)
  simp only [PySem.W.kxs_mw, show (Value.type "method-wrapper" == Value.type "method" || Value.type "method-wrapper" == Value.type "builtin_function_or_method" || Value.type "method-wrapper" == Value.type "method-wrapper") = true by decide, if_true]
  refine PySem.W.KFB.if_so (by decide) ?_
  refine wpAny_bind (PySem.W.check_bound_init F.excBase_ValueError.toExcCallFacts hC he rfl ?_)
  refine wpAny_bind (wpAny_pure (wpAny_pure ?_))
  refine ⟨plainId_quiet F.excBase_ValueError.init.plain _, codeAny_builtin F.excBase_ValueError.initEntry ?_⟩
  rw [Around.under_plainId F.excBase_ValueError.init.plain _]
  exact PySem.W.exc_init_tree (cls := .ref C) (t0 := t0) (dv := none) (c2 := .none) (c3 := .none) (b4 := .bool false) he hrest fun h' k e' _ => hq h' _ k e'
/-- NoText.__init__ called: the exception has its dict, the dict its line -/
theorem init_raw {R : Result → Shared → Prop} {fI e t0 cda cc Td : Addr} {oc kV doc pm ct ul um : Value} {od an : Option Addr} {osl : Array (Option Value)} {mb : Str → Option Value}
    (T : NT P K mg C) (X : K.In h) (hglob : h.Ns mainGlobals mg) (hblt : h.Ns builtinsNs mb) (hmb : mb "super" = bootBuiltins "super") (lim : h.NoLimit)
    (lk : K.lookup fI = some ⟨oc, od, .func (ksFn "__init__" "NoText.__init__" (defArgs sNTInit) (defBody sNTInit) (defScope sNTInit) (.ref Td) kV doc pm an (.ref cda) ct cc), osl⟩) (hTd : ∃ o n, K.lookup Td = some o ∧ o.data = .seq #[.none] n) (hcd : PySem.W.codeIn K (.ref cda) "NoText.__init__" = true)
    (hcode : ∃ ccl cdd vs ccs file tf, K.lookup cda = some ⟨ccl, cdd, .fields vs, ccs⟩ ∧ vs[2]? = some (.str file tf) ∧ ((P.main.file : Str) == file) = true) (hcell : ∃ cl cld csl, K.lookup cc = some ⟨cl, cld, .cell (some (.ref C)), csl⟩)
    (hroom : A.depth < recursionLimit) (hKe : K.lookup e = none) (he : h.get? e = some (PySem.HandSPX.excO C t0))
    (hq : ∀ h' dx t1 tk', (∀ b o, b ≠ e → h.get? b = some o → h'.get? b = some o) → h'.get? e = some ({ cls := .ref C, dict := some dx, data := .fields #[.ref t1, .none, .none, .none, .bool false, .none] } : Obj) → h.objs.size ≤ dx → dx ≠ e →
      h'.Ns1 dx (fun y => if y = "line" then some ul else none) → R (.ok (.ret .none)) ⟨h', g, d, tk', os⟩) :
    codeAny (model P w) A (.call (.ref fI) ⟨[.ref e, um, ul], []⟩) R ⟨h, g, d, t, os⟩ := by
  obtain ⟨nm, q, N, bs, bm, sn, sub, ab, col, dd, k0, k1, k2, k3, k5, hC, hbm, hal⟩ := T.cls
  obtain ⟨ccl, cdd, vs, ccs, file, tf, hc1, hc2, hc3⟩ := hcode
  obtain ⟨cl, cld, csl, hcc⟩ := hcell
  have hcl : PySem.W.clsIn K C = some { name := nm, bases := bs, mro := .ref C :: bm, ns := N, qualname := q, hasDict := true, slotNames := sn, subclasses := sub, abstract := ab, collection := col, hasDel := false } := by unfold PySem.W.clsIn; rw [hC] <;> rfl
  obtain ⟨oT, nT, lT, dT⟩ := hTd
  have hbind : BindsTo (⟨h, g, d, t, os⟩ : Shared) (ksFn "__init__" "NoText.__init__" (defArgs sNTInit) (defBody sNTInit) (defScope sNTInit) (.ref Td) kV doc pm an (.ref cda) ct cc) ⟨[.ref e, um, ul], []⟩ [("self", .ref e), ("text", um), ("line", ul)] := by
    refine BindsTo.of_looks fun M => ?_
    obtain ⟨k, e1, e2⟩ : ∃ k, bindArgs (ksFn "__init__" "NoText.__init__" (defArgs sNTInit) (defBody sNTInit) (defScope sNTInit) (.ref Td) kV doc pm an (.ref cda) ct cc) ⟨[.ref e, um, ul], []⟩ = seqItems? (.ref Td) >>= k ∧ k (some #[.none]) = pure ([("self", .ref e), ("text", um), ("line", ul)] : List (Str × Value)) := by
      refine ⟨_, rfl, ?_⟩
      kernel_rfl
    rw [e1]
    exact looks_items X lT dT (.of_pure e2)
  refine ks_codeAny_call_defAt (fd := ksFn "__init__" "NoText.__init__" (defArgs sNTInit) (defBody sNTInit) (defScope sNTInit) (.ref Td) kV doc pm an (.ref cda) ct cc) (body := defBody sNTInit) (binds := [("self", .ref e), ("text", um), ("line", ul)])
    hroom (X _ _ lk) rfl lim (PySem.W.codeRec_of X hcd) rfl hbind (show ∀ x ∈ (defScope sNTInit).names, x.2 ≠ .cell by decide +kernel) ?hloc ?body
  case hloc =>
    intro x hx
    rcases List.mem_cons.mp hx with rfl | hx
    · exact (show (defScope sNTInit).names.lookup ("self" : Str) = some NameKind.local by decide +kernel)
    rcases List.mem_cons.mp hx with rfl | hx
    · exact (show (defScope sNTInit).names.lookup ("text" : Str) = some NameKind.local by decide +kernel)
    rcases List.mem_cons.mp hx with rfl | hx
    · exact (show (defScope sNTInit).names.lookup ("line" : Str) = some NameKind.local by decide +kernel)
    cases hx
  case body =>
    intro h₁ hns hk1
    have X1 : K.In h₁ := X.keeps hk1
    have e1 := hk1 _ _ he
    have hC1 := X1 _ _ hC
    -- super().__init__(text)
    refine ks_wpAt_execs_cons (ks_wpAt_Expr_any (ks_wpAt_MethodCall (ks_wpAt_super_base (env := ksEnv "NoText.__init__" (defScope sNTInit) h.objs.size fI (.ref cda) cc) (f := fI) (cc := cda) rfl rfl (by decide) rfl (X1 _ _ lk) rfl rfl rfl (X1 _ _ hc1) rfl hc2 hc3 T.top ?_)))
    refine PySem.W.ks_loadName_global rfl rfl (Calls.loadGlobal_builtin (env := ksEnv "NoText.__init__" (defScope sNTInit) h.objs.size fI (.ref cda) cc) (hglob.keeps hk1) T.mgSuper (hblt.keeps hk1) (hmb.trans bootSuper) ⟨rfl, ?_⟩)
    refine wpAny_loadName_free rfl rfl rfl ⟨_, X1 _ _ hcc, rfl⟩ ?_
    refine wpAny_loadName_local rfl rfl hns rfl ?_
    refine ks_wpAny_isType_cls hC1 rfl ⟨rfl, ?_⟩
    have hmro : PySem.W.mroIn K C (.ref C) = some true := by
      unfold PySem.W.mroIn
      rw [hcl]
      show (if (Value.ref C :: bm).isEmpty = true then none else some ((Value.ref C :: bm).contains (.ref C))) = some true
      rw [if_neg (by simp)]
      simp
    have eC : e ≠ C := fun z => by
      rw [z, hC1] at e1
      cases e1
    refine ks_wpAny_call_super hC1 rfl e1 rfl (fun c z => by cases z) (PySem.W.looks_mroIn X1 hmro) fun h2 es hk2 => ?_
    have X2 : K.In h2 := X1.keeps hk2
    have e2 := hk2 _ _ e1
    have I2 : PySem.W.InstAt h2 e (PySem.HandSPX.excO C t0) C none := ⟨e2, rfl, rfl, trivial⟩
    refine PySem.W.kxs_getMethod PySem.W.kxs_ValueError es (PySem.W.looks_opaque X2 T.any) (l₀ := .ref C :: bm) ((PySem.W.looks_clsIn X2 hcl).andThen .now) (PySem.ESX.drop_own C bm) X2 hal (I2.type.andThen (PySem.W.looks_subIn X2 T.veC)) eC (by decide) ?_
    have hk3 : ∀ b o, h2.get? b = some o → (h2.push (PySem.W.kxs_mw "ValueError.__init__" e)).get? b = some o := fun b o z => Heap.get?_push_of_some _ z
    have hu : (h2.push (PySem.W.kxs_mw "ValueError.__init__" e)).get? h2.objs.size = some (PySem.W.kxs_mw "ValueError.__init__" e) := Heap.get?_push_at rfl rfl
    refine PySem.W.kxs_callWith (i := "ValueError.__init__") (x := e) rfl (Calls.evalArgs_plain (Calls.spliced_cons (wpAny_Name (wpAny_loadName_local rfl rfl ((hns.keeps hk2).keeps hk3) rfl (Calls.spliced_nil ⟨hu, ?_⟩)))))
    refine vbound (X2.keeps hk3 _ _ hC) (hk3 _ _ e2) hu (by show 1 ≤ sizeLine; decide) fun h4 t1 hk4 e4 => ?_
    have X4 : K.In h4 := fun b o z => hk4 b o (fun y => by rw [y, hKe] at z; cases z) (X2.keeps hk3 b o z)
    obtain ⟨oL, esL, epL, hoL, hrL⟩ := hns
    have eL : h.objs.size ≠ e := Nat.ne_of_gt (Heap.lt_size he)
    have hoL4 := hk4 _ _ eL (hk3 _ _ (hk2 _ _ hoL))
    have hns4 : h4.Ns h.objs.size (fun x => ([("self", .ref e), ("text", um), ("line", ul)] : List (Str × Value)).reverse.lookup x) := ⟨oL, esL, epL, hoL4, hrL⟩
    -- self.line = line
    refine ks_wpAt_execs_cons (ks_wpAt_Assign_Attr (wpAt_of_wpAny (wpAny_Name (wpAny_loadName_local rfl rfl hns4 rfl (wpAny_Name (wpAny_loadName_local rfl rfl hns4 rfl ?_))))))
    refine PySem.W.set_plain X4 (ox := PySem.HandSPX.excO C t1) (od := none) ⟨e4, rfl, rfl, trivial⟩ T.sa ?_
    refine PySem.HandSPX.exc_osa X4 e4 hcl (show PySem.HandSPX.refsVE (.ref C :: bm) = true from hbm) rfl T.line (fun h5 tk5 dx k5' dn dne hx hn => ?_)
    refine wpAt_of_wpAny (wpAny_execs_nil ?_)
    exact hq h5 dx t1 tk5 (fun b o hb z => k5' b o hb (hk4 b o hb (hk3 _ _ (hk2 _ _ (hk1 _ _ z))))) hx (Nat.le_trans (Nat.le_of_lt (Heap.lt_size hoL4)) dn) dne hn
end
end K8

set_option maxRecDepth 100000
set_option maxHeartbeats 4000000
namespace K8
open PySem PySem.Spec PyProof.Rows L2 LamX KX M8
/-- NoText(text, line) -/
def tNT (C : Addr) (ta : TA) : L2.St → Hp → XK → Prop := fun σ H Q => ta σ H fun vs H1 => ∃ x y, vs = [x, y] ∧ ∀ d, H1 d = none → Q (.ref C) (some d) (upd H1 d (.xd [("line", y)]))
theorem pmk_NT {X : Cx} {C : Addr} {k : Nat} {e1 e2 : Expr} {ta : TA} {p pos : Pos} (T : NT X.prog X.K X.mg C) (hr : Room (k + 1) X.A) (hg : Gl X "NoText") (ha : PA X [e1, e2] ta)
    (he : starEach [e1, e2] X.env = (false, eval e1 X.env) :: starEach [e2] X.env := by rfl) (hpl : (backTo pos (starEach [e2] X.env)).any (·.1) = false := by rfl) :
    PMk X (.Call (.Name "NoText" p) [e1, e2] [] pos) (tNT C ta) := by
  intro pins s σ H Q I h
  obtain ⟨nm, q, N, bs, bm, sn, sub, ab, col, dd, k0, k1, k2, k3, k5, hC, hbm, hal⟩ := T.cls
  obtain ⟨fI, oc, od, Td, kV, doc, pm, an, cda, ct, cc, osl, iC, tI, lk, hcd, hcode, hcell, hTd⟩ := T.init
  refine wpAny_Call_Name_kw (ld_glob I hg T.mgC ?_ (by decide))
  refine PySem.W.callWith_K (h₀ := X.base) I.ok.mod.kin T.kC (thn (ha.run pos pins s σ H _ I h) fun us s1 ⟨vs, H1, I1, r1, x, y, hvs, q1⟩ => ⟨I1.kIn, ?_⟩) he hpl
  subst hvs
  obtain ⟨um, ul, rfl, rx, ry⟩ := Vals.two r1
  show wpAny _ _ (call (.ref C) [um, ul]) _ _ _
  obtain ⟨hp, g, dr, tk, os⟩ := s1
  have kk : ∀ b o, hp.get? b = some o → ((hp.push (PySem.W.kdv_tup [um, ul])).push (PySem.HandSPX.excO C hp.objs.size)).get? b = some o := fun b o e => Heap.get?_push_of_some _ (Heap.get?_push_of_some _ e)
  have hget : ((hp.push (PySem.W.kdv_tup [um, ul])).push (PySem.HandSPX.excO C hp.objs.size)).get? (hp.objs.size + 1) = some (PySem.HandSPX.excO C hp.objs.size) := by heap_get
  have hsz2 : ((hp.push (PySem.W.kdv_tup [um, ul])).push (PySem.HandSPX.excO C hp.objs.size)).objs.size = hp.objs.size + 2 := by rw [Heap.size_push, Heap.size_push]
  obtain ⟨mb, hb1, hb2⟩ := I1.mod.blt
  have hlt : ∀ {b : Addr} {o : Obj}, hp.get? b = some o → b ≠ hp.objs.size + 1 := fun {b o} z => Nat.ne_of_lt (Nat.lt_succ_of_lt (Heap.lt_size z))
  have hKe : X.K.lookup (hp.objs.size + 1) = none := by
    cases z : X.K.lookup (hp.objs.size + 1) with
    | none => rfl
    | some o => exact absurd rfl (hlt (I1.kIn _ _ z))
  refine wpAny_call (PySem.HandSPX.call_own F.excBase_ValueError (fun Y => PySem.HandSPX.refsVE_contains Y bm hbm) (I1.kIn _ _ hC) (PySem.W.looks_findIn I1.kIn iC) (fun self => PySem.W.bind_fn I1.kIn self tI) (by show 2 ≤ sizeLine; decide)
    (init_raw T (I1.kIn.keeps kk) ((I1.mod.glob.keeps I1.bk).keeps kk) ((hb1.keeps I1.bk).keeps kk) (hb2 _ (by decide)) (I1.nolimit.keeps kk) lk hTd hcd hcode hcell (hr.make C [um, ul] []).depth hKe hget fun h' dx t1 tk' kx hx dn dne hn => ⟨rfl, ?_⟩))
  have ha : hp.objs.size ≤ hp.objs.size + 1 := Nat.le_succ _
  have hdx : hp.objs.size ≤ dx := by rw [hsz2] at dn; omega
  have dne : dx ≠ hp.objs.size + 1 := dne
  obtain ⟨G, g1, g2⟩ := restrict h' fun b => decide (b ≠ hp.objs.size + 1)
  have gk : ∀ b, b ≠ hp.objs.size + 1 → G.get? b = h'.get? b := fun b hb => g1 b (decide_eq_true hb)
  have ge : G.get? (hp.objs.size + 1) = none := g2 _ (by simp)
  have kG : ∀ b o, hp.get? b = some o → G.get? b = some o := fun b o z => by rw [gk b (hlt z)]; exact kx b o (hlt z) (kk b o z)
  have nd : H1 dx = none := I1.hok.fresh hdx
  have J := I1.laid (t' := tk') (a := dx) (o := .xd [("line", y)]) (h' := G) kG hdx ⟨_, hn.at fun o z => (gk dx dne).trans z, fun f => relO_put (fs := []) (mA := fun _ => none) ry (fun _ => True.intro) f⟩
  refine ⟨hp.objs.size + 1, _, _, _, _, .ref C, some dx, rfl, J, fun b o z => ?_, ge, hx, ⟨rfl, rfl⟩, rfl, rfl, ?_, rfl, I1.bare, raises_own T.exC T.tyC, q1 dx nd⟩
  · by_cases hb : b = hp.objs.size + 1
    · rw [hb] at z
      exact absurd (ge.symm.trans z) (by simp)
    · exact (gk b hb).symm.trans z
  · rw [upd_ne (Ne.symm dne)]
    exact I1.hok.fresh ha
end K8

set_option maxRecDepth 100000
set_option maxHeartbeats 4000000
/-! for i, x in enumerate(reversed(t)), t a tuple -/
namespace RE
open PySem PySem.Spec PyProof.Rows RT L2
section
variable {prog : Program} {w : World} {A : Around} {E : Value → Shared → Prop} {s : Shared}
theorem nextOf_item {it t : Addr} {i : Nat} {items : Array Value} {x : Value} {Q : Value → Shared → Prop} (hit : IsRt s.heap it t (i : Int)) (ht : IsTup s.heap t items) (hx : items[i]? = some x) (hsz : items.size ≤ sizeLine)
    (hQ : ∀ h', IsRt h' it t ((i : Int) - 1) → Heap.SameBut it s.heap h' → Q x { s with heap := h', toks := s.toks + 1 }) : wpAny (model prog w) A (Builtin.SmallTypes.nextOf (.ref it)) Q E s := by
  obtain ⟨o, ho, hc, hd⟩ := id hit
  have hi : i < items.size := (Array.getElem?_eq_some_iff.mp hx).1
  have hT : s.TypeIs (.ref t) "tuple" := IsTup.typeOf' ht
  rw [sizeLine_eq] at hsz
  unfold Builtin.SmallTypes.nextOf
  refine wpAny_bind (wpAny_callSpecial?_slot (name := Str.ofString "__next__") hit.typeIs slot_rt_next (wpAny_call_entry slot_rt_next hit.typeIs entry_rt_next ?_ (args_rt_next _)))
  unfold Builtin.«reversed.__next__»
  refine wpAny_bind (wpAny_of_eq (a := (Value.ref it, [])) rfl ?_)
  try dsimp only
  refine wpAny_bind (wpAny_field ho hd (x := .ref t) rfl ?_)
  try dsimp only
  refine wpAny_bind (wpAny_field ho hd (x := rawInt (i : Int)) rfl ?_)
  show wpAny _ _ (if (i : Int) < 0 then _ else _) _ _ s
  rw [if_neg (by omega)]
  try dsimp only
  refine wpAny_bind (wpAny_specialOf hT get_tuple ?_)
  try dsimp only
  try rw [if_neg (by decide)]
  try dsimp only
  refine wpAny_bind (wpAny_mkInt ?_)
  refine wpAny_bind (wpAny_attempt ?_)
  have fin : seqIndex? (i : Int) items.size = some i := seqIndex_of (by omega) (by omega)
  refine PyProof.Rows.getItem_tuple (s := { s with toks := s.toks + 1 }) ht (by omega) (by omega) fin hx ?_
  try dsimp only
  refine wpAny_bind (wpAny_field (s := { s with toks := s.toks + 1 }) ho hd (x := rawInt (i : Int)) rfl ?_)
  try dsimp only
  refine wpAny_bind (wpAny_setField (s := { s with toks := s.toks + 1 }) ho hd (by simp) ?_)
  first
  | refine wpAny_pure ⟨x, rfl, wpAny_pure (hQ _ ?_ (Heap.SameBut.update ..))⟩
  | refine wpAny_bind (wpAny_pure (wpAny_pure ⟨x, rfl, wpAny_pure (hQ _ ?_ (Heap.SameBut.update ..))⟩))
  exact ⟨_, Heap.get?_update_self _ ho (Obj.isFreed_of_fields (Obj.data_mapFields hd _)), (Obj.cls_mapFields ..).trans hc, by
    rw [Obj.data_mapFields hd]; simp⟩
theorem nextOf_end {it t : Addr} {Q : Value → Shared → Prop} (hh : A.handled = none) (hit : IsRt s.heap it t (-1))
    (hE : ∀ h' e, Heap.ExtBut it s.heap h' → (∃ o, h'.get? e = some o ∧ o.cls = .type "StopIteration") → E (.ref e) { s with heap := h' }) : wpAny (model prog w) A (Builtin.SmallTypes.nextOf (.ref it)) Q E s := by
  obtain ⟨o, ho, hc, hd⟩ := id hit
  unfold Builtin.SmallTypes.nextOf
  refine wpAny_bind (wpAny_callSpecial?_slot (name := Str.ofString "__next__") hit.typeIs slot_rt_next (wpAny_call_entry slot_rt_next hit.typeIs entry_rt_next ?_ (args_rt_next _)))
  unfold Builtin.«reversed.__next__»
  refine wpAny_bind (wpAny_of_eq (a := (Value.ref it, [])) rfl ?_)
  try dsimp only
  refine wpAny_bind (wpAny_field ho hd (x := .ref t) rfl ?_)
  try dsimp only
  refine wpAny_bind (wpAny_field ho hd (x := rawInt (-1)) rfl ?_)
  show wpAny _ _ (if (-1 : Int) < 0 then _ else _) _ _ s
  rw [if_pos (by decide)]
  try dsimp only
  refine wpAny_bind (wpAny_rule ?_)
  refine wpAny_bind ?_
  wp_delta
  refine wpAny_bind (wpAny_setField ho hd (by simp) ?_)
  have ho2 := Heap.get?_update_self (Obj.mapFields (·.setIfInBounds 1 (rawInt (-1)))) ho (Obj.isFreed_of_fields (Obj.data_mapFields hd _))
  refine wpAny_setField (s := { s with heap := s.heap.update it (Obj.mapFields (·.setIfInBounds 1 (rawInt (-1)))) }) ho2 (Obj.data_mapFields hd _) (by simp) ?_
  try dsimp only
  first
  | show wpAny _ _ (newExc (.type "StopIteration") [] >>= _) _ _ _
  | (refine wpAny_bind ?_; show wpAny _ _ (newExc (.type "StopIteration") [] >>= _) _ _ _)
  | (refine wpAny_bind ?_; wp_delta; show wpAny _ _ (newExc (.type "StopIteration") [] >>= _) _ _ _)
  refine wpAny_bind ?_
  simp only [newExc, newTuple]
  refine wpAny_bind (wpAny_newObj_type ?_ (by size_fits))
  refine wpAny_bind (m := firstArgMember _ _) (wpAny_of_eq (a := Value.none) (by first | rfl | (simp only [firstArgMember]; rfl)) ?_)
  refine wpAny_newObj_type ?_ (by size_fits)
  simp only [raiseNew]
  refine wpAny_bind (wpAny_handled ?_)
  first | rw [show A.in1.handled = none from hh] | rw [hh]
  refine wpAny_bind (wpAny_pure (wpAny_throw ?_))
  refine hE _ _ ?_ ⟨_, Heap.get?_push_size _ rfl, rfl⟩
  refine ((?_ : Heap.ExtBut it s.heap _).push _).push _
  exact fun b ob hb e => (Heap.get?_update_other _ _ (Ne.symm hb)).trans ((Heap.get?_update_other _ _ (Ne.symm hb)).trans e)
/-- what is drawn of reversed(t) -/
theorem draws {it t : Addr} {items : Array Value} (hh : A.handled = none) (hsz : items.size ≤ sizeLine) (hne : t ≠ it) :
    Draws prog w A it [it, t] items.size (fun i x => items[items.size - 1 - i]? = some x) (fun i h => i ≤ items.size ∧ IsRt h it t ((items.size : Int) - 1 - (i : Nat)) ∧ IsTup h t items) where
  live := fun i h st => by
    obtain ⟨_, ⟨o, ho, _⟩, _⟩ := st
    exact ⟨o, ho⟩
  frame := fun i h h' st k => ⟨st.1, st.2.1.at fun o e => k it (by simp) o e, by
    obtain ⟨o, ho, r⟩ := st.2.2
    exact ⟨o, k t (by simp) o ho, r⟩⟩
  item := fun i s Q E hi st hQ => by
    obtain ⟨h1, h2, h3⟩ := st
    have e1 : (items.size : Int) - 1 - ((i : Nat) : Int) = ((items.size - 1 - i : Nat) : Int) := by omega
    rw [e1] at h2
    have hlt : items.size - 1 - i < items.size := by omega
    refine nextOf_item h2 h3 (x := items[items.size - 1 - i]) (Array.getElem?_eq_getElem hlt) hsz fun h' st' sb => ?_
    have e2 : ((items.size - 1 - i : Nat) : Int) - 1 = (items.size : Int) - 1 - ((i + 1 : Nat) : Int) := by omega
    rw [e2] at st'
    refine hQ _ h' _ (Array.getElem?_eq_getElem hlt) ⟨hi, st', ?_⟩ sb
    obtain ⟨o, ho, r⟩ := h3
    exact ⟨o, (sb.2 t hne).trans ho, r⟩
  done := fun s Q E st hE => by
    obtain ⟨h1, h2, h3⟩ := st
    have e1 : (items.size : Int) - 1 - ((items.size : Nat) : Int) = -1 := by omega
    rw [e1] at h2
    exact nextOf_end hh h2 hE
set_option maxHeartbeats 8000000 in
theorem meets_new (l : Addr) (fs : Array Value) (dct : Option Addr) (sl : Array (Option Value)) (i : Int) (t : Addr) (hfs : fs = #[.ref t, rawInt i]) :
    Meets (Builtin.«enumerate.__new__» ⟨[.type "enumerate", .ref l], []⟩) (fun _ R s => s.heap.get? l = some { cls := .type "reversed", dict := dct, data := .fields fs, slots := sl } ∧
      R (.ok (.ret (.ref s.heap.objs.size))) { s with heap := s.heap.push { cls := .type "enumerate", data := .fields #[.none, .bool false, .ref l, rawInt 0, .none, .none] } }) :=
  .of_wp fun prog w A R s h => by
    obtain ⟨hp, g, d, tk, os⟩ := s; obtain ⟨hl, h⟩ := h
    have hsub := sub_enumerate
    have hL : IsRt (Shared.heap ⟨hp, g, d, tk, os⟩) l t i := ⟨_, hl, rfl, by rw [hfs]⟩
    wp_walk using AutoSeq1.wpAny_loadPart' hl
    refine wpAny_stack_any fun st => wpAny_pure ?_
    split
    · rename_i c _ _ _ _ _
      cases (c == Value.type "enumerate")
      · wp_walk using AutoSeq1.wpAny_loadPart' hl, iter_rt hL
        exact ⟨_, rfl, h⟩
      · wp_walk using AutoSeq1.wpAny_loadPart' hl, iter_rt hL
        exact ⟨_, rfl, h⟩
    · wp_walk using AutoSeq1.wpAny_loadPart' hl, iter_rt hL
      exact ⟨_, rfl, h⟩
end
end RE

set_option maxRecDepth 100000
set_option maxHeartbeats 4000000
namespace RE
open PySem PySem.Spec PyProof.Rows RT L2
section
variable {prog : Program} {w : World} {A : Around} {E : Value → Shared → Prop} {s : Shared}
theorem call_enum {r t : Addr} {i : Int} {Q : Value → Shared → Prop} (hr : IsRt s.heap r t i)
    (h : Q (.ref s.heap.objs.size) { s with heap := s.heap.push { cls := .type "enumerate", data := .fields #[.none, .bool false, .ref r, rawInt 0, .none, .none] } }) :
    wpAny (model prog w) A (call (.type "enumerate") [.ref r]) Q E s := by
  obtain ⟨⟨c, dct, dt, sl⟩, hl, hc, hd⟩ := hr
  simp only at hc hd
  subst hc hd
  refine callType_new F.called_enumerate (by decide) (F.typeCall_enumerate_1 _) (F.newCall_enumerate_1 _) (fun obj => F.args_object_init_2 obj _) F.entry_enumerate_new
    (meets_new r _ dct sl i t rfl) ⟨hl, ?_⟩
  exact ⟨⟨_, Heap.get?_push_size _ rfl, rfl⟩, h⟩
end
/-- enumerate(reversed(t)): the tuple at a, from behind, each item in a new pair -/
def Itre (K : PySem.W.Frag) (a : Addr) (n : Nat) : It :=
  ⟨fun i H => i < n ∧ ∃ (xs : List V) (x : V), SqT K H a xs ∧ xs.length = n ∧ xs[n - 1 - i]? = some x,
    fun i H v H' => ∃ T x, v = .ref T ∧ H T = none ∧ H' = upd H T (.tup [.int (i : Nat), x]) ∧ ∀ xs, SqT K H a xs → xs[n - 1 - i]? = some x, fun i H => n = i ∧ ∃ xs : List V, SqT K H a xs ∧ xs.length = n⟩
theorem turn_enumrev {P : Program} {w : World} {K : PySem.W.Frag} {elts : List Expr} {kk : Nat} {tpos : Pos} (a e it : Addr) (n : Nat) :
    Turn P w K (.Tuple elts kk tpos) (Itre K a n) [e, it] e (fun i h => (∃ old, IsEnum h e it ((i : Nat) : Int) old) ∧ i ≤ n ∧ IsRt h it a ((n : Int) - 1 - (i : Nat)) ∧ e ≠ it) where
  mem := by simp
  obj := fun i h st b hb => by
    obtain ⟨⟨old, he⟩, _, ⟨o, ho, hc, hd⟩, _⟩ := st
    have e' : b = e ∨ b = it := by simpa using hb
    rcases e' with z | z
    · rw [z]; exact ⟨_, he, fun v q => nomatch q⟩
    · rw [z]; exact ⟨o, ho, fun v q => by rw [hd] at q; cases q⟩
  keep := fun i h h' st k => let ⟨⟨old, he⟩, hi, hr, hne⟩ := st; ⟨⟨old, k e (by simp) _ he⟩, hi, hr.at fun o q => k it (by simp) o q, hne⟩
  item := by
    intro X hP hw hK hc i pins s σ H E I hf st hg
    subst hP hw hK
    obtain ⟨⟨old, he⟩, _, hit, hne⟩ := st
    obtain ⟨hin, xs, x, hq, hl, hx⟩ := hg
    obtain ⟨its, rv, p, hz⟩ := I.tuple hq
    obtain ⟨u, hu, ru⟩ := rv.get hx
    have hlen : its.toArray.size = n := by rw [List.size_toArray, ← rv.length, hl]
    have hel : e < s.heap.objs.size := Heap.lt_size he
    have hil : it < s.heap.objs.size := by obtain ⟨_, q, _⟩ := hit; exact Heap.lt_size q
    have hai : a ≠ it := fun z => by
      obtain ⟨o1, h1, c1, _⟩ := p
      obtain ⟨o2, h2, c2, _⟩ := hit
      rw [z, h2] at h1
      cases h1
      rw [c1] at c2
      injection c2 with c3
      exact absurd c3 (by decide)
    have hae : e ≠ a := fun z => by
      obtain ⟨o1, h1, c1, _⟩ := p
      rw [← z, he] at h1
      cases h1
      injection c1 with c3
      exact absurd c3 (by decide)
    have hz' : its.toArray.size ≤ sizeLine := by rw [hlen, ← hl]; exact hz
    rw [← hlen] at hit hin
    refine wpAny_pyNext_enum_itemD (draws (it := it) (t := a) (items := its.toArray) (I.ok.hd hc) hz' hai) he ⟨Nat.le_of_lt hin, hit, p⟩ hin hne (by simp [hne, hae]) fun v h' tk hv ho hst' hT hsz hk => ?_
    have ev : v = u := by
      rw [hlen, List.getElem?_toArray, hu] at hv
      exact (Option.some.inj hv).symm
    subst ev
    obtain ⟨hin', hit', _⟩ := hst'
    rw [hlen] at hit' hin'
    refine ⟨_, rfl, wpAny_letOwnedTupleGo_enum (s := { s with heap := h', toks := tk + 1 }) ho fun h'' he' sb => ?_⟩
    have hT2 : h''.get? s.heap.objs.size = some { cls := .type "tuple", data := .seq #[.int i tk, v] } := (sb.2 _ (Nat.ne_of_gt hel)).trans hT
    have new : ObjOk X.prog X.w (upd H s.heap.objs.size (.tup [.int (i : Nat), x])) h'' s.heap.objs.size (.tup [.int (i : Nat), x]) :=
      ⟨by show 2 ≤ sizeLine; decide, [.int i tk, v], .cons ⟨_, rfl⟩ (.cons ru .nil), ⟨_, hT2, rfl, _, rfl⟩⟩
    have I1 : Inv X pins σ (upd H s.heap.objs.size (.tup [.int (i : Nat), x])) { s with heap := h'', toks := tk + 1 } :=
      I.turnedNew (ch := [e, it]) (fun b ob hb q => (sb.2 b (fun z => hb (by simp [z]))).trans (hk b ob (fun z => hb (by simp [z])) (fun z => hb (by simp [z])) q)) hf (Nat.le_refl _) new
    refine ⟨.ref s.heap.objs.size, _, I1, rfl, ⟨_, x, rfl, I.hok.fresh (Nat.le_refl _), rfl, fun ys hy => by rw [I.tuple_inj hy hq]; exact hx⟩, ⟨⟨v, ?_⟩, hin', hit'.at fun o q => (sb.2 it (Ne.symm hne)).trans q, hne⟩, fun b hb => ?_⟩
    · have e1 : ((i + 1 : Nat) : Int) = (i : Int) + 1 := by omega
      rw [e1]; exact he'
    · have hb' : b < s.heap.objs.size := by
        have e' : b = e ∨ b = it := by simpa using hb
        rcases e' with z | z
        · rw [z]; exact hel
        · rw [z]; exact hil
      rw [upd_ne (Nat.ne_of_lt hb')]
      exact (hf b hb).1
  done := by
    intro X hP hw hK hc i pins s σ H E I hf st hg
    subst hP hw hK
    obtain ⟨⟨old, he⟩, _, hit, hne⟩ := st
    obtain ⟨rfl, xs, hq, hl⟩ := hg
    obtain ⟨its, rv, p, hz⟩ := I.tuple hq
    have hlen : its.toArray.size = n := by rw [List.size_toArray, ← rv.length, hl]
    obtain ⟨f0, f1, f2, f3, f4, f5⟩ := hf it (by simp)
    have hai : a ≠ it := fun z => by
      obtain ⟨o1, h1, c1, _⟩ := p
      obtain ⟨o2, h2, c2, _⟩ := hit
      rw [z, h2] at h1
      cases h1
      rw [c1] at c2
      injection c2 with c3
      exact absurd c3 (by decide)
    have hz' : its.toArray.size ≤ sizeLine := by rw [hlen, ← hl]; exact hz
    have hst : its.toArray.size ≤ its.toArray.size ∧ IsRt s.heap it a ((its.toArray.size : Int) - 1 - (its.toArray.size : Nat)) ∧ IsTup s.heap a its.toArray := ⟨Nat.le_refl _, by rw [hlen]; exact hit, p⟩
    exact wpAny_pyNext_enum_endD (draws (it := it) (t := a) (items := its.toArray) (I.ok.hd hc) hz' hai) he hst fun h' eb => ⟨rfl, I.turned (t' := s.toks) (fun b o hb q => eb b o hb q) f0 f1 f3 f4 f5⟩
  self := fun A i s Q E st h => let ⟨⟨_, he⟩, _⟩ := st; wpAny_pyIter_enum he h
def iEnumRev (K : PySem.W.Frag) (te : TE) : TI := fun σ H R => te σ H fun v H1 => ∃ (a : Addr) (xs : List V), v = .ref a ∧ SqT K H1 a xs ∧ R (Itre K a xs.length) H1
theorem pi_enumRev {X : Cx} {e : Expr} {te : TE} {p p2 pos pos2 tpos : Pos} {elts : List Expr} {kk : Nat} (hg : Gl X "enumerate") (hm : X.mg "enumerate" = none) (hg2 : Gl X "reversed") (hm2 : X.mg "reversed" = none) (he : PE X e te)
    (hs : starEach [.Call (.Name "reversed" p2) [e] [] pos2] X.env = [(false, eval (.Call (.Name "reversed" p2) [e] [] pos2) X.env)] := by rfl) (hs2 : starEach [e] X.env = (false, eval e X.env) :: starEach [] X.env := by rfl) :
    PI X (.Tuple elts kk tpos) (.Call (.Name "enumerate" p) [.Call (.Name "reversed" p2) [e] [] pos2] [] pos) (iEnumRev X.K te) := by
  refine ⟨fun pins s σ H R I h => ?_⟩
  refine Call_ (ld_blt I hg hm boot_enumerate (PyProof.Rows.callWith_type1 ?_ hs rfl))
  refine args_cons ?_ hs
  refine Call_ (ld_blt I hg2 hm2 PyProof.Rows.boot_reversed (PyProof.Rows.callWith_type1 (args_cons (thn (he.run pins s σ H _ I h) fun u s1 ⟨v, H1, I1, r1, q1⟩ => args_nil ?_) hs2) hs2 rfl))
  obtain ⟨a, xs, ev, hq, q⟩ := q1
  subst ev
  obtain rfl : u = Value.ref a := r1
  obtain ⟨its, rv, p', hz⟩ := I1.tuple hq
  have hl := rv.length
  have hn := line63
  refine call_reversed_tup p' (fun A E Q k => len_tuple p' (by simp only [List.size_toArray] <;> omega) k) (args_nil ?_)
  have hr : IsRt (s1.heap.push (rtObj a ((its.toArray.size : Int) - 1))) s1.heap.objs.size a ((its.toArray.size : Int) - 1) := ⟨_, Heap.get?_push_size _ rfl, rfl, rfl⟩
  refine call_enum hr ?_
  have hsz : (s1.heap.push (rtObj a ((its.toArray.size : Int) - 1))).objs.size = s1.heap.objs.size + 1 := Heap.size_push ..
  have he2 := Heap.get?_push_size (s1.heap.push (rtObj a ((its.toArray.size : Int) - 1))) (o := { cls := .type "enumerate", data := .fields #[.none, .bool false, .ref s1.heap.objs.size, rawInt 0, .none, .none] }) rfl
  refine wpAny_pyIter_enum he2 ?_
  have hk : ∀ b o, s1.heap.get? b = some o → ((s1.heap.push (rtObj a ((its.toArray.size : Int) - 1))).push { cls := .type "enumerate", data := .fields #[.none, .bool false, .ref s1.heap.objs.size, rawInt 0, .none, .none] }).get? b = some o := fun b o z => Heap.get?_push_of_some _ (Heap.get?_push_of_some _ z)
  have I2 := I1.kept (t' := s1.toks + 1 + 1) hk
  have e1 : ((its.toArray.size : Nat) : Int) - 1 = (xs.length : Int) - 1 - ((0 : Nat) : Int) := by simp only [List.size_toArray]; omega
  refine ⟨_, [_, s1.heap.objs.size], _, _, H1, rfl, I2, turn_enumrev a _ s1.heap.objs.size xs.length, ⟨⟨.none, he2⟩, Nat.zero_le _, ?_, ?_⟩, fun b hb => ?_, q⟩
  · rw [← e1]
    exact hr.at fun o z => Heap.get?_push_of_some _ z
  · rw [hsz]; exact Nat.succ_ne_self _
  · have e' : b = (s1.heap.push (rtObj a ((its.toArray.size : Int) - 1))).objs.size ∨ b = s1.heap.objs.size := by simpa using hb
    have hle : s1.heap.objs.size ≤ b := by
      rcases e' with z | z
      · rw [z, hsz]; exact Nat.le_succ _
      · rw [z]; exact Nat.le_refl _
    exact I1.fpOk hle (I1.hok.fresh hle)
theorem walk_enumRev {K : PySem.W.Frag} {a : Addr} {xs : List V} : Walk (Itre K a xs.length) xs.length (fun H => SqT K H a xs) (YPair (fun i => some (.int (i : Nat))) (fun i => xs[xs.length - 1 - i]?)) := by
  refine ⟨fun i _ hi q => ⟨hi, xs, xs[xs.length - 1 - i]'(by omega), q, rfl, by simp [show xs.length - 1 - i < xs.length by omega]⟩, fun _ q => ⟨rfl, xs, q, rfl⟩, fun i H v H' _ q y => ?_⟩
  obtain ⟨T, x, h1, h2, h3, h4⟩ := y
  exact ⟨T, .int (i : Nat), x, h1, h2, h3, rfl, h4 xs q⟩
end RE

set_option maxRecDepth 100000
set_option maxHeartbeats 4000000
namespace M8
open PySem
mutual
/-- all leaves are words, numbers, nothing; all else is tuples -/
def vdD : PyData → Bool
  | .tuple ds => vdA ds
  | .none => true
  | .str x => isWord x
  | .int i => isFig i
  | .bool _ => false
  | .list _ => false
  | .dict _ => false
def vdA : List PyData → Bool
  | [] => true
  | d :: ds => vdD d && vdA ds
end
theorem vdA_app : ∀ ds es : List PyData, vdA (ds ++ es) = (vdA ds && vdA es)
  | [], es => rfl
  | d :: ds, es => by rw [List.cons_append, vdA, vdA, vdA_app ds es, Bool.and_assoc]
theorem depthA_app : ∀ ds es : List PyData, PyData.depthAll (ds ++ es) = max (PyData.depthAll ds) (PyData.depthAll es)
  | [], es => by rw [List.nil_append, PyData.depthAll]; omega
  | d :: ds, es => by rw [List.cons_append, PyData.depthAll, PyData.depthAll, depthA_app ds es]; omega
theorem leaf_iff (d : PyData) : leafOk d = true ↔ vdD d = true ∧ PyData.depth d ≤ 0 := by
  cases d with
  | tuple ds => simp [leafOk, PyData.depth]
  | none => simp [leafOk, vdD, PyData.depth]
  | str x => simp [leafOk, vdD, PyData.depth]
  | int i => simp [leafOk, vdD, PyData.depth]
  | bool b => simp [leafOk, vdD]
  | list ds => simp [leafOk, vdD]
  | dict kvs => simp [leafOk, vdD]
theorem turn_iff (n : Nat) (d : PyData) : (turnOk (n + 1) d = true ∧ vdA (kids d) = true ∧ PyData.depthAll (kids d) ≤ n) ↔ (vdD d = true ∧ PyData.depth d ≤ n + 1) := by
  cases d with
  | tuple ds => simp [turnOk, isTup, kids, vdD, PyData.depth]
  | none => simp [turnOk, isTup, leafOk, kids, vdD, vdA, PyData.depth, PyData.depthAll]
  | str x => simp [turnOk, isTup, leafOk, kids, vdD, vdA, PyData.depth, PyData.depthAll]
  | int i => simp [turnOk, isTup, leafOk, kids, vdD, vdA, PyData.depth, PyData.depthAll]
  | bool b => simp [turnOk, isTup, leafOk, vdD]
  | list ds => simp [turnOk, isTup, leafOk, vdD]
  | dict kvs => simp [turnOk, isTup, leafOk, vdD]
theorem turnA_iff (n : Nat) : ∀ ds : List PyData, (ds.all (turnOk (n + 1)) = true ∧ vdA (ds.flatMap kids) = true ∧ PyData.depthAll (ds.flatMap kids) ≤ n) ↔ (vdA ds = true ∧ PyData.depthAll ds ≤ n + 1)
  | [] => by simp [vdA, PyData.depthAll]
  | d :: ds => by
    have h1 := turn_iff n d
    have h2 := turnA_iff n ds
    rw [List.all_cons, List.flatMap_cons, vdA_app, depthA_app, vdA, PyData.depthAll]
    simp only [Bool.and_eq_true, Nat.max_le]
    constructor
    · rintro ⟨⟨a, b⟩, ⟨c, d⟩, e, f⟩
      obtain ⟨x1, x2⟩ := h1.mp ⟨a, c, e⟩
      obtain ⟨y1, y2⟩ := h2.mp ⟨b, d, f⟩
      exact ⟨⟨x1, y1⟩, x2, y2⟩
    · rintro ⟨⟨x1, y1⟩, x2, y2⟩
      obtain ⟨a, c, e⟩ := h1.mpr ⟨x1, x2⟩
      obtain ⟨b, d, f⟩ := h2.mpr ⟨y1, y2⟩
      exact ⟨⟨a, b⟩, ⟨c, d⟩, e, f⟩
theorem isV_iff : ∀ (n : Nat) (ds : List PyData), isV (n + 1) ds = true ↔ vdA ds = true ∧ PyData.depthAll ds ≤ n
  | 0, ds => by
    have hk : ∀ ds : List PyData, ds.all (turnOk 0) = true → ds.flatMap kids = [] := by
      intro ds
      induction ds with
      | nil => intro _; rfl
      | cons d ds ih =>
        intro h
        rw [List.all_cons, Bool.and_eq_true] at h
        rw [List.flatMap_cons, ih h.2]
        have : leafOk d = true := by
          have := h.1
          unfold turnOk at this
          simpa using this
        cases d <;> first | rfl | cases this
    have hl : ∀ ds : List PyData, ds.all (turnOk 0) = true ↔ vdA ds = true ∧ PyData.depthAll ds ≤ 0 := by
      intro ds
      induction ds with
      | nil => simp [vdA, PyData.depthAll]
      | cons d ds ih =>
        have h0 : turnOk 0 d = leafOk d := by unfold turnOk; simp
        rw [List.all_cons, Bool.and_eq_true, h0, leaf_iff, ih, vdA, PyData.depthAll, Bool.and_eq_true]
        constructor
        · rintro ⟨⟨a, b⟩, c, d⟩; exact ⟨⟨a, c⟩, by omega⟩
        · rintro ⟨⟨a, c⟩, b⟩; exact ⟨⟨a, by omega⟩, c, by omega⟩
    show (ds.all (turnOk 0) && ((ds.flatMap kids).isEmpty || isV 0 (ds.flatMap kids))) = true ↔ _
    rw [Bool.and_eq_true, ← hl]
    constructor
    · exact fun h => h.1
    · exact fun h => ⟨h, by rw [hk ds h]; rfl⟩
  | n + 1, ds => by
    show (ds.all (turnOk (n + 1)) && ((ds.flatMap kids).isEmpty || isV (n + 1) (ds.flatMap kids))) = true ↔ _
    rw [Bool.and_eq_true, Bool.or_eq_true, ← turnA_iff, isV_iff n]
    constructor
    · rintro ⟨a, b⟩
      refine ⟨a, ?_⟩
      rcases b with b | b
      · rw [List.isEmpty_iff.mp b]
        exact ⟨rfl, Nat.zero_le _⟩
      · exact b
    · rintro ⟨a, b⟩
      exact ⟨a, .inr b⟩
theorem isValue_iff (d : PyData) : isValue d = true ↔ vdD d = true ∧ PyData.depth d ≤ 59 := by
  unfold isValue
  rw [isV_iff 59 [d], vdA, vdA, Bool.and_true, PyData.depthAll, PyData.depthAll]
  simp
theorem vdA_mem {d : PyData} : ∀ {ds : List PyData}, vdA ds = true → d ∈ ds → vdD d = true
  | e :: ds, h, m => by
    rw [vdA, Bool.and_eq_true] at h
    rcases List.mem_cons.mp m with rfl | m
    · exact h.1
    · exact vdA_mem h.2 m
/-! ### the stack of value_text -/
mutual
def wt : PyData → Nat
  | .tuple ds => 3 + wtA ds
  | .none => 1
  | .str _ => 1
  | .int _ => 1
  | .bool _ => 1
  | .list _ => 1
  | .dict _ => 1
def wtA : List PyData → Nat
  | [] => 0
  | d :: ds => wt d + 1 + wtA ds
end
/-- what lies on the stack: a written text, a datum -/
inductive Itm where
  | t (l : List Nat)
  | d (e : PyData)
def Itm.text : Itm → List Nat
  | .t l => l
  | .d e => vt e
def Itm.wt : Itm → Nat
  | .t _ => 1
  | .d e => M8.wt e
def rend (st : List Itm) : List Nat := st.flatMap Itm.text
def wtS : List Itm → Nat
  | [] => 0
  | i :: st => i.wt + wtS st
theorem wt_pos (d : PyData) : 1 ≤ wt d := by cases d <;> simp only [wt] <;> omega
theorem wtS_app : ∀ a b : List Itm, wtS (a ++ b) = wtS a + wtS b
  | [], b => by rw [List.nil_append, wtS]; omega
  | i :: a, b => by rw [List.cons_append, wtS, wtS, wtS_app a b]; omega
theorem rend_app (a b : List Itm) : rend (a ++ b) = rend a ++ rend b := by unfold rend; rw [List.flatMap_append]
theorem len_wtS : ∀ st : List Itm, st.length ≤ wtS st
  | [] => Nat.le_refl _
  | i :: st => by
    have := len_wtS st
    have h : 1 ≤ i.wt := by
      cases i with
      | t l => exact Nat.le_refl _
      | d d => exact wt_pos d
    rw [List.length_cons, wtS]
    omega
/-- data, a blank ahead of each -/
def tls (ds : List PyData) : List Itm := ds.flatMap fun d => [.t [32], .d d]
theorem tls_cons (d : PyData) (ds : List PyData) : tls (d :: ds) = .t [32] :: .d d :: tls ds := rfl
theorem rend_tls : ∀ ds : List PyData, rend (tls ds) = vtTl ds
  | [] => rfl
  | d :: ds => by
    rw [tls_cons, vtTl, ← rend_tls ds]
    unfold rend
    rw [List.flatMap_cons, List.flatMap_cons]
    simp only [Itm.text]
    rfl
theorem wtS_tls : ∀ ds : List PyData, wtS (tls ds) = wtA ds
  | [] => rfl
  | d :: ds => by
    rw [tls_cons, wtS, wtS, wtA, wtS_tls ds]
    simp only [Itm.wt]
    omega
/-- the stack's new part behind k of the items -/
def inner (ds : List PyData) (k : Nat) : List Itm := if k < ds.length then tls (ds.drop (ds.length - k)) else match ds with
  | [] => []
  | d :: r => .d d :: tls r
theorem inner_done (ds : List PyData) : rend (inner ds ds.length) = vtIn ds := by
  unfold inner
  rw [if_neg (Nat.lt_irrefl _)]
  cases ds with
  | nil => rfl
  | cons d r =>
    rw [vtIn, ← rend_tls r]
    simp only [rend, List.flatMap_cons, Itm.text]
theorem inner_wt (ds : List PyData) (k : Nat) (hk : k ≤ ds.length) : wtS (inner ds k) ≤ wtA ds := by
  have hd : ∀ (ds : List PyData) (j : Nat), wtA (ds.drop j) ≤ wtA ds := by
    intro ds
    induction ds with
    | nil => intro j; simp
    | cons d ds ih =>
      intro j
      cases j with
      | zero => exact Nat.le_refl _
      | succ j =>
        rw [List.drop_succ_cons, wtA]
        have := ih j
        omega
  unfold inner
  split
  · rw [wtS_tls]
    exact hd _ _
  · cases ds with
    | nil => exact Nat.zero_le _
    | cons d r =>
      simp only [wtS, Itm.wt]
      rw [wtS_tls, wtA]
      omega
theorem inner_zero (ds : List PyData) : inner ds 0 = [] := by
  unfold inner
  cases ds with
  | nil => rfl
  | cons d r =>
    rw [if_pos (by rw [List.length_cons]; omega), Nat.sub_zero, List.drop_length]
    rfl
/-- one more item, not the last to come -/
theorem inner_more {ds : List PyData} {k : Nat} {d : PyData} (hk : k + 1 < ds.length) (hd : ds[ds.length - 1 - k]? = some d) : inner ds (k + 1) = .t [32] :: .d d :: inner ds k := by
  unfold inner
  rw [if_pos hk, if_pos (by omega), ← tls_cons]
  congr 1
  have hlt : ds.length - 1 - k < ds.length := by omega
  have e : ds.length - (k + 1) = ds.length - 1 - k := by omega
  rw [e, List.drop_eq_getElem_cons hlt]
  congr 1
  · rw [List.getElem?_eq_getElem hlt] at hd
    exact Option.some.inj hd
  · congr 1
    omega
theorem inner_last {ds : List PyData} {k : Nat} {d : PyData} (hk : k + 1 = ds.length) (hd : ds[ds.length - 1 - k]? = some d) : inner ds (k + 1) = .d d :: inner ds k := by
  unfold inner
  rw [if_neg (by omega), if_pos (by omega)]
  cases ds with
  | nil => simp at hk
  | cons e r =>
    have e0 : (e :: r).length - 1 - k = 0 := by omega
    rw [e0] at hd
    have : e = d := by simpa using hd
    subst this
    have e1 : (e :: r).length - k = 1 := by omega
    rw [e1]
    rfl
end M8

set_option maxRecDepth 100000
set_option maxHeartbeats 4000000
namespace M8
open PySem
theorem intT_nat (n : Nat) : intT (n : Int) = TL.numL n := TL.tl_num n
theorem intT_neg (n : Nat) : intT (Int.negSucc n) = 45 :: TL.numL (n + 1) := by
  have h : (toString (Int.negSucc n)) = "-" ++ toString (n + 1) := rfl
  unfold intT
  rw [h]
  show TL.tl (Str.ofString ("-" ++ toString (n + 1))) = _
  rw [TL.tl_ofString, String.toList_append, List.map_append]
  have h2 := TL.tl_num (n + 1)
  have h3 : TL.tl (Str.ofString (toString (((n + 1 : Nat)) : Int))) = (toString (n + 1)).toList.map Char.toNat := TL.tl_ofString _
  rw [← h3, h2]
  rfl
end M8

set_option maxRecDepth 100000
set_option maxHeartbeats 4000000
namespace K8
open PySem PySem.Spec PyProof.Rows L2 LamX KX M8
/-! ### sizes -/
theorem intT_len {i : Int} (h : isFig i = true) : (intT i).length ≤ 13 := by
  unfold isFig at h
  simp only [Bool.and_eq_true, decide_eq_true_eq] at h
  cases i with
  | ofNat n =>
    have e : intT (Int.ofNat n) = TL.numL n := intT_nat n
    rw [e]
    have hn : n < 10 ^ 12 := by
      have h2 := h.1
      have : (Int.ofNat n) = (n : Int) := rfl
      omega
    exact Nat.le_trans (TL.numL_len (by decide) hn) (by decide)
  | negSucc n =>
    rw [intT_neg, List.length_cons]
    have hn : n + 1 < 10 ^ 12 := by omega
    have := TL.numL_len (k := 12) (by decide) hn
    omega
mutual
theorem vt_len : ∀ {d : PyData}, vdD d = true → (vt d).length + 1 ≤ 16 * sz d
  | .tuple ds, h => by
    have := vtIn_len (ds := ds) (by rw [vdD] at h; exact h)
    rw [vt, sz, List.length_cons, List.length_append]
    show (vtIn ds).length + 1 + 1 + 1 ≤ _
    omega
  | .none, _ => by rw [vt, sz]; show 2 ≤ _; omega
  | .str x, _ => by
    rw [vt, sz]
    have : x.cps.toList.length = x.length := Array.length_toList
    omega
  | .int i, h => by
    rw [vt, sz]
    have := intT_len (i := i) (by rw [vdD] at h; exact h)
    omega
  | .bool _, h => by rw [vdD] at h; cases h
  | .list _, h => by rw [vdD] at h; cases h
  | .dict _, h => by rw [vdD] at h; cases h
theorem vtIn_len : ∀ {ds : List PyData}, vdA ds = true → (vtIn ds).length ≤ 16 * szA ds
  | [], _ => Nat.zero_le _
  | d :: ds, h => by
    rw [vdA, Bool.and_eq_true] at h
    have h1 := vt_len h.1
    have h2 := vtTl_len h.2
    rw [vtIn, szA, List.length_append]
    omega
theorem vtTl_len : ∀ {ds : List PyData}, vdA ds = true → (vtTl ds).length ≤ 16 * szA ds
  | [], _ => Nat.zero_le _
  | d :: ds, h => by
    rw [vdA, Bool.and_eq_true] at h
    have h1 := vt_len h.1
    have h2 := vtTl_len h.2
    rw [vtTl, szA, List.length_cons, List.length_append]
    omega
end
mutual
theorem wt_sz : ∀ d : PyData, wt d + 1 ≤ 4 * sz d
  | .tuple ds => by
    have := wtA_sz ds
    rw [wt, sz]
    omega
  | .none => by rw [wt, sz]; omega
  | .str x => by rw [wt, sz]; omega
  | .int i => by rw [wt, sz]; omega
  | .bool _ => by rw [wt, sz]; omega
  | .list ds => by rw [wt, sz]; omega
  | .dict _ => by rw [wt, sz]; omega
theorem wtA_sz : ∀ ds : List PyData, wtA ds ≤ 4 * szA ds
  | [] => Nat.zero_le _
  | d :: ds => by
    have h1 := wt_sz d
    have h2 := wtA_sz ds
    rw [wtA, szA]
    omega
end
/-! ### what stands on the stack -/
def ItAt (H0 H' : Hp) (L F : Addr) (v : V) : Itm → Prop
  | .t l => ∃ a, v = .ref a ∧ H' a = some (.lst [mkS l]) ∧ H0 a = none ∧ a ≠ L ∧ a ≠ F
  | .d e => Dt H0 v e ∧ vdD e = true
abbrev Stk (H0 H' : Hp) (L F : Addr) : List V → List Itm → Prop := Paired (ItAt H0 H' L F)
theorem Stk.same {H0 H' H'' : Hp} {L F : Addr} {vs : List V} {st : List Itm} (h : Stk H0 H' L F vs st) (s : Same H' H'') : Stk H0 H'' L F vs st := Paired.mapP h fun v i q => by
  cases i with
  | t l =>
    obtain ⟨a, b, c, d⟩ := q
    exact ⟨a, b, s _ _ c, d⟩
  | d e => exact q
theorem Stk.setL {H0 H' : Hp} {L F : Addr} {vs : List V} {st : List Itm} {o : HO} (h : Stk H0 H' L F vs st) : Stk H0 (upd H' L o) L F vs st := Paired.mapP h fun v i q => by
  cases i with
  | t l =>
    obtain ⟨a, b, c, d, e, f⟩ := q
    exact ⟨a, b, by rw [upd_ne e]; exact c, d, e, f⟩
  | d e => exact q
theorem Stk.setF {H0 H' : Hp} {L F : Addr} {vs : List V} {st : List Itm} {o : HO} (h : Stk H0 H' L F vs st) : Stk H0 (upd H' F o) L F vs st := Paired.mapP h fun v i q => by
  cases i with
  | t l =>
    obtain ⟨a, b, c, d, e, f⟩ := q
    exact ⟨a, b, by rw [upd_ne f]; exact c, d, e, f⟩
  | d e => exact q
def isLst : PyData → Bool
  | .list _ => true
  | _ => false
theorem isListB {K : PySem.W.Frag} (d : PyData) : PySem.W.kitOne K (.type (tyD d)) (.type "list") = some (isLst d) := by
  cases d <;> exact isList _
theorem join_nil (ys : List (List Nat)) : Txt.join ("" : Str) (ys.map S) = S ys.flatten := by
  apply TL.ext_tl
  rw [TL.join_eq, TL.tl_join]
  have e : TL.tl ("" : Str) = [] := rfl
  rw [e, List.map_map]
  have e2 : (TL.tl ∘ S) = id := by funext l; rfl
  rw [e2, List.map_id]
  show TL.joinL [] ys = ys.flatten
  induction ys with
  | nil => rfl
  | cons y ys ih =>
    cases ys with
    | nil => simp [TL.joinL]
    | cons z zs =>
      rw [List.flatten_cons, ← ih]
      simp [TL.joinL]
section
variable {P : Program} {w : World} {K : PySem.W.Frag} {mg : Str → Option Value} {base : Heap}
theorem scVT : FnScope ["value", "found", "left", "here", "at", "one"] ["value"] (defScope sValueText) := ⟨rfl, rfl, rfl, by decide +kernel, rfl, by decide +kernel, by decide +kernel⟩
/-- NoText with the line 0 -/
def NoTextOut (C : Addr) (H : Hp) (E : XK) : Prop := ∀ H' d, Same H H' → H d = none → H' d = some (.xd [("line", .int 0)]) → E (.ref C) (some d) H'
def spValueText (C : Addr) : Sp := fun vs H Q E => ∃ v d, vs = [v] ∧ Dt H v d ∧ Good d ∧ (isValue d = true → ∀ H', Same H H' → Q (.str (VT d)) H') ∧ (isValue d = false → NoTextOut C H E)
theorem ok_valueText {f C : Addr} {fd : FuncData} (F : FunD K "value_text" "value_text" (defArgs sValueText) (defBody sValueText) (defScope sValueText) [] [] f fd) (T : Nm mg) (TN : NT P K mg C)
    (Gis_value : GF P w K mg base 2 "is_value" ["thing"] [] spIsValue) : FnG P w K mg base 3 f fd ["value"] (spValueText C) := by
  refine okG F scVT (fun vs H Q E h => ?_) (fun cdv A outer s H vs Q E hg hr h => ?_)
  · obtain ⟨v, d, rfl, _⟩ := h
    rfl
  · obtain ⟨v, d, rfl, hd, gd, q, qe⟩ := h
    have hu : (A.deeper (envOfC "value_text" (defScope sValueText) s.heap.objs.size f cdv)).units + 64 < cLine := by
      have h1 := hr.units
      have h2 : cLine = 9900 := rfl
      omega
    refine ⟨_, ((pss_cons (ps_if (pt_not (pt_val (pe_gf Gis_value hg hr passL (pa_cons (pv 0) pa_nil)))) (pss_one (ps_raise rfl (takes_of rfl rfl rfl rfl) (pmk_NT TN hr (by rfl) (pa_cons pe_str (pa_cons pe_int pa_nil))))) pss_nil)
      (PSs.nox (pss_cons (ps_par (i := 1) (j := 2) rfl scVT.nd rfl rfl (by decide) rfl rfl (pa_cons (pe_lst pa_nil) (pa_cons (pe_lst (pa_cons (pv 0) pa_nil)) pa_nil)) rfl)
      (pss_cons (ps_while PassesOwn.never (pt_cmpR (op_neNil hu) (pv 2) (pe_lst pa_nil) (nomark _)) (pss_cons (ps_set (i := 3) scVT.nd rfl (Or.inl rfl) (pe_bm0 PySem.F.plainAttrs_list PySem.F.slot_list_pop PySem.F.type_list_pop mt_pop (pv 2)))
      (pss_one (ps_if (pt_val (pe_callB call_isi (by rfl) T.isinstance bISI (pa_cons (pv 3) (pa_cons (pe_bltn (v := .ty "list") (by rfl) T.list bLIST rfl) pa_nil)))) (pss_one (ps_expr (pe_bm PySem.F.plainAttrs_list PySem.F.slot_list_append PySem.F.type_list_append mt_append (pv 1) (pa_cons (pe_ix ix_list (pv 3) pe_int (fun _ _ => rfl)) pa_nil)))) (pss_one (ps_if (pt_val (pe_callB call_isi (by rfl) T.isinstance bISI (pa_cons (pv 3) (pa_cons (pe_bltn (v := .ty "tuple") (by rfl) T.tuple bTUPLE rfl) pa_nil)))) (pss_cons (ps_expr (pe_bm PySem.F.plainAttrs_list PySem.F.slot_list_append PySem.F.type_list_append mt_append (pv 2) (pa_cons (pe_lst (pa_cons pe_str pa_nil)) pa_nil)))
      (pss_cons (ps_for PassesOwn.never rfl (RE.pi_enumRev (by rfl) T.enumerate (by rfl) T.reversed (pv 3)) (pg_tup rfl (pgs_cons (pg_name (i := 4) scVT.nd rfl (Or.inl rfl)) (pgs_cons (pg_name (i := 5) scVT.nd rfl (Or.inl rfl)) pgs_nil)))
      (pss_one (ps_expr (pe_bm PySem.F.plainAttrs_list PySem.F.slot_list_extend PySem.F.type_list_extend mt_extend (pv 2) (pa_cons (pe_ifExp (pt_cmpR op_eq (pv 4) (pe_op op_sub (pe_callB call_len_seq (by rfl) T.len bLEN (pa_cons (pv 3) pa_nil)) pe_int) (nomark _)) (pe_lst (pa_cons (pv 5) pa_nil)) (pe_lst (pa_cons (pv 5) (pa_cons (pe_lst (pa_cons pe_str pa_nil)) pa_nil)))) pa_nil)))))
      (pss_one (ps_expr (pe_bm PySem.F.plainAttrs_list PySem.F.slot_list_append PySem.F.type_list_append mt_append (pv 2) (pa_cons (pe_lst (pa_cons pe_str pa_nil)) pa_nil)))))) (pss_one (ps_expr (pe_bm PySem.F.plainAttrs_list PySem.F.slot_list_append PySem.F.type_list_append mt_append (pv 1) (pa_cons (pe_ifExp (pt_cmpR op_isN (pv 3) pe_non (nomark _)) pe_str (pe_callTy (SkE.call_str_str.or call_str_int) (by rfl) T.str bSTR (pa_cons (pv 3) pa_nil))) pa_nil))))))))))
      (pss_one (ps_ret (pe_join pe_str (pv 1))))))))), ?_⟩
    refine ⟨v, rfl, v, d, rfl, hd, gd, fun H1 s1 => ⟨_, rfl, ?_⟩⟩
    cases hv : isValue d with
    | false =>
      refine iteT ⟨_, _, rfl, fun dd nd => ?_⟩
      exact qe hv _ dd (chg s1 (s1.free nd)) (s1.free nd) upd_same
    | true =>
      have hvd := ((isValue_iff d).mp hv).1
      have hw := wt_sz d
      have hg := gd.sz
      refine iteF ⟨Nat.zero_le _, fun F nF => ⟨v, rfl, (by show 1 ≤ sizeLine; decide), fun L nL => ⟨_, _, rfl, ?_⟩⟩⟩
      have hFL : F ≠ L := ne_of_none upd_same nL
      have nF0 : H F = none := s1.free nF
      have nL0 : H L = none := s1.free ((same_upd nF).free nL)
      refine ⟨fun m σ H' => ∃ (o3 o4 o5 : Option V) (vs : List V) (st : List Itm) (ys : List (List Nat)), σ = [some v, some (.ref F), some (.ref L), o3, o4, o5] ∧ Same H H' ∧ H' F = some (.lst (ys.map mkS)) ∧ H' L = some (.lst vs.reverse) ∧ Stk H H' L F vs st ∧
        ys.flatten ++ rend st = vt d ∧ m = wtS st ∧ ys.length + wtS st ≤ 400000, ⟨_, none, none, none, [v], [.d d], [], rfl, ?_, ?_, upd_same, .cons ⟨hd, hvd⟩ .nil, ?_, rfl, ?_⟩, ?_⟩
      · exact (s1.trans (same_upd nF)).trans (same_upd nL)
      · rw [upd_ne hFL, upd_same]; rfl
      · show [] ++ (vt d ++ []) = vt d
        exact List.append_nil _
      · show 0 + (wt d + 0) ≤ 400000
        omega
      · rintro m σ H1 ⟨o3, o4, o5, vs, st, ys, rfl, s1, eF, eL, hS, hR, rfl, hz⟩
        refine ⟨_, rfl, Nat.zero_le _, fun N nN => ⟨L, N, _, rfl, rfl, SqL.of ((same_upd nN) _ _ eL), SqL.of upd_same, _, rfl, ?_⟩⟩
        have sN : Same H1 (upd H1 N (.lst [])) := same_upd nN
        cases hS with
        | nil =>
          refine iteF ⟨⟨_, rfl⟩, _, rfl, _, F, ys.map S, rfl, rfl, .inl (SqL.of (by rw [List.map_map]; exact sN _ _ eF)), ?_, ?_⟩
          · have hvl := vt_len hvd
            rw [← hR] at hvl
            have e1 : ((ys.map S).map (·.length)).sum = ys.flatten.length := by
              rw [List.map_map, List.length_flatten]
              congr 1
            rw [e1]
            have e2 : ("" : Str).length = 0 := rfl
            rw [e2, Nat.mul_zero]
            have e3 : (ys.flatten ++ rend []).length = ys.flatten.length := congrArg List.length (List.append_nil ys.flatten)
            omega
          · rw [join_nil]
            have e : ys.flatten = vt d := by
              rw [← hR]
              show _ = ys.flatten ++ []
              rw [List.append_nil]
            rw [e]
            exact q hv _ (s1.trans sN)
        | @cons x i vs' st' hx hS' =>
          have hne : (x :: vs').reverse.isEmpty = false := by
            rw [List.reverse_cons]
            cases vs'.reverse <;> rfl
          rw [hne]
          refine iteT ⟨fun σ' H' => ∃ m', m' < wtS (i :: st') ∧ ∃ (o3 o4 o5 : Option V) (vs : List V) (st : List Itm) (ys : List (List Nat)), σ' = [some v, some (.ref F), some (.ref L), o3, o4, o5] ∧ Same H H' ∧ H' F = some (.lst (ys.map mkS)) ∧ H' L = some (.lst vs.reverse) ∧ Stk H H' L F vs st ∧
            ys.flatten ++ rend st = vt d ∧ m' = wtS st ∧ ys.length + wtS st ≤ 400000, fun _ _ h => h, ?_⟩
          -- here = left.pop()
          have eLN : (upd H1 N (.lst [])) L = some (.lst (vs'.reverse ++ [x])) := by
            rw [← List.reverse_cons]
            exact sN _ _ eL
          refine ⟨_, rfl, .inl ⟨rfl, _, SqL.of eLN⟩, L, _, x, rfl, rfl, eLN, by simp, ?_⟩
          rw [List.dropLast_concat]
          have s2 : Same H (upd (upd H1 N (.lst [])) L (.lst vs'.reverse)) := chg (s1.trans sN) nL0
          have eF2 : (upd (upd H1 N (.lst [])) L (.lst vs'.reverse)) F = some (.lst (ys.map mkS)) := by rw [upd_ne hFL]; exact sN _ _ eF
          have hS2 : Stk H (upd (upd H1 N (.lst [])) L (.lst vs'.reverse)) L F vs' st' := Stk.setL (Stk.same hS' sN)
          have eL2 : (upd (upd H1 N (.lst [])) L (.lst vs'.reverse)) L = some (.lst vs'.reverse) := upd_same
          have hxN : ItAt H (upd (upd H1 N (.lst [])) L (.lst vs'.reverse)) L F x i := by
            have : Stk H (upd (upd H1 N (.lst [])) L (.lst vs'.reverse)) L F [x] [i] := Stk.setL (Stk.same (Paired.cons hx Paired.nil) sN)
            cases this
            assumption
          generalize upd (upd H1 N (.lst [])) L (.lst vs'.reverse) = H2 at s2 eF2 hS2 eL2 hxN
          have hys : ys.length + (i.wt + wtS st') ≤ 400000 := hz
          have hyl : ys.length < sizeLine := Nat.lt_of_le_of_lt (Nat.le_trans (Nat.le_add_right _ _) hys) (by decide)
          have hwp : 1 ≤ i.wt := by
            cases i with
            | t l => exact Nat.le_refl _
            | d e => exact wt_pos e
          -- a written text is put down
          have down : ∀ (l : List Nat) (H3 : Hp), i.text = l → Same H2 H3 → ∃ m', m' < wtS (i :: st') ∧ ∃ (o3' o4' o5' : Option V) (vs : List V) (st : List Itm) (zs : List (List Nat)), ([some v, some (.ref F), some (.ref L), some x, o4, o5] : L2.St) = [some v, some (.ref F), some (.ref L), o3', o4', o5'] ∧
              Same H (upd H3 F (.lst (ys.map mkS ++ [mkS l]))) ∧ (upd H3 F (.lst (ys.map mkS ++ [mkS l]))) F = some (.lst (zs.map mkS)) ∧ (upd H3 F (.lst (ys.map mkS ++ [mkS l]))) L = some (.lst vs.reverse) ∧ Stk H (upd H3 F (.lst (ys.map mkS ++ [mkS l]))) L F vs st ∧ zs.flatten ++ rend st = vt d ∧ m' = wtS st ∧ zs.length + wtS st ≤ 400000 := fun l H3 hl s3 => by
            refine ⟨wtS st', by rw [wtS]; omega, _, _, _, vs', st', ys ++ [l], rfl, chg (s2.trans s3) nF0, by rw [upd_same, List.map_append]; rfl, by rw [upd_ne hFL.symm]; exact s3 _ _ eL2, Stk.setF (Stk.same hS2 s3), ?_, rfl, ?_⟩
            · rw [← hR, List.flatten_append, ← hl]
              show _ = ys.flatten ++ (i.text ++ rend st')
              simp
            · rw [List.length_append, List.length_singleton]; omega
          cases i with
          | t l =>
            obtain ⟨a, rfl, ea, na, aL, aF⟩ := hxN
            refine ⟨_, rfl, .ref a, .ty "list", _, _, _, rfl, .ty _, .base (.lst ea), kit_ty (show kitB "list" "list" = some true by decide +kernel), _, rfl, iteT ?_⟩
            refine ⟨_, rfl, .inl ⟨rfl, _, SqL.of eF2⟩, _, rfl, a, _, 0, mkS l, rfl, rfl, SqL.of ea, atI_nat (j := 0) rfl, F, _, _, rfl, rfl, eF2, by rw [List.length_map]; exact hyl, ?_⟩
            exact down l H2 rfl (Same.refl _)
          | d e =>
            obtain ⟨hde, hve⟩ := hxN
            have hde2 := hde.same s2
            refine ⟨_, rfl, x, .ty "list", _, _, _, rfl, .ty _, hde2.ty, isListB e, _, rfl, ?_⟩
            have nl : isLst e = false := by
              cases e <;> first | rfl | (rw [vdD] at hve; cases hve)
            rw [nl]
            refine iteF ⟨_, rfl, x, .ty "tuple", _, _, _, rfl, .ty _, hde2.ty, isTuple e, _, rfl, ?_⟩
            cases hde with
            | @tup a xs es h1 h2 =>
              have hlen : xs.length = es.length := h2.length
              have hvA : vdA es = true := by rw [vdD] at hve; exact hve
              have hwt : wtS (.d (.tuple es) :: st') = 3 + wtA es + wtS st' := by rw [wtS]; show wt (.tuple es) + _ = _; rw [wt]
              have hys' : ys.length + (3 + wtA es + wtS st') ≤ 400000 := by rw [← hwt]; exact hys
              have stkLen : ∀ {H' : Hp} {us : List V} {k : Nat}, k ≤ es.length → Stk H H' L F us (inner es k ++ (.t [41] :: st')) → us.length ≤ 400000 - 2 := fun {H' us k} hk hs => by
                have h1 := Paired.length hs
                have h2 := len_wtS (inner es k ++ (.t [41] :: st'))
                have h3 : wtS (inner es k ++ (.t [41] :: st')) = wtS (inner es k) + (1 + wtS st') := by rw [wtS_app, wtS]; rfl
                have h4 := inner_wt es k hk
                rw [h1]
                omega
              refine iteT ⟨_, rfl, .inl ⟨rfl, _, SqL.of eL2⟩, (by show 1 ≤ sizeLine; decide), fun B nB => ⟨L, _, _, rfl, rfl, (same_upd nB) _ _ eL2, ?_, ?_⟩⟩
              · have h1 := Paired.length hS2
                have h2 := len_wtS st'
                rw [List.length_reverse, h1]
                exact Nat.lt_of_le_of_lt (m := 400000) (by omega) (by decide)
              have eB : V.str (")" : Str) = mkS [41] := congrArg V.str (TL.ext_tl brClose)
              have sB : Same H2 (upd H2 B (.lst [.str ")"])) := same_upd nB
              have s3 : Same H (upd (upd H2 B (.lst [.str ")"])) L (.lst (vs'.reverse ++ [.ref B]))) := chg (s2.trans sB) nL0
              have BL : B ≠ L := (ne_of_none eL2 nB).symm
              have BF : B ≠ F := (ne_of_none eF2 nB).symm
              refine ⟨_, rfl, a, xs, rfl, SqT.of (s3 _ _ h1), for_it RE.walk_enumRev (fun k σ H' => ∃ (o4 o5 : Option V) (us : List V), σ = [some v, some (.ref F), some (.ref L), some (.ref a), o4, o5] ∧ Same H H' ∧ H' F = some (.lst (ys.map mkS)) ∧ H' L = some (.lst us.reverse) ∧
                Stk H H' L F us (inner es k ++ (.t [41] :: st'))) ?_ (fun k σ H' _ ⟨_, _, _, _, s', _⟩ => SqT.of (s' _ _ h1)) ?_ ?_⟩
              · refine ⟨o4, o5, .ref B :: vs', rfl, s3, by rw [upd_ne hFL]; exact sB _ _ eF2, by rw [upd_same, List.reverse_cons], ?_⟩
                rw [inner_zero]
                exact .cons ⟨B, rfl, by rw [upd_ne BL, upd_same, eB], s2.free nB, BL, BF⟩ (Stk.setL (Stk.same hS2 sB))
              · rintro k y σ H4 H5 hk ⟨o4, o5, us, rfl, s4, eF4, eL4, hS4⟩ ⟨T1, x1, x2, rfl, nT, rfl, hx1, hx2⟩
                have ex1 : x1 = .int (k : Nat) := (Option.some.inj hx1).symm
                subst ex1
                have sT : Same H4 (upd H4 T1 (.tup [.int (k : Nat), x2])) := same_upd nT
                obtain ⟨e2, he2, hd2⟩ := h2.get hx2
                rw [hlen] at he2 hk
                have hve2 : vdD e2 = true := vdA_mem hvA (List.mem_of_getElem? he2)
                have hus := stkLen (Nat.le_of_lt hk) hS4
                refine ⟨T1, [.int (k : Nat), x2], rfl, .inl (.inl upd_same), rfl, _, [x2], rfl, x2, [], rfl, rfl, ?_⟩
                refine ⟨_, rfl, .inl ⟨rfl, _, SqL.of (sT _ _ eL4)⟩, _, rfl, _, rfl, a, xs, rfl, .inr (SqT.of (sT _ _ (s4 _ _ h1))), _, _, rfl, rfl, rfl, _, rfl, ?_⟩
                have s5 := s4.trans sT
                by_cases hkl : k + 1 = es.length
                · rw [show decide (V.int ((k : Nat) : Int) = V.int ((xs.length : Int) - 1)) = true from decide_eq_true (by rw [hlen]; congr 1; omega)]
                  refine iteT ⟨_, rfl, (by show 1 ≤ sizeLine; decide), fun Z nZ => ⟨L, Z, us.reverse, [x2], rfl, rfl, (same_upd nZ) _ _ (sT _ _ eL4), upd_same, ?_, ?_⟩⟩
                  · rw [List.length_reverse]
                    exact Nat.le_trans (m := 400000) (by show us.length + 1 ≤ _; omega) (by decide)
                  · have sZ := same_upd (o := .lst [x2]) nZ
                    refine ⟨_, _, x2 :: us, rfl, chg (s5.trans sZ) nL0, by rw [upd_ne hFL]; exact sZ _ _ (sT _ _ eF4), by rw [upd_same, List.reverse_cons], ?_⟩
                    rw [inner_last hkl he2]
                    exact Paired.cons (F := ItAt H _ L F) (b := Itm.d e2) ⟨hd2, hve2⟩ (Stk.setL (Stk.same hS4 (sT.trans sZ)))
                · rw [show decide (V.int ((k : Nat) : Int) = V.int ((xs.length : Int) - 1)) = false from decide_eq_false (by rw [hlen]; intro z; injection z with z; omega)]
                  refine iteF ⟨_, rfl, (by show 1 ≤ sizeLine; decide), fun Bk nBk => ⟨(by show 2 ≤ sizeLine; decide), fun Z nZ => ⟨L, Z, us.reverse, [x2, .ref Bk], rfl, rfl, (same_upd nZ) _ _ ((same_upd nBk) _ _ (sT _ _ eL4)), upd_same, ?_, ?_⟩⟩⟩
                  · rw [List.length_reverse]
                    exact Nat.le_trans (m := 400000) (by show us.length + 2 ≤ _; omega) (by decide)
                  · have sBk := same_upd (o := .lst [.str " "]) nBk
                    have sZ := same_upd (o := .lst [x2, .ref Bk]) nZ
                    have eBk : V.str (" " : Str) = mkS [32] := congrArg V.str (TL.ext_tl blank)
                    have BkL : Bk ≠ L := (ne_of_none (sT _ _ eL4) nBk).symm
                    have BkF : Bk ≠ F := (ne_of_none (sT _ _ eF4) nBk).symm
                    refine ⟨_, _, .ref Bk :: x2 :: us, rfl, chg (s5.trans (sBk.trans sZ)) nL0, by rw [upd_ne hFL]; exact sZ _ _ (sBk _ _ (sT _ _ eF4)), by rw [upd_same, List.reverse_cons, List.reverse_cons, List.append_assoc]; rfl, ?_⟩
                    rw [inner_more (by omega) he2]
                    refine Paired.cons (F := ItAt H _ L F) (b := Itm.t [32]) ⟨Bk, rfl, by rw [upd_ne BkL]; rw [← eBk]; exact sZ _ _ upd_same, s5.free nBk, BkL, BkF⟩ ?_
                    exact Paired.cons (F := ItAt H _ L F) (b := Itm.d e2) ⟨hd2, hve2⟩ (Stk.setL (Stk.same hS4 (sT.trans (sBk.trans sZ))))
              · rintro σ H4 ⟨o4, o5, us, rfl, s4, eF4, eL4, hS4⟩
                rw [hlen] at hS4
                have hus := stkLen (Nat.le_refl _) hS4
                refine ⟨_, rfl, .inl ⟨rfl, _, SqL.of eL4⟩, (by show 1 ≤ sizeLine; decide), fun B2 nB2 => ⟨L, _, _, rfl, rfl, (same_upd nB2) _ _ eL4, ?_, ?_⟩⟩
                · rw [List.length_reverse]
                  exact Nat.lt_of_le_of_lt (m := 400000) (by omega) (by decide)
                · have eB2 : V.str ("(" : Str) = mkS [40] := congrArg V.str (TL.ext_tl brOpen)
                  have sB2 := same_upd (o := .lst [.str "("]) nB2
                  have B2L : B2 ≠ L := (ne_of_none eL4 nB2).symm
                  have B2F : B2 ≠ F := (ne_of_none eF4 nB2).symm
                  have hin := inner_wt es es.length (Nat.le_refl _)
                  have hst : wtS (.t [40] :: (inner es es.length ++ (.t [41] :: st'))) = 1 + (wtS (inner es es.length) + (1 + wtS st')) := by rw [wtS, wtS_app, wtS]; rfl
                  refine ⟨wtS (.t [40] :: (inner es es.length ++ (.t [41] :: st'))), by rw [hst, hwt]; omega, _, _, _, .ref B2 :: us, .t [40] :: (inner es es.length ++ (.t [41] :: st')), ys, rfl, chg (s4.trans sB2) nL0, by rw [upd_ne hFL]; exact sB2 _ _ eF4, by rw [upd_same, List.reverse_cons], ?_, ?_, rfl, by rw [hst]; omega⟩
                  · refine Paired.cons (F := ItAt H _ L F) (b := Itm.t [40]) ⟨B2, rfl, by rw [upd_ne B2L, upd_same, eB2], s4.free nB2, B2L, B2F⟩ (Stk.setL (Stk.same hS4 sB2))
                  · rw [← hR]
                    show ys.flatten ++ ([40] ++ rend (inner es es.length ++ (.t [41] :: st'))) = ys.flatten ++ (vt (.tuple es) ++ rend st')
                    rw [rend_app, inner_done, vt]
                    show ys.flatten ++ ([40] ++ (vtIn es ++ ([41] ++ rend st'))) = _
                    simp
            | lst h1 h2 => rw [vdD] at hve; cases hve
            | bl b => rw [vdD] at hve; cases hve
            | non =>
              refine iteF ⟨_, rfl, .inl ⟨rfl, _, SqL.of eF2⟩, _, rfl, rfl, _, rfl, iteT ⟨F, _, _, rfl, rfl, eF2, by rw [List.length_map]; exact hyl, ?_⟩⟩
              exact down [45] H2 rfl (Same.refl _)
            | str y =>
              refine iteF ⟨_, rfl, .inl ⟨rfl, _, SqL.of eF2⟩, _, rfl, rfl, _, rfl, iteF ⟨_, rfl, .inl ⟨y, rfl, F, _, _, rfl, rfl, eF2, by rw [List.length_map]; exact hyl, ?_⟩⟩⟩
              exact down y.cps.toList H2 rfl (Same.refl _)
            | int n =>
              have hlog : n.natAbs.log2 < 1920 := small_log (by
                rw [vdD] at hve
                unfold isFig at hve
                simp only [Bool.and_eq_true, decide_eq_true_eq] at hve
                omega)
              refine iteF ⟨_, rfl, .inl ⟨rfl, _, SqL.of eF2⟩, _, rfl, rfl, _, rfl, iteF ⟨_, rfl, .inr ⟨n, rfl, hlog, F, _, _, rfl, rfl, eF2, by rw [List.length_map]; exact hyl, ?_⟩⟩⟩
              exact down (intT n) H2 rfl (Same.refl _)
end
end K8

set_option maxRecDepth 100000
set_option maxHeartbeats 4000000
namespace M8
open PySem
/-- what read_value gives -/
def readV (X : List Nat) : Option PyData := match valueOf (pieces X) with
  | [] => none
  | d :: _ => if isValue d = true then (if vt d = X then some d else none) else none
def rdV : PyData → Option PyData
  | .str x => readV x.cps.toList
  | _ => none
theorem pieces_len : ∀ X : List Nat, (pieces X).length ≤ X.length ∧ (∀ p ∈ pieces X, p.length ≤ X.length ∧ p ≠ []) ∧ ((pieces X).map List.length).sum = X.length
  | [] => by simp [pieces]
  | [c] => by
    rw [pieces.eq_def]
    simp only
    split <;> simp [pieces]
  | c :: d :: r => by
    obtain ⟨h1, h2, h3⟩ := pieces_len (d :: r)
    have one : ([c] :: pieces (d :: r)).length ≤ (c :: d :: r).length ∧ (∀ p ∈ [c] :: pieces (d :: r), p.length ≤ (c :: d :: r).length ∧ p ≠ []) ∧ (([c] :: pieces (d :: r)).map List.length).sum = (c :: d :: r).length := by
      refine ⟨Nat.succ_le_succ h1, fun p hp => ?_, ?_⟩
      · rcases List.mem_cons.mp hp with rfl | hp
        · exact ⟨by simp, by simp⟩
        · exact ⟨Nat.le_succ_of_le (h2 p hp).1, (h2 p hp).2⟩
      · rw [List.map_cons, List.sum_cons, h3]
        simp
        omega
    rw [pieces.eq_def]
    simp only
    split
    · exact one
    · split
      · exact one
      · cases hq : pieces (d :: r) with
        | nil =>
          rw [hq] at h3
          simp at h3
        | cons p ps =>
          rw [hq] at h1 h2 h3
          refine ⟨Nat.le_succ_of_le h1, fun q hp => ?_, ?_⟩
          · rcases List.mem_cons.mp hp with rfl | hp
            · exact ⟨Nat.succ_le_succ (h2 p List.mem_cons_self).1, List.cons_ne_nil _ _⟩
            · exact ⟨Nat.le_succ_of_le (h2 q (List.mem_cons_of_mem _ hp)).1, (h2 q (List.mem_cons_of_mem _ hp)).2⟩
          · rw [List.map_cons, List.sum_cons] at h3 ⊢
            rw [List.length_cons, List.length_cons (a := c)]
            omega
end M8

set_option maxRecDepth 100000
set_option maxHeartbeats 4000000
namespace K8
open PySem PySem.Spec PyProof.Rows L2 LamX KX M8
/-! ### what value_of makes is not great -/
theorem word_lay {l : List Nat} (h : word l = true) : PyData.strOk ⟨l.toArray⟩ = true := by
  unfold word at h
  rw [Bool.and_eq_true] at h
  unfold PyData.strOk
  rw [← Array.all_toList]
  apply List.all_eq_true.mpr
  intro c hc
  have := List.all_eq_true.mp h.2 c hc
  unfold small at this
  simp only [Bool.and_eq_true, decide_eq_true_eq] at this ⊢
  omega
theorem plain_small (x : List Nat) (h : x ≠ []) : szA (plainV x) ≤ 2 * x.length ∧ PyData.canLayAll0 (plainV x) = true := by
  have h1 : 1 ≤ x.length := by
    cases x with
    | nil => exact absurd rfl h
    | cons c r => rw [List.length_cons]; omega
  unfold plainV
  split
  · exact ⟨by rw [szA, szA, sz]; omega, rfl⟩
  · split
    · rename_i hw
      refine ⟨?_, ?_⟩
      · rw [szA, szA, sz]
        show 1 + x.toArray.size + 0 ≤ _
        rw [List.size_toArray]
        omega
      · rw [PyData.canLayAll0, PyData.canLay0, word_lay hw]
        rfl
    · split
      · split
        · exact ⟨by rw [szA, szA, sz]; omega, rfl⟩
        · exact ⟨Nat.zero_le _, rfl⟩
      · exact ⟨Nat.zero_le _, rfl⟩
def szO : List (List PyData) → Nat
  | [] => 0
  | l :: r => 1 + szA l + szO r
def layO : List (List PyData) → Bool
  | [] => true
  | l :: r => PyData.canLayAll0 l && layO r
theorem put_small {done one : List PyData} {opens : List (List PyData)} {st' : VSt} (h : putOne done one opens = some st') : szO st'.1 + szA st'.2 ≤ szO opens + szA one + szA done ∧ (PyData.canLayAll0 done = true → PyData.canLayAll0 one = true → layO opens = true → layO st'.1 = true ∧ PyData.canLayAll0 st'.2 = true) := by
  cases one with
  | nil => cases h
  | cons o os =>
    cases opens with
    | nil =>
      have h : (if done.isEmpty = true then some (([], o :: os) : VSt) else none) = some st' := h
      by_cases hd : done.isEmpty = true
      · rw [if_pos hd] at h
        cases h
        refine ⟨?_, fun _ b _ => ⟨rfl, b⟩⟩
        show 0 + szA (o :: os) ≤ 0 + szA (o :: os) + szA done
        omega
      · rw [if_neg hd] at h
        cases h
    | cons l rest =>
      cases h
      refine ⟨?_, fun a b c => ⟨?_, a⟩⟩
      · show 1 + szA (l ++ [o]) + szO rest + szA done ≤ 1 + szA l + szO rest + szA (o :: os) + szA done
        rw [szA_app, szA, szA, szA]
        omega
      · rw [layO, Bool.and_eq_true] at c
        rw [PyData.canLayAll0, Bool.and_eq_true] at b
        show (PyData.canLayAll0 (l ++ [o]) && layO rest) = true
        rw [layA_app, c.1, c.2, PyData.canLayAll0, b.1]
        rfl
theorem step_small {p : List Nat} {st st' : VSt} (hp : p ≠ []) (h : vstep p st = some st') : szO st'.1 + szA st'.2 ≤ szO st.1 + szA st.2 + 2 * p.length ∧ (layO st.1 = true → PyData.canLayAll0 st.2 = true → layO st'.1 = true ∧ PyData.canLayAll0 st'.2 = true) := by
  have h1 : 1 ≤ p.length := by
    cases p with
    | nil => exact absurd rfl hp
    | cons c r => rw [List.length_cons]; omega
  unfold vstep at h
  split at h
  · cases h
    refine ⟨?_, fun a b => ⟨a, b⟩⟩
    show 1 + szA [] + szO st.1 + szA st.2 ≤ _
    rw [szA]
    omega
  · split at h
    · cases h
      exact ⟨by omega, fun a b => ⟨a, b⟩⟩
    · cases ho : oneOf p st with
      | none => rw [ho] at h; cases h
      | some r =>
        obtain ⟨one, opens⟩ := r
        rw [ho] at h
        obtain ⟨q1, q2⟩ := put_small h
        unfold oneOf at ho
        split at ho
        · obtain ⟨op, dn⟩ := st
          cases op with
          | nil => cases ho
          | cons l rest =>
            cases ho
            refine ⟨?_, fun a b => ?_⟩
            · have e : szO (l :: opens) = 1 + szA l + szO opens := rfl
              have e2 : szA [PyData.tuple l] = 1 + szA l + 0 := by rw [szA, sz, szA]
              rw [e2] at q1
              show _ ≤ szO (l :: opens) + szA dn + _
              rw [e]
              have q1' : szO st'.1 + szA st'.2 ≤ szO opens + (1 + szA l + 0) + szA dn := q1
              omega
            · have a' : (PyData.canLayAll0 l && layO opens) = true := a
              rw [Bool.and_eq_true] at a'
              exact q2 b (by rw [PyData.canLayAll0, PyData.canLay0, a'.1]; rfl) a'.2
        · cases ho
          obtain ⟨z1, z2⟩ := plain_small p hp
          exact ⟨by omega, fun a b => q2 b z2 a⟩
theorem run_small : ∀ (ps : List (List Nat)) (st : VSt), (∀ p ∈ ps, p ≠ []) → szA (vrun ps st) ≤ szO st.1 + szA st.2 + 2 * (ps.map List.length).sum ∧ (layO st.1 = true → PyData.canLayAll0 st.2 = true → PyData.canLayAll0 (vrun ps st) = true)
  | [], st, _ => by
    unfold vrun
    split
    · exact ⟨by omega, fun _ b => b⟩
    · exact ⟨Nat.zero_le _, fun _ _ => rfl⟩
  | p :: ps, st, h => by
    unfold vrun
    cases hs : vstep p st with
    | none => exact ⟨Nat.zero_le _, fun _ _ => rfl⟩
    | some st' =>
      obtain ⟨a, b⟩ := step_small (h p List.mem_cons_self) hs
      obtain ⟨c, d⟩ := run_small ps st' fun q hq => h q (List.mem_cons_of_mem _ hq)
      rw [List.map_cons, List.sum_cons]
      exact ⟨by show szA (vrun ps st') ≤ _; omega, fun x y => d (b x y).1 (b x y).2⟩
theorem valueOf_good {X : List Nat} {d : PyData} {r : List PyData} (hX : X.length ≤ 50000) (h : valueOf (pieces X) = d :: r) : Good d := by
  obtain ⟨_, h2, h3⟩ := pieces_len X
  obtain ⟨a, b⟩ := run_small (pieces X) ([], []) fun p hp => (h2 p hp).2
  have h' : vrun (pieces X) ([], []) = d :: r := h
  rw [h'] at a b
  have b := b rfl rfl
  rw [PyData.canLayAll0, Bool.and_eq_true] at b
  rw [szA, h3] at a
  have a' : sz d + szA r ≤ 0 + 0 + 2 * X.length := a
  exact ⟨b.1, by omega⟩
section
variable {P : Program} {w : World} {K : PySem.W.Frag} {mg : Str → Option Value} {base : Heap}
theorem scRV : FnScope ["text", "found"] ["text"] (defScope sReadValue) := ⟨rfl, rfl, rfl, by decide +kernel, rfl, by decide +kernel, by decide +kernel⟩
def spReadValue (C : Addr) : Sp := fun vs H Q E => ∃ v d, vs = [v] ∧ Dt H v d ∧ strLen d ≤ 50000 ∧ (∀ d', rdV d = some d' → ∀ H' u, Same H H' → Dt H' u d' → Q u H') ∧ (rdV d = none → NoTextOut C H E)
theorem ok_readValue {f C : Addr} {fd : FuncData} (F : FunD K "read_value" "read_value" (defArgs sReadValue) (defBody sReadValue) (defScope sReadValue) [] [] f fd) (T : Nm mg) (TN : NT P K mg C)
    (Gvalue_of : GF P w K mg base 3 "value_of" ["pieces"] [] spValueOf) (Gpieces_of : GF P w K mg base 3 "pieces_of" ["text"] [] spPieces) (Gis_value : GF P w K mg base 3 "is_value" ["thing"] [] spIsValue) (Gvalue_text : GF P w K mg base 3 "value_text" ["value"] [] (spValueText C)) :
    FnG P w K mg base 4 f fd ["text"] (spReadValue C) := by
  refine okG F scRV (fun vs H Q E h => ?_) (fun cdv A outer s H vs Q E hg hr h => ?_)
  · obtain ⟨v, d, rfl, _⟩ := h
    rfl
  · obtain ⟨v, d, rfl, hd, hz, q, qe⟩ := h
    have hu : (A.deeper (envOfC "read_value" (defScope sReadValue) s.heap.objs.size f cdv)).units + 64 < cLine := by
      have h1 := hr.units
      have h2 : cLine = 9900 := rfl
      omega
    refine ⟨_, ((pss_cons (ps_if (pt_not (pt_val (pe_callB call_isi (by rfl) T.isinstance bISI (pa_cons (pv 0) (pa_cons (pe_bltn (v := .ty "str") (by rfl) T.str bSTR rfl) pa_nil))))) (pss_one (ps_raise rfl (takes_of rfl rfl rfl rfl) (pmk_NT TN hr (by rfl) (pa_cons pe_str (pa_cons pe_int pa_nil))))) pss_nil)
      (pss_cons (ps_set (i := 1) scRV.nd rfl (Or.inl rfl) (pe_gf Gvalue_of hg hr passL (pa_cons (pe_gf Gpieces_of hg hr passL (pa_cons (pv 0) pa_nil)) pa_nil)))
      (pss_cons (ps_if (PW.pt (pw_or (pt_cmpR (op_eqNil hu) (pv 1) (pe_lst pa_nil) (nomark _)) (pw_or (pt_not (pt_val (pe_gf Gis_value hg hr passL (pa_cons (pe_ix ix_list (pv 1) pe_int (fun _ _ => rfl)) pa_nil)))) (pw_or1 (pt_cmpR op_ne (pe_gf Gvalue_text hg hr passL (pa_cons (pe_ix ix_list (pv 1) pe_int (fun _ _ => rfl)) pa_nil)) (pv 0) (nomark _)))))) (pss_one (ps_raise rfl (takes_of rfl rfl rfl rfl) (pmk_NT TN hr (by rfl) (pa_cons pe_str (pa_cons pe_int pa_nil))))) pss_nil)
      (pss_one (ps_ret (pe_ix ix_list (pv 1) pe_int (fun _ _ => rfl)))))))), ?_⟩
    refine ⟨v, rfl, v, .ty "str", _, _, _, rfl, .ty _, hd.ty, isStr d, _, rfl, ?_⟩
    have out : ∀ H1, Same H H1 → rdV d = none → ∀ dd, H1 dd = none → E (.ref C) (some dd) (upd H1 dd (.xd [("line", .int 0)])) := fun H1 s1 e dd nd => qe e _ dd (chg s1 (s1.free nd)) (s1.free nd) upd_same
    cases hd with
    | str x =>
      refine iteF ⟨_, rfl, x, rfl, Nat.le_trans hz (by decide), fun H1 p s1 np ep => ?_⟩
      obtain ⟨l1, l2, l3⟩ := pieces_len x.cps.toList
      have hxl : x.cps.toList.length ≤ 50000 := by rw [← lenL]; exact hz
      refine ⟨p, pieces x.cps.toList, rfl, ep, Nat.le_trans l1 (Nat.le_trans hxl (by decide)), fun l hl => Nat.le_trans (l2 l hl).1 (Nat.le_trans hxl (by decide)), fun H2 p2 vs s2 np2 ep2 hD => ?_⟩
      have s12 := s1.trans s2
      have er : rdV (.str x) = readV x.cps.toList := rfl
      -- if found == [] ..
      refine ⟨_, rfl, Nat.zero_le _, fun N nN => ⟨p2, N, vs, rfl, rfl, SqL.of ((same_upd nN) _ _ ep2), SqL.of upd_same, _, rfl, ?_⟩⟩
      have sN : Same H2 (upd H2 N (.lst [])) := same_upd nN
      cases hval : valueOf (pieces x.cps.toList) with
      | nil =>
        rw [hval] at hD
        cases hD
        exact iteT (iteT ⟨_, _, rfl, fun dd nd => out _ (s12.trans sN) (by rw [er]; unfold readV; rw [hval]) dd nd⟩)
      | cons d0 r =>
        rw [hval] at hD
        cases hD with
        | @cons v0 vs0 _ _ h0 hr0 =>
          have g0 := valueOf_good hxl hval
          have h0N := h0.same sN
          refine iteF ⟨_, rfl, p2, _, 0, v0, rfl, rfl, SqL.of (sN _ _ ep2), atI_nat (j := 0) rfl, v0, d0, rfl, h0N, g0, fun H3 s3 => ⟨_, rfl, ?_⟩⟩
          have s13 := (s12.trans sN).trans s3
          cases hiv : isValue d0 with
          | false => exact iteT (iteT ⟨_, _, rfl, fun dd nd => out _ s13 (by rw [er]; unfold readV; rw [hval]; exact if_neg (by rw [hiv]; exact Bool.false_ne_true)) dd nd⟩)
          | true =>
            refine iteF ⟨_, rfl, p2, _, 0, v0, rfl, rfl, SqL.of (s3 _ _ (sN _ _ ep2)), atI_nat (j := 0) rfl, v0, d0, rfl, h0N.same s3, g0, fun _ H4 s4 => ?_, fun z => by rw [hiv] at z; cases z⟩
            have s14 := s13.trans s4
            refine ⟨_, rfl, rfl, _, rfl, ?_⟩
            by_cases he : vt d0 = x.cps.toList
            · have e1 : VT d0 = x := TL.ext_tl he
              rw [e1, decide_eq_true rfl]
              refine iteF ⟨_, rfl, p2, _, 0, v0, rfl, rfl, SqL.of (s4 _ _ (s3 _ _ (sN _ _ ep2))), atI_nat (j := 0) rfl, ?_⟩
              exact q d0 (by rw [er]; unfold readV; rw [hval]; exact (if_pos hiv).trans (if_pos he)) _ _ s14 ((h0N.same s3).same s4)
            · have e1 : ¬ V.str (VT d0) = V.str x := fun z => he (by rw [← V.str.inj z]; rfl)
              rw [decide_eq_false e1]
              exact iteT ⟨_, _, rfl, fun dd nd => out _ s14 (by rw [er]; unfold readV; rw [hval]; exact (if_pos hiv).trans (if_neg he)) dd nd⟩
    | non => exact iteT ⟨_, _, rfl, fun dd nd => out _ (Same.refl _) rfl dd nd⟩
    | bl b => exact iteT ⟨_, _, rfl, fun dd nd => out _ (Same.refl _) rfl dd nd⟩
    | int i => exact iteT ⟨_, _, rfl, fun dd nd => out _ (Same.refl _) rfl dd nd⟩
    | lst h1 h2 => exact iteT ⟨_, _, rfl, fun dd nd => out _ (Same.refl _) rfl dd nd⟩
    | tup h1 h2 => exact iteT ⟨_, _, rfl, fun dd nd => out _ (Same.refl _) rfl dd nd⟩
end
end K8

set_option maxRecDepth 100000
set_option maxHeartbeats 4000000
namespace K8
open PySem PySem.Spec PyProof.Rows L2 LamX KX M8
section
variable {X : Cx}
def tNo : TE := fun _ _ _ => False
/-- an expression that is never reached -/
theorem pe_no {e : Expr} : PE X e tNo := ⟨fun _ _ _ _ _ _ h => h.elim⟩
/-- repr of data -/
def rRepr (K : PySem.W.Frag) : List V → Hp → VK → Prop := fun xs H Q => ∃ x d, xs = [x] ∧ Dp K H x d ∧ d.showable = true ∧ d.hasDict = false ∧ d.depth ≤ 60 ∧ d.shown.length ≤ sizeLine ∧ Q (.str d.shown) H
theorem call_reprD (hg : X.A.guards = some []) (hu : X.A.units + 64 < cLine) : CallR X (.builtin "repr") (rRepr X.K) := by
  intro pins s σ H xs us Q I r h
  obtain ⟨x, d, rfl, hd, hs, hn, hdp, hz, q⟩ := h
  obtain ⟨u, rfl, ru⟩ := Vals.one r
  obtain ⟨as, hr⟩ := Dp.reads I d x u hd ru
  have hrf : ∀ a, u = .ref a → wpAny (model X.prog X.w) X.A (call (.builtin "repr") [u]) (EP X pins σ Q) X.xe s := fun a ea => by
    subst ea
    exact repr_of_reads' hr hs (PyData.noDict_hsm hn) hg (by omega) (fun _ _ z => z) (fun h' t tk k => ⟨.str d.shown, H, I.kept (t' := tk) k, ⟨_, rfl⟩, q⟩) hz
  cases hd with
  | non =>
    cases ru
    exact PySem.P.repr_of_none ⟨.str (PyData.shown .none), H, I.tok _, ⟨_, rfl⟩, q⟩
  | bl b =>
    cases ru
    exact PySem.P.repr_of_bool ⟨.str (PyData.shown (.bool b)), H, I.tok _, by cases b <;> exact ⟨_, rfl⟩, q⟩
  | int i =>
    obtain ⟨t, rfl⟩ := ru
    exact PySem.P.repr_of_int (by rw [PyData.showable] at hs; exact of_decide_eq_true hs) ⟨.str (PyData.shown (.int i)), H, I.tok _, ⟨_, rfl⟩, q⟩
  | str y =>
    obtain ⟨t, rfl⟩ := ru
    exact PySem.P.repr_of_str ⟨.str (PyData.shown (.str y)), H, I.tok _, ⟨_, rfl⟩, q⟩ hz
  | lst h1 h2 => exact hrf _ ru
  | tup h1 h2 => exact hrf _ ru
end
def nest : Nat → PyData → PyData
  | 0, d => d
  | n + 1, d => .tuple [nest n d]
theorem FnG.none {P : Program} {w : World} {K : PySem.W.Frag} {mg : Str → Option Value} {base : Heap} {k : Nat} {f : Addr} {fd : FuncData} {ps : List Str} {sp : Sp} (h : ∀ vs H Q E, ¬ sp vs H Q E) : FnG P w K mg base k f fd ps sp :=
  ⟨fun vs H Q E q => absurd q (h _ _ _ _), fun _ _ _ _ _ _ vs Q E _ _ _ _ _ q => absurd q (h _ _ _ _)⟩
section
variable {P : Program} {w : World} {K : PySem.W.Frag} {mg : Str → Option Value} {base : Heap}
theorem scNested : FnScope ["many", "one", "lap"] ["many", "one"] (defScope sNested) := ⟨rfl, rfl, rfl, by decide +kernel, rfl, by decide +kernel, by decide +kernel⟩
def spNested : Sp := fun vs H Q _ => ∃ (n : Nat) (v : V) (d : PyData), vs = [.int n, v] ∧ n ≤ 1000 ∧ Dt H v d ∧ ∀ H' u, Same H H' → Dt H' u (nest n d) → Q u H'
theorem ok_nested {f : Addr} {fd : FuncData} (F : FunD K "_law_nested" "_law_nested" (defArgs sNested) (defBody sNested) (defScope sNested) [] [] f fd) (T : Nm mg) : FnG P w K mg base 1 f fd ["many", "one"] spNested := by
  refine okG F scNested (fun vs H Q E h => ?_) (fun cdv A outer s H vs Q E hg hr h => ?_)
  · obtain ⟨n, v, d, rfl, _⟩ := h
    rfl
  · obtain ⟨n, v, d, rfl, hn, hd, q⟩ := h
    refine ⟨_, PSs.nox ((pss_cons (ps_for PassesOwn.never rfl (pi_range1 (by rfl) T.range (pa_cons (pv 0) pa_nil)) (pg_name (i := 2) scNested.nd rfl (Or.inl rfl))
      (pss_one (ps_set (i := 1) scNested.nd rfl (Or.inl rfl) (pe_tup (pa_cons (pv 1) pa_nil)))))
      (pss_one (ps_ret (pv 1))))), ?_⟩
    refine ⟨_, rfl, n, rfl, by omega, by omega, for_range (n := n) (fun i σ H' => ∃ u o3, σ = [some (.int n), some u, o3] ∧ Same H H' ∧ Dt H' u (nest i d)) ⟨v, none, rfl, Same.refl _, hd⟩ ?_ ?_⟩
    · rintro i σ H1 hi ⟨u, o3, rfl, s1, hu⟩
      refine ⟨u, rfl, (by show 1 ≤ sizeLine; decide), fun T1 nT => ?_⟩
      have sT : Same H1 (upd H1 T1 (.tup [u])) := same_upd nT
      exact ⟨.ref T1, _, rfl, s1.trans sT, .tup upd_same (.cons (hu.same sT) .nil)⟩
    · rintro σ H1 ⟨u, o3, rfl, s1, hu⟩
      exact ⟨u, rfl, q _ _ s1 hu⟩
/-! ### the law's own text of a value -/
theorem scLVT : FnScope ["value", "one"] ["value"] (defScope sLVT) := ⟨rfl, rfl, rfl, by decide +kernel, rfl, by decide +kernel, by decide +kernel⟩
def spLVT (n : Nat) : Sp := fun vs H Q _ => ∃ v d, vs = [v] ∧ Dt H v d ∧ vdD d = true ∧ sz d ≤ 100000 ∧ PyData.depth d < n ∧ ∀ H', Same H H' → Q (.str (VT d)) H'
theorem depth_mem {d : PyData} : ∀ {ds : List PyData}, d ∈ ds → PyData.depth d ≤ PyData.depthAll ds
  | e :: ds, h => by
    rw [PyData.depthAll]
    rcases List.mem_cons.mp h with rfl | h
    · omega
    · have := depth_mem h
      omega
theorem join_in : ∀ ds : List PyData, TL.joinL [32] (ds.map vt) = vtIn ds
  | [] => rfl
  | [d] => by
    rw [vtIn, vtTl]
    simp [TL.joinL]
  | d :: e :: r => by
    have ih := join_in (e :: r)
    rw [vtIn, vtTl]
    show vt d ++ ([32] ++ TL.joinL [32] ((e :: r).map vt)) = _
    rw [ih, vtIn]
    rfl
theorem law_text (ds : List PyData) : ("(" : Str) ++ Txt.join (" " : Str) (ds.map VT) ++ (")" : Str) = VT (.tuple ds) := by
  apply TL.ext_tl
  rw [TL.tl_append, TL.tl_append, TL.join_eq, TL.tl_join, List.map_map]
  have e1 : TL.tl ("(" : Str) = [40] := brOpen
  have e2 : TL.tl (")" : Str) = [41] := brClose
  have e3 : TL.tl (" " : Str) = [32] := blank
  have e4 : (TL.tl ∘ VT) = vt := by funext d; rfl
  rw [e1, e2, e3, e4, join_in]
  show _ = vt (.tuple ds)
  rw [vt]
  rfl
theorem ok_lvt {f : Addr} {fd : FuncData} (F : FunD K "_law_value_text" "_law_value_text" (defArgs sLVT) (defBody sLVT) (defScope sLVT) [] [] f fd) (T : Nm mg) (gm : mg "_law_value_text" = some (.ref f)) (gk : PySem.W.keepIn K (.ref f) = true) (gb : Binds K fd ["value"] []) :
    ∀ n, FnG P w K mg base n f fd ["value"] (spLVT n)
  | 0 => FnG.none fun vs H Q E h => by
    obtain ⟨v, d, _, _, _, _, h, _⟩ := h
    exact absurd h (Nat.not_lt_zero _)
  | n + 1 => by
    have G_law_value_text : GF P w K mg base n "_law_value_text" ["value"] [] (spLVT n) := ⟨f, fd, [], gm, gk, gb, .nil, ok_lvt F T gm gk gb n⟩
    refine okG F scLVT (fun vs H Q E h => ?_) (fun cdv A outer s H vs Q E hg hr h => ?_)
    · obtain ⟨v, d, rfl, _⟩ := h
      rfl
    · obtain ⟨v, d, rfl, hd, hv, hz, hn, q⟩ := h
      refine ⟨_, PSs.nox ((pss_cons (ps_if (pt_val (pe_callB call_isi (by rfl) T.isinstance bISI (pa_cons (pv 0) (pa_cons (pe_bltn (v := .ty "tuple") (by rfl) T.tuple bTUPLE rfl) pa_nil)))) (pss_one (ps_ret (pe_op op_add_str (pe_op op_add_str pe_str (pe_join pe_str (pe_lc (own := [("one", 1)]) (g := gName 1) (tt := tYes) rfl scLVT.nd (pi_tup (pv 0)) (blkOk_by (N := ["value", "one"]) (sc := defScope sLVT) (by decide +kernel)) (fun _ _ _ _ _ => pg_name (i := 1) scLVT.nd rfl (Or.inl rfl)) (fun _ _ _ _ _ => pts_nil) (fun _ _ _ _ _ => (pe_gf G_law_value_text hg hr passL (pa_cons (pv 1) pa_nil)))))) pe_str))) pss_nil)
      (pss_one (ps_ret (pe_ifExp (pt_cmpR op_isN (pv 0) pe_non (nomark _)) pe_str (pe_callTy (SkE.call_str_str.or call_str_int) (by rfl) T.str bSTR (pa_cons (pv 0) pa_nil))))))), ?_⟩
      refine ⟨v, rfl, v, .ty "tuple", _, _, _, rfl, .ty _, hd.ty, isTuple d, _, rfl, ?_⟩
      cases hd with
      | @tup a xs ds h1 h2 =>
        have hvA : vdA ds = true := by rw [vdD] at hv; exact hv
        have hlen := h2.length
        have hzA : szA ds ≤ 100000 := by rw [sz] at hz; omega
        have hll := len_szA ds
        rw [PyData.depth] at hn
        refine iteT ⟨⟨_, rfl⟩, _, rfl, a, rfl, ⟨_, SqT.of h1⟩, fun D nD => ?_⟩
        refine lc_it walk_tup (fun k H' => Same H H' ∧ H' D = some (.lst ((ds.take k).map fun d => V.str (VT d)))) ⟨same_upd nD, by rw [upd_same]; rfl⟩ (fun k H' _ h => SqT.of (h.1 _ _ h1)) ?_ ?_
        · rintro k x H1 H2 hk ⟨s1, e1⟩ ⟨rfl, hx⟩
          obtain ⟨e, he, hxe⟩ := h2.get hx
          have hem := List.mem_of_getElem? he
          have hde := depth_mem hem
          refine ⟨rfl, x, rfl, x, e, rfl, hxe.same s1, vdA_mem hvA hem, Nat.le_trans (szA_mem hem) hzA, by omega, fun H3 s3 => ⟨_, s3 _ _ e1, ?_, chg (s1.trans s3) nD, ?_⟩⟩
          · rw [List.length_map, List.length_take]
            exact lt_line (by omega)
          · rw [upd_same, List.take_add_one, he, List.map_append]
            rfl
        · rintro H1 ⟨s1, e1⟩
          rw [hlen, List.take_length] at e1
          have hvl := vtIn_len hvA
          refine ⟨_, D, ds.map VT, rfl, rfl, .inl (SqL.of (by rw [List.map_map]; exact e1)), ?_, ?_⟩
          · have e2 : ((ds.map VT).map (·.length)).sum + (ds.map VT).length * (" " : Str).length ≤ 16777216 := by
              have h3 : ∀ ds : List PyData, vdA ds = true → ((ds.map VT).map (·.length)).sum ≤ 16 * szA ds := by
                intro ds
                induction ds with
                | nil => intro _; exact Nat.zero_le _
                | cons d ds ih =>
                  intro h
                  rw [vdA, Bool.and_eq_true] at h
                  have h4 := vt_len h.1
                  have h5 := ih h.2
                  rw [List.map_cons, List.map_cons, List.sum_cons, szA]
                  have h6 : (VT d).length = (vt d).length := List.size_toArray
                  omega
              have h4 := h3 ds hvA
              have h5 : (" " : Str).length = 1 := rfl
              rw [List.length_map, h5]
              omega
            exact e2
          · have hjl : (Txt.join (" " : Str) (ds.map VT)).length = (vtIn ds).length := by
              rw [lenL]
              show (TL.tl (Txt.join (" " : Str) (ds.map VT))).length = _
              rw [TL.join_eq, TL.tl_join, List.map_map]
              have e3 : TL.tl (" " : Str) = [32] := blank
              have e4 : (TL.tl ∘ VT) = vt := by funext d; rfl
              rw [e3, e4, join_in]
            have hl1 : ("(" : Str).length = 1 := rfl
            have hl2 : (")" : Str).length = 1 := rfl
            have hl3 : ∀ x y : Str, (x ++ y).length = x.length + y.length := fun x y => by
              rw [lenL, lenL, lenL]
              show (TL.tl (x ++ y)).length = _
              rw [TL.tl_append, List.length_append]
            refine ⟨_, _, rfl, rfl, ?_, _, _, rfl, rfl, ?_, ?_⟩
            · rw [hjl, hl1]
              exact Nat.le_trans (m := 2000000) (by omega) (by decide)
            · rw [hl3, hjl, hl1, hl2]
              exact Nat.le_trans (m := 2000000) (by omega) (by decide)
            · show Q (.str (("(" : Str) ++ Txt.join (" " : Str) (ds.map VT) ++ (")" : Str))) H1
              rw [law_text]
              exact q _ s1
      | lst h1 h2 => rw [vdD] at hv; cases hv
      | bl b => rw [vdD] at hv; cases hv
      | non => exact iteF ⟨_, rfl, rfl, _, rfl, iteT (q _ (Same.refl _))⟩
      | str y => exact iteF ⟨_, rfl, rfl, _, rfl, iteF ⟨_, rfl, .inl ⟨y, rfl, q _ (Same.refl _)⟩⟩⟩
      | int i =>
        have hlog : i.natAbs.log2 < 1920 := small_log (by
          rw [vdD] at hv
          unfold isFig at hv
          simp only [Bool.and_eq_true, decide_eq_true_eq] at hv
          omega)
        exact iteF ⟨_, rfl, rfl, _, rfl, iteF ⟨_, rfl, .inr ⟨i, rfl, hlog, q _ (Same.refl _)⟩⟩⟩
end
end K8

set_option maxRecDepth 100000
set_option maxHeartbeats 4000000
namespace K8
open PySem PySem.Spec PyProof.Rows L2 LamX KX M8
theorem anyLT {K : PySem.W.Frag} (d : PyData) : PySem.W.kitAny K (.type (tyD d)) [.type "list", .type "tuple"] = some (isLst d || isTup d) :=
  kitAny_cons (isListB d) (fun e => kitAny_cons (isTuple d) (fun e2 => by rw [e, e2]; exact kitAny_nil) (fun e2 => by rw [e2, Bool.or_true])) (fun e => by rw [e]; rfl)
def isScal : PyData → Bool
  | .int _ => true
  | .bool _ => true
  | .str _ => true
  | _ => false
theorem anyIS {K : PySem.W.Frag} (d : PyData) : PySem.W.kitAny K (.type (tyD d)) [.type "int", .type "str"] = some (isScal d) := by
  cases d <;> first
    | exact kitAny_cons (isInt _) (fun e => Bool.noConfusion e) (fun _ => rfl)
    | exact kitAny_cons (isInt _) (fun _ => kitAny_cons (isStr _) (fun e => Bool.noConfusion e) (fun _ => rfl)) (fun e => Bool.noConfusion e)
    | exact kitAny_cons (isInt _) (fun _ => kitAny_cons (isStr _) (fun _ => kitAny_nil) (fun e => Bool.noConfusion e)) (fun e => Bool.noConfusion e)
def isDct : PyData → Bool
  | .dict _ => true
  | _ => false
theorem isDictB {K : PySem.W.Frag} (d : PyData) : PySem.W.kitOne K (.type (tyD d)) (.type "dict") = some (isDct d) :=
  match d with
  | .none => kit_ty (show kitB "NoneType" "dict" = some false by decide +kernel)
  | .bool _ => kit_ty (show kitB "bool" "dict" = some false by decide +kernel)
  | .int _ => kit_ty (show kitB "int" "dict" = some false by decide +kernel)
  | .str _ => kit_ty (show kitB "str" "dict" = some false by decide +kernel)
  | .list _ => kit_ty (show kitB "list" "dict" = some false by decide +kernel)
  | .tuple _ => kit_ty (show kitB "tuple" "dict" = some false by decide +kernel)
  | .dict _ => kit_ty (show kitB "dict" "dict" = some true by decide +kernel)
theorem noLA_mem {d : PyData} : ∀ {ds : List PyData}, noLA ds = true → d ∈ ds → noL d = true
  | e :: ds, h, m => by
    rw [noLA, Bool.and_eq_true] at h
    rcases List.mem_cons.mp m with rfl | m
    · exact h.1
    · exact noLA_mem h.2 m
mutual
theorem eqv_self : ∀ d : PyData, noL d = true → PyData.eqv d d = true
  | .none, _ => rfl
  | .bool b, _ => by rw [PyData.eqv]; simp
  | .int i, _ => by rw [PyData.eqv]; simp
  | .str x, _ => by rw [PyData.eqv]; simp
  | .tuple ds, h => by rw [PyData.eqv]; exact eqvA_self ds (by rw [noL] at h; exact h)
  | .list ds, h => by rw [noL] at h; cases h
  | .dict kvs, h => by rw [noL] at h; cases h
theorem eqvA_self : ∀ ds : List PyData, noLA ds = true → PyData.eqvAll ds ds = true
  | [], _ => rfl
  | d :: ds, h => by
    rw [noLA, Bool.and_eq_true] at h
    rw [PyData.eqvAll, eqv_self d h.1, eqvA_self ds h.2]
    rfl
end
/-- what _law_is may be asked of -/
structure Sane (d : PyData) : Prop where
  nl : noL d = true
  lay : PyData.canLay0 d = true
  dep : PyData.depth d ≤ 59
  shw : PyData.showable d = true
  i13 : PyData.intsShort 13 d = true
  wgt : PyData.weight d ≤ 2 ^ 20
theorem Sane.shown {d : PyData} (h : Sane d) : d.shown.length ≤ sizeLine := by
  have h1 : PyData.layable0 d = true := by
    unfold PyData.layable0
    have := h.dep
    simp only [Bool.and_eq_true, decide_eq_true_eq]
    exact ⟨⟨h.lay, by omega⟩, h.wgt⟩
  exact Nat.le_trans (shown_le13 h1 h.i13) (by decide)
section
variable {P : Program} {w : World} {K : PySem.W.Frag} {mg : Str → Option Value} {base : Heap}
theorem scPlain : FnScope ["value", "one"] ["value"] (defScope sPlain) := ⟨rfl, rfl, rfl, by decide +kernel, rfl, by decide +kernel, by decide +kernel⟩
def spPlain (n : Nat) : Sp := fun vs H Q _ => ∃ v d, vs = [v] ∧ Dt H v d ∧ noL d = true ∧ PyData.depth d < n ∧ ∀ H', Same H H' → Q (.bl true) H'
theorem ok_plain {f : Addr} {fd : FuncData} (F : FunD K "_law_plain" "_law_plain" (defArgs sPlain) (defBody sPlain) (defScope sPlain) [] [] f fd) (T : Nm mg) (gm : mg "_law_plain" = some (.ref f)) (gk : PySem.W.keepIn K (.ref f) = true) (gb : Binds K fd ["value"] []) :
    ∀ n, FnG P w K mg base n f fd ["value"] (spPlain n)
  | 0 => FnG.none fun vs H Q E h => by
    obtain ⟨v, d, _, _, _, h, _⟩ := h
    exact absurd h (Nat.not_lt_zero _)
  | n + 1 => by
    have G_law_plain : GF P w K mg base n "_law_plain" ["value"] [] (spPlain n) := ⟨f, fd, [], gm, gk, gb, .nil, ok_plain F T gm gk gb n⟩
    refine okG F scPlain (fun vs H Q E h => ?_) (fun cdv A outer s H vs Q E hg hr h => ?_)
    · obtain ⟨v, d, rfl, _⟩ := h
      rfl
    · obtain ⟨v, d, rfl, hd, hv, hn, q⟩ := h
      have hu : (A.deeper (envOfC "_law_plain" (defScope sPlain) s.heap.objs.size f cdv)).units + 64 < cLine := hr.units
      refine ⟨_, PSs.nox ((pss_cons (ps_if (pt_val (pe_callB call_isiT (by rfl) T.isinstance bISI (pa_cons (pv 0) (pa_cons (pe_tup (pa_cons (pe_bltn (v := .ty "list") (by rfl) T.list bLIST rfl) (pa_cons (pe_bltn (v := .ty "tuple") (by rfl) T.tuple bTUPLE rfl) pa_nil))) pa_nil)))) (pss_one (ps_ret (pe_cmpR (op_eqNil hu) (pe_lc (own := [("one", 1)]) (g := gName 1) (tt := _) rfl scPlain.nd (pi_tup (pv 0)) (blkOk_by (N := ["value", "one"]) (sc := defScope sPlain) (by decide +kernel)) (fun _ _ _ _ _ => pg_name (i := 1) scPlain.nd rfl (Or.inl rfl)) (fun _ _ _ _ _ => pts_one (pt_not (pt_val (pe_gf G_law_plain hg hr passL (pa_cons (pv 1) pa_nil))))) (fun _ _ _ _ _ => pe_int)) (pe_lst pa_nil) (nomark _)))) pss_nil)
      (pss_cons (ps_if (pt_val (pe_callB call_isi (by rfl) T.isinstance bISI (pa_cons (pv 0) (pa_cons (pe_bltn (v := .ty "dict") (by rfl) T.dict bDICT rfl) pa_nil)))) (pss_one (ps_ret (pe_gf G_law_plain hg hr passL (pa_cons (pe_callTy call_list_of (by rfl) T.list bLIST (pa_cons pe_no pa_nil)) pa_nil)))) pss_nil)
      (pss_one (ps_ret (pe_or (pe_cmpR op_isN (pv 0) pe_non (nomark _)) (pe_one (pe_callB call_isiT (by rfl) T.isinstance bISI (pa_cons (pv 0) (pa_cons (pe_tup (pa_cons (pe_bltn (v := .ty "int") (by rfl) T.int bINT rfl) (pa_cons (pe_bltn (v := .ty "str") (by rfl) T.str bSTR rfl) pa_nil))) pa_nil)))))))))), ?_⟩
      refine ⟨v, rfl, (by show 2 ≤ sizeLine; decide), fun T1 nT => ?_⟩
      have sT : Same H (upd H T1 (.tup [.ty "list", .ty "tuple"])) := same_upd nT
      have hd1 := hd.same sT
      refine ⟨v, T1, _, _, _, _, rfl, upd_same, .cons (.ty _) (.cons (.ty _) .nil), hd1.ty, anyLT d, _, rfl, ?_⟩
      cases hd with
      | @tup a xs ds h1 h2 =>
        have hvA : noLA ds = true := by rw [noL] at hv; exact hv
        rw [PyData.depth] at hn
        refine iteT ⟨_, rfl, a, rfl, ⟨_, SqT.of (sT _ _ h1)⟩, fun D nD => ?_⟩
        refine lc_it walk_tup (fun k H' => Same H H' ∧ H' D = some (.lst [])) ⟨sT.trans (same_upd nD), by rw [upd_same]⟩ (fun k H' _ h => SqT.of (h.1 _ _ h1)) ?_ ?_
        · rintro k x H1 H2 hk ⟨s1, e1⟩ ⟨rfl, hx⟩
          obtain ⟨e, he, hxe⟩ := h2.get hx
          have hem := List.mem_of_getElem? he
          have hde := depth_mem hem
          exact ⟨rfl, x, rfl, x, e, rfl, hxe.same s1, noLA_mem hvA hem, by omega, fun H3 s3 => ⟨_, rfl, iteF ⟨s1.trans s3, s3 _ _ e1⟩⟩⟩
        · rintro H1 ⟨s1, e1⟩
          refine ⟨Nat.zero_le _, fun N nN => ⟨D, N, [], rfl, rfl, SqL.of ((same_upd nN) _ _ e1), SqL.of upd_same, ?_⟩⟩
          exact q _ (s1.trans (same_upd nN))
      | lst h1 h2 => rw [noL] at hv; cases hv
      | non => exact iteF ⟨_, rfl, _, .ty "dict", _, _, _, rfl, .ty _, hd1.ty, isDictB _, _, rfl, iteF ⟨_, rfl, rfl, _, rfl, iteT (q _ sT)⟩⟩
      | bl b => exact iteF ⟨_, rfl, _, .ty "dict", _, _, _, rfl, .ty _, hd1.ty, isDictB _, _, rfl, iteF ⟨_, rfl, rfl, _, rfl, iteF ⟨_, rfl, (by show 2 ≤ sizeLine; decide), fun T2 nT2 => ⟨_, T2, _, _, _, _, rfl, upd_same, .cons (.ty _) (.cons (.ty _) .nil), (hd1.same (same_upd nT2)).ty, anyIS _, q _ (sT.trans (same_upd nT2))⟩⟩⟩⟩
      | str y => exact iteF ⟨_, rfl, _, .ty "dict", _, _, _, rfl, .ty _, hd1.ty, isDictB _, _, rfl, iteF ⟨_, rfl, rfl, _, rfl, iteF ⟨_, rfl, (by show 2 ≤ sizeLine; decide), fun T2 nT2 => ⟨_, T2, _, _, _, _, rfl, upd_same, .cons (.ty _) (.cons (.ty _) .nil), (hd1.same (same_upd nT2)).ty, anyIS _, q _ (sT.trans (same_upd nT2))⟩⟩⟩⟩
      | int i => exact iteF ⟨_, rfl, _, .ty "dict", _, _, _, rfl, .ty _, hd1.ty, isDictB _, _, rfl, iteF ⟨_, rfl, rfl, _, rfl, iteF ⟨_, rfl, (by show 2 ≤ sizeLine; decide), fun T2 nT2 => ⟨_, T2, _, _, _, _, rfl, upd_same, .cons (.ty _) (.cons (.ty _) .nil), (hd1.same (same_upd nT2)).ty, anyIS _, q _ (sT.trans (same_upd nT2))⟩⟩⟩⟩
theorem scIs : FnScope ["found", "due"] ["found", "due"] (defScope sIs) := ⟨rfl, rfl, rfl, by decide +kernel, rfl, by decide +kernel, by decide +kernel⟩
def spIs : Sp := fun vs H Q _ => ∃ u v d, vs = [u, v] ∧ Dt H u d ∧ Dt H v d ∧ Sane d ∧ ∀ H', Same H H' → Q (.bl true) H'
theorem ok_is {k : Nat} {f : Addr} {fd : FuncData} (F : FunD K "_law_is" "_law_is" (defArgs sIs) (defBody sIs) (defScope sIs) [] [] f fd) (T : Nm mg) (hk : 60 ≤ k) (G_law_plain : GF P w K mg base k "_law_plain" ["value"] [] (spPlain 60)) : FnG P w K mg base (k + 1) f fd ["found", "due"] spIs := by
  refine okG F scIs (fun vs H Q E h => ?_) (fun cdv A outer s H vs Q E hg hr h => ?_)
  · obtain ⟨u, v, d, rfl, _⟩ := h
    rfl
  · obtain ⟨u, v, d, rfl, hu1, hv1, sn, q⟩ := h
    have hu : (A.deeper (envOfC "_law_is" (defScope sIs) s.heap.objs.size f cdv)).units + 64 < cLine := hr.units
    refine ⟨_, PSs.nox ((pss_one (ps_ret (pe_and (pe_gf G_law_plain hg hr passL (pa_cons (pv 0) pa_nil)) (pe_and (pe_cmpR (op_eqM hu) (pv 0) (pv 1) (nomark _)) (pe_and (pe_cmpR (op_eqM hu) (pv 1) (pv 0) (nomark _)) (pe_one (pe_cmpR op_eq (pe_callB (call_reprD hg hu) (by rfl) T.repr bREPR (pa_cons (pv 0) pa_nil)) (pe_callB (call_reprD hg hu) (by rfl) T.repr bREPR (pa_cons (pv 1) pa_nil)) (nomark _))))))))), ?_⟩
    have hn := PyData.hasDict_of_canLay d sn.lay
    have hdp := sn.dep
    refine ⟨u, rfl, u, d, rfl, hu1, sn.nl, by omega, fun H1 s1 => ⟨_, rfl, iteT ?_⟩⟩
    have a1 := (hu1.same s1).dp (K := K)
    have b1 := (hv1.same s1).dp (K := K)
    refine ⟨u, rfl, v, rfl, d, d, a1, b1, sn.lay, sn.lay, by omega, _, rfl, ?_⟩
    rw [eqv_self d sn.nl]
    refine iteT ⟨v, rfl, u, rfl, d, d, b1, a1, sn.lay, sn.lay, by omega, _, rfl, ?_⟩
    rw [eqv_self d sn.nl]
    refine iteT ⟨u, rfl, u, d, rfl, a1, sn.shw, hn, by omega, sn.shown, v, rfl, v, d, rfl, b1, sn.shw, hn, by omega, sn.shown, rfl, ?_⟩
    rw [decide_eq_true rfl]
    exact q _ s1
end
end K8

set_option maxRecDepth 100000
set_option maxHeartbeats 4000000
namespace K8
open PySem PySem.Spec PyProof.Rows L2 LamX KX M8
theorem lt1 {n m : Nat} (h : n + 64 < m) : n + 1 < m := by omega
/-! ### the state of the draws -/
def stD (g c : Addr) (r t : Int) : List (Key × V) := [(.inr "great", .ref g), (.inr "cells", .ref c), (.inr "rest", .int r), (.inr "turn", .int t)]
theorem kGC : ¬ ("great" : Str) = "cells" := by decide +kernel
theorem kGR : ¬ ("great" : Str) = "rest" := by decide +kernel
theorem kGT : ¬ ("great" : Str) = "turn" := by decide +kernel
theorem kCR : ¬ ("cells" : Str) = "rest" := by decide +kernel
theorem kCT : ¬ ("cells" : Str) = "turn" := by decide +kernel
theorem kTR : ¬ ("turn" : Str) = "rest" := by decide +kernel
theorem kRT : ¬ ("rest" : Str) = "turn" := by decide +kernel
section
variable {g c : Addr} {r t r' t' : Int}
theorem v_great : valV (stD g c r t) (.inr "great") = some (.ref g) := by simp [valV, stD]
theorem v_cells : valV (stD g c r t) (.inr "cells") = some (.ref c) := by simp [valV, stD, kGC]
theorem v_rest : valV (stD g c r t) (.inr "rest") = some (.int r) := by simp [valV, stD, kGR, kCR]
theorem v_turn : valV (stD g c r t) (.inr "turn") = some (.int t) := by simp [valV, stD, kGT, kCT, kRT]
theorem p_rest : putK (stD g c r t) (.inr "rest") (.int r') = stD g c r' t := by simp [putK, stD, kGR, kCR, kTR]
theorem p_turn : putK (stD g c r t) (.inr "turn") (.int t') = stD g c r t' := by simp [putK, stD, kGT, kCT, kRT]
end
structure StAt (H : Hp) (st g c : Addr) (gs cs : List Int) (r t : Int) : Prop where
  hd : H st = some (.dK (stD g c r t))
  hg : H g = some (.lst (gs.map V.int))
  hc : H c = some (.lst (cs.map V.int))
  gc : g ≠ c
theorem StAt.same {H H' : Hp} {st g c : Addr} {gs cs : List Int} {r t : Int} (h : StAt H st g c gs cs r t) (s : Same H H') : StAt H' st g c gs cs r t := ⟨s _ _ h.hd, s _ _ h.hg, s _ _ h.hc, h.gc⟩
theorem StAt.ng {H : Hp} {st g c : Addr} {gs cs : List Int} {r t : Int} (h : StAt H st g c gs cs r t) : st ≠ g := ne_of h.hd h.hg (by intro z; cases z)
theorem StAt.nc {H : Hp} {st g c : Addr} {gs cs : List Int} {r t : Int} (h : StAt H st g c gs cs r t) : st ≠ c := ne_of h.hd h.hc (by intro z; cases z)
theorem StAt.put {H : Hp} {st g c : Addr} {gs cs : List Int} {r t r' t' : Int} (h : StAt H st g c gs cs r t) : StAt (upd H st (.dK (stD g c r' t'))) st g c gs cs r' t' :=
  ⟨upd_same, by rw [upd_ne h.ng.symm]; exact h.hg, by rw [upd_ne h.nc.symm]; exact h.hc, h.gc⟩
theorem dl (g c : Addr) (r t : Int) : (stD g c r t).length < sizeLine := Nat.lt_of_le_of_lt (m := 4) (Nat.le_refl 4) (by decide)
theorem StAt.gTurn {H : Hp} {st g c : Addr} {gs cs : List Int} {r t : Int} (h : StAt H st g c gs cs r t) : DGet H st (.str "turn") (some (.int t)) := by
  have := DGet.k (k := .inr "turn") h.hd
  rw [v_turn] at this
  exact this
theorem StAt.gRest {H : Hp} {st g c : Addr} {gs cs : List Int} {r t : Int} (h : StAt H st g c gs cs r t) : DGet H st (.str "rest") (some (.int r)) := by
  have := DGet.k (k := .inr "rest") h.hd
  rw [v_rest] at this
  exact this
theorem StAt.gCells {H : Hp} {st g c : Addr} {gs cs : List Int} {r t : Int} (h : StAt H st g c gs cs r t) : DGet H st (.str "cells") (some (.ref c)) := by
  have := DGet.k (k := .inr "cells") h.hd
  rw [v_cells] at this
  exact this
theorem StAt.gGreat {H : Hp} {st g c : Addr} {gs cs : List Int} {r t : Int} (h : StAt H st g c gs cs r t) : DGet H st (.str "great") (some (.ref g)) := by
  have := DGet.k (k := .inr "great") h.hd
  rw [v_great] at this
  exact this
/-- all but what stands at st and g is kept -/
def FrB (st g : Addr) (H H' : Hp) : Prop := ∀ b o, b ≠ st → b ≠ g → H b = some o → H' b = some o
theorem FrB.refl (st g : Addr) (H : Hp) : FrB st g H H := fun _ _ _ _ h => h
theorem FrB.trans {st g : Addr} {H H1 H2 : Hp} (a : FrB st g H H1) (b : FrB st g H1 H2) : FrB st g H H2 := fun c o h1 h2 h => b c o h1 h2 (a c o h1 h2 h)
theorem FrB.same {st g : Addr} {H H1 : Hp} (s : Same H H1) : FrB st g H H1 := fun b o _ _ h => s b o h
theorem FrB.updS {st g : Addr} {H : Hp} {o : HO} : FrB st g H (upd H st o) := fun b o' h1 _ h => by rw [upd_ne h1]; exact h
theorem FrB.updG {st g : Addr} {H : Hp} {o : HO} : FrB st g H (upd H g o) := fun b o' _ h2 h => by rw [upd_ne h2]; exact h
theorem fmod_lt {i : Int} {p : Int} (h : 0 < p) : 0 ≤ i.fmod p ∧ i.fmod p < p := ⟨Int.fmod_nonneg_of_pos _ h, Int.fmod_lt_of_pos _ h⟩
section
variable {P : Program} {w : World} {K : PySem.W.Frag} {mg : Str → Option Value} {base : Heap}
theorem scMixed : FnScope ["state", "turn", "found", "prime", "blend", "cell"] ["state"] (defScope sMixed) := ⟨rfl, rfl, rfl, by decide +kernel, rfl, by decide +kernel, by decide +kernel⟩
def spMixed : Sp := fun vs H Q _ => ∃ (st g c : Addr) (gs cs : List Int) (r t : Int), vs = [.ref st] ∧ StAt H st g c gs cs r t ∧ 0 ≤ t ∧ t < 2 ^ 40 ∧ ∀ H' x, StAt H' st g c gs cs r (t + 1) → FrB st g H H' → Q (.int x) H'
theorem ok_mixed {f : Addr} {fd : FuncData} (F : FunD K "_law_mixed" "_law_mixed" (defArgs sMixed) (defBody sMixed) (defScope sMixed) [] [] f fd) (T : Nm mg) : FnG P w K mg base 1 f fd ["state"] spMixed := by
  refine okG F scMixed (fun vs H Q E h => ?_) (fun cdv A outer s H vs Q E hg hr h => ?_)
  · obtain ⟨st, g, c, gs, cs, r, t, rfl, _⟩ := h
    rfl
  · obtain ⟨st, g, c, gs, cs, r, t, rfl, S0, t0, t1, q⟩ := h
    have hu : (A.deeper (envOfC "_law_mixed" (defScope sMixed) s.heap.objs.size f cdv)).units + 64 < cLine := hr.units
    refine ⟨_, PSs.nox ((pss_cons (ps_par (i := 1) (j := 2) rfl scMixed.nd rfl rfl (by decide) rfl rfl (pa_cons (pe_op op_add (pe_dget (lt1 hu) (pv 0) pe_str (fun _ _ => rfl)) pe_int) (pa_cons pe_int pa_nil)) rfl)
      (pss_cons (ps_dput (lt1 hu) (pv 0) pe_str (pv 1) rfl)
      (pss_cons (ps_for PassesOwn.never rfl (pi_list (pe_lst (pa_cons pe_int (pa_cons pe_int (pa_cons pe_int (pa_cons pe_int pa_nil)))))) (pg_name (i := 3) scMixed.nd rfl (Or.inl rfl))
      (pss_cons (ps_set (i := 4) scMixed.nd rfl (Or.inl rfl) (pe_op op_add (pe_op op_mulW pe_int (pv 1)) (pe_op op_fdivW (pv 3) pe_int)))
      (pss_cons (ps_for PassesOwn.never rfl (pi_list (pe_dget (lt1 hu) (pv 0) pe_str (fun _ _ => rfl))) (pg_name (i := 5) scMixed.nd rfl (Or.inl rfl))
      (pss_one (ps_set (i := 4) scMixed.nd rfl (Or.inl rfl) (pe_op op_modN (pe_callTy call_int1 (by rfl) T.int bINT (pa_cons (pe_op op_add (pe_op op_add (pe_op op_mulW (pv 4) pe_int) (pv 5)) (pv 1)) pa_nil)) (pv 3)))))
      (pss_one (ps_set (i := 2) scMixed.nd rfl (Or.inl rfl) (pe_op op_add (pe_op op_mulW (pv 2) pe_int) (pe_op op_modN (pe_callTy call_int1 (by rfl) T.int bINT (pa_cons (pe_op op_pow (pv 4) pe_int) pa_nil)) (pv 3))))))))
      (pss_one (ps_ret (pv 2))))))), ?_⟩
    refine ⟨_, rfl, st, .int t, rfl, S0.gTurn, _, _, rfl, rfl, _, _, rfl, ?_⟩
    refine ⟨_, rfl, _, rfl, st, _, rfl, DPut.k (k := .inr "turn") S0.hd (dl _ _ _ _), ?_⟩
    rw [p_turn]
    have S1 : StAt (upd H st (.dK (stD g c r (t + 1)))) st g c gs cs r (t + 1) := S0.put
    have f1 : FrB st g H (upd H st (.dK (stD g c r (t + 1)))) := FrB.updS
    generalize upd H st (.dK (stD g c r (t + 1))) = H1 at S1 f1
    refine ⟨(by show 4 ≤ sizeLine; decide), fun L nL => ⟨L, rfl, ⟨_, SqL.of upd_same⟩, ?_⟩⟩
    have sL : Same H1 (upd H1 L (.lst [.int 2147483629, .int 2147483587, .int 2147483579, .int 2147483563])) := same_upd nL
    have S2 := S1.same sL
    refine for_list (K := K) (a := L) (xs := [.int 2147483629, .int 2147483587, .int 2147483579, .int 2147483563]) (fun i σ H' => ∃ (x : Int) (o3 o4 o5 : Option V), σ = [some (.ref st), some (.int (t + 1)), some (.int x), o3, o4, o5] ∧
      Same (upd H1 L (.lst [.int 2147483629, .int 2147483587, .int 2147483579, .int 2147483563])) H' ∧ x.natAbs < 2 ^ (64 * (i + 1))) ⟨0, none, none, none, rfl, Same.refl _, by decide⟩ (fun i σ H' _ ⟨_, _, _, _, _, s', _⟩ => SqL.of (s' _ _ upd_same)) ?_ ?_
    · rintro i p σ H2 hi ⟨x, o3, o4, o5, rfl, s2, hx⟩
      obtain ⟨pr, rfl, hp0, hp1⟩ : ∃ pr : Int, p = .int pr ∧ 0 < pr ∧ pr < 2 ^ 31 := by
        have hm := List.mem_of_getElem? hi
        simp only [List.mem_cons, List.not_mem_nil, or_false] at hm
        rcases hm with rfl | rfl | rfl | rfl <;> exact ⟨_, rfl, by decide, by decide⟩
      have S3 := S2.same s2
      refine ⟨_, rfl, _, _, rfl, rfl, wide_mul (a := 17) (b := 41) (by decide) (by omega) (by decide) (by decide) (by decide), _, rfl, _, _, rfl, rfl, ⟨by decide, by decide +kernel⟩, _, _, rfl, rfl, ?_⟩
      have hb0 : (69621 * (t + 1) + pr / 41).natAbs < 2 ^ 62 := by
        have h1 : 0 ≤ pr / 41 := Int.ediv_nonneg (by omega) (by decide)
        have h2 : pr / 41 ≤ pr := Int.ediv_le_self _ (by omega)
        omega
      -- for cell in state['cells']
      refine ⟨_, rfl, st, .ref c, rfl, S3.gCells, c, rfl, ⟨_, SqL.of S3.hc⟩, for_list (K := K) (a := c) (xs := cs.map V.int) (fun j σ H' => ∃ (b : Int) (o5 : Option V), σ = [some (.ref st), some (.int (t + 1)), some (.int x), some (.int pr), some (.int b), o5] ∧ H' = H2 ∧ b.natAbs < 2 ^ 62)
        ⟨_, o5, rfl, rfl, hb0⟩ (fun j σ H' _ ⟨_, _, _, e, _⟩ => by rw [e]; exact SqL.of S3.hc) ?_ ?_⟩
      · rintro j y σ H3 hj ⟨b, o5, rfl, rfl, hb⟩
        obtain ⟨ce, rfl⟩ : ∃ ce, y = V.int ce := by
          rw [List.getElem?_map] at hj
          cases e : cs[j]? with
          | none => rw [e] at hj; cases hj
          | some u => rw [e] at hj; exact ⟨u, (Option.some.inj hj).symm⟩
        refine ⟨_, rfl, _, _, rfl, rfl, wide_mul (a := 62) (b := 16) hb (by decide) (by decide) (by decide) (by decide), _, rfl, _, _, rfl, rfl, _, rfl, _, _, rfl, rfl, .inl ⟨_, rfl, _, rfl, _, _, rfl, rfl, by omega, ?_⟩⟩
        refine ⟨_, _, rfl, rfl, ?_⟩
        have := fmod_lt (i := b * 48271 + ce + (t + 1)) hp0
        show ((b * 48271 + ce + (t + 1)).fmod pr).natAbs < 2 ^ 62
        omega
      · rintro σ H3 ⟨b, o5, rfl, rfl, hb⟩
        have hi4 : i < 4 := (List.getElem?_eq_some_iff.mp hi).1
        refine ⟨_, rfl, _, _, rfl, rfl, wide_mul (a := 64 * (i + 1)) (b := 32) hx (by decide) (by omega) (by decide) (by omega), _, rfl, _, _, rfl, rfl, ⟨by decide, by decide, by omega⟩, .inl ⟨_, rfl, _, rfl, _, _, rfl, rfl, by omega, _, _, rfl, rfl, ?_⟩⟩
        refine ⟨_, _, _, _, rfl, s2, ?_⟩
        have hm := fmod_lt (i := b ^ (5 : Int).toNat) hp0
        generalize (b ^ (5 : Int).toNat).fmod pr = m at hm
        have h1 : (x * 2147483659).natAbs < 2 ^ (64 * (i + 1)) * 2 ^ 32 := by
          have := wide_lt (a := 64 * (i + 1)) (b := 32) hx (show (2147483659 : Int).natAbs < 2 ^ 32 by decide)
          rw [Nat.pow_add] at this
          exact this
        have h2 : (2 : Nat) ^ (64 * (i + 1 + 1)) = 2 ^ (64 * (i + 1)) * 2 ^ 64 := by rw [← Nat.pow_add]; congr 1
        have h3 : 1 ≤ (2 : Nat) ^ (64 * (i + 1)) := Nat.one_le_two_pow
        show (x * 2147483659 + m).natAbs < 2 ^ (64 * (i + 1 + 1))
        rw [h2]
        generalize (2 : Nat) ^ (64 * (i + 1)) = B at h1 h3
        omega
    · rintro σ H2 ⟨x, o3, o4, o5, rfl, s2, hx⟩
      exact ⟨_, rfl, q H2 x (S2.same s2) (f1.trans (FrB.same (sL.trans s2)))⟩
end
end K8

set_option maxRecDepth 100000
set_option maxHeartbeats 4000000
namespace K8
open PySem PySem.Spec PyProof.Rows L2 LamX KX M8
section
variable {P : Program} {w : World} {K : PySem.W.Frag} {mg : Str → Option Value} {base : Heap}
theorem scDraw : FnScope ["state", "room", "found"] ["state", "room"] (defScope sDraw) := ⟨rfl, rfl, rfl, by decide +kernel, rfl, by decide +kernel, by decide +kernel⟩
/-- a draw's end: the state moved on -/
def Drawn1 (H : Hp) (st g c : Addr) (cs : List Int) (t : Int) (n : Nat) (H' : Hp) : Prop := ∃ gs' r' t', StAt H' st g c gs' cs r' t' ∧ t ≤ t' ∧ t' ≤ t + n ∧ FrB st g H H'
def spDraw : Sp := fun vs H Q _ => ∃ (st g c : Addr) (gs cs : List Int) (r t : Int) (room : Nat), vs = [.ref st, .int room] ∧ StAt H st g c gs cs r t ∧ 0 ≤ t ∧ t < 2 ^ 40 ∧ 0 < room ∧ room < 2 ^ 30 ∧
  ∀ (k : Nat) H', k < room → Drawn1 H st g c cs t 1 H' → Q (.int k) H'
theorem ok_draw {f : Addr} {fd : FuncData} (F : FunD K "_law_draw" "_law_draw" (defArgs sDraw) (defBody sDraw) (defScope sDraw) [] [] f fd) (T : Nm mg) (G_law_mixed : GF P w K mg base 1 "_law_mixed" ["state"] [] spMixed) : FnG P w K mg base 2 f fd ["state", "room"] spDraw := by
  refine okG F scDraw (fun vs H Q E h => ?_) (fun cdv A outer s H vs Q E hg hr h => ?_)
  · obtain ⟨st, g, c, gs, cs, r, t, room, rfl, _⟩ := h
    rfl
  · obtain ⟨st, g, c, gs, cs, r, t, room, rfl, S0, t0, t1, h0, h1, q⟩ := h
    have hu : (A.deeper (envOfC "_law_draw" (defScope sDraw) s.heap.objs.size f cdv)).units + 64 < cLine := hr.units
    refine ⟨_, PSs.nox ((pss_cons (ps_if (pt_cmpR op_eq (pe_dget (lt1 hu) (pv 0) pe_str (fun _ _ => rfl)) pe_int (nomark _)) (pss_one (ps_dput (lt1 hu) (pv 0) pe_str (pe_ifExp (pt_cmpR (op_neNil hu) (pe_dget (lt1 hu) (pv 0) pe_str (fun _ _ => rfl)) (pe_lst pa_nil) (nomark _)) (pe_bm PySem.F.plainAttrs_list PySem.F.slot_list_pop PySem.F.type_list_pop mt_popAt (pe_dget (lt1 hu) (pv 0) pe_str (fun _ _ => rfl)) (pa_cons pe_int pa_nil)) (pe_gf G_law_mixed hg hr passL (pa_cons (pv 0) pa_nil))) rfl)) pss_nil)
      (pss_cons (ps_set (i := 2) scDraw.nd rfl (Or.inl rfl) (pe_op op_modN (pe_callTy call_int1 (by rfl) T.int bINT (pa_cons (pe_dget (lt1 hu) (pv 0) pe_str (fun _ _ => rfl)) pa_nil)) (pv 1)))
      (pss_cons (ps_dput (lt1 hu) (pv 0) pe_str (pe_op op_fdivW (pe_dget (lt1 hu) (pv 0) pe_str (fun _ _ => rfl)) (pv 1)) rfl)
      (pss_one (ps_ret (pv 2))))))), ?_⟩
    have hroom : (0 : Int) < room := by omega
    refine' midF (ι := Hp) (B := fun H1 => ∃ gs1 r1 tt, StAt H1 st g c gs1 cs r1 tt ∧ t ≤ tt ∧ tt ≤ t + 1 ∧ FrB st g H H1) ?main ?rest
    case main =>
      intro hel
      refine ⟨_, rfl, st, .int r, rfl, S0.gRest, rfl, _, rfl, ?_⟩
      by_cases hr0 : ¬ (V.int r = V.int 0)
      · rw [decide_eq_false hr0]
        exact iteF (hel H ⟨gs, r, t, S0, by omega, by omega, FrB.refl _ _ _⟩)
      · have hr0 : V.int r = V.int 0 := Decidable.not_not.mp hr0
        rw [decide_eq_true hr0]
        refine iteT ⟨_, rfl, st, .ref g, rfl, S0.gGreat, Nat.zero_le _, fun N nN => ⟨g, N, _, rfl, rfl, SqL.of ((same_upd nN) _ _ S0.hg), SqL.of upd_same, _, rfl, ?_⟩⟩
        have sN : Same H (upd H N (.lst [])) := same_upd nN
        have S1 := S0.same sN
        cases gs with
        | nil =>
          refine iteF ⟨_, rfl, st, g, c, [], cs, r, t, rfl, S1, t0, t1, fun H2 x S2 f2 => ?_⟩
          refine ⟨_, rfl, st, _, rfl, DPut.k (k := .inr "rest") S2.hd (dl _ _ _ _), ?_⟩
          rw [p_rest]
          exact hel _ ⟨[], x, t + 1, S2.put, by omega, by omega, ((FrB.same sN).trans f2).trans FrB.updS⟩
        | cons y ys =>
          refine iteT ⟨_, rfl, st, .ref g, rfl, S1.gGreat, .inl ⟨rfl, _, SqL.of S1.hg⟩, g, _, 0, 0, V.int y, rfl, rfl, S1.hg, by decide, by decide, seqIndex_of (by decide) (by rw [List.length_map, List.length_cons]; omega), rfl, ?_⟩
          have e1 : ((y :: ys).map V.int).eraseIdx 0 = ys.map V.int := rfl
          rw [e1]
          have S2 : StAt (upd (upd H N (.lst [])) g (.lst (ys.map V.int))) st g c ys cs r t := ⟨by rw [upd_ne S1.ng]; exact S1.hd, upd_same, by rw [upd_ne S1.gc.symm]; exact S1.hc, S1.gc⟩
          refine ⟨_, rfl, st, _, rfl, DPut.k (k := .inr "rest") S2.hd (dl _ _ _ _), ?_⟩
          rw [p_rest]
          exact hel _ ⟨ys, y, t, S2.put, by omega, by omega, ((FrB.same sN).trans FrB.updG).trans FrB.updS⟩
    case rest =>
      rintro H1 ⟨gs1, r1, tt, S1, ht0, ht1, f1⟩
      refine ⟨_, rfl, st, .int r1, rfl, S1.gRest, .inl ⟨r1, rfl, _, rfl, _, _, rfl, rfl, by omega, ?_⟩⟩
      refine ⟨_, rfl, st, .int r1, rfl, S1.gRest, _, rfl, _, _, rfl, rfl, wide_div (b := 31) hroom (by omega) (by decide) (by decide), _, rfl, st, _, rfl, DPut.k (k := .inr "rest") S1.hd (dl _ _ _ _), ?_⟩
      rw [p_rest]
      have hm := fmod_lt (i := r1) hroom
      refine ⟨_, rfl, ?_⟩
      have e : r1.fmod room = ((r1.fmod room).toNat : Int) := by omega
      show Q (V.int (r1.fmod room)) _
      rw [e]
      exact q _ _ (by omega) ⟨gs1, _, tt, S1.put, ht0, by omega, f1.trans FrB.updS⟩
theorem scPick : FnScope ["state", "some"] ["state", "some"] (defScope sPick) := ⟨rfl, rfl, rfl, by decide +kernel, rfl, by decide +kernel, by decide +kernel⟩
def spPick : Sp := fun vs H Q _ => ∃ (st g c l : Addr) (gs cs : List Int) (r t : Int) (xs : List V), vs = [.ref st, .ref l] ∧ StAt H st g c gs cs r t ∧ 0 ≤ t ∧ t < 2 ^ 40 ∧ xs ≠ [] ∧ xs.length ≤ 1000 ∧ H l = some (.lst xs) ∧ l ≠ g ∧
  ∀ x H', x ∈ xs → Drawn1 H st g c cs t 1 H' → Q x H'
theorem ok_pick {f : Addr} {fd : FuncData} (F : FunD K "_law_pick" "_law_pick" (defArgs sPick) (defBody sPick) (defScope sPick) [] [] f fd) (T : Nm mg) (G_law_draw : GF P w K mg base 2 "_law_draw" ["state", "room"] [] spDraw) : FnG P w K mg base 3 f fd ["state", "some"] spPick := by
  refine okG F scPick (fun vs H Q E h => ?_) (fun cdv A outer s H vs Q E hg hr h => ?_)
  · obtain ⟨st, g, c, l, gs, cs, r, t, xs, rfl, _⟩ := h
    rfl
  · obtain ⟨st, g, c, l, gs, cs, r, t, xs, rfl, S0, t0, t1, hne, hz, hl, hlg, q⟩ := h
    refine ⟨_, PSs.nox ((pss_one (ps_ret (pe_ix ix_list (pv 1) (pe_gf G_law_draw hg hr passL (pa_cons (pv 0) (pa_cons (pe_callB call_len_seq (by rfl) T.len bLEN (pa_cons (pv 1) pa_nil)) pa_nil))) (fun _ _ => rfl))))), ?_⟩
    have hpos : 0 < xs.length := List.length_pos_iff.mpr hne
    have hls : l ≠ st := ne_of hl S0.hd (by intro z; cases z)
    refine ⟨_, rfl, _, rfl, _, rfl, l, xs, rfl, .inl (SqL.of hl), st, g, c, gs, cs, r, t, xs.length, rfl, S0, t0, t1, hpos, Nat.lt_of_le_of_lt hz (by decide), fun k H1 hk D => ?_⟩
    obtain ⟨gs', r', t', S1, a, b, f1⟩ := D
    refine ⟨l, xs, k, xs[k], rfl, rfl, SqL.of (f1 _ _ hls hlg hl), atI_nat (List.getElem?_eq_getElem hk), ?_⟩
    exact q _ _ (List.getElem_mem hk) ⟨gs', r', t', S1, a, b, f1⟩
theorem scBegun : FnScope ["script", "great", "cell"] ["script"] (defScope sBegun) := ⟨rfl, rfl, rfl, by decide +kernel, rfl, by decide +kernel, by decide +kernel⟩
def spBegun : Sp := fun vs H Q _ => ∃ (a : Addr) (ns : List Int), vs = [.ref a] ∧ SqL K H a (ns.map V.int) ∧ ns.length ≤ 1000 ∧ ∀ H' st g c gs cs, Same H H' → H st = none → H g = none → H c = none → StAt H' st g c gs cs 0 0 → Q (.ref st) H'
theorem mState (g c : Addr) : mergeK [] (stD g c 0 0) = stD g c 0 0 := by
  have kCG : ¬ ("cells" : Str) = "great" := by decide +kernel
  have kRG : ¬ ("rest" : Str) = "great" := by decide +kernel
  have kRC : ¬ ("rest" : Str) = "cells" := by decide +kernel
  have kTG : ¬ ("turn" : Str) = "great" := by decide +kernel
  have kTC : ¬ ("turn" : Str) = "cells" := by decide +kernel
  simp [mergeK, stD, putK, kGC, kGR, kGT, kCR, kCT, kRT, kTR, kCG, kRG, kRC, kTG, kTC]
theorem ok_begun {f : Addr} {fd : FuncData} (F : FunD K "_law_begun" "_law_begun" (defArgs sBegun) (defBody sBegun) (defScope sBegun) [] [] f fd) (T : Nm mg) : FnG P w K mg base 1 f fd ["script"] (spBegun (K := K)) := by
  refine okG F scBegun (fun vs H Q E h => ?_) (fun cdv A outer s H vs Q E hg hr h => ?_)
  · obtain ⟨a, ns, rfl, _⟩ := h
    rfl
  · obtain ⟨a, ns, rfl, hS, hz, q⟩ := h
    refine ⟨_, PSs.nox ((pss_cons (ps_setLc (i := 1) (own := [("cell", 2)]) (g := gName 2) (tt := _) rfl scBegun.nd rfl rfl (sw_true rfl rfl rfl (by decide +kernel)) (pi_list (pv 0)) (blkOk_by (N := ["script", "great", "cell"]) (sc := defScope sBegun) (by decide +kernel)) (fun _ _ _ _ _ => pg_name (i := 2) scBegun.nd rfl (Or.inl rfl)) (fun _ _ _ _ _ => pts_one (pt_cmpR op_ge (pe_callB call_abs (by rfl) T.abs bABS (pa_cons (pv 2) pa_nil)) (pe_op op_pow pe_int pe_int) (nomark _))) (fun _ _ _ _ _ => (pe_op op_sub (pe_callB call_abs (by rfl) T.abs bABS (pa_cons (pv 2) pa_nil)) (pe_op op_pow pe_int pe_int))))
      (pss_one (ps_ret (pe_disp (pps_cons pe_str (pv 1) (pps_cons pe_str (pe_lc (own := [("cell", 2)]) (g := gName 2) (tt := tYes) rfl scBegun.nd (pi_list (pv 0)) (blkOk_by (N := ["script", "great", "cell"]) (sc := defScope sBegun) (by decide +kernel)) (fun _ _ _ _ _ => pg_name (i := 2) scBegun.nd rfl (Or.inl rfl)) (fun _ _ _ _ _ => pts_nil) (fun _ _ _ _ _ => (pe_callB call_abs (by rfl) T.abs bABS (pa_cons (pv 2) pa_nil)))) (pps_cons pe_str pe_int (pps_cons pe_str pe_int pps_nil)))) (by rfl) rfl (List.cons_ne_nil _ _) (by decide)))))), ?_⟩
    have geti : ∀ {i : Nat} {x : V}, (ns.map V.int)[i]? = some x → ∃ n, ns[i]? = some n ∧ x = .int n := fun {i x} h => by
      rw [List.getElem?_map] at h
      cases e : ns[i]? with
      | none => rw [e] at h; cases h
      | some n => rw [e] at h; exact ⟨n, rfl, (Option.some.inj h).symm⟩
    have habs : ∀ n : Int, (if n < 0 then -n else n) = (n.natAbs : Int) := fun n => by split <;> omega
    refine ⟨_, rfl, a, rfl, ⟨_, hS⟩, fun g ng => ?_⟩
    refine lc_it walk_list (fun i H' => Same H H' ∧ ∃ gs : List Int, gs.length ≤ i ∧ H' g = some (.lst (gs.map V.int))) ⟨same_upd ng, [], Nat.le_refl _, by rw [upd_same]; rfl⟩ (fun i H' _ h => h.1.seq hS) ?_ ?_
    · rintro i x H1 H2 hi ⟨s1, gs, hgl, e1⟩ ⟨rfl, hx⟩
      obtain ⟨n, hn, rfl⟩ := geti hx
      rw [List.length_map] at hi
      refine ⟨rfl, _, rfl, n, rfl, _, _, rfl, rfl, ⟨by decide, by decide, by decide⟩, _, _, rfl, rfl, _, rfl, ite2 (fun hc => ?_) (fun hc => ?_)⟩
      · refine ⟨_, rfl, n, rfl, _, _, rfl, rfl, ⟨by decide, by decide, by decide⟩, _, _, rfl, rfl, _, e1, ?_, chg s1 ng, gs ++ [_], ?_, by rw [upd_same, List.map_append]; rfl⟩
        · rw [List.length_map]
          exact lt_line (by omega)
        · rw [List.length_append, List.length_singleton]; omega
      · exact ⟨s1, gs, Nat.le_succ_of_le hgl, e1⟩
    · rintro H1 ⟨s1, gs, hgl, e1⟩
      intro st nst
      have sst : Same H1 (upd H1 st (.dK [])) := same_upd nst
      refine ⟨_, rfl, _, rfl, a, rfl, ⟨_, (s1.trans sst).seq hS⟩, fun c nc => ?_⟩
      refine lc_it walk_list (fun i H' => Same (upd H1 st (.dK [])) H' ∧ ∃ cs : List Int, cs.length ≤ i ∧ H' c = some (.lst (cs.map V.int))) ⟨same_upd nc, [], Nat.le_refl _, by rw [upd_same]; rfl⟩ (fun i H' _ h => ((s1.trans sst).trans h.1).seq hS) ?_ ?_
      · rintro i x H3 H4 hi ⟨s3, cs, hcl, e3⟩ ⟨rfl, hx⟩
        obtain ⟨n, hn, rfl⟩ := geti hx
        rw [List.length_map] at hi
        refine ⟨rfl, _, rfl, n, rfl, _, e3, ?_, chg s3 nc, cs ++ [_], ?_, by rw [upd_same, List.map_append]; rfl⟩
        · rw [List.length_map]
          exact lt_line (by omega)
        · rw [List.length_append, List.length_singleton]; omega
      · rintro H3 ⟨s3, cs, hcl, e3⟩
        refine ⟨s3 _ _ upd_same, stD g c 0 0, rfl, by show 4 ≤ 15; decide, ?_⟩
        rw [mState]
        have hgst : g ≠ st := ne_of_none e1 nst
        have eg3 : H3 g = some (.lst (gs.map V.int)) := s3 _ _ (sst _ _ e1)
        have hgc : g ≠ c := ne_of_none (sst _ _ e1) nc
        have hcst : c ≠ st := (ne_of_none upd_same nc).symm
        have nst0 : H st = none := s1.free nst
        refine q _ st g c gs cs (chg ((s1.trans sst).trans s3) nst0) nst0 ng ((s1.trans sst).free nc) ⟨upd_same, by rw [upd_ne hgst]; exact eg3, by rw [upd_ne hcst]; exact e3, hgc⟩
end
end K8

set_option maxRecDepth 100000
set_option maxHeartbeats 4000000
namespace K8
open PySem PySem.Spec PyProof.Rows L2 LamX KX M8
mutual
theorem vd_noL : ∀ {d : PyData}, vdD d = true → noL d = true
  | .tuple ds, h => by rw [noL]; exact vd_noLA (by rw [vdD] at h; exact h)
  | .none, _ => rfl
  | .str _, _ => rfl
  | .int _, _ => rfl
  | .bool _, h => by rw [vdD] at h; cases h
  | .list _, h => by rw [vdD] at h; cases h
  | .dict _, h => by rw [vdD] at h; cases h
theorem vd_noLA : ∀ {ds : List PyData}, vdA ds = true → noLA ds = true
  | [], _ => rfl
  | d :: ds, h => by
    rw [vdA, Bool.and_eq_true] at h
    rw [noLA, vd_noL h.1, vd_noLA h.2]
    rfl
end
mutual
theorem vd_lay : ∀ {d : PyData}, vdD d = true → PyData.canLay0 d = true
  | .tuple ds, h => by rw [PyData.canLay0]; exact vd_layA (by rw [vdD] at h; exact h)
  | .none, _ => rfl
  | .str x, h => by rw [PyData.canLay0]; exact word_lay (l := x.cps.toList) (by rw [vdD] at h; exact h)
  | .int _, _ => rfl
  | .bool _, h => by rw [vdD] at h; cases h
  | .list _, h => by rw [vdD] at h; cases h
  | .dict _, h => by rw [vdD] at h; cases h
theorem vd_layA : ∀ {ds : List PyData}, vdA ds = true → PyData.canLayAll0 ds = true
  | [], _ => rfl
  | d :: ds, h => by
    rw [vdA, Bool.and_eq_true] at h
    rw [PyData.canLayAll0, vd_lay h.1, vd_layA h.2]
    rfl
end
theorem FrB.keep {H H' : Hp} {st g c : Addr} {gs cs : List Int} {r t : Int} (f : FrB st g H H') (S : StAt H st g c gs cs r t) : Keep H H' := fun a xs e => f a _ (ne_of e S.hd (by intro z; cases z)) (ne_of e S.hg (by intro z; cases z)) e
def bB : Nat → Nat
  | 0 => 14
  | n + 1 => 1 + 3 * bB n
def cB : Nat → Nat
  | 0 => 2
  | n + 1 => 2 + 3 * cB n
theorem bB_pos : ∀ n, 14 ≤ bB n
  | 0 => Nat.le_refl _
  | n + 1 => by have := bB_pos n; rw [bB]; omega
theorem cB_pos : ∀ n, 2 ≤ cB n
  | 0 => Nat.le_refl _
  | n + 1 => by have := cB_pos n; rw [cB]; omega
section
variable {P : Program} {w : World} {K : PySem.W.Frag} {mg : Str → Option Value} {base : Heap}
theorem scSome : FnScope ["state", "deep", "way", "lap"] ["state", "deep"] (defScope sSome) := ⟨rfl, rfl, rfl, by decide +kernel, rfl, by decide +kernel, by decide +kernel⟩
def spSome (n : Nat) : Sp := fun vs H Q _ => ∃ (st g c : Addr) (gs cs : List Int) (r t : Int) (deep : Nat), vs = [.ref st, .int deep] ∧ deep < n ∧ deep ≤ 3 ∧ StAt H st g c gs cs r t ∧ 0 ≤ t ∧ t + (cB deep : Nat) < 2 ^ 30 ∧
  ∀ H' u d, vdD d = true → PyData.depth d ≤ deep → sz d ≤ bB deep → Drawn1 H st g c cs t (cB deep) H' → Dt H' u d → Q u H'
theorem ok_some {f : Addr} {fd : FuncData} (F : FunD K "_law_some_value" "_law_some_value" (defArgs sSome) (defBody sSome) (defScope sSome) [] [] f fd) (T : Nm mg) (gm : mg "_law_some_value" = some (.ref f)) (gk : PySem.W.keepIn K (.ref f) = true) (gb : Binds K fd ["state", "deep"] [])
    (Gd : GF P w K mg base 2 "_law_draw" ["state", "room"] [] spDraw) (Gp : GF P w K mg base 3 "_law_pick" ["state", "some"] [] spPick) :
    ∀ n, FnG P w K mg base (n + 3) f fd ["state", "deep"] (spSome n)
  | 0 => FnG.none fun vs H Q E h => by
    obtain ⟨_, _, _, _, _, _, _, _, _, h, _⟩ := h
    exact absurd h (Nat.not_lt_zero _)
  | n + 1 => by
    have G_law_some_value : GF P w K mg base (n + 3) "_law_some_value" ["state", "deep"] [] (spSome n) := ⟨f, fd, [], gm, gk, gb, .nil, ok_some F T gm gk gb Gd Gp n⟩
    have G_law_draw := Gd.mono (k := n + 3) (by omega)
    have G_law_pick := Gp.mono (k := n + 3) (by omega)
    refine okG F scSome (fun vs H Q E h => ?_) (fun cdv A outer s H vs Q E hg hr h => ?_)
    · obtain ⟨st, g, c, gs, cs, r, t, deep, rfl, _⟩ := h
      rfl
    · obtain ⟨st, g, c, gs, cs, r, t, deep, rfl, hn, hd3, S0, t0, t1, q⟩ := h
      refine ⟨_, PSs.nox ((pss_cons (ps_set (i := 2) scSome.nd rfl (Or.inl rfl) (pe_ifExp (pt_cmpR op_gt (pv 1) pe_int (nomark _)) (pe_gf G_law_draw hg hr passL (pa_cons (pv 0) (pa_cons pe_int pa_nil))) (pe_gf G_law_draw hg hr passL (pa_cons (pv 0) (pa_cons pe_int pa_nil)))))
      (pss_cons (ps_if (pt_cmpR op_eq (pv 2) pe_int (nomark _)) (pss_one (ps_ret (pe_gf G_law_pick hg hr passL (pa_cons (pv 0) (pa_cons (pe_lst (pa_cons pe_str (pa_cons pe_str (pa_cons pe_str (pa_cons pe_str (pa_cons pe_str pa_nil)))))) pa_nil))))) pss_nil)
      (pss_cons (ps_if (pt_cmpR op_eq (pv 2) pe_int (nomark _)) (pss_one (ps_ret (pe_gf G_law_pick hg hr passL (pa_cons (pv 0) (pa_cons (pe_lst (pa_cons pe_int (pa_cons pe_int (pa_cons (pe_op op_sub pe_int pe_int) (pa_cons pe_int (pa_cons (pe_op op_sub pe_int pe_int) (pa_cons pe_int (pa_cons (pe_op op_sub pe_int pe_int) pa_nil)))))))) pa_nil))))) pss_nil)
      (pss_cons (ps_if (pt_cmpR op_eq (pv 2) pe_int (nomark _)) (pss_one (ps_ret pe_non)) pss_nil)
      (pss_one (ps_ret (pe_callTy call_tuple_of (by rfl) T.tuple bTUPLE (pa_cons (pe_lc (own := [("lap", 3)]) (g := gName 3) (tt := tYes) rfl scSome.nd (pi_range1 (by rfl) T.range (pa_cons (pe_gf G_law_draw hg hr passL (pa_cons (pv 0) (pa_cons pe_int pa_nil))) pa_nil)) (blkOk_by (N := ["state", "deep", "way", "lap"]) (sc := defScope sSome) (by decide +kernel)) (fun _ _ _ _ _ => pg_name (i := 3) scSome.nd rfl (Or.inl rfl)) (fun _ _ _ _ _ => pts_nil) (fun _ _ _ _ _ => (pe_gf G_law_some_value hg hr passL (pa_cons (pv 0) (pa_cons (pe_op op_sub (pv 1) pe_int) pa_nil))))) pa_nil))))))))), ?_⟩
      refine' midF2 (α := Hp) (β := Nat) (B := fun H1 k => k < 6 ∧ (deep = 0 → k < 3) ∧ Drawn1 H st g c cs t 1 H1) ?main ?rest
      case main =>
        intro hel
        refine ⟨_, rfl, _, _, rfl, rfl, _, rfl, ?_⟩
        by_cases hp : (0 : Int) < deep
        · rw [decide_eq_true hp]
          exact iteT ⟨_, rfl, st, g, c, gs, cs, r, t, 6, rfl, S0, t0, by omega, by decide, by decide, fun k H1 hk D => hel H1 k ⟨hk, fun z => by omega, D⟩⟩
        · rw [decide_eq_false hp]
          exact iteF ⟨_, rfl, st, g, c, gs, cs, r, t, 3, rfl, S0, t0, by omega, by decide, by decide, fun k H1 hk D => hel H1 k ⟨by omega, fun _ => hk, D⟩⟩
      case rest =>
        rintro H1 k ⟨hk6, hk3, gs1, r1, tt, S1, ht0, ht1, f1⟩
        have hc2 := cB_pos deep
        have hb2 := bB_pos deep
        have keq : ∀ j : Int, decide (V.int (k : Int) = V.int j) = decide ((k : Int) = j) := fun j => by
          rw [Bool.eq_iff_iff, decide_eq_true_eq, decide_eq_true_eq]
          exact ⟨fun z => V.int.inj z, fun z => congrArg V.int z⟩
        refine ⟨_, rfl, rfl, _, rfl, ?_⟩
        rw [keq]
        by_cases k0 : (k : Int) = 0
        · rw [decide_eq_true k0]
          refine iteT ⟨_, rfl, (by show 5 ≤ sizeLine; decide), fun L nL => ?_⟩
          have sL := same_upd (o := .lst [.str "a", .str "on", .str "zz", .str "entry", .str "abcdefghijklm"]) nL
          refine ⟨st, g, c, L, gs1, cs, r1, tt, _, rfl, S1.same sL, by omega, by omega, List.cons_ne_nil _ _, by show 5 ≤ 1000; decide, upd_same, (ne_of_none S1.hg nL).symm, fun x H2 hx D => ?_⟩
          obtain ⟨gs2, r2, t2, S2, a2, b2, f2⟩ := D
          have D' : Drawn1 H st g c cs t (cB deep) H2 := ⟨gs2, r2, t2, S2, by omega, by omega, (f1.trans (FrB.same sL)).trans f2⟩
          simp only [List.mem_cons, List.not_mem_nil, or_false] at hx
          rcases hx with rfl | rfl | rfl | rfl | rfl
          · exact q H2 _ (.str "a") (by decide +kernel) (Nat.zero_le _) (Nat.le_trans (by decide +kernel : sz (.str "a") ≤ 14) hb2) D' (.str _)
          · exact q H2 _ (.str "on") (by decide +kernel) (Nat.zero_le _) (Nat.le_trans (by decide +kernel : sz (.str "on") ≤ 14) hb2) D' (.str _)
          · exact q H2 _ (.str "zz") (by decide +kernel) (Nat.zero_le _) (Nat.le_trans (by decide +kernel : sz (.str "zz") ≤ 14) hb2) D' (.str _)
          · exact q H2 _ (.str "entry") (by decide +kernel) (Nat.zero_le _) (Nat.le_trans (by decide +kernel : sz (.str "entry") ≤ 14) hb2) D' (.str _)
          · exact q H2 _ (.str "abcdefghijklm") (by decide +kernel) (Nat.zero_le _) (Nat.le_trans (by decide +kernel : sz (.str "abcdefghijklm") ≤ 14) hb2) D' (.str _)
        rw [decide_eq_false k0]
        refine iteF ⟨_, rfl, rfl, _, rfl, ?_⟩
        rw [keq]
        by_cases k1 : (k : Int) = 1
        · rw [decide_eq_true k1]
          refine iteT ⟨_, rfl, _, _, rfl, rfl, _, _, rfl, rfl, _, _, rfl, rfl, (by show 7 ≤ sizeLine; decide), fun L nL => ?_⟩
          refine ⟨st, g, c, L, gs1, cs, r1, tt, _, rfl, S1.same (same_upd nL), by omega, by omega, List.cons_ne_nil _ _, by show 7 ≤ 1000; decide, upd_same, (ne_of_none S1.hg nL).symm, fun x H2 hx D => ?_⟩
          obtain ⟨gs2, r2, t2, S2, a2, b2, f2⟩ := D
          have D' : Drawn1 H st g c cs t (cB deep) H2 := ⟨gs2, r2, t2, S2, by omega, by omega, (f1.trans (FrB.same (same_upd nL))).trans f2⟩
          obtain ⟨i, rfl, hi⟩ : ∃ i : Int, x = .int i ∧ isFig i = true := by
            simp only [List.mem_cons, List.not_mem_nil, or_false] at hx
            rcases hx with rfl | rfl | rfl | rfl | rfl | rfl | rfl <;> exact ⟨_, rfl, by decide +kernel⟩
          exact q H2 _ (.int i) (by rw [vdD]; exact hi) (Nat.zero_le _) (by rw [sz]; omega) D' (.int _)
        rw [decide_eq_false k1]
        refine iteF ⟨_, rfl, rfl, _, rfl, ?_⟩
        rw [keq]
        by_cases k2 : (k : Int) = 2
        · rw [decide_eq_true k2]
          exact iteT (q H1 _ .none rfl (Nat.zero_le _) (by rw [sz]; omega) ⟨gs1, r1, tt, S1, ht0, by omega, f1⟩ .non)
        rw [decide_eq_false k2]
        -- a tuple of values
        obtain ⟨dp, rfl⟩ : ∃ dp, deep = dp + 1 := ⟨deep - 1, by
          have : deep ≠ 0 := fun z => by have := hk3 z; omega
          omega⟩
        refine iteF ⟨_, rfl, st, g, c, gs1, cs, r1, tt, 4, rfl, S1, by omega, by omega, by decide, by decide, fun m H2 hm D => ?_⟩
        obtain ⟨gs2, r2, t2, S2, a2, b2, f2⟩ := D
        refine ⟨m, rfl, by omega, by omega, fun D nD => ?_⟩
        have hcb : cB (dp + 1) = 2 + 3 * cB dp := rfl
        have nDg : D ≠ g := (ne_of_none S2.hg nD).symm
        have nDst : D ≠ st := (ne_of_none S2.hd nD).symm
        refine lc_range (n := m) (fun i H' => FrB st g H2 H' ∧ ∃ gs3 r3 t3 vs ds, StAt H' st g c gs3 cs r3 t3 ∧ t2 ≤ t3 ∧ t3 ≤ t2 + (i * cB dp : Nat) ∧ H' D = some (.lst vs) ∧ DtAll H' vs ds ∧ vdA ds = true ∧ PyData.depthAll ds ≤ dp ∧ ds.length = i ∧ szA ds ≤ i * bB dp)
          ⟨FrB.same (same_upd nD), gs2, r2, t2, [], [], S2.same (same_upd nD), Int.le_refl _, by omega, upd_same, .nil, rfl, Nat.zero_le _, rfl, Nat.zero_le _⟩ ?_ ?_
        · rintro i H3 hi ⟨f3, gs3, r3, t3, vs, ds, S3, a3, b3, eD, hD, hv, hdp, hl, hz⟩
          have hic : i * cB dp ≤ 2 * cB dp := Nat.mul_le_mul_right _ (by omega)
          have hcs : cB dp ≤ 26 := by
            have : dp ≤ 2 := by omega
            rcases dp with _ | _ | _ | dp
            · decide
            · decide
            · decide
            · omega
          refine ⟨rfl, _, rfl, _, rfl, _, _, rfl, rfl, st, g, c, gs3, cs, r3, t3, dp, (by show [V.ref st, V.int (((dp + 1 : Nat) : Int) - 1)] = [V.ref st, V.int dp]; rw [show (((dp + 1 : Nat) : Int) - 1) = dp by omega]), by omega, by omega, S3, by omega, by omega, fun H4 u d hvd hdd hdz D4 hu4 => ?_⟩
          obtain ⟨gs4, r4, t4, S4, a4, b4, f4⟩ := D4
          have eD4 := f4 _ _ nDst nDg eD
          have nD2 : H2 D = none := nD
          refine ⟨vs, eD4, ?_, ?_, gs4, r4, t4, vs ++ [u], ds ++ [d], ?_, by omega, ?_, upd_same, ?_, ?_, ?_, ?_, ?_⟩
          · have := hD.length
            exact lt_line (by omega)
          · intro b o h1 h2 e
            rw [upd_ne (ne_of_none e nD2)]
            exact f4 b o h1 h2 (f3 b o h1 h2 e)
          · exact ⟨by rw [upd_ne nDst.symm]; exact S4.hd, by rw [upd_ne nDg.symm]; exact S4.hg, by rw [upd_ne (ne_of_none S2.hc nD)]; exact S4.hc, S4.gc⟩
          · rw [Nat.add_mul]; omega
          · have kp : Keep H3 H4 := f4.keep S3
            have kp2 : Keep H4 (upd H4 D (.lst (vs ++ [u]))) := keep_upd eD4
            exact (dtKeepA kp2 (dtKeepA kp hD (vd_noLA hv)) (vd_noLA hv)).append (.cons (dtKeep kp2 hu4 (vd_noL hvd)) .nil)
          · rw [vdA_app, hv, vdA, hvd]; rfl
          · rw [depthA_app, PyData.depthAll, PyData.depthAll]; omega
          · rw [List.length_append, hl]; rfl
          · rw [szA_app, szA, szA, Nat.add_mul]; omega
        · rintro H3 ⟨f3, gs3, r3, t3, vs, ds, S3, a3, b3, eD, hD, hv, hdp, hl, hz⟩
          have hmc : m * cB dp ≤ 3 * cB dp := Nat.mul_le_mul_right _ (by omega)
          have hmb : m * bB dp ≤ 3 * bB dp := Nat.mul_le_mul_right _ (by omega)
          refine ⟨D, vs, rfl, .inl ⟨SqL.of eD, fun T1 nT => ?_⟩⟩
          have sT := same_upd (o := .tup vs) nT
          refine q _ _ (.tuple ds) (by rw [vdD]; exact hv) (by rw [PyData.depth]; omega) (by rw [sz, bB]; omega) ⟨gs3, r3, t3, S3.same sT, by omega, by rw [hcb]; omega, ((f1.trans f2).trans f3).trans (FrB.same sT)⟩ (.tup upd_same (hD.same sT))
end
end K8

set_option maxRecDepth 100000
set_option maxHeartbeats 4000000
namespace PySem.W
open PySem PySem.Spec PySem.Calls PyProof.Rows
section
variable {prog : Program} {w : World} {A : Around} {E : Value → Shared → Prop} {s : Shared} {K : Frag} {x D : Addr} {ox : Obj} {od : Option Obj}
theorem kx_find {C : Addr} {name : Str} {a g : Value} (hc : (clsIn K C).isSome = true) (ha : findIn K (.ref C) name = some (some a)) (hg : specialIn K a "__get__" = some (some g)) (ht : takesIn K a = some true) : findObj K C od name = some (.bind g a) := by
  obtain ⟨cd, hc⟩ := Option.isSome_iff_exists.mp hc
  unfold findObj
  rw [hc, Option.bind_some, ha, Option.bind_some]
  simp [hg, ht]
theorem kx_class {Q : Option Value → Shared → Prop} (hga : findIn K (.ref D) "__getattribute__" = some (some (.builtin "BaseException.__getattribute__"))) (hgt : findIn K (.ref D) "__getattr__" = some none) (hsub : subIn K (.ref D) (.type "BaseException") = some true)
    (hdct : hasDictIn K D = true) (ha : findIn K (.ref D) "__class__" = some (some (.builtin "object.__class__")))
    (hn : specialIn K (.builtin "object.__class__") "__get__" = some (some (.builtin "getset_descriptor.__get__"))) (htk : takesIn K (.builtin "object.__class__") = some true) (hm : mroIn K D (.type "object") = some true)
    (X : K.In s.heap) (I : InstAt s.heap x ox D od) (h : Q (some (.ref D)) { s with toks := s.toks + 1 }) : wpAny (model prog w) A (getAttr? (.ref x) "__class__") Q E s := by
  have hf : findObj K D od "__class__" = some (.bind (.builtin "getset_descriptor.__get__") (.builtin "object.__class__")) := kx_find (by obtain ⟨cd, hc, _⟩ := any_some hdct; rw [hc]; rfl) ha hn htk
  obtain ⟨hp, g, d, t, os⟩ := s
  have L0 := I.type (M := model prog w)
  have L1 := looks_findIn (M := model prog w) X hga
  have L2 := looks_findIn (M := model prog w) X hgt
  have L3 := looks_find (M := model prog w) X I hf
  have sub : Looks (model prog w) hp (isInstance (.ref x) (.type "BaseException")) true := L0.andThen (looks_subIn X hsub)
  have hx0 : (false && onTheHeap (Value.builtin "BaseException.__getattribute__")) = false := rfl
  have hx2 : (Value.builtin "BaseException.__getattribute__" == Value.builtin "object.__getattribute__") = false := by decide +kernel
  have hx1 : (onTheHeap (Value.ref D) && Value.builtin "BaseException.__getattribute__" == Value.builtin "object.__getattribute__") = false := by rw [hx2]; rfl
  unfold getAttr? getAttrBy? getAttrBy
  refine wpAny_bind (wpAny_mkText (wpAny_bind (wpAny_attempt (wpAny_holding (wpAny_bind (L0.at (wpAny_bind (L1.at ?_))))))))
  show wpAny _ _ (if (onTheHeap (Value.ref D) && Value.builtin "BaseException.__getattribute__" == Value.builtin "object.__getattribute__") = true then _ else _) _ _ _
  rw [hx1, if_neg Bool.false_ne_true]
  unfold getAttrByItsOwn hookBefore
  refine wpAny_bind ?_
  rw [if_pos (show onTheHeap (Value.ref D) = true from rfl)]
  refine L2.at ?_
  refine wpAny_bind (wpAny_attempt (wpAny_holding ?_))
  unfold callGetattribute
  rw [hx0, if_neg Bool.false_ne_true]
  unfold boundAndCalled
  rw [PySem.F.excAttr_ValueError.ga.bind (.ref x)]
  refine wpAny_bind (wpAny_pure ?_)
  show wpAny _ _ (call (.builtin "BaseException.__getattribute__") [.ref x, .str "__class__" t]) _ _ _
  refine wpAny_call (codeAny_call_builtin PySem.F.excAttr_ValueError.ga.plain PySem.F.entry_bexc_ga ?_)
  refine @check_slot (model prog w) _ _ ⟨hp, g, d, t + 1, os⟩ "BaseException.__getattribute__" "BaseException" "__getattribute__" (.ref x) [.str "__class__" t] [] _ (by decide +kernel) (by decide +kernel) sub (PySem.F.args_bexc_ga (.ref x) (.str "__class__" t)) ?_
  unfold Builtin.«object.__getattribute__»
  refine wpAny_bind (wpAny_of_eq (a := ((Value.ref x : Value), [Value.str "__class__" t])) (by first | rfl | (simp only [slotArgs]; rfl)) ?_)
  refine wpAny_bind (wpAny_pure (wpAny_bind (L0.at (wpAny_bind (L3.at ?_)))))
  show wpAny _ _ (holding [Value.builtin "object.__class__"] (call (.builtin "getset_descriptor.__get__") [.builtin "object.__class__", .ref x, .ref D]) >>= ret) _ _ _
  refine wpAny_bind (wpAny_holding (wpAny_call (class_get (s := ⟨hp, g, d, t + 1, os⟩) (ox := ox) (od := od) X I hm ?_)))
  refine wpAny_pure ?_
  show wpAny _ _ (handedOut (.ref D)) _ _ _
  rw [handedOut_of (v := .ref D) rfl]
  first
    | exact wpAny_pure (wpAny_pure h)
    | exact wpAny_pure h
    | exact wpAny_pure (wpAny_bind (wpAny_pure (wpAny_pure h)))
theorem kx_kit (od : Option Obj) (hga : findIn K (.ref D) "__getattribute__" = some (some (.builtin "BaseException.__getattribute__"))) (hgt : findIn K (.ref D) "__getattr__" = some none) (hsub : subIn K (.ref D) (.type "BaseException") = some true) (hdct : hasDictIn K D = true) (ha : findIn K (.ref D) "__class__" = some (some (.builtin "object.__class__")))
    (hn : specialIn K (.builtin "object.__class__") "__get__" = some (some (.builtin "getset_descriptor.__get__"))) (htk : takesIn K (.builtin "object.__class__") = some true) (hm : mroIn K D (.type "object") = some true) :
    KitX K (.ref x) (.ref D) (fun h => InstAt h x ox D od) where
  ty := fun _ _ _ I => I.type
  it := fun _ _ X _ => by
    obtain ⟨cdD, hcD, _⟩ := any_some hdct
    unfold clsIn at hcD
    split at hcD
    · rename_i c' d' cd' sl' ho
      intro A' Q' E' s' k q
      unfold isType loadHead
      exact wpAny_bind (wpAny_loadPart (k _ _ (X _ _ ho)) (wpAny_pure q))
    · cases hcD
  ne := (handS_kitx_exc (x := x) (ox := ox) hga hgt hsub hdct ha hn htk hm).ne
  ca := fun X I k => kx_class hga hgt hsub hdct ha hn htk hm X I k
end
end PySem.W
namespace K8
open PySem PySem.Spec PyProof.Rows L2 LamX KX M8
/-- a caught exception that is kept: its class, its dict -/
def ErrO (a : Addr) (cls : Value) (d : Option Addr) : HO := .ext fun h => ∃ (oe : Obj) (vs : Array Value), h.get? a = some oe ∧ Zc cls d oe ∧ oe.data = .fields vs
theorem errO_at {P : Program} {w : World} {H : Hp} {h : Heap} {a : Addr} {cls : Value} {d : Option Addr} (hok : HOk P w H h) (e : H a = some (ErrO a cls d)) : ∃ (oe : Obj) (vs : Array Value), h.get? a = some oe ∧ Zc cls d oe ∧ oe.data = .fields vs := by
  have x : ObjOk P w H h a (.ext fun h => ∃ (oe : Obj) (vs : Array Value), h.get? a = some oe ∧ Zc cls d oe ∧ oe.data = .fields vs) := hok a _ e
  exact x.1
theorem inv_track {X : Cx} {pins : List (Addr × Obj)} {σ : L2.St} {H : Hp} {s : Shared} {a : Addr} {oe : Obj} {vs : Array Value} {cls : Value} {d : Option Addr} (I : L2.Inv X pins σ H s) (ha : s.heap.get? a = some oe) (hz : Zc cls d oe) (hd : oe.data = .fields vs) (na : H a = none) (nL : a ≠ X.env.locals)
    (n0 : ∀ o, X.s_0.heap.get? a ≠ some o) (np : ∀ p ∈ X.pn ++ pins, p.1 ≠ a) : L2.Inv X pins σ (upd H a (ErrO a cls d)) s := by
  have nb : ∀ b o, X.s_0.heap.get? b = some o → b ≠ a := fun b o e z => n0 o (z ▸ e)
  refine ⟨I.ok, I.os, I.bare, ⟨I.base.keep, I.base.slot, fun b o e n hx => ?_, I.base.there, fun b xs e => ?_, fun b o u e => ?_, fun b ps e => ?_⟩, I.loc, I.cell, ?_, fun y c e => ?_, fun p hp => ?_, fun b u e => ?_, I.len⟩
  · rw [upd_ne (nb b o e)]; exact I.base.free b o e n hx
  · have := I.base.tups b xs e
    rw [upd_ne (ne_of_none this na)]; exact this
  · have := I.base.frzs b o u e
    rw [upd_ne (ne_of_none this na)]; exact this
  · obtain ⟨more, this⟩ := I.base.tbls b ps e
    exact ⟨more, by rw [upd_ne (ne_of_none this na)]; exact this⟩
  · rw [upd_ne nL.symm]; exact I.free
  · have hc : c ≠ a := fun z => by
      obtain ⟨v, o, ho, hcd⟩ := I.cell y c e
      rw [z, ha] at ho
      cases ho
      rw [hd] at hcd
      cases hcd
    rw [upd_ne hc]; exact I.freeC y c e
  · obtain ⟨e1, e2, e3, e4, e5⟩ := I.pin p hp
    exact ⟨e1, by rw [upd_ne (np p hp)]; exact e2, e3, e4, e5⟩
  · by_cases hb : b = a
    · subst hb
      rw [upd_same] at e
      cases e
      exact ⟨⟨oe, vs, ha, hz, hd⟩, ⟨oe, ha⟩, fun h1 h2 ⟨o1, v1, x1, x2, x3⟩ st => ⟨o1, v1, st _ x1, x2, x3⟩⟩
    · rw [upd_ne hb] at e
      exact (I.hok b u e).stay (fun _ _ _ q => q) (fun c q => by rw [upd_ne (ne_of_none q na)]; exact q) fun c xs q => by rw [upd_ne (ne_of_none q na)]; exact q
/-- isinstance(e, c) of a kept exception -/
def rIsErr (K : PySem.W.Frag) : List V → Hp → VK → Prop := fun xs H Q => ∃ (a D : Addr) (dd : Addr) (fs : List (Str × V)) (c : V) (cv : Value) (b : Bool), xs = [.ref a, c] ∧ ClsV c cv ∧ ExcC K D ∧ H a = some (ErrO a (.ref D) (some dd)) ∧ H dd = some (.xd fs) ∧ PySem.W.kitOne K (.ref D) cv = some b ∧ Q (.bl b) H
theorem call_isErr {X : Cx} : CallR X (.builtin "isinstance") (rIsErr X.K) := by
  intro pins s σ H xs us Q I r h
  obtain ⟨a, D, dd, fs, c, cv, b, rfl, hcv, C, ea, ed, e, q⟩ := h
  obtain ⟨u1, u2, rfl, r1, r2⟩ := Vals.two r
  have e2 := hcv.eq r2
  subst e2
  cases (show u1 = Value.ref a from r1)
  obtain ⟨oe, vs, ha, hz, hd⟩ := errO_at I.hok ea
  obtain ⟨mA, hns, hr⟩ : ObjOk X.prog X.w H s.heap dd (.xd fs) := I.hok dd _ ed
  obtain ⟨od, ho, _⟩ := lookIn_ns hns
  have J : PySem.W.InstAt s.heap a oe D (some od) := ⟨ha, hz.1, by unfold PySem.W.notCls; rw [hd] <;> rfl, by rw [hz.2]; exact ho⟩
  exact PySem.W.kia_one (PySem.W.kx_kit (x := a) (ox := oe) (some od) C.hg C.hk C.hs C.hd C.ha C.hn C.ht C.hm) I.kIn J e (fun z => nomatch z) fun tk => ⟨.bl b, H, I.tok tk, rfl, q⟩
/-- e.f of a kept exception -/
def tErrF (K : PySem.W.Frag) (f : Str) (te : TE) : TE := fun σ H Q => te σ H fun x H1 => ∃ (a C dd : Addr) (fs : List (Str × V)) (v : V), x = .ref a ∧ XfC K C ∧ PySem.W.findIn K (.ref C) f = some none ∧ H1 a = some (ErrO a (.ref C) (some dd)) ∧ H1 dd = some (.xd fs) ∧ fs.lookup f = some v ∧ Q v H1
theorem pe_errF {X : Cx} {e : Expr} {te : TE} {pos : Pos} {n : Str} (he : PE X e te) (hb : attributeBase e n X.env (eval e X.env) = eval e X.env := by rfl) : PE X (.Attribute e n pos) (tErrF X.K n te) := by
  refine ⟨fun pins s σ H Q I h => ?_⟩
  refine attr_of hb (thn (he.run pins s σ H _ I h) fun u s1 hh => ?_)
  obtain ⟨x, H1, I1, rx, a, C, dd, fs, v, ex, T, hno, ea, ed, l, q⟩ := hh
  subst ex
  obtain rfl : u = Value.ref a := rx
  obtain ⟨oe, vs, ha, hz, hd⟩ := errO_at I1.hok ea
  obtain ⟨mA, hns, hr⟩ : ObjOk X.prog X.w H1 s1.heap dd (.xd fs) := I1.hok dd _ ed
  obtain ⟨od, ho, hl⟩ := lookIn_ns hns
  obtain ⟨u, hu, ru⟩ := RelO.some_of (v := v) (o := mA n) (by rw [← l]; exact hr n)
  have J : PySem.W.InstAt s1.heap a oe C (some od) := ⟨ha, hz.1, by unfold PySem.W.notCls; rw [hd] <;> rfl, by rw [hz.2]; exact ho⟩
  exact HandSPX.exc_get I1.kIn J T.ga T.gg T.exC (PySem.W.findObj_own T.hdC hno rfl (by rw [hl, hu])) (handed_of ru) ⟨v, H1, I1.tok _, ru, q⟩
end K8

set_option maxRecDepth 100000
set_option maxHeartbeats 4000000
namespace K8
open PySem PySem.Spec PyProof.Rows L2 LamX KX M8
/-- what 'except x as n: suite' wishes, where the suite keeps the exception: behind it the exception is tracked -/
def wAsT (K : PySem.W.Frag) (c : Value) (i : Nat) (ts : Addr → Value → Option Addr → TS) (Wout : WX) (D : Ends) : WX := fun cls d σ H =>
  ∃ b, PySem.W.exmOne K cls c = some b ∧ (b = true → ∀ a, H a = none → ts a cls d { nx := fun σ' H' => H' a = none ∧ D.nx (σ'.set i none) (upd H' a (ErrO a cls d)), rt := fun _ _ => False } (σ.set i (some (.ref a))) H) ∧
    (b = false → Wout cls d σ H)
section
variable {X : Cx} {x n : Str} {c : Value} {i : Nat} {body suite : List Stmt} {b₀ : Stmt} {npp pos pos' : Pos} {tb : WX → TS} {ts : Addr → Value → Option Addr → TS} {Wout : WX}
theorem ps_try_track (hs : X.stack = X.env :: X.outer) (hf : X.env.frame = some X.env.locals) (hex : X.ex = []) (hN : X.N.Nodup) (hi : X.N[i]? = some n) (hln : X.env.kindOf n = some .local) (hc : Names X x c) (tk : Takes X Wout)
    (hb : ∀ (W : WX) (pn : List (Addr × Obj)) (xe : Value → Shared → Prop), Takes (X.tr pn xe) W → PassesOwn (model X.prog X.w) X.A X.env xe → PSs (X.tr pn xe) body (tb W))
    (hsu : ∀ (a : Addr) (oe : Obj) (cls : Value) (d : Option Addr) (pn : List (Addr × Obj)), Zc cls d oe → (∃ vs, oe.data = .fields vs) → PSs (X.suite a ((a, oe) :: pn)) (b₀ :: suite) (ts a cls d)) :
    PS X (.Try body [.ExceptHandler (some (.Name x npp)) (some n) (b₀ :: suite) pos'] [] [] pos) (fun D σ H => tb (wAsT X.K c i ts Wout D) D σ H) := by
  refine ⟨fun pins s σ H D I h => ?_⟩
  have ok := I.ok
  have hfr : X.A.frames = some (X.env :: X.outer) := by rw [ok.frames, hs]
  have hloc : Loc X.env.scope n := .inl hln
  refine wpAny_Try_except ?_
  refine wpAny_mono ((hb (wAsT X.K c i ts Wout D) (X.pn ++ pins) (fun e s₁ => wpAny (model X.prog X.w) X.A (noteFrame e X.env) (fun _ s₂ => wpAny (model X.prog X.w) X.A (setFlight e none) (fun _ s₃ =>
    wpAny (model X.prog X.w) X.A (handleBy e X.env [.ExceptHandler (some (.Name x npp)) (some n) (b₀ :: suite) pos']) (SP X pins D) X.xe s₃) X.xe s₂) X.xe s₁) (fun u s' xx => ?_) PassesOwn.looking).run [] s σ H D (I.toTry _) h) (fun f s1 hsp => ?_) (fun e s1 he => he)
  · obtain ⟨a, B, sI, pins', σ', H', cls, d, rfl, J', nb, up, sky, na, os, ag, b, hb1, hyes, hno⟩ := xx
    have J : L2.Inv X pins σ' H' sI := J'.ofTry ok
    have sky' : Sky B (X.env :: X.outer) a (Zc cls d) X.env.locals s'.heap := by rw [← hs]; exact sky
    show wpAny (model X.prog X.w) X.A (noteFrame (.ref a) X.env) _ _ _
    refine Sky.land Zc.steady hfr hf sky' fun h3 fl3 up3 => ?_
    have J3 : L2.Inv X pins σ' H' { s' with heap := h3 } := J.landed nb fl3.1 (up.trans up3) os ag
    obtain ⟨oe3, vs3, he3, hz3, hd3⟩ := fl3.there
    have notFr : ∀ {h : Heap} {o : Obj} {vs : Array Value}, h.FunFrames B (X.env :: X.outer) → h.get? a = some o → o.data = .fields vs → a ∉ frs (X.env :: X.outer) := fun {h o vs} ff e dd hm => by
      obtain ⟨_, o', e', hnf⟩ := ff.mem hm
      rw [e] at e'; cases e'
      exact hnf _ dd
    have nfr := notFr fl3.2.2.1 he3 hd3
    have nL : a ≠ X.env.locals := fun z => nfr (List.mem_filterMap.mpr ⟨X.env, List.mem_cons_self, by rw [hf, z]⟩)
    have nF : a ∉ X.fs := fun hm => by
      obtain ⟨e, he, q⟩ := List.mem_filterMap.mp hm
      exact nfr (List.mem_filterMap.mpr ⟨e, List.mem_cons_of_mem _ he, q⟩)
    have nfr' : a ∉ frs X.stack := by rw [hs]; exact nfr
    -- the exception is new since the entry, and no pin
    have hBa : B.get? a = none := fl3.2.1
    have n0 : ∀ o, X.s_0.heap.get? a ≠ some o := fun o e => by
      obtain ⟨o', e'⟩ := J.base.there a o e (by rw [hex]; simp)
      have := nb a o' e' nfr'
      rw [hBa] at this
      cases this
    have npn : ∀ p ∈ X.pn ++ pins, p.1 ≠ a := fun p hp z => by
      obtain ⟨e, _, _, _, _⟩ := J.pin p hp
      have := nb p.1 p.2 e (by rw [z]; exact nfr')
      rw [z, hBa] at this
      cases this
    have S3 := J3.suite he3 hd3 na nL nF
    refine wpAny_handleBy_cons (codeAny_handlers_test ?_) (by intro q; cases q)
    have LT : PySem.W.Looks (model X.prog X.w) h3 (typeOf (.ref a)) cls := fun A Q E s k q => wpAny_typeOf_ref (k _ _ he3) (by rw [hz3.1]; exact q)
    have LM := PySem.W.exm_one (M := model X.prog X.w) (J3.kIn) LT hb1
    have test : ∀ {Q : Value → Shared → Prop} {E : Value → Shared → Prop}, Q c { s' with heap := h3 } → wpAny (model X.prog X.w) (X.A.mark (some (.ref a))) (eval (.Name x npp) X.env) Q E { s' with heap := h3 } := fun {Q E} q => by
      obtain ⟨hg, hdbg, hm | ⟨hm, hv, hnn⟩⟩ := hc
      · exact ld_glob (X := X.suite a ((a, oe3) :: (X.pn ++ pins))) S3 hg hm q hdbg
      · exact ld_blt (X := X.suite a ((a, oe3) :: (X.pn ++ pins))) S3 hg hm hv q hnn hdbg
    refine test (LM.here ?_)
    cases b with
    | true =>
      refine codeAny_handlers_suite_as ?_
      refine HandSPX.lands_againZ fl3 fun h4 fl4 up4 => ?_
      have J4 : L2.Inv X pins σ' H' { s' with heap := h4 } := J.landed nb fl4.1 ((up.trans up3).trans up4) os ag
      obtain ⟨oe4, vs4, he4, hz4, hd4⟩ := fl4.there
      have S4 := J4.suite he4 hd4 na nL nF
      refine store_ok (X := X.suite a ((a, oe4) :: (X.pn ++ pins))) (v := .ref a) S4 hN hi hloc rfl (fun s5 S5 => ?_) (.inr hln)
      refine wpAny_mono ((hsu a oe4 cls d (X.pn ++ pins) hz4 ⟨_, hd4⟩).run [] s5 _ H' _ S5 (hyes rfl a na)) (fun f s6 hsp => ?_) (fun _ _ z => False.elim z)
      cases f with
      | next =>
        obtain ⟨σ6, H6, S6, n6, q6⟩ := hsp
        have I6 : L2.Inv X ((a, oe4) :: pins) σ6 H6 s6 := ⟨ok, S6.os, S6.bare, S6.base, S6.loc, S6.cell, S6.free, S6.freeC, fun p hp => S6.pin p (List.mem_append_left _ (by
          rcases List.mem_append.mp hp with z | z
          · exact List.mem_cons_of_mem _ (List.mem_append_left _ z)
          · rcases List.mem_cons.mp z with e | z
            · rw [e]; exact List.mem_cons_self
            · exact List.mem_cons_of_mem _ (List.mem_append_right _ z))), S6.hok, S6.len⟩
        refine gone_ok I6 hN hi hln fun s7 J7 => ?_
        obtain ⟨e7, _, _, _, _⟩ := J7.pin (a, oe4) (List.mem_append_right _ List.mem_cons_self)
        have K7 : L2.Inv X pins (σ6.set i none) H6 s7 := ⟨ok, J7.os, J7.bare, J7.base, J7.loc, J7.cell, J7.free, J7.freeC, fun p hp => J7.pin p (by
          rcases List.mem_append.mp hp with z | z
          · exact List.mem_append_left _ z
          · exact List.mem_append_right _ (List.mem_cons_of_mem _ z)), J7.hok, J7.len⟩
        exact ⟨_, _, inv_track K7 e7 hz4 hd4 n6 nL n0 npn, q6⟩
      | brk =>
        obtain ⟨_, _, _, q6⟩ := hsp
        exact q6.elim
      | cont =>
        obtain ⟨_, _, _, q6⟩ := hsp
        exact q6.elim
      | ret u =>
        obtain ⟨_, _, _, _, _, q6⟩ := hsp
        exact q6.elim
    | false =>
      show wpAny _ X.A (handleBy (.ref a) X.env []) _ _ _
      refine wpAny_handleBy_nil ?_
      obtain ⟨k1, k2, k3, oe, vs, T, oT, ts', he, hz, hd, h1, hr⟩ := id fl3
      unfold PySem.passOn
      refine wpAny_bind (wpAny_field he hd h1 ?_)
      rw [if_neg (show ¬ ((Value.ref T == Value.none) = true) from by simp)]
      have fin : wpAny (model X.prog X.w) X.A (setFlight (.ref a) X.env.frame) (fun _ s4 => wpAny (model X.prog X.w) X.A (throw (.ref a) : Sem Flow) (SP X pins D) X.xe s4) X.xe { s' with heap := h3 } := by
        rw [hf]
        refine HandSPX.setFlight_upZ fl3 fun h4 hh4 up4 => wpAny_throw (tk _ _ ?_)
        exact ⟨a, B, sI, pins, σ', H', cls, d, rfl, J, nb, (up.trans up3).trans up4, .inr (.inr (by rw [hs]; exact hh4)), na, os, ag, hno rfl⟩
      first
        | exact wpAny_bind (wpAny_pure (wpAny_bind fin))
        | exact wpAny_bind fin
  · cases f with
    | next =>
      obtain ⟨σ', H', J', q⟩ := hsp
      exact wpAny_execs_nil ⟨σ', H', J'.ofTry ok, q⟩
    | brk =>
      obtain ⟨σ', H', J', q⟩ := hsp
      exact ⟨σ', H', J'.ofTry ok, q⟩
    | cont =>
      obtain ⟨σ', H', J', q⟩ := hsp
      exact ⟨σ', H', J'.ofTry ok, q⟩
    | ret u =>
      obtain ⟨v, σ', H', J', r, q⟩ := hsp
      exact ⟨v, σ', H', J'.ofTry ok, r, q⟩
end
end K8

set_option maxRecDepth 100000
set_option maxHeartbeats 4000000
namespace K8
open PySem PySem.Spec PyProof.Rows L2 LamX KX M8
/-! ### a later state: what is not tracked stays (up to slots), the functions at F wholly -/
structure Lat (F : List Addr) (H H' : Hp) (h h' : Heap) : Prop where
  any : ∀ b o, h.get? b = some o → H b = none → ∃ sl, h'.get? b = some { o with slots := sl }
  free : ∀ b o, h.get? b = some o → H b = none → H' b = none
  at_ : ∀ b ∈ F, ∀ o, h.get? b = some o → h'.get? b = some o
  ext : ExtN H H'
theorem Lat.trans {F : List Addr} {H H1 H2 : Hp} {h h1 h2 : Heap} (a : Lat F H H1 h h1) (b : Lat F H1 H2 h1 h2) : Lat F H H2 h h2 where
  any := fun c o e n => by
    obtain ⟨sl, e1⟩ := a.any c o e n
    obtain ⟨sl2, e2⟩ := b.any c _ e1 (a.free c o e n)
    exact ⟨sl2, e2⟩
  free := fun c o e n => by
    obtain ⟨sl, e1⟩ := a.any c o e n
    exact b.free c _ e1 (a.free c o e n)
  at_ := fun c hc o e => b.at_ c hc o (a.at_ c hc o e)
  ext := a.ext.trans b.ext
theorem Lat.sub {F G : List Addr} {H H' : Hp} {h h' : Heap} (a : Lat F H H' h h') (s : ∀ b ∈ G, b ∈ F) : Lat G H H' h h' := ⟨a.any, a.free, fun b hb => a.at_ b (s b hb), a.ext⟩
theorem Lat.of_un {F fs : List Addr} {H H' : Hp} {h h' : Heap} (u : Un fs [] H H' h h') (hF : ∀ b ∈ F, H b = none ∧ b ∉ fs) (e : ExtN H H') : Lat F H H' h h' :=
  ⟨fun b o q n => u.any q n (by simp), fun b o q n => u.free b o q n (by simp), fun b hb o q => u.keep b o q (hF b hb).1 (hF b hb).2 (by simp), e⟩
theorem lam_start3 {X : Cx} {pins : List (Addr × Obj)} {σ : L2.St} {H HZ : Hp} {s s1 : Shared} {F : List Addr} {A : Around} {outer : List Env} {E : XK} {scope : Scope} {f c' : Addr} {h₁ : Heap} {tk : Nat} (I : L2.Inv X pins σ H s) (L : LamS X.env.scope scope)
    (e0 : Env0 X.prog X.w X.K X.mg X.base A outer s1 HZ) (hd : A.handled = none) (un : Lat F H HZ s.heap s1.heap) (hns : h₁.Ns s1.heap.objs.size fun y => ([] : List (Str × Value)).reverse.lookup y) (kp : ∀ b o, s1.heap.get? b = some o → h₁.get? b = some o) :
    L2.Inv (lamCx X A outer s1 HZ E scope f c') [] σ HZ { s1 with heap := h₁, toks := tk } := by
  have hfree := L.has I.ok
  have cm : ∀ {y c}, (cloFrom X.env.cells scope.names []).lookup y = some c → X.env.cells.lookup y = some c := fun {y c} e => by
    rcases cloFrom_mem (PySem.mem_of_lookup e) with hm | ⟨h1, h2⟩
    · cases hm
    · obtain ⟨c1, hc⟩ := hfree _ h1 rfl
      have hc : X.env.cells.lookup y = some c1 := hc
      have e2 : c = c1 := by
        rw [h2, hc] <;> rfl
      rw [e2]
      exact hc
  have look : ∀ {y}, scope.names.lookup y = some .free → ∃ c, (cloFrom X.env.cells scope.names []).lookup y = some c := fun {y} hl => by
    have hy : (y, NameKind.free) ∈ scope.names := PySem.mem_of_lookup hl
    exact mem_lookup (cloFrom_has (cells := X.env.cells) (acc := []) hy)
  have cellK : ∀ {c : Addr} {v : Option Value}, H c = none → s.heap.IsCell c v → h₁.IsCell c v := fun {c v} n ⟨o, ho, hd⟩ => by
    obtain ⟨sl, q⟩ := un.any c o ho n
    exact ⟨_, kp _ _ q, hd⟩
  have noA : ∀ b : Addr, b ∉ (lamCx X A outer s1 HZ E scope f c').ex := fun b z => absurd (show b ∈ ([] : List Addr) from z) (by simp)
  refine ⟨⟨e0.mod, L.kind, rfl, rfl, Nat.le_refl _, fun y z c e1 e2 => I.ok.inj y z c (cm e1) (cm e2), fun y hy => ?_, fun y c z _ => ?_, fun _ => hd, Around.frames_deeper e0.frames, .inr ⟨rfl, rfl⟩, fun b z => absurd z (noA b), e0.bs, e0.bsz, fun b _ _ => noA b,
      fun b z => absurd z (noA b), e0.funs, e0.frf⟩,
    rfl, e0.bare, Un.kept kp, ⟨_, hns, fun i y v e1 e2 e3 => ?_⟩, fun y c e => ?_, e0.hok.fresh (Nat.le_refl _), fun y c e => ?_, fun q hq => absurd (show q ∈ ([] : List (Addr × Obj)) ++ [] from hq) (by simp), e0.hok.kept kp, I.len⟩
  · have hy : scope.names.lookup y = some .cell ∨ scope.names.lookup y = some .free := hy
    rcases hy with hy | hy
    · exact absurd rfl (L.own _ (PySem.mem_of_lookup hy)).2
    · exact look hy
  · have z : false = true := z
    cases z
  · have e3 : Vis scope y := e3
    rcases e3 with k | k | k
    · exact absurd rfl (L.own _ (PySem.mem_of_lookup k)).1
    · exact absurd rfl (L.own _ (PySem.mem_of_lookup k)).2
    · obtain ⟨m, hn, hl⟩ := I.loc
      have hvis : Vis X.env.scope y := (L.free _ (PySem.mem_of_lookup k) rfl).elim (fun k => .inr (.inl k)) (fun k => .inr (.inr k))
      obtain ⟨w', r, q⟩ := hl i y v e1 e2 hvis
      obtain ⟨c2, h2⟩ := look k
      refine ⟨w', r, .inr ⟨.inr k, c2, h2, ?_⟩⟩
      have c1 := cm h2
      rcases q with ⟨k', _⟩ | ⟨_, c3, e', z⟩
      · have k' : X.env.scope.names.lookup y = some .local := k'
        rcases L.free _ (PySem.mem_of_lookup k) rfl with k2 | k2 <;> rw [show X.env.scope.names.lookup y = _ from k2] at k' <;> cases k'
      · rw [c1] at e'
        cases e'
        exact cellK (I.freeC y _ c1) z
  · obtain ⟨w', z⟩ := I.cell y c (cm e)
    exact ⟨w', cellK (I.freeC y c (cm e)) z⟩
  · obtain ⟨v, o, ho, hd⟩ := I.cell y c (cm e)
    exact un.free c o ho (I.freeC y c (cm e))
/-! ### a function without parameters that may be called later -/
structure Thk (P : Program) (w : World) (K : PySem.W.Frag) (mg : Str → Option Value) (base : Heap) (k : Nat) (F : List Addr) (f : Addr) (tl : XK → Hp → VK → Prop) (H : Hp) (h : Heap) : Prop where
  mem : f ∈ F
  un : ∀ b ∈ F, H b = none
  ex : ∀ b ∈ F, ∃ o, h.get? b = some o
  there : ∃ oc od fd sl, h.get? f = some (⟨oc, od, .func fd, sl⟩ : Obj)
  run : ∀ (A : Around) (outer : List Env) (s : Shared) (H' : Hp) (Q : VK) (E : XK), Lat F H H' h s.heap → (∀ b ∈ F, b ∉ frs outer) → A.guards = some [] → Room (k + 1) A → Env0 P w K mg base A outer s H' → tl E H' Q →
    codeAny (model P w) A (.call (.ref f) ⟨[], []⟩) (CR (L2.CX P w) outer P w H' s Q E) s
theorem Thk.later {P : Program} {w : World} {K : PySem.W.Frag} {mg : Str → Option Value} {base : Heap} {k : Nat} {F : List Addr} {f : Addr} {tl : XK → Hp → VK → Prop} {H H' : Hp} {h h' : Heap} (T : Thk P w K mg base k F f tl H h) (l : Lat F H H' h h') : Thk P w K mg base k F f tl H' h' where
  mem := T.mem
  un := fun b hb => by
    obtain ⟨o, e⟩ := T.ex b hb
    exact l.free b o e (T.un b hb)
  ex := fun b hb => by
    obtain ⟨o, e⟩ := T.ex b hb
    exact ⟨o, l.at_ b hb o e⟩
  there := by
    obtain ⟨oc, od, fd, sl, e⟩ := T.there
    exact ⟨oc, od, fd, sl, l.at_ _ T.mem _ e⟩
  run := fun A outer s H2 Q E l2 => T.run A outer s H2 Q E (l.trans l2)
/-- the maker's lambda is such a function -/
theorem thk_lam {X : Cx} {pins : List (Addr × Obj)} {σ : L2.St} {H : Hp} {s : Shared} {F : List Addr} {f c' : Addr} {pm ctv : Value} {params : Arguments} {body : Expr} {scope : Scope} {k : Nat} {t : Hp → XK → TE} (I : L2.Inv X pins σ H s) (L : LamS X.env.scope scope)
    (hf : s.heap.get? f = some (PySem.W.kla_obj "<lambda>" (X.env.qual ++ "<lambda>") params body scope (cloFrom X.env.cells scope.names []) pm c' ctv)) (hF : f ∈ F) (hfn : ∀ b ∈ F, H b = none) (hex : ∀ b ∈ F, ∃ o, s.heap.get? b = some o) (hco : H c' = some (CodeO c' (X.env.qual ++ "<lambda>")))
    (hbind : bindArgs (PySem.W.kla_fn "<lambda>" (X.env.qual ++ "<lambda>") params body scope (cloFrom X.env.cells scope.names []) pm (.ref c') ctv) ⟨[], []⟩ = pure [])
    (hbody : ∀ (A : Around) (outer : List Env) (s' : Shared) (H' : Hp) (E : XK), Lat F H H' s.heap s'.heap → (∀ b ∈ F, b ∉ frs outer) → A.guards = some [] → Room k (A.deeper (lamEnv X scope s'.heap.objs.size f c')) → Env0 X.prog X.w X.K X.mg X.base A outer s' H' → PE (lamCx X A outer s' H' E scope f c') body (t H' E)) :
    Thk X.prog X.w X.K X.mg X.base k F f (fun E H' Q => t H' E σ H' Q) H s.heap where
  mem := hF
  un := hfn
  ex := hex
  there := ⟨_, _, _, _, hf⟩
  run := fun A outer s1 HZ Q E lat hfo hg hr e0 ht => by
    have of1 := lat.at_ f hF _ hf
    obtain ⟨⟨oc, vs, tt, hoc, hdc, hvc⟩, _, _⟩ : ObjOk X.prog X.w HZ s1.heap c' (CodeO c' (X.env.qual ++ "<lambda>")) := e0.hok c' _ (lat.ext c' _ hco codeO_ne)
    have lim : s1.heap.NoLimit := e0.mod.nolimit.keeps fun b o e => (e0.bs b o e).1
    refine PySem.W.kla_callFunE hr.depth of1 rfl L.co L.gen rfl ⟨c', oc, vs, tt, rfl, hoc, hdc, hvc⟩ ?_
    rw [hbind]
    refine wpAny_pure (wpAny_newFunctionEnv (fun y hy => (L.own y hy).2) (fun y hy => absurd hy (by simp)) (fun h₁ hns hsb => ⟨lim.fresh _ hsb, ?_⟩) L.kind)
    show codeAny _ _ (.expr body (lamEnv X scope s1.heap.objs.size f c')) _ _
    have kp : ∀ b o, s1.heap.get? b = some o → h₁.get? b = some o := fun b o e => hsb.extBut b o (Nat.ne_of_lt (Heap.lt_size e)) (Heap.get?_push_of_some _ e)
    have J : L2.Inv (lamCx X A outer s1 HZ E scope f c') [] σ HZ { s1 with heap := h₁, toks := s1.toks + ([] : List (Str × Value)).length } := lam_start3 I L e0 hr.hd lat hns kp
    refine PySem.W.kla_codeExpr (wpAny_mono ((hbody A outer s1 HZ E lat hfo hg (hr.deeper _) e0).run [] _ _ HZ Q J ht) (fun v s' hq => ?_) fun e s' hq => hq)
    obtain ⟨w', H', J', rv, q⟩ := hq
    exact ⟨w', H', J'.os, J'.bare, J'.base, J'.hok, rv, q⟩
/-- what is there at a body's start and not on the stack below is not on the body's stack -/
theorem notOn {X : Cx} {pins : List (Addr × Obj)} {σ : L2.St} {H : Hp} {s : Shared} {F : List Addr} (I : L2.Inv X pins σ H s) (he : ∀ b ∈ F, ∃ o, X.s_0.heap.get? b = some o) (hF : ∀ b ∈ F, b ∉ X.fs) : ∀ b ∈ F, b ∉ frs X.stack := fun b hb z => by
  rcases List.mem_cons.mp (I.stkSub b z) with e | e
  · obtain ⟨o, eo⟩ := he b hb
    have h1 := Heap.lt_size eo
    have h2 := I.ok.above
    rw [e] at h1
    exact absurd (Nat.lt_of_lt_of_le h1 h2) (Nat.lt_irrefl _)
  · exact hF b hb e
/-- a(), a the name in slot i of such a function -/
theorem pe_thk {X : Cx} {k i : Nat} {F : List Addr} {f : Addr} {a : Str} {tl : XK → Hp → VK → Prop} {E : XK} {p1 p2 : Pos} (T : Thk X.prog X.w X.K X.mg X.base k F f tl X.H_0 X.s_0.heap) (hfs : ∀ b ∈ F, b ∉ X.fs) (hex : X.ex = []) (hg : X.A.guards = some []) (hr : Room (k + 1) X.A)
    (hx : Passes (L2.CX X.prog X.w) X E) (hN : X.N[i]? = some a) (hv : Vis X.env.scope a) (hd : (a == ("__debug__" : Str)) = false := by decide) (hcd : (a == ("__classdict__" : Str)) = false := by decide) :
    PE X (.Call (.Name a p1) [] [] p2) (fun σ H Q => σ[i]? = some (some (.ref f)) ∧ ExtN X.H_0 H ∧ tl E H Q) := by
  refine ⟨fun pins s σ H Q I h => ?_⟩
  obtain ⟨hs, he, ht⟩ := h
  refine wpAny_Call_Name_kw (thn ((pe_var (pos := p1) (i := i) hN hv hd hcd).run pins s σ H (fun v H1 => v = .ref f ∧ H1 = H) I ⟨.ref f, hs, rfl, rfl⟩) fun u s1 ⟨v, H1, I1, r1, q1⟩ => ?_)
  obtain ⟨ev, eH⟩ := q1
  subst ev
  rw [eH] at I1
  obtain rfl : u = Value.ref f := r1
  have ub : Un X.fs [] X.H_0 H X.s_0.heap s1.heap := by
    have := I1.base
    rw [hex] at this
    exact this
  have lat : Lat F X.H_0 H X.s_0.heap s1.heap := Lat.of_un ub (fun b hb => ⟨T.un b hb, hfs b hb⟩) he
  obtain ⟨oc, od, fd, sl, ef⟩ := T.there
  refine PySem.W.callWith_F0 ⟨_, _, _, _, lat.at_ f T.mem _ ef⟩ ?_
  refine wpAny_call (codeAny_mono (T.run X.A X.stack s1 H Q E lat (notOn I1 T.ex hfs) hg hr I1.env0 ht) fun r s' hq => ?_)
  cases r with
  | error e => exact hx pins σ H s1 e s' I1 hq
  | ok fl =>
    cases fl with
    | ret u => exact I1.after hq
    | next => exact False.elim hq
    | brk => exact False.elim hq
    | cont => exact False.elim hq
end K8

set_option maxRecDepth 100000
set_option maxHeartbeats 4000000
namespace K8
open PySem PySem.Spec PyProof.Rows L2 LamX KX M8
theorem pe_thkS {X : Cx} {k i : Nat} {F : List Addr} {f : Addr} {a : Str} {tl : XK → Hp → VK → Prop} {E : L2.St → XK} {p1 p2 : Pos} (T : Thk X.prog X.w X.K X.mg X.base k F f tl X.H_0 X.s_0.heap) (hfs : ∀ b ∈ F, b ∉ X.fs) (hex : X.ex = []) (hg : X.A.guards = some []) (hr : Room (k + 1) X.A)
    (hx : ∀ σ, PassesAt (L2.CX X.prog X.w) X σ (E σ)) (hN : X.N[i]? = some a) (hv : Vis X.env.scope a) (hd : (a == ("__debug__" : Str)) = false := by decide) (hcd : (a == ("__classdict__" : Str)) = false := by decide) :
    PE X (.Call (.Name a p1) [] [] p2) (fun σ H Q => σ[i]? = some (some (.ref f)) ∧ ExtN X.H_0 H ∧ tl (E σ) H Q) := by
  refine ⟨fun pins s σ H Q I h => ?_⟩
  obtain ⟨hs, he, ht⟩ := h
  refine wpAny_Call_Name_kw (thn ((pe_var (pos := p1) (i := i) hN hv hd hcd).run pins s σ H (fun v H1 => v = .ref f ∧ H1 = H) I ⟨.ref f, hs, rfl, rfl⟩) fun u s1 ⟨v, H1, I1, r1, q1⟩ => ?_)
  obtain ⟨ev, eH⟩ := q1
  subst ev
  rw [eH] at I1
  obtain rfl : u = Value.ref f := r1
  have ub : Un X.fs [] X.H_0 H X.s_0.heap s1.heap := by
    have := I1.base
    rw [hex] at this
    exact this
  have lat : Lat F X.H_0 H X.s_0.heap s1.heap := Lat.of_un ub (fun b hb => ⟨T.un b hb, hfs b hb⟩) he
  obtain ⟨oc, od, fd, sl, ef⟩ := T.there
  refine PySem.W.callWith_F0 ⟨_, _, _, _, lat.at_ f T.mem _ ef⟩ ?_
  refine wpAny_call (codeAny_mono (T.run X.A X.stack s1 H Q (E σ) lat (notOn I1 T.ex hfs) hg hr I1.env0 ht) fun r s' hq => ?_)
  cases r with
  | error e => exact hx σ pins H s1 e s' I1 hq
  | ok fl =>
    cases fl with
    | ret u => exact I1.after hq
    | next => exact False.elim hq
    | brk => exact False.elim hq
    | cont => exact False.elim hq
/-- what the written part says of WeightError -/
structure WEr (K : PySem.W.Frag) (mg : Str → Option Value) (C : Addr) : Prop where
  ex : ∃ W : Addr, mg "WeightError" = some (.ref W) ∧ PySem.W.exmOne K (.ref C) (.ref W) = some true
/-- _law_caught of a function: None, or the exception that it raised -/
def TC (C : Addr) (tl : XK → Hp → VK → Prop) (H : Hp) (Q : VK) : Prop := ∀ F, H F = none → ∀ (E' : XK) (Q' : VK),
  (∀ d dd H2, d = some dd → H2 F = some (.lst []) → (∀ a, H2 a = none → ∀ N, (upd (upd H2 F (.lst [.ref a])) a (ErrO a (.ref C) d)) N = none → Q (.ref a) (upd (upd (upd H2 F (.lst [.ref a])) a (ErrO a (.ref C) d)) N (.lst []))) → E' (.ref C) d H2) →
  (∀ v H2, H2 F = some (.lst []) → (∀ N, H2 N = none → Q .non (upd H2 N (.lst []))) → Q' v H2) → tl E' (upd H F (.lst [])) Q'
section
variable {P : Program} {w : World} {K : PySem.W.Frag} {mg : Str → Option Value} {base : Heap}
theorem scCaught : FnScope ["action", "found", "error"] ["action"] (defScope sCaught) := ⟨rfl, rfl, rfl, by decide +kernel, rfl, by decide +kernel, by decide +kernel⟩
theorem caught_ok {g C : Addr} {fd : FuncData} (Fn : FunD K "_law_caught" "_law_caught" (defArgs sCaught) (defBody sCaught) (defScope sCaught) [] [] g fd) (T : Nm mg) (TW : WEr K mg C) {A : Around} {outer : List Env} {s : Shared} {H : Hp} {args : Args} {F : List Addr} {f : Addr} {tl : XK → Hp → VK → Prop} {Q : VK} {k : Nat}
    (hg : A.guards = some []) (hr : Room (k + 2) A) (e0 : Env0 P w K mg base A outer s H) (hb : BindsTo s fd args [("action", .ref f)]) (Th : Thk P w K mg base k F f tl H s.heap) (hF : ∀ b ∈ F, b ∉ frs outer) (h : TC C tl H Q) :
    codeAny (model P w) A (.call (.ref g) args) (CR (L2.CX P w) outer P w H s Q E0) s := by
  obtain ⟨oc, od, dV, kV, doc, pm, an, cdv, ct, osl, rfl, lk, hcd, _, _⟩ := Fn.ex
  obtain ⟨W, gW, xW⟩ := TW.ex
  refine run_ofS (N := ["action", "found", "error"]) (ps := ["action"]) (us := [.ref f]) (vs := [.ref f]) lk hcd scCaught hr e0 hb (.cons rfl .nil) rfl fun hr' => ?_
  have hu : (A.deeper (envOfC "_law_caught" (defScope sCaught) s.heap.objs.size g cdv)).units + 64 < cLine := hr'.units
  refine ⟨_, pss_cons (ps_set (i := 1) scCaught.nd rfl (Or.inl rfl) (pe_lst pa_nil)) (pss_cons (ps_try_track (X := cxOf (L2.CX P w) P w K mg base ["action", "found", "error"] "_law_caught" (defScope sCaught) g cdv A outer s H E0) (i := 2) (c := .ref W) (tb := fun W' => tDrop (fun σ H' Q => σ[0]? = some (some (.ref f)) ∧ ExtN H H' ∧ tl (WE W' σ) H' Q)) (ts := fun _ _ _ => tDrop (tBM K "list" rAppend (tVar 1) (tCons (tVar 2) tNil))) rfl rfl rfl scCaught.nd rfl rfl ⟨rfl, by decide, .inl gW⟩ (takes_of rfl rfl rfl rfl)
      (fun W' pn xe tk _ => pss_one (ps_expr (pe_thkS (i := 0) (E := WE W') (X := (cxOf (L2.CX P w) P w K mg base ["action", "found", "error"] "_law_caught" (defScope sCaught) g cdv A outer s H E0).tr pn xe) Th hF rfl hg hr' (fun σ => passAt tk σ) rfl (Or.inl rfl))))
      (fun a oe cls d pn _ _ => pss_one (ps_expr (pe_bm PySem.F.plainAttrs_list PySem.F.slot_list_append PySem.F.type_list_append mt_append (pv 1) (pa_cons (pv 2) pa_nil)))))
    (pss_one (ps_ret (pe_ifExp (pt_cmpR (op_neNil hu) (pv 1) (pe_lst pa_nil) (nomark _)) (pe_ix ix_list (pv 1) pe_int (fun _ _ => rfl)) pe_non)))), ?_⟩
  refine ⟨Nat.zero_le _, fun Fd nF => ?_⟩
  refine ⟨rfl, ExtN.of (same_upd nF), h Fd nF _ _ ?_ ?_⟩
  · rintro d dd H2 hd eF q
    refine ⟨true, xW, fun _ a na => ?_, fun z => nomatch z⟩
    have naF : Fd ≠ a := ne_of_none eF na
    refine ⟨_, rfl, .inl ⟨rfl, _, SqL.of eF⟩, _, rfl, Fd, _, _, rfl, rfl, eF, by show 0 < sizeLine; decide, by rw [upd_ne naF.symm]; exact na, ?_⟩
    refine ⟨_, rfl, Nat.zero_le _, fun N nN => ⟨Fd, N, [.ref a], rfl, rfl, SqL.of ((same_upd nN) _ _ (by rw [upd_ne naF, upd_same]; rfl)), SqL.of upd_same, _, rfl, iteT ⟨_, rfl, Fd, _, 0, .ref a, rfl, rfl, SqL.of ((same_upd nN) _ _ (by rw [upd_ne naF, upd_same])), atI_nat (j := 0) rfl, q a na N nN⟩⟩⟩
  · rintro v H2 eF q
    refine ⟨_, rfl, Nat.zero_le _, fun N nN => ⟨Fd, N, [], rfl, rfl, SqL.of ((same_upd nN) _ _ eF), SqL.of upd_same, _, rfl, iteF (q N nN)⟩⟩
end
end K8

set_option maxRecDepth 100000
set_option maxHeartbeats 4000000
namespace K8
open PySem PySem.Spec PyProof.Rows L2 LamX KX M8
/-- told.append(action()), in the lambda that _law_caught gets; H0: the state at its start -/
def tTold (K : PySem.W.Frag) (f1 : Addr) (tl1 : XK → Hp → VK → Prop) (H0 : Hp) (E : XK) : TE :=
  tBM K "list" rAppend (tVar 1) (tCons (fun σ H Q => σ[0]? = some (some (.ref f1)) ∧ ExtN H0 H ∧ tl1 E H Q) tNil)
/-- _law_caught(lambda: ..) in _law_word -/
theorem pe_caught {X : Cx} {T : List (Addr × Str)} {g C c P0 f1 : Addr} {fd : FuncData} {F1 : List Addr} {tl1 : XK → Hp → VK → Prop} {k : Nat} {params : Arguments} {scope : Scope} {pos lpos p p2 apos cpos p1' p2' : Pos}
    (Fn : FunD X.K "_law_caught" "_law_caught" (defArgs sCaught) (defBody sCaught) (defScope sCaught) [] [] g fd) (Tn : Nm X.mg) (TW : WEr X.K X.mg C) (hgl : Gl X "_law_caught") (hm : X.mg "_law_caught" = some (.ref g)) (hk : PySem.W.keepIn X.K (.ref g) = true)
    (hb : L2.Binds X.K fd ["action"] []) (hex : X.ex = []) (hg : X.A.guards = some []) (hr : Room (k + 4) X.A)
    (Th : Thk X.prog X.w X.K X.mg X.base k F1 f1 tl1 X.H_0 X.s_0.heap) (hF1 : ∀ b ∈ F1, b ∉ X.fs)
    (TB : TabB X.base X.mg c P0) (hcode : X.env.code = .ref c) (hmT : (P0, X.env.qual ++ "<lambda>") ∈ T) (hu : ∀ q ∈ T, q.1 = P0 → q.2 = X.env.qual ++ "<lambda>") (L : LamS X.env.scope scope) (hdef : defaultsOf params X.env = ([], []))
    (hbind : ∀ (q : Str) (cl : List (Str × Addr)) (pm cv ctv : Value), bindArgs (PySem.W.kla_fn "<lambda>" q params (.Call (.Attribute (.Name "told" p2) "append" apos) [.Call (.Name "action" p1') [] [] p2'] [] cpos) scope cl pm cv ctv) ⟨[], []⟩ = pure [])
    (hN0 : X.N[0]? = some ("action" : Str)) (hN1 : X.N[1]? = some ("told" : Str)) (hv0 : Vis scope ("action" : Str)) (hv1 : Vis scope ("told" : Str))
    (hline : (apos.endLine == cpos.line) = true) (hbase : ∀ env : Env, env.scope = scope → attributeBase (.Name "told" p2) "append" env (eval (.Name "told" p2) env) = eval (.Name "told" p2) env)
    (hstar : ∀ env : Env, starEach [.Call (.Name "action" p1') [] [] p2'] env = [(false, eval (.Call (.Name "action" p1') [] [] p2') env)]) :
    PE X (.Call (.Name "_law_caught" p) [.Lambda params (.Call (.Attribute (.Name "told" p2) "append" apos) [.Call (.Name "action" p1') [] [] p2'] [] cpos) scope lpos] [] pos)
      (fun σ H Q => Tabs T H ∧ ExtN X.H_0 H ∧ ∀ H1, ExtN H H1 → Tabs T H1 → TC C (fun E H' Q' => tTold X.K f1 tl1 H' E σ H' Q') H1 Q) := by
  refine ⟨fun pins s σ H Q I h => ?_⟩
  obtain ⟨hT, hx, h⟩ := h
  refine wpAny_Call_Name_kw (ld_glob I hgl hm ?_ (by decide))
  refine PySem.W.callWith_K (h₀ := X.base) I.ok.mod.kin hk ?_ (by rfl) (by rfl)
  show wpAny _ _ (spliced ((false, eval (.Lambda params _ scope lpos) X.env) :: backTo pos (starEach [] X.env))) _ _ s
  refine Calls.spliced_cons (lam_make2 I TB hcode hmT hu hT hdef (L.has I.ok) fun f c' pm' ctv H1 s' I1 eN T1 hf hfn hfr hco => ?_)
  refine Calls.spliced_nil ⟨I1.kIn, ?_⟩
  have ub : Un X.fs [] X.H_0 H1 X.s_0.heap s'.heap := by
    have := I1.base
    rw [hex] at this
    exact this
  have lat1 : Lat F1 X.H_0 H1 X.s_0.heap s'.heap := Lat.of_un ub (fun b hb => ⟨Th.un b hb, hF1 b hb⟩) (hx.trans eN)
  have Th1 := Th.later lat1
  have nst : ∀ b ∈ f :: F1, b ∉ frs X.stack := fun b hb => by
    rcases List.mem_cons.mp hb with rfl | hb
    · exact hfr
    · exact notOn I1 Th.ex hF1 b hb
  have Th2 : Thk X.prog X.w X.K X.mg X.base (k + 1) (f :: F1) f (fun E H' Q => tTold X.K f1 tl1 H' E σ H' Q) H1 s'.heap := by
    refine thk_lam (t := tTold X.K f1 tl1) I1 L hf List.mem_cons_self (fun b hb => ?_) (fun b hb => ?_) hco (hbind _ _ _ _ _) fun A outer s2 H2 E lat hfo hg2 hr2 e02 => ?_
    · rcases List.mem_cons.mp hb with rfl | hb
      · exact hfn
      · exact Th1.un b hb
    · rcases List.mem_cons.mp hb with rfl | hb
      · exact ⟨_, hf⟩
      · exact Th1.ex b hb
    · have Th3 := Th1.later (lat.sub fun b hb => List.mem_cons_of_mem _ hb)
      have hx : Passes (L2.CX X.prog X.w) (lamCx X A outer s2 H2 E scope f c') E := passes_call (W := fun c d _ H => E c d H) (takes_of rfl rfl rfl rfl) fun _ _ _ _ h => h
      have p0 := pe_thk (X := lamCx X A outer s2 H2 E scope f c') (E := E) (i := 0) (a := "action") (p1 := p1') (p2 := p2') Th3 (fun b hb => hfo b (List.mem_cons_of_mem _ hb)) rfl hg2 hr2 hx hN0 hv0
      exact pe_bm (X := lamCx X A outer s2 H2 E scope f c') PySem.F.plainAttrs_list PySem.F.slot_list_append PySem.F.type_list_append mt_append (pe_var (i := 1) hN1 hv1 (by decide) (by decide)) (pa_cons p0 pa_nil) (hbase _ rfl) (by rw [hstar]; rfl) hline (hstar _) rfl
  have rc := caught_ok Fn Tn TW (args := ⟨[.ref f], []⟩) hg (show Room (k + 1 + 2) X.A from hr.mono (by omega)) I1.env0 (hb s' [.ref f] I1.kIn rfl) Th2 nst (h H1 eN T1)
  refine wpAny_call (codeAny_mono rc fun r s2 hq => ?_)
  cases r with
  | error e => exact passL pins σ H1 s' e s2 I1 hq
  | ok fl =>
    cases fl with
    | ret u => exact I1.after hq
    | next => exact False.elim hq
    | brk => exact False.elim hq
    | cont => exact False.elim hq
end K8

set_option maxRecDepth 100000
set_option maxHeartbeats 4000000
namespace K8
open PySem PySem.Spec PyProof.Rows L2 LamX KX M8
/-- what the written part says of NoText, for _law_word -/
structure WdC (K : PySem.W.Frag) (mg : Str → Option Value) (C : Addr) : Prop where
  gU : ∃ U : Addr, mg "Used" = some (.ref U) ∧ PySem.W.kitOne K (.ref C) (.ref U) = some false
  gM : ∃ U : Addr, mg "TooMany" = some (.ref U) ∧ PySem.W.kitOne K (.ref C) (.ref U) = some false
  gT : mg "NoText" = some (.ref C) ∧ PySem.W.kitOne K (.ref C) (.ref C) = some true
  exc : ExcC K C
  xf : XfC K C
  line : PySem.W.findIn K (.ref C) "line" = some none
/-- the data that _law_word answers -/
def wResD (r : Option PyData) : PyData := r.getD (.tuple [.str "text", .int 0])
/-- the tracked data of the function that _law_word gets: an answer, or NoText -/
def TWd (C : Addr) (r : Option PyData) (tl : XK → Hp → VK → Prop) (H : Hp) : Prop := ∀ H1, ExtN H H1 → ∀ E Q,
  (r = none → NoTextOut C H1 E) → (∀ v H2 d, r = some d → Same H1 H2 → Dt H2 v d → Q v H2) → tl E H1 Q
/-- tables and code objects stay -/
theorem tabs_extE {T : List (Addr × Str)} {H H' : Hp} (t : Tabs T H) (e : ∀ b o, H b = some o → ((∃ ps, o = .tbl ps) ∨ ∃ c q, o = CodeO c q) → H' b = some o) : Tabs T H' := fun p hp => by
  obtain ⟨ps, h1, h2, h3⟩ := t p hp
  refine ⟨ps, e _ _ h1 (.inl ⟨_, rfl⟩), h2, fun pos cv hc => ?_⟩
  obtain ⟨c, e1, e2⟩ := h3 pos cv hc
  exact ⟨c, e1, e _ _ e2 (.inr ⟨_, _, rfl⟩)⟩
theorem tc_ne_lst {o : HO} {vs : List V} (h : (∃ ps, o = .tbl ps) ∨ ∃ c q, o = CodeO c q) : o ≠ .lst vs := fun z => by
  rcases h with ⟨ps, e⟩ | ⟨c, q, e⟩
  · rw [e] at z
    cases z
  · rw [e] at z
    unfold CodeO at z
    cases z
section
variable {P : Program} {w : World} {K : PySem.W.Frag} {mg : Str → Option Value} {base : Heap}
theorem scWord : FnScope ["action", "told", "error", "word", "is_one"] ["action"] (defScope sWordOf) := ⟨rfl, rfl, rfl, by decide +kernel, rfl, by decide +kernel, by decide +kernel⟩
theorem word_ok {T : List (Addr × Str)} {g gc C cW PW : Addr} {fd fdc : FuncData} (Fn : FunD K "_law_word" "_law_word" (defArgs sWordOf) (defBody sWordOf) (defScope sWordOf) [] [] g fd) (Fc : FunD K "_law_caught" "_law_caught" (defArgs sCaught) (defBody sCaught) (defScope sCaught) [] [] gc fdc)
    (Tn : Nm mg) (TW : WEr K mg C) (TC' : WdC K mg C) (hmc : mg "_law_caught" = some (.ref gc)) (hcode : fd.code = .ref cW) (TB : TabB base mg cW PW) (hmT : (PW, ("_law_word.<locals>.<lambda>" : Str)) ∈ T) (hu : ∀ q ∈ T, q.1 = PW → q.2 = ("_law_word.<locals>.<lambda>" : Str))
    {A : Around} {outer : List Env} {s : Shared} {H : Hp} {args : Args} {F : List Addr} {f : Addr} {tl : XK → Hp → VK → Prop} {Q : VK} {k : Nat} {r : Option PyData}
    (hg : A.guards = some []) (hr : Room (k + 5) A) (e0 : Env0 P w K mg base A outer s H) (hb : BindsTo s fd args [("action", .ref f)]) (hbc : L2.Binds K fdc ["action"] []) (Th : Thk P w K mg base k F f tl H s.heap) (hF : ∀ b ∈ F, b ∉ frs outer) (hT : Tabs T H)
    (h : TWd C r tl H) (hn : ∀ d, r = some d → noL d = true) (q : ∀ H3 u, ExtN H H3 → Tabs T H3 → Dt H3 u (wResD r) → Q u H3) :
    codeAny (model P w) A (.call (.ref g) args) (CR (L2.CX P w) outer P w H s Q E0) s := by
  obtain ⟨oc, od, dV, kV, doc, pm, an, cdv, ct, osl, rfl, lk, hcd, _, _⟩ := Fn.ex
  obtain rfl : cdv = .ref cW := hcode
  obtain ⟨U1, gU, xU⟩ := TC'.gU
  obtain ⟨U2, gM, xM⟩ := TC'.gM
  obtain ⟨gT, xT⟩ := TC'.gT
  refine run_ofS (N := ["action", "told", "error", "word", "is_one"]) (ps := ["action"]) (us := [.ref f]) (vs := [.ref f]) lk hcd scWord (show Room ((k + 4) + 1) A from hr) e0 hb (.cons rfl .nil) rfl fun hr' => ?_
  refine ⟨_, pss_cons (ps_set (i := 1) scWord.nd rfl (Or.inr rfl) (pe_lst pa_nil)) (pss_cons (ps_set (i := 2) scWord.nd rfl (Or.inl rfl)
      (pe_caught (X := cxOf (L2.CX P w) P w K mg base ["action", "told", "error", "word", "is_one"] "_law_word" (defScope sWordOf) g (.ref cW) A outer s H E0) (T := T) (tl1 := tl) (F1 := F) (f1 := f) (k := k) Fc Tn TW rfl hmc Fc.kp hbc rfl hg hr' Th hF TB rfl hmT hu (lamS_by (sc := defScope sWordOf) (by decide +kernel)) rfl (fun _ _ _ _ _ => rfl) rfl rfl (Or.inr (Or.inr rfl)) (Or.inr (Or.inr rfl)) rfl (fun env he => rfl) (fun env => rfl)))
    (pss_cons (ps_if (pt_cmpR op_isN (pv 2) pe_non (nomark _)) (pss_one (ps_ret (pe_ix ix_list (pv 1) pe_int (fun _ _ => rfl)))) pss_nil)
    (pss_cons (ps_if (pt_val (pe_callB call_isErr (by rfl) Tn.isinstance bISI (pa_cons (pv 2) (pa_cons (pe_glob (v := .ref U1) rfl gU rfl) pa_nil)))) pss_never pss_nil)
    (pss_cons (ps_if (pt_val (pe_callB call_isErr (by rfl) Tn.isinstance bISI (pa_cons (pv 2) (pa_cons (pe_glob (v := .ref U2) rfl gM rfl) pa_nil)))) pss_never pss_nil)
    (pss_cons (ps_if (pt_val (pe_callB call_isErr (by rfl) Tn.isinstance bISI (pa_cons (pv 2) (pa_cons (pe_glob (v := .ref C) rfl gT rfl) pa_nil)))) (pss_one (ps_ret (pe_tup (pa_cons pe_str (pa_cons (pe_errF (pv 2)) pa_nil))))) pss_nil)
    pss_never))))), ?_⟩
  refine ⟨Nat.zero_le _, fun Ft nF => ?_⟩
  have sF : Same H (upd H Ft (.lst [])) := same_upd nF
  refine ⟨fun p hp => (hT p hp).ext sF, ExtN.of sF, fun H1 e1 T1 Fd nFd E' Q' hraise hok => ?_⟩
  have eF1 : H1 Ft = some (.lst []) := e1 _ _ upd_same (fun ps z => nomatch z)
  have neF : Ft ≠ Fd := ne_of_none eF1 nFd
  have sD : Same H1 (upd H1 Fd (.lst [])) := same_upd nFd
  refine ⟨_, rfl, .inl ⟨rfl, _, SqL.of (sD _ _ eF1)⟩, rfl, ExtN.refl _, h _ (((ExtN.of sF).trans e1).trans (ExtN.of sD)) _ _ ?_ ?_⟩
  · rintro rfl H2 d sm nd ed
    refine hraise _ d H2 rfl (sm _ _ upd_same) fun a na N nN => ?_
    have nda : d ≠ a := ne_of_none ed na
    have ndF : d ≠ Fd := fun z => by
      rw [z, sm _ _ upd_same] at ed
      cases ed
    have sH : Same H1 (upd (upd (upd H2 Fd (.lst [.ref a])) a (ErrO a (.ref C) (some d))) N (.lst [])) := fun b o e => by
      have b1 : b ≠ Fd := ne_of_none e nFd
      have e2 : H2 b = some o := sm _ _ (sD _ _ e)
      have b2 : b ≠ a := ne_of_none e2 na
      have e3 : (upd (upd H2 Fd (.lst [.ref a])) a (ErrO a (.ref C) (some d))) b = some o := by rw [upd_ne b2, upd_ne b1]; exact e2
      exact same_upd nN _ _ e3
    have ha : (upd (upd (upd H2 Fd (.lst [.ref a])) a (ErrO a (.ref C) (some d))) N (.lst [])) a = some (ErrO a (.ref C) (some d)) := same_upd nN _ _ upd_same
    have hd : (upd (upd (upd H2 Fd (.lst [.ref a])) a (ErrO a (.ref C) (some d))) N (.lst [])) d = some (.xd [("line", .int 0)]) := same_upd nN _ _ (by rw [upd_ne nda, upd_ne ndF]; exact ed)
    refine ⟨_, rfl, rfl, _, rfl, iteF ⟨_, rfl, a, C, d, _, .ref U1, _, _, rfl, .own _, TC'.exc, ha, hd, xU, _, rfl, iteF ⟨_, rfl, a, C, d, _, .ref U2, _, _, rfl, .own _, TC'.exc, ha, hd, xM, _, rfl, iteF ⟨_, rfl, a, C, d, _, .ref C, _, _, rfl, .own _, TC'.exc, ha, hd, xT, _, rfl, iteT ?_⟩⟩⟩⟩
    refine ⟨_, rfl, a, C, d, _, .int 0, rfl, TC'.xf, TC'.line, ha, hd, rfl, (by show 2 ≤ sizeLine; decide), fun Tt nT => ?_⟩
    have sT : Same H1 (upd (upd (upd (upd H2 Fd (.lst [.ref a])) a (ErrO a (.ref C) (some d))) N (.lst [])) Tt (.tup [.str "text", .int 0])) := sH.trans (same_upd nT)
    exact q _ _ (((ExtN.of sF).trans e1).trans (ExtN.of sT)) (fun p hp => (T1 p hp).ext sT) (.tup upd_same (.cons (.str _) (.cons (.int _) .nil)))
  · rintro v H2 d rfl sm hd
    refine ⟨Ft, _, _, rfl, rfl, sm _ _ (sD _ _ eF1), (by show 0 < sizeLine; decide), ?_⟩
    have eD2 : H2 Fd = some (.lst []) := sm _ _ upd_same
    refine hok _ _ (by rw [upd_ne neF.symm]; exact eD2) fun N nN => ?_
    have sH : ∀ b o, H1 b = some o → b ≠ Ft → (upd (upd H2 Ft (.lst [v])) N (.lst [])) b = some o := fun b o e n => same_upd nN _ _ (by rw [upd_ne n]; exact sm _ _ (sD _ _ e))
    have eT : (upd (upd H2 Ft (.lst [v])) N (.lst [])) Ft = some (.lst [v]) := same_upd nN _ _ upd_same
    refine ⟨_, rfl, rfl, _, rfl, iteT ⟨_, rfl, Ft, _, 0, v, rfl, rfl, SqL.of eT, atI_nat (j := 0) rfl, ?_⟩⟩
    refine q _ _ (fun b o e n => ?_) (tabs_extE T1 fun b o e c => sH b o e fun z => ?_) ?_
    · have b1 : b ≠ Ft := ne_of_none e nF
      exact sH b o (e1 _ _ (sF _ _ e) n) b1
    · rw [z, eF1] at e
      cases e
      exact tc_ne_lst c rfl
    · have k1 : Keep H2 (upd H2 Ft (.lst [v])) := keep_upd (sm _ _ (sD _ _ eF1))
      exact (dtKeep k1 hd (hn d rfl)).same (same_upd nN)
end
end K8

set_option maxRecDepth 100000
set_option maxHeartbeats 4000000
namespace K8
open PySem PySem.Spec PyProof.Rows L2 LamX KX M8
/-- f(k = v, ..), no argument by place -/
theorem pe_gk0 {X : Cx} {k : Nat} {f : Addr} {fd : FuncData} {ps : List Str} {sp : Sp} {E : XK} {x : Str} {p pos : Pos} {kws : List Keyword} {tk : TA} (F : FnG X.prog X.w X.K X.mg X.base k f fd ps sp) (hg : X.A.guards = some []) (hr : Room k X.A) (hm : X.mg x = some (.ref f)) (hk : PySem.W.keepIn X.K (.ref f) = true)
    (hb : ∀ (s : Shared) (us : List Value), us.length = ps.length → BindsTo s fd ⟨[], ps.zip us⟩ (ps.zip us)) (hx : Passes (L2.CX X.prog X.w) X E) (hkw : PK X kws tk) (hgl : Gl X x := by rfl)
    (hall : (backToKw pos (keywordEach kws X.env)).all (·.1.isSome) = true := by rfl) (hks : (backToKw pos (keywordEach kws X.env)).filterMap (·.1) = ps := by rfl)
    (hdb : (x == ("__debug__" : Str)) = false := by decide) (hpl : ((backTo pos (starEach [] X.env)).any (·.1) || (backToKw pos (keywordEach kws X.env)).any (·.1.isNone)) = false := by rfl) :
    PE X (.Call (.Name x p) [] kws pos) (fun σ H Q => tk σ H fun zs H2 => sp zs H2 Q E) := by
  refine ⟨fun pins s σ H Q I h => ?_⟩
  refine wpAny_Call_Name_kw (ld_glob I hgl hm ?_ hdb)
  refine PySem.W.callWith_KW0 (h₀ := X.base) I.ok.mod.kin hk hall (thn (hkw.run pos pins s σ H _ I h) fun ws s2 ⟨zs, H2, I2, rz, q2⟩ => ⟨I2.kIn, ?_⟩) hpl
  rw [hks]
  have hl : ws.length = ps.length := by rw [← rz.length]; exact F.len _ _ _ _ q2
  refine wpAny_call (codeAny_mono (F.run X.A X.stack s2 H2 ⟨[], ps.zip ws⟩ ws zs Q E hg hr I2.env0 (hb s2 ws hl) rz q2) fun r s' hq => ?_)
  cases r with
  | error e => exact hx pins σ H2 s2 e s' I2 hq
  | ok fl =>
    cases fl with
    | ret u => exact I2.after hq
    | next => exact False.elim hq
    | brk => exact False.elim hq
    | cont => exact False.elim hq
/-- _law_word(lambda: ..) -/
theorem pe_word {X : Cx} {T : List (Addr × Str)} {g gc C c P0 cW PW : Addr} {fd fdc : FuncData} {k : Nat} {t : Hp → XK → TE} {params : Arguments} {body : Expr} {scope : Scope} {pos lpos p : Pos}
    (Fn : FunD X.K "_law_word" "_law_word" (defArgs sWordOf) (defBody sWordOf) (defScope sWordOf) [] [] g fd) (Fc : FunD X.K "_law_caught" "_law_caught" (defArgs sCaught) (defBody sCaught) (defScope sCaught) [] [] gc fdc)
    (Tn : Nm X.mg) (TW : WEr X.K X.mg C) (TD : WdC X.K X.mg C) (hgl : Gl X "_law_word") (hm : X.mg "_law_word" = some (.ref g)) (hmc : X.mg "_law_caught" = some (.ref gc)) (hcode : fd.code = .ref cW) (TBW : TabB X.base X.mg cW PW) (hmW : (PW, ("_law_word.<locals>.<lambda>" : Str)) ∈ T) (huW : ∀ q ∈ T, q.1 = PW → q.2 = ("_law_word.<locals>.<lambda>" : Str))
    (hb : L2.Binds X.K fd ["action"] []) (hbc : L2.Binds X.K fdc ["action"] []) (hg : X.A.guards = some []) (hr : Room (k + 5) X.A)
    (TB : TabB X.base X.mg c P0) (hxc : X.env.code = .ref c) (hmT : (P0, X.env.qual ++ "<lambda>") ∈ T) (hu : ∀ q ∈ T, q.1 = P0 → q.2 = X.env.qual ++ "<lambda>") (L : LamS X.env.scope scope) (hdef : defaultsOf params X.env = ([], []))
    (hbind : ∀ (q : Str) (cl : List (Str × Addr)) (pm cv ctv : Value), bindArgs (PySem.W.kla_fn "<lambda>" q params body scope cl pm cv ctv) ⟨[], []⟩ = pure [])
    (hbody : ∀ (A : Around) (outer : List Env) (s' : Shared) (H' : Hp) (E : XK) (f c' : Addr), A.guards = some [] → Room k (A.deeper (lamEnv X scope s'.heap.objs.size f c')) → Env0 X.prog X.w X.K X.mg X.base A outer s' H' → PE (lamCx X A outer s' H' E scope f c') body (t H' E)) :
    PE X (.Call (.Name "_law_word" p) [.Lambda params body scope lpos] [] pos)
      (fun σ H Q => Tabs T H ∧ ∀ H1, ExtN H H1 → Tabs T H1 → ∃ r, TWd C r (fun E H' Q' => t H' E σ H' Q') H1 ∧ (∀ d, r = some d → noL d = true) ∧ ∀ H3 u, ExtN H1 H3 → Tabs T H3 → Dt H3 u (wResD r) → Q u H3) := by
  refine ⟨fun pins s σ H Q I h => ?_⟩
  obtain ⟨hT, h⟩ := h
  refine wpAny_Call_Name_kw (ld_glob I hgl hm ?_ (by decide))
  refine PySem.W.callWith_K (h₀ := X.base) I.ok.mod.kin Fn.kp ?_ (by rfl) (by rfl)
  show wpAny _ _ (spliced ((false, eval (.Lambda params _ scope lpos) X.env) :: backTo pos (starEach [] X.env))) _ _ s
  refine Calls.spliced_cons (lam_make2 I TB hxc hmT hu hT hdef (L.has I.ok) fun f c' pm' ctv H1 s' I1 eN T1 hf hfn hfr hco => ?_)
  refine Calls.spliced_nil ⟨I1.kIn, ?_⟩
  have Th : Thk X.prog X.w X.K X.mg X.base k [f] f (fun E H' Q => t H' E σ H' Q) H1 s'.heap := by
    refine thk_lam (t := t) I1 L hf List.mem_cons_self (fun b hb => ?_) (fun b hb => ?_) hco (hbind _ _ _ _ _) fun A outer s2 H2 E lat hfo hg2 hr2 e02 => hbody A outer s2 H2 E f c' hg2 hr2 e02
    · rw [List.mem_singleton.mp hb]
      exact hfn
    · rw [List.mem_singleton.mp hb]
      exact ⟨_, hf⟩
  obtain ⟨r, h1, h2, h3⟩ := h H1 eN T1
  have rc := word_ok Fn Fc Tn TW TD hmc hcode TBW hmW huW (args := ⟨[.ref f], []⟩) hg hr I1.env0 (hb s' [.ref f] I1.kIn rfl) hbc Th (fun b hb => by rw [List.mem_singleton.mp hb]; exact hfr) T1 h1 h2 h3
  refine wpAny_call (codeAny_mono rc fun r s2 hq => ?_)
  cases r with
  | error e => exact passL pins σ H1 s' e s2 I1 hq
  | ok fl =>
    cases fl with
    | ret u => exact I1.after hq
    | next => exact False.elim hq
    | brk => exact False.elim hq
    | cont => exact False.elim hq
end K8

set_option maxRecDepth 100000
set_option maxHeartbeats 4000000
namespace M8
open PySem
theorem S_str (x : Str) : S x.cps.toList = x := by
  cases x with
  | mk a => simp [S]
/-- a leaf's text has no separators, and is not empty; its plain reading is the leaf -/
theorem leaf_text {d : PyData} (h : leafOk d = true) (ht : isTup d = false) : vt d ≠ [] ∧ (∀ c ∈ vt d, sp c = false) ∧ plainV (vt d) = [d] := by
  cases d with
  | none => exact ⟨by rw [vt]; simp, by rw [vt]; intro c hc; rw [List.mem_singleton.mp hc]; rfl, by rw [vt]; rfl⟩
  | str x =>
    have hw : word x.cps.toList = true := h
    have hw2 := hw
    unfold word at hw2
    rw [Bool.and_eq_true] at hw2
    obtain ⟨h1, h2⟩ := hw2
    have hsm : ∀ c ∈ x.cps.toList, 97 ≤ c ∧ c ≤ 122 := fun c hc => by
      have := List.all_eq_true.mp h2 c hc
      unfold small at this
      simp only [Bool.and_eq_true, decide_eq_true_eq] at this
      exact this
    have hne : x.cps.toList ≠ [] := fun z => by
      rw [z] at h1
      simp at h1
    rw [vt]
    refine ⟨hne, fun c hc => ?_, ?_⟩
    · have := hsm c hc
      unfold sp
      simp only [Bool.or_eq_false_iff, beq_eq_false_iff_ne]
      omega
    · unfold plainV
      rw [if_neg, if_pos hw]
      · intro z
        have := hsm 45 (by rw [z]; simp)
        omega
  | int i =>
    have hf : isFig i = true := h
    unfold isFig at hf
    simp only [Bool.and_eq_true, decide_eq_true_eq] at hf
    obtain ⟨f1, f2⟩ := hf
    rw [vt]
    have key : ∀ n : Nat, n < 1000000000000 → (TL.numL n ≠ [] ∧ (∀ c ∈ TL.numL n, 48 ≤ c ∧ c ≤ 57) ∧ (TL.numL n).length ≤ 12 ∧ bareOk (TL.numL n) = true) := fun n hn => by
      have h1 := TL.numL_ne n
      have h2 : ∀ c ∈ TL.numL n, 48 ≤ c ∧ c ≤ 57 := TL.numL_digits n
      have h3 := TL.numL_len (n := n) (k := 12) (by decide) hn
      refine ⟨h1, h2, h3, ?_⟩
      unfold bareOk
      have hl : 1 ≤ (TL.numL n).length := List.length_pos_iff.mpr h1
      simp only [Bool.and_eq_true, decide_eq_true_eq]
      refine ⟨⟨hl, h3⟩, List.all_eq_true.mpr fun c hc => ?_⟩
      have := h2 c hc
      unfold digit
      simp only [Bool.and_eq_true, decide_eq_true_eq]
      exact this
    have notWord : ∀ (l : List Nat) (c : Nat), c ∈ l → c ≤ 57 → word l = false := fun l c hc hle => by
      cases hw : word l with
      | false => rfl
      | true =>
        unfold word at hw
        rw [Bool.and_eq_true] at hw
        have := List.all_eq_true.mp hw.2 c hc
        unfold small at this
        simp only [Bool.and_eq_true, decide_eq_true_eq] at this
        omega
    cases i with
    | ofNat n =>
      have hn : n < 1000000000000 := by
        have f3 : (n : Int) < 1000000000000 := f1
        omega
      obtain ⟨k1, k2, k3, k4⟩ := key n hn
      have e : intT (Int.ofNat n) = TL.numL n := intT_nat n
      have e' : intT (n : Int) = TL.numL n := intT_nat n
      obtain ⟨c0, r0, hc0⟩ : ∃ c r, TL.numL n = c :: r := by
        cases q : TL.numL n with
        | nil => exact absurd q k1
        | cons c r => exact ⟨c, r, rfl⟩
      have hc0d := k2 c0 (by rw [hc0]; simp)
      have tk : ¬ (TL.numL n).take 1 = [45] := fun z => by
        rw [hc0] at z
        simp at z
        omega
      rw [e]
      refine ⟨k1, fun c hc => ?_, ?_⟩
      · have := k2 c hc
        unfold sp
        simp only [Bool.or_eq_false_iff, beq_eq_false_iff_ne]
        omega
      · have hb : bareOf (TL.numL n) = TL.numL n := by unfold bareOf; rw [if_neg tk]
        have hv : numV (TL.numL n) = (n : Int) := by unfold numV; rw [if_neg tk, hb, TL.numL_val]
        unfold plainV
        rw [if_neg, if_neg, if_pos, hv, if_pos e']
        · rfl
        · rw [hb]; exact k4
        · rw [notWord _ c0 (by rw [hc0]; simp) (by omega)]; exact Bool.false_ne_true
        · intro z
          have := k2 45 (by rw [z]; simp)
          omega
    | negSucc n =>
      have hn : n + 1 < 1000000000000 := by omega
      obtain ⟨k1, k2, k3, k4⟩ := key (n + 1) hn
      have e := intT_neg n
      rw [e]
      refine ⟨by simp, fun c hc => ?_, ?_⟩
      · rcases List.mem_cons.mp hc with rfl | hc
        · rfl
        · have := k2 c hc
          unfold sp
          simp only [Bool.or_eq_false_iff, beq_eq_false_iff_ne]
          omega
      · have tk : (45 :: TL.numL (n + 1)).take 1 = [45] := rfl
        have hb : bareOf (45 :: TL.numL (n + 1)) = TL.numL (n + 1) := by unfold bareOf; rw [if_pos tk]; rfl
        have hv : numV (45 :: TL.numL (n + 1)) = Int.negSucc n := by unfold numV; rw [if_pos tk, hb, TL.numL_val]; rfl
        unfold plainV
        rw [if_neg, if_neg, if_pos, hv, if_pos e]
        · rw [hb]; exact k4
        · rw [notWord _ 45 (by simp) (by omega)]; exact Bool.false_ne_true
        · intro z
          injection z with z1 z2
          exact k1 z2
  | tuple ds => cases ht
  | bool b => cases h
  | list ds => cases h
  | dict kvs => cases h
def SpStart (r : List Nat) : Prop := r = [] ∨ ∃ d r', r = d :: r' ∧ sp d = true
theorem leaf_run {d : PyData} (h : leafOk d = true) (ht : isTup d = false) {r : List Nat} (hr : SpStart r) {st st' : VSt} (hp : putOne st.2 [d] st.1 = some st') : vrun (pieces (vt d ++ r)) st = vrun (pieces r) st' := by
  obtain ⟨h1, h2, h3⟩ := leaf_text h ht
  rw [pieces_run _ _ h1 h2 hr, vrun]
  have n1 : ∀ c, sp c = true → vt d ≠ [c] := fun c hc z => by
    have := h2 c (by rw [z]; simp)
    rw [hc] at this
    cases this
  have e : vstep (vt d) st = some st' := by
    unfold vstep
    rw [if_neg (n1 40 rfl), if_neg (n1 32 rfl)]
    unfold oneOf
    rw [if_neg (n1 41 rfl), h3]
    exact hp
  rw [e]
mutual
theorem run_vt : ∀ (d : PyData), vdD d = true → ∀ (r : List Nat) (st st' : VSt), SpStart r → putOne st.2 [d] st.1 = some st' → vrun (pieces (vt d ++ r)) st = vrun (pieces r) st'
  | .tuple ds, h, r, st, st', hr, hp => by
    have hA : vdA ds = true := by rw [vdD] at h; exact h
    have e : vt (.tuple ds) ++ r = 40 :: (vtIn ds ++ 41 :: r) := by rw [vt]; simp
    rw [e, pieces_sp rfl, vrun]
    have s1 : vstep [40] st = some ([] :: st.1, st.2) := by unfold vstep; rw [if_pos rfl]
    rw [s1]
    show vrun (pieces (vtIn ds ++ 41 :: r)) ([] :: st.1, st.2) = _
    rw [run_in ds hA r [] st.1 st.2, List.nil_append, pieces_sp rfl, vrun]
    have s2 : vstep [41] (ds :: st.1, st.2) = some st' := by
      unfold vstep
      rw [if_neg (by decide), if_neg (by decide)]
      unfold oneOf
      rw [if_pos rfl]
      exact hp
    rw [s2]
  | .none, h, r, st, st', hr, hp => leaf_run rfl rfl hr hp
  | .str x, h, r, st, st', hr, hp => leaf_run (by rw [vdD] at h; exact h) rfl hr hp
  | .int i, h, r, st, st', hr, hp => leaf_run (by rw [vdD] at h; exact h) rfl hr hp
  | .bool _, h, _, _, _, _, _ => by rw [vdD] at h; cases h
  | .list _, h, _, _, _, _, _ => by rw [vdD] at h; cases h
  | .dict _, h, _, _, _, _, _ => by rw [vdD] at h; cases h
theorem run_in : ∀ (ds : List PyData), vdA ds = true → ∀ (r : List Nat) (l : List PyData) (opens : List (List PyData)) (done : List PyData), vrun (pieces (vtIn ds ++ 41 :: r)) (l :: opens, done) = vrun (pieces (41 :: r)) ((l ++ ds) :: opens, done)
  | [], _, r, l, opens, done => by rw [vtIn, List.nil_append, List.append_nil]
  | d :: ds, h, r, l, opens, done => by
    rw [vdA, Bool.and_eq_true] at h
    rw [vtIn, List.append_assoc]
    rw [run_vt d h.1 (vtTl ds ++ 41 :: r) (l :: opens, done) ((l ++ [d]) :: opens, done) (by
      cases ds with
      | nil => exact .inr ⟨41, r, by rw [vtTl]; rfl, rfl⟩
      | cons e es => exact .inr ⟨32, _, by rw [vtTl]; rfl, rfl⟩) rfl]
    rw [run_tl ds h.2 r (l ++ [d]) opens done, List.append_assoc]
    rfl
theorem run_tl : ∀ (ds : List PyData), vdA ds = true → ∀ (r : List Nat) (l : List PyData) (opens : List (List PyData)) (done : List PyData), vrun (pieces (vtTl ds ++ 41 :: r)) (l :: opens, done) = vrun (pieces (41 :: r)) ((l ++ ds) :: opens, done)
  | [], _, r, l, opens, done => by rw [vtTl, List.nil_append, List.append_nil]
  | d :: ds, h, r, l, opens, done => by
    rw [vdA, Bool.and_eq_true] at h
    have e : vtTl (d :: ds) ++ 41 :: r = 32 :: (vt d ++ (vtTl ds ++ 41 :: r)) := by rw [vtTl]; simp
    rw [e, pieces_sp rfl, vrun]
    have s1 : vstep [32] (l :: opens, done) = some (l :: opens, done) := by
      unfold vstep
      rw [if_neg (by decide), if_pos rfl]
    rw [s1]
    show vrun (pieces (vt d ++ (vtTl ds ++ 41 :: r))) (l :: opens, done) = _
    rw [run_vt d h.1 (vtTl ds ++ 41 :: r) (l :: opens, done) ((l ++ [d]) :: opens, done) (by
      cases ds with
      | nil => exact .inr ⟨41, r, by rw [vtTl]; rfl, rfl⟩
      | cons e es => exact .inr ⟨32, _, by rw [vtTl]; rfl, rfl⟩) rfl]
    rw [run_tl ds h.2 r (l ++ [d]) opens done, List.append_assoc]
    rfl
end
/-- what is written is read back -/
theorem read_back {d : PyData} (h : isValue d = true) : readV (vt d) = some d := by
  have hv := ((isValue_iff d).mp h).1
  have e := run_vt d hv [] ([], []) ([], [d]) (.inl rfl) rfl
  rw [List.append_nil] at e
  have e2 : valueOf (pieces (vt d)) = [d] := by
    unfold valueOf
    rw [e]
    rfl
  unfold readV
  rw [e2]
  show (if isValue d = true then _ else _) = _
  rw [if_pos h, if_pos rfl]
theorem vt_inj {a b : PyData} (ha : isValue a = true) (hb : isValue b = true) (h : vt a = vt b) : a = b := by
  have h1 := read_back ha
  rw [h, read_back hb] at h1
  exact (Option.some.inj h1).symm
theorem VT_inj {a b : PyData} (ha : isValue a = true) (hb : isValue b = true) (h : VT a = VT b) : a = b := by
  refine vt_inj ha hb ?_
  have := congrArg (fun z : Str => z.cps.toList) h
  simpa [VT] using this
/-- what is read is written back -/
theorem read_is {X : List Nat} {d : PyData} (h : readV X = some d) : isValue d = true ∧ vt d = X := by
  unfold readV at h
  split at h
  · cases h
  · split at h
    · split at h
      · cases h
        exact ⟨by assumption, by assumption⟩
      · cases h
    · cases h
mutual
theorem eqv_eq : ∀ (a b : PyData), vdD a = true → vdD b = true → PyData.eqv a b = true → a = b
  | .tuple xs, b, ha, hb, h => by
    cases b with
    | tuple ys =>
      rw [PyData.eqv] at h
      rw [vdD] at ha hb
      rw [eqvA_eq xs ys ha hb h]
    | none => simp [PyData.eqv] at h
    | str y => simp [PyData.eqv] at h
    | int i => simp [PyData.eqv] at h
    | bool b => rw [vdD] at hb; cases hb
    | list ys => rw [vdD] at hb; cases hb
    | dict ys => rw [vdD] at hb; cases hb
  | .none, b, ha, hb, h => by
    cases b with
    | none => rfl
    | tuple ys => simp [PyData.eqv] at h
    | str y => simp [PyData.eqv] at h
    | int i => simp [PyData.eqv] at h
    | bool b => rw [vdD] at hb; cases hb
    | list ys => rw [vdD] at hb; cases hb
    | dict ys => rw [vdD] at hb; cases hb
  | .str x, b, ha, hb, h => by
    cases b with
    | str y =>
      rw [PyData.eqv] at h
      simp at h
      rw [h]
    | none => simp [PyData.eqv] at h
    | tuple ys => simp [PyData.eqv] at h
    | int i => simp [PyData.eqv] at h
    | bool b => rw [vdD] at hb; cases hb
    | list ys => rw [vdD] at hb; cases hb
    | dict ys => rw [vdD] at hb; cases hb
  | .int x, b, ha, hb, h => by
    cases b with
    | int y =>
      rw [PyData.eqv] at h
      simp at h
      rw [h]
    | none => simp [PyData.eqv] at h
    | tuple ys => simp [PyData.eqv] at h
    | str i => simp [PyData.eqv] at h
    | bool b => rw [vdD] at hb; cases hb
    | list ys => rw [vdD] at hb; cases hb
    | dict ys => rw [vdD] at hb; cases hb
  | .bool _, _, h, _, _ => by rw [vdD] at h; cases h
  | .list _, _, h, _, _ => by rw [vdD] at h; cases h
  | .dict _, _, h, _, _ => by rw [vdD] at h; cases h
theorem eqvA_eq : ∀ (xs ys : List PyData), vdA xs = true → vdA ys = true → PyData.eqvAll xs ys = true → xs = ys
  | [], [], _, _, _ => rfl
  | [], y :: ys, _, _, h => by simp [PyData.eqvAll] at h
  | x :: xs, [], _, _, h => by simp [PyData.eqvAll] at h
  | x :: xs, y :: ys, ha, hb, h => by
    rw [vdA, Bool.and_eq_true] at ha hb
    rw [PyData.eqvAll, Bool.and_eq_true] at h
    rw [eqv_eq x y ha.1 hb.1 h.1, eqvA_eq xs ys ha.2 hb.2 h.2]
end
end M8

set_option maxRecDepth 100000
set_option maxHeartbeats 4000000
namespace K8
open PySem PySem.Spec PyProof.Rows L2 LamX KX M8
/-- text * n -/
def repS (x : Str) (n : Nat) : Str := ⟨(List.replicate n x.cps).foldl (· ++ ·) #[]⟩
def rMulS : R2 := fun x y H Q => ∃ (z : Str) (n : Nat), x = .str z ∧ y = .int n ∧ 2 ≤ n ∧ n ≤ 10000 ∧ 0 < z.length ∧ z.length ≤ 100 ∧ Q (.str (repS z n)) H
theorem fold_size (a : Array Nat) : ∀ (n : Nat) (b : Array Nat), ((List.replicate n a).foldl (· ++ ·) b).size = b.size + n * a.size
  | 0, b => by simp
  | n + 1, b => by
    rw [List.replicate_succ, List.foldl_cons, fold_size a n (b ++ a), Array.size_append, Nat.succ_mul]
    omega
theorem repS_len (x : Str) (n : Nat) : (repS x n).length = n * x.length := by
  show ((List.replicate n x.cps).foldl (· ++ ·) #[]).size = n * x.cps.size
  rw [fold_size]
  simp
theorem op_mulS {X : Cx} : OpR X (binaryOp .Mult) rMulS := by
  intro pins s σ H x y v u Q I rx ry h
  obtain ⟨z, n, rfl, rfl, h1, h2, h3, h4, q⟩ := h
  obtain ⟨t, rfl⟩ := rx
  obtain ⟨t', rfl⟩ := ry
  refine PySem.P.mul_str ?_ (fun _ _ => ?_) (fun _ _ => ?_) ?_
  · simp only [Bool.or_eq_false_iff, decide_eq_false_iff_not]
    omega
  · have h5 : (10000 : Int) ≤ (2 ^ 63 - 1) / (n : Int) := by
      refine (Int.le_ediv_iff_mul_le (by omega)).mpr ?_
      omega
    omega
  · have : z.length * (n : Int).toNat ≤ 100 * 10000 := Nat.mul_le_mul h4 (by omega)
    show decide (_ > sizeLine) = false
    rw [decide_eq_false_iff_not]
    have h6 : sizeLine = 16777216 := rfl
    omega
  · rw [if_neg (by omega), if_neg (by
      have e1 : ((n : Int) == 1) = false := by rw [beq_eq_false_iff_ne]; omega
      have e2 : (z.length == 0) = false := by rw [beq_eq_false_iff_ne]; omega
      rw [e1, e2]
      decide)]
    refine ⟨?_, ⟨.str (repS z n), H, I.tok _, ⟨_, rfl⟩, q⟩⟩
    have e := repS_len z n
    have h7 : n * z.length ≤ 10000 * 100 := Nat.mul_le_mul h2 h4
    have h6 : sizeLine = 16777216 := rfl
    show (repS z n).length ≤ sizeLine
    omega
/-! ### the law's things -/
def things : List PyData := [.str "A", .str "", .str "a b", .str "a1", .str "-", .int (10 ^ 12), .int (0 - 10 ^ 12), .bool true, .list [.str "a"], .tuple [.str "a", .list [.str "b"]], .tuple [.str "a", .str "B"], nest 60 (.str "a"), .tuple [.str "a", .bool true]]
def textsD : List PyData := [.none, .int 5, .str "", .str " ", .str "A", .str "a b", .str "01", .str "-0", .str "--1", .str "+1", .str "1000000000000", .str "(", .str ")", .str "(a", .str "a)", .str "(a))", .str "( a)", .str "(a )", .str "(a  b)", .str "()()", .str "(a)(b)", .str "a()", .str "1a", .str "a1", .str "- 1", .str "(-)-", .str "(a\nb)", .str "1/2"]
theorem things_ok : ∀ d ∈ things, isValue d = false ∧ Good d := by
  have h : things.all (fun d => !isValue d && PyData.canLay0 d && decide (sz d ≤ 100000)) = true := by decide +kernel
  intro d hd
  have := List.all_eq_true.mp h d hd
  simp only [Bool.and_eq_true, Bool.not_eq_true', decide_eq_true_eq] at this
  exact ⟨this.1.1, this.1.2, this.2⟩
theorem texts_ok : ∀ d ∈ textsD, rdV d = none ∧ strLen d ≤ 50000 := by
  have h : textsD.all (fun d => (rdV d).isNone && decide (strLen d ≤ 50000)) = true := by decide +kernel
  intro d hd
  have := List.all_eq_true.mp h d hd
  simp only [Bool.and_eq_true, decide_eq_true_eq] at this
  exact ⟨Option.isNone_iff_eq_none.mp this.1, this.2⟩
def deepD : PyData := nest 59 (.str "a")
def deepS (n : Nat) : Str := repS "(" n ++ "a" ++ repS ")" n
theorem deep_ok : isValue deepD = true ∧ VT deepD = deepS 59 ∧ rdV (.str (deepS 59)) = some deepD ∧ rdV (.str (deepS 60)) = none ∧ (deepS 59).length ≤ 50000 ∧ (deepS 60).length ≤ 50000 := by
  have h1 : isValue deepD = true := by decide +kernel
  have h2 : VT deepD = deepS 59 := by decide +kernel
  have h3 : (rdV (.str (deepS 60))).isNone = true := by decide +kernel
  have h4 : decide ((deepS 59).length ≤ 50000) = true := by decide +kernel
  have h5 : decide ((deepS 60).length ≤ 50000) = true := by decide +kernel
  refine ⟨h1, h2, ?_, Option.isNone_iff_eq_none.mp h3, of_decide_eq_true h4, of_decide_eq_true h5⟩
  rw [← h2]
  exact read_back h1
/-! ### what may be handed to _law_is -/
theorem log_fig {i : Int} (h : isFig i = true) : i.natAbs.log2 < 40 := by
  unfold isFig at h
  simp only [Bool.and_eq_true, decide_eq_true_eq] at h
  have : i.natAbs < 2 ^ 40 := by omega
  by_cases z : i.natAbs = 0
  · rw [z]; decide
  · exact (Nat.log2_lt z).mpr this
mutual
theorem vd_show : ∀ {d : PyData}, vdD d = true → PyData.showable d = true ∧ PyData.intsShort 13 d = true
  | .tuple ds, h => by rw [PyData.showable, PyData.intsShort]; exact vd_showA (by rw [vdD] at h; exact h)
  | .none, _ => ⟨rfl, rfl⟩
  | .str _, _ => ⟨rfl, rfl⟩
  | .int i, h => by
    have hf : isFig i = true := by rw [vdD] at h; exact h
    have hl := log_fig hf
    refine ⟨by rw [PyData.showable]; exact decide_eq_true (by omega), ?_⟩
    rw [PyData.intsShort]
    refine decide_eq_true ?_
    have e : PyData.shown (.int i) = Str.ofString (toString i) := by rfl
    rw [e]
    show (Str.ofString (toString i)).cps.size ≤ 13
    have e2 : (Str.ofString (toString i)).cps.size = (intT i).length := by unfold intT; simp
    rw [e2]
    unfold isFig at hf
    simp only [Bool.and_eq_true, decide_eq_true_eq] at hf
    cases i with
    | ofNat n =>
      have f3 : (n : Int) < 1000000000000 := hf.1
      have e3 : intT (Int.ofNat n) = TL.numL n := intT_nat n
      rw [e3]
      have := TL.numL_len (n := n) (k := 12) (by decide) (by omega)
      omega
    | negSucc n =>
      rw [intT_neg]
      have := TL.numL_len (n := n + 1) (k := 12) (by decide) (by omega)
      rw [List.length_cons]
      omega
  | .bool _, h => by rw [vdD] at h; cases h
  | .list _, h => by rw [vdD] at h; cases h
  | .dict _, h => by rw [vdD] at h; cases h
theorem vd_showA : ∀ {ds : List PyData}, vdA ds = true → PyData.showableAll ds = true ∧ PyData.intsShortAll 13 ds = true
  | [], _ => ⟨rfl, rfl⟩
  | d :: ds, h => by
    rw [vdA, Bool.and_eq_true] at h
    obtain ⟨a, b⟩ := vd_show h.1
    obtain ⟨a', b'⟩ := vd_showA h.2
    rw [PyData.showableAll, PyData.intsShortAll, a, a', b, b']
    exact ⟨rfl, rfl⟩
end
mutual
theorem vd_weight : ∀ {d : PyData}, vdD d = true → PyData.weight d + 1 ≤ 41 * sz d
  | .tuple ds, h => by
    have := vd_weightA (by rw [vdD] at h; exact h)
    rw [PyData.weight, sz]
    omega
  | .none, _ => by rw [PyData.weight, sz]; omega
  | .str x, h => by
    have e : x.length = x.cps.size := rfl
    rw [PyData.weight, sz]
    omega
  | .int i, h => by
    have hf : isFig i = true := by rw [vdD] at h; exact h
    have hl := log_fig hf
    rw [PyData.weight, sz]
    split <;> omega
  | .bool _, h => by rw [vdD] at h; cases h
  | .list _, h => by rw [vdD] at h; cases h
  | .dict _, h => by rw [vdD] at h; cases h
theorem vd_weightA : ∀ {ds : List PyData}, vdA ds = true → PyData.weightAll ds ≤ 41 * szA ds
  | [], _ => by rw [PyData.weightAll]; omega
  | d :: ds, h => by
    rw [vdA, Bool.and_eq_true] at h
    have a := vd_weight h.1
    have b := vd_weightA h.2
    rw [PyData.weightAll, szA]
    omega
end
theorem vd_sane {d : PyData} (h : vdD d = true) (hd : PyData.depth d ≤ 59) (hz : sz d ≤ 20000) : Sane d where
  nl := vd_noL h
  lay := vd_lay h
  dep := hd
  shw := (vd_show h).1
  i13 := (vd_show h).2
  wgt := by
    have := vd_weight h
    have h2 : (2 : Nat) ^ 20 = 1048576 := rfl
    omega
/-- any text of plain signs -/
theorem str_sane {x : Str} (h : PyData.canLay0 (.str x) = true) (hz : x.length ≤ 100000) : Sane (.str x) where
  nl := rfl
  lay := h
  dep := by rw [PyData.depth]; omega
  shw := rfl
  i13 := rfl
  wgt := by
    rw [PyData.weight]
    have h2 : (2 : Nat) ^ 20 = 1048576 := rfl
    have h3 : x.length = x.cps.size := rfl
    omega
end K8

set_option maxRecDepth 100000
set_option maxHeartbeats 1000000
namespace K8
open PySem PySem.Spec PyProof.Rows L2 LamX KX M8
theorem lamPass {X : Cx} {A : Around} {outer : List Env} {s : Shared} {H : Hp} {E : XK} {scope : Scope} {f ca : Addr} : Passes (L2.CX X.prog X.w) (lamCx X A outer s H E scope f ca) E := passes_call (W := fun c d _ H => E c d H) (takes_of rfl rfl rfl rfl) fun _ _ _ _ h => h
/-- one keyword, no argument by place -/
theorem kw1 {K : PySem.W.Frag} {x qual n : Str} {params : Arguments} {body : List Stmt} {scope : Scope} {f : Addr} {fd : FuncData} (F : FunD K x qual params body scope [] [] f fd)
    (h : ∀ (kV doc pm : Value) (an : Option Addr) (cdv ct u : Value), bindArgs (PySem.W.fnOf x qual params body scope .none kV doc pm an cdv ct) ⟨[], [(n, u)]⟩ = pure [(n, u)]) : ∀ (s : Shared) (us : List Value), us.length = [n].length → BindsTo s fd ⟨[], [n].zip us⟩ ([n].zip us) := by
  obtain ⟨oc, od, dV, kV, doc, pm, an, cdv, ct, osl, rfl, lk, hcd, hD, hK⟩ := F.ex
  intro s us hl
  rcases hD with ⟨_, rfl⟩ | ⟨e, _⟩
  · match us, hl with
    | [u], _ => exact .of_eq (h kV doc pm an cdv ct u)
  · exact absurd rfl e
section
variable {P : Program} {w : World} {K : PySem.W.Frag} {mg : Str → Option Value} {base : Heap}
/-- okG, the def's code object told -/
theorem okGc {k : Nat} {f c : Addr} {fd : FuncData} {ps : List Str} {sp : Sp} {x qual : Str} {params : Arguments} {body : List Stmt} {scope : Scope} {dvs : List V} {kws : List (Str × V)} {N : List Str} (F : FunD K x qual params body scope dvs kws f fd) (S : FnScope N ps scope) (hc : fd.code = .ref c)
    (len : ∀ vs H Q E, sp vs H Q E → vs.length = ps.length)
    (hbody : ∀ (A : Around) (outer : List Env) (s : Shared) (H : Hp) (vs : List V) (Q : VK) (E : XK), A.guards = some [] → Room k (A.deeper (envOfC qual scope s.heap.objs.size f (.ref c))) → sp vs H Q E →
      ∃ t, PSs (cxOf (L2.CX P w) P w K mg base N qual scope f (.ref c) A outer s H E) body t ∧ t { nx := fun _ H' => Q .non H', rt := Q } (L2.start N vs) H) : FnG P w K mg base (k + 1) f fd ps sp := by
  obtain ⟨oc, od, dV, kV, doc, pm, an, cdv, ct, osl, rfl, lk, hcd, _, _⟩ := F.ex
  obtain rfl : cdv = .ref c := hc
  exact ⟨len, fun A outer s H args us vs Q E hg hr e0 hb r hsp => run_ofS lk hcd S hr e0 hb r (len _ _ _ _ hsp) fun hr' => hbody A outer s H vs Q E hg hr' hsp⟩
theorem scLaw : FnScope ["script", "state", "thing", "deepest", "turn", "one", "other", "text", "at", "bent", "told"] ["script"] (defScope sLaw) := ⟨rfl, rfl, rfl, by decide +kernel, rfl, by decide +kernel, by decide +kernel⟩
def qLaw : Str := "law.<locals>.<lambda>"
def qWord : Str := "_law_word.<locals>.<lambda>"
def spLaw (K : PySem.W.Frag) (TT : List (Addr × Str)) : Sp := fun vs H Q _ => ∃ (a : Addr) (ns : List Int), vs = [.ref a] ∧ SqL K H a (ns.map V.int) ∧ ns.length ≤ 1000 ∧ Tabs TT H ∧ ∀ H', Q (.bl true) H'
/-- what the written part says of the law's other functions -/
structure LawK (P : Program) (w : World) (K : PySem.W.Frag) (mg : Str → Option Value) (base : Heap) (C : Addr) : Prop where
  begun : GF P w K mg base 61 "_law_begun" ["script"] [] (spBegun (K := K))
  nested : GF P w K mg base 61 "_law_nested" ["many", "one"] [] spNested
  is_ : GF P w K mg base 61 "_law_is" ["found", "due"] [] spIs
  plain : GF P w K mg base 61 "_law_plain" ["value"] [] (spPlain 60)
  lvt : GF P w K mg base 61 "_law_value_text" ["value"] [] (spLVT 60)
  some_ : GF P w K mg base 61 "_law_some_value" ["state", "deep"] [] (spSome 4)
  draw : GF P w K mg base 61 "_law_draw" ["state", "room"] [] spDraw
  pick : GF P w K mg base 61 "_law_pick" ["state", "some"] [] spPick
/-- the statements of the law -/
def bdL (i : Nat) : Stmt := (defBody sLaw).getD i (.Pass ⟨0, 0, 0, 0⟩)
def forBody : Stmt → List Stmt
  | .For _ _ b _ _ => b
  | _ => []
def bdF (i : Nat) : Stmt := (forBody (bdL 5)).getD i (.Pass ⟨0, 0, 0, 0⟩)
abbrev NL : List Str := ["script", "state", "thing", "deepest", "turn", "one", "other", "text", "at", "bent", "told"]
abbrev cxL (P : Program) (w : World) (K : PySem.W.Frag) (mg : Str → Option Value) (base : Heap) (f cL : Addr) (A : Around) (outer : List Env) (s : Shared) (H : Hp) (E : XK) : Cx := (cxOf (L2.CX P w) P w K mg base NL "law" (defScope sLaw) f (.ref cL) A outer s H E).nox
end
end K8

set_option maxRecDepth 100000
set_option maxHeartbeats 1000000
namespace K8
open PySem PySem.Spec PyProof.Rows L2 LamX KX M8
section
variable {P : Program} {w : World} {K : PySem.W.Frag} {mg : Str → Option Value} {base : Heap} {A : Around} {outer : List Env} {s : Shared} {H0 : Hp} {E : XK} {f gW gc C cL PL cW aW fV fR : Addr} {fdW fdc fdV fdR : FuncData} {TT : List (Addr × Str)}
variable (T : Nm mg) (TW : WEr K mg C) (TD : WdC K mg C)
  (FW : FunD K "_law_word" "_law_word" (defArgs sWordOf) (defBody sWordOf) (defScope sWordOf) [] [] gW fdW) (Fc : FunD K "_law_caught" "_law_caught" (defArgs sCaught) (defBody sCaught) (defScope sCaught) [] [] gc fdc)
  (mW : mg "_law_word" = some (.ref gW)) (mc : mg "_law_caught" = some (.ref gc)) (bW : L2.Binds K fdW ["action"] []) (bc : L2.Binds K fdc ["action"] [])
  (hcW : fdW.code = .ref cW) (TBL : TabB base mg cL PL) (TBW : TabB base mg cW aW) (hmW : (aW, qWord) ∈ TT) (hmL : (PL, qLaw) ∈ TT) (huW : ∀ q ∈ TT, q.1 = aW → q.2 = qWord) (huL : ∀ q ∈ TT, q.1 = PL → q.2 = qLaw)
  (hg : A.guards = some []) (hr : Room 61 ((cxL P w K mg base f cL A outer s H0 E)).A)
  (G4value_text : GF P w K mg base 4 "value_text" ["value"] [] (spValueText C)) (G4read_value : GF P w K mg base 4 "read_value" ["text"] [] (spReadValue C))

include T hg hr
theorem st0 (G_law_begun : GF P w K mg base 61 "_law_begun" ["script"] [] (spBegun (K := K))) : ∃ t, PS (cxL P w K mg base f cL A outer s H0 E) (bdL 0) t ∧ ∀ (D : Ends) (H : Hp) (a : Addr) (ns : List Int), SqL K H a (ns.map V.int) → ns.length ≤ 1000 →
    (∀ H' st g c gs cs, Same H H' → H st = none → H g = none → H c = none → StAt H' st g c gs cs 0 0 → D.nx [some (.ref a), some (.ref st), none, none, none, none, none, none, none, none, none] H') → t D (L2.start NL [.ref a]) H := by
  refine ⟨_, (ps_set (i := 1) scLaw.nd rfl (Or.inl rfl) (pe_gf G_law_begun hg hr passL (pa_cons (pv 0) pa_nil))), ?_⟩
  rintro D H a ns hS hl q
  exact ⟨_, rfl, a, ns, rfl, hS, hl, fun H' st g c gs cs s1 n1 n2 n3 S1 => q H' st g c gs cs s1 n1 n2 n3 S1⟩
theorem st2 (G_law_nested : GF P w K mg base 61 "_law_nested" ["many", "one"] [] spNested) : ∃ t, PS (cxL P w K mg base f cL A outer s H0 E) (bdL 2) t ∧ ∀ (D : Ends) (H : Hp) (o0 o1 o2 o3 o4 o5 o6 o7 o8 o9 o10 : Option V),
    (∀ H' u, Same H H' → Dt H' u deepD → D.nx [o0, o1, o2, some u, o4, o5, o6, o7, o8, o9, o10] H') → t D [o0, o1, o2, o3, o4, o5, o6, o7, o8, o9, o10] H := by
  refine ⟨_, (ps_set (i := 3) scLaw.nd rfl (Or.inl rfl) (pe_gf G_law_nested hg hr passL (pa_cons pe_int (pa_cons pe_str pa_nil)))), ?_⟩
  rintro D H o0 o1 o2 o3 o4 o5 o6 o7 o8 o9 o10 q
  exact ⟨59, .str "a", _, rfl, by decide, .str _, fun H' u s1 hu => q H' u s1 hu⟩
end
end K8

set_option maxRecDepth 100000
set_option maxHeartbeats 1000000
namespace KX
open PySem PySem.Spec PyProof.Rows L2 LamX
mutual
theorem Dt.extN {H H' : Hp} (e : ExtN H H') : ∀ {d : PyData} {v : V}, Dt H v d → Dt H' v d
  | .none, _, h => by cases h; exact .non
  | .bool _, _, h => by cases h; exact .bl _
  | .int _, _, h => by cases h; exact .int _
  | .str _, _, h => by cases h; exact .str _
  | .list ds, _, h => by
    cases h with
    | lst h1 h2 => exact .lst (e _ _ h1 fun ps z => nomatch z) (DtAll.extN e h2)
  | .tuple ds, _, h => by
    cases h with
    | tup h1 h2 => exact .tup (e _ _ h1 fun ps z => nomatch z) (DtAll.extN e h2)
  | .dict _, _, h => by cases h
theorem DtAll.extN {H H' : Hp} (e : ExtN H H') : ∀ {ds : List PyData} {vs : List V}, DtAll H vs ds → DtAll H' vs ds
  | [], _, h => by cases h; exact .nil
  | d :: ds, _, h => by
    cases h with
    | cons h1 h2 => exact .cons (Dt.extN e h1) (DtAll.extN e h2)
end
end KX
namespace K8
open PySem PySem.Spec PyProof.Rows L2 LamX KX M8
/-- ('text', 0) != ('text', 0) -/
def tx0 : PyData := .tuple [.str "text", .int 0]
theorem tx0_ne : (!PyData.eqv (wResD none) tx0) = false := by decide +kernel
theorem tx0_lay : PyData.canLay0 tx0 = true := by decide +kernel
theorem tx0_dep : PyData.depth tx0 = 1 := by decide +kernel
theorem ExtN.same {H H' : Hp} (s : Same H H') : ExtN H H' := fun b o e _ => s b o e
theorem tabs_same {TT : List (Addr × Str)} {H H' : Hp} (t : Tabs TT H) (s : Same H H') : Tabs TT H' := Tabs.ext t s
section
variable {P : Program} {w : World} {K : PySem.W.Frag} {mg : Str → Option Value} {base : Heap} {A : Around} {outer : List Env} {s : Shared} {H0 : Hp} {E : XK} {f gW gc C cL PL cW aW fV fR : Addr} {fdW fdc fdV fdR : FuncData} {TT : List (Addr × Str)}
variable (T : Nm mg) (TW : WEr K mg C) (TD : WdC K mg C)
  (FW : FunD K "_law_word" "_law_word" (defArgs sWordOf) (defBody sWordOf) (defScope sWordOf) [] [] gW fdW) (Fc : FunD K "_law_caught" "_law_caught" (defArgs sCaught) (defBody sCaught) (defScope sCaught) [] [] gc fdc)
  (mW : mg "_law_word" = some (.ref gW)) (mc : mg "_law_caught" = some (.ref gc)) (bW : L2.Binds K fdW ["action"] []) (bc : L2.Binds K fdc ["action"] [])
  (hcW : fdW.code = .ref cW) (TBL : TabB base mg cL PL) (TBW : TabB base mg cW aW) (hmW : (aW, qWord) ∈ TT) (hmL : (PL, qLaw) ∈ TT) (huW : ∀ q ∈ TT, q.1 = aW → q.2 = qWord) (huL : ∀ q ∈ TT, q.1 = PL → q.2 = qLaw)
  (hg : A.guards = some []) (hr : Room 61 ((cxL P w K mg base f cL A outer s H0 E)).A)
  (G4value_text : GF P w K mg base 4 "value_text" ["value"] [] (spValueText C)) (G4read_value : GF P w K mg base 4 "read_value" ["text"] [] (spReadValue C))

include T TW TD FW Fc mW mc bW bc hcW TBL TBW hmW hmL huW huL hg hr

include G4value_text
theorem st1 (G_law_nested : GF P w K mg base 61 "_law_nested" ["many", "one"] [] spNested) : ∃ t, PS (cxL P w K mg base f cL A outer s H0 E) (bdL 1) t ∧ ∀ (D : Ends) (H : Hp) (o0 o1 o2 o3 o4 o5 o6 o7 o8 o9 o10 : Option V), Tabs TT H →
    (∀ H' o2', ExtN H H' → Tabs TT H' → D.nx [o0, o1, o2', o3, o4, o5, o6, o7, o8, o9, o10] H') → t D [o0, o1, o2, o3, o4, o5, o6, o7, o8, o9, o10] H := by
  have hu : ((cxL P w K mg base f cL A outer s H0 E)).A.units + 64 < cLine := hr.units
  have hrW : Room (4 + 5) ((cxL P w K mg base f cL A outer s H0 E)).A := hr.mono (by decide)
  refine ⟨_, (ps_for PassesOwn.never rfl (pi_list (pe_lst (pa_cons pe_str (pa_cons pe_str (pa_cons pe_str (pa_cons pe_str (pa_cons pe_str (pa_cons (pe_op op_pow pe_int pe_int) (pa_cons (pe_op op_sub pe_int (pe_op op_pow pe_int pe_int)) (pa_cons pe_bl (pa_cons (pe_lst (pa_cons pe_str pa_nil)) (pa_cons (pe_tup (pa_cons pe_str (pa_cons (pe_lst (pa_cons pe_str pa_nil)) pa_nil))) (pa_cons (pe_tup (pa_cons pe_str (pa_cons pe_str pa_nil))) (pa_cons (pe_gf G_law_nested hg hr passL (pa_cons pe_int (pa_cons pe_str pa_nil))) (pa_cons (pe_tup (pa_cons pe_str (pa_cons pe_bl pa_nil))) pa_nil))))))))))))))) (pg_name (i := 2) scLaw.nd rfl (Or.inr rfl))
      (pss_one (ps_if (pt_cmpR (op_neM hu) (pe_word (T := TT) (k := 4) FW Fc T TW TD (by rfl) mW mc hcW TBW hmW huW bW bc hg hrW TBL rfl hmL huL (lamS_by (sc := defScope sLaw) (by decide +kernel)) rfl (fun _ _ _ _ _ => rfl) (fun A1 outer1 s1 H1 E1 f1 c1 hg2 hr2 e02 => pe_gf G4value_text hg2 hr2 (lamPass (X := (cxL P w K mg base f cL A outer s H0 E)) (A := A1) (outer := outer1) (s := s1) (H := H1) (E := E1) (f := f1) (ca := c1)) (pa_cons (pv 2) pa_nil))) (pe_tup (pa_cons pe_str (pa_cons pe_int pa_nil))) (nomark _)) (pss_one (ps_ret pe_bl)) pss_nil))), ?_⟩
  rintro D H o0 o1 o2 o3 o4 o5 o6 o7 o8 o9 o10 hT q
  refine ⟨_, _, rfl, rfl, ⟨by decide, by decide, by decide⟩, _, _, rfl, rfl, ⟨by decide, by decide, by decide⟩, _, _, rfl, rfl, (by show 1 ≤ sizeLine; decide), fun L1 n1 => ⟨(by show 1 ≤ sizeLine; decide), fun L2 n2 => ⟨(by show 2 ≤ sizeLine; decide), fun T1 n3 => ⟨(by show 2 ≤ sizeLine; decide), fun T2 n4 => ?_⟩⟩⟩⟩
  have s1 := same_upd (o := .lst [.str "a"]) n1
  have s2 := same_upd (o := .lst [.str "b"]) n2
  have s3 := same_upd (o := .tup [.str "a", .ref L2]) n3
  have s4 := same_upd (o := .tup [.str "a", .str "B"]) n4
  refine ⟨60, .str "a", _, rfl, by decide, .str _, fun H5 u s5 hu5 => ⟨(by show 2 ≤ sizeLine; decide), fun T3 n6 => ⟨(by show 13 ≤ sizeLine; decide), fun Df nD => ?_⟩⟩⟩
  have s6 : Same H5 (upd H5 T3 (.tup [.str "a", .bl true])) := same_upd n6
  have s7 := same_upd (o := .lst [.str "A", .str "", .str "a b", .str "a1", .str "-", .int (10 ^ (12 : Int).toNat), .int (0 - 10 ^ (12 : Int).toNat), .bl true, .ref L1, .ref T1, .ref T2, u, .ref T3]) nD
  have s37 := (s5.trans s6).trans s7
  have s27 := s4.trans s37
  have s17 := s3.trans s27
  have s07 := s2.trans s17
  have sH := s1.trans s07
  refine ⟨Df, rfl, ⟨_, SqL.of upd_same⟩, ?_⟩
  have hall : DtAll (upd (upd H5 T3 (.tup [.str "a", .bl true])) Df (.lst [.str "A", .str "", .str "a b", .str "a1", .str "-", .int (10 ^ (12 : Int).toNat), .int (0 - 10 ^ (12 : Int).toNat), .bl true, .ref L1, .ref T1, .ref T2, u, .ref T3])) [.str "A", .str "", .str "a b", .str "a1", .str "-", .int (10 ^ (12 : Int).toNat), .int (0 - 10 ^ (12 : Int).toNat), .bl true, .ref L1, .ref T1, .ref T2, u, .ref T3] things :=
    .cons (.str _) (.cons (.str _) (.cons (.str _) (.cons (.str _) (.cons (.str _) (.cons (.int _) (.cons (.int _) (.cons (.bl _) (.cons (.lst (s07 _ _ upd_same) (.cons (.str _) .nil)) (.cons (.tup (s27 _ _ upd_same) (.cons (.str _) (.cons (.lst (s17 _ _ upd_same) (.cons (.str _) .nil)) .nil)))
      (.cons (.tup (s37 _ _ upd_same) (.cons (.str _) (.cons (.str _) .nil))) (.cons (hu5.same (s6.trans s7)) (.cons (.tup (s7 _ _ upd_same) (.cons (.str _) (.cons (.bl _) .nil))) .nil))))))))))))
  refine for_list (K := K) (a := Df) (xs := [.str "A", .str "", .str "a b", .str "a1", .str "-", .int (10 ^ (12 : Int).toNat), .int (0 - 10 ^ (12 : Int).toNat), .bl true, .ref L1, .ref T1, .ref T2, u, .ref T3]) (fun i σ H' => ∃ o2', σ = [o0, o1, o2', o3, o4, o5, o6, o7, o8, o9, o10] ∧ ExtN (upd (upd H5 T3 (.tup [.str "a", .bl true])) Df (.lst [.str "A", .str "", .str "a b", .str "a1", .str "-", .int (10 ^ (12 : Int).toNat), .int (0 - 10 ^ (12 : Int).toNat), .bl true, .ref L1, .ref T1, .ref T2, u, .ref T3])) H' ∧ Tabs TT H')
    ⟨o2, rfl, ExtN.refl _, tabs_same hT sH⟩ ?_ ?_ ?_
  · rintro i σ H' _ ⟨o2', _, e1, _⟩
    exact SqL.of (e1 _ _ upd_same fun ps z => nomatch z)
  · rintro i x σ H1 hx ⟨o2', rfl, e1, T1'⟩
    obtain ⟨d, hd, hxd⟩ := hall.get hx
    obtain ⟨hv, hgd⟩ := things_ok d (List.mem_of_getElem? hd)
    refine ⟨T1', fun H2 e2 T2' => ⟨none, fun H3 e3 E1 Q1 hno _ => ⟨_, rfl, x, d, rfl, ((hxd.extN e1).extN e2).extN e3, hgd, fun z => absurd (hv.symm.trans z) (by decide), fun _ => hno rfl⟩, (fun d z => nomatch z), fun H3 u3 e3 T3' hu3 => ⟨(by show 2 ≤ sizeLine; decide), fun Tt nT => ?_⟩⟩⟩
    have sT : Same H3 (upd H3 Tt (.tup [.str "text", .int 0])) := same_upd nT
    refine ⟨wResD none, tx0, (hu3.same sT).dp, (Dt.tup upd_same (.cons (.str _) (.cons (.int _) .nil))).dp, tx0_lay, tx0_lay, (by rw [tx0_dep]; omega), _, rfl, ?_⟩
    rw [tx0_ne]
    exact iteF ⟨some x, rfl, ((e1.trans e2).trans e3).trans (ExtN.same sT), tabs_same T3' sT⟩
  · rintro σ H' ⟨o2', rfl, e1, T1'⟩
    exact q H' o2' ((ExtN.same sH).trans e1) T1'
end
end K8

set_option maxRecDepth 100000
set_option maxHeartbeats 1000000
namespace K8
open PySem PySem.Spec PyProof.Rows L2 LamX KX M8
def textsV : List V := [.non, .int 5, .str "", .str " ", .str "A", .str "a b", .str "01", .str "-0", .str "--1", .str "+1", .str "1000000000000", .str "(", .str ")", .str "(a", .str "a)", .str "(a))", .str "( a)", .str "(a )", .str "(a  b)", .str "()()", .str "(a)(b)", .str "a()", .str "1a", .str "a1", .str "- 1", .str "(-)-", .str "(a\nb)", .str "1/2"]
theorem textsV_dt (H : Hp) : DtAll H textsV textsD := (.cons .non (.cons (.int _) (.cons (.str _) (.cons (.str _) (.cons (.str _) (.cons (.str _) (.cons (.str _) (.cons (.str _) (.cons (.str _) (.cons (.str _) (.cons (.str _) (.cons (.str _) (.cons (.str _) (.cons (.str _) (.cons (.str _) (.cons (.str _) (.cons (.str _) (.cons (.str _) (.cons (.str _) (.cons (.str _) (.cons (.str _) (.cons (.str _) (.cons (.str _) (.cons (.str _) (.cons (.str _) (.cons (.str _) (.cons (.str _) (.cons (.str _) .nil))))))))))))))))))))))))))))
section
variable {P : Program} {w : World} {K : PySem.W.Frag} {mg : Str → Option Value} {base : Heap} {A : Around} {outer : List Env} {s : Shared} {H0 : Hp} {E : XK} {f gW gc C cL PL cW aW fV fR : Addr} {fdW fdc fdV fdR : FuncData} {TT : List (Addr × Str)}
variable (T : Nm mg) (TW : WEr K mg C) (TD : WdC K mg C)
  (FW : FunD K "_law_word" "_law_word" (defArgs sWordOf) (defBody sWordOf) (defScope sWordOf) [] [] gW fdW) (Fc : FunD K "_law_caught" "_law_caught" (defArgs sCaught) (defBody sCaught) (defScope sCaught) [] [] gc fdc)
  (mW : mg "_law_word" = some (.ref gW)) (mc : mg "_law_caught" = some (.ref gc)) (bW : L2.Binds K fdW ["action"] []) (bc : L2.Binds K fdc ["action"] [])
  (hcW : fdW.code = .ref cW) (TBL : TabB base mg cL PL) (TBW : TabB base mg cW aW) (hmW : (aW, qWord) ∈ TT) (hmL : (PL, qLaw) ∈ TT) (huW : ∀ q ∈ TT, q.1 = aW → q.2 = qWord) (huL : ∀ q ∈ TT, q.1 = PL → q.2 = qLaw)
  (hg : A.guards = some []) (hr : Room 61 ((cxL P w K mg base f cL A outer s H0 E)).A)
  (G4value_text : GF P w K mg base 4 "value_text" ["value"] [] (spValueText C)) (G4read_value : GF P w K mg base 4 "read_value" ["text"] [] (spReadValue C))

include T TW TD FW Fc mW mc bW bc hcW TBL TBW hmW hmL huW huL hg hr

include G4read_value
theorem st4 : ∃ t, PS (cxL P w K mg base f cL A outer s H0 E) (bdL 4) t ∧ ∀ (D : Ends) (H : Hp) (o0 o1 o2 o3 o4 o5 o6 o7 o8 o9 o10 : Option V), Tabs TT H →
    (∀ H' o2', ExtN H H' → Tabs TT H' → D.nx [o0, o1, o2', o3, o4, o5, o6, o7, o8, o9, o10] H') → t D [o0, o1, o2, o3, o4, o5, o6, o7, o8, o9, o10] H := by
  have hu : ((cxL P w K mg base f cL A outer s H0 E)).A.units + 64 < cLine := hr.units
  have hrW : Room (4 + 5) ((cxL P w K mg base f cL A outer s H0 E)).A := hr.mono (by decide)
  refine ⟨_, (ps_for PassesOwn.never rfl (pi_list (pe_lst (pa_cons pe_non (pa_cons pe_int (pa_cons pe_str (pa_cons pe_str (pa_cons pe_str (pa_cons pe_str (pa_cons pe_str (pa_cons pe_str (pa_cons pe_str (pa_cons pe_str (pa_cons pe_str (pa_cons pe_str (pa_cons pe_str (pa_cons pe_str (pa_cons pe_str (pa_cons pe_str (pa_cons pe_str (pa_cons pe_str (pa_cons pe_str (pa_cons pe_str (pa_cons pe_str (pa_cons pe_str (pa_cons pe_str (pa_cons pe_str (pa_cons pe_str (pa_cons pe_str (pa_cons pe_str (pa_cons pe_str pa_nil)))))))))))))))))))))))))))))) (pg_name (i := 2) scLaw.nd rfl (Or.inr rfl))
      (pss_one (ps_if (pt_cmpR (op_neM hu) (pe_word (T := TT) (k := 4) FW Fc T TW TD (by rfl) mW mc hcW TBW hmW huW bW bc hg hrW TBL rfl hmL huL (lamS_by (sc := defScope sLaw) (by decide +kernel)) rfl (fun _ _ _ _ _ => rfl) (fun A1 outer1 s1 H1 E1 f1 c1 hg2 hr2 e02 => pe_gf G4read_value hg2 hr2 (lamPass (X := (cxL P w K mg base f cL A outer s H0 E)) (A := A1) (outer := outer1) (s := s1) (H := H1) (E := E1) (f := f1) (ca := c1)) (pa_cons (pv 2) pa_nil))) (pe_tup (pa_cons pe_str (pa_cons pe_int pa_nil))) (nomark _)) (pss_one (ps_ret pe_bl)) pss_nil))), ?_⟩
  rintro D H o0 o1 o2 o3 o4 o5 o6 o7 o8 o9 o10 hT q
  refine ⟨(by show 28 ≤ sizeLine; decide), fun Df nD => ?_⟩
  have s7 := same_upd (o := .lst textsV) nD
  refine ⟨Df, rfl, ⟨_, SqL.of upd_same⟩, ?_⟩
  have hall := textsV_dt (upd H Df (.lst textsV))
  refine for_list (K := K) (a := Df) (xs := textsV) (fun i σ H' => ∃ o2', σ = [o0, o1, o2', o3, o4, o5, o6, o7, o8, o9, o10] ∧ ExtN (upd H Df (.lst textsV)) H' ∧ Tabs TT H')
    ⟨o2, rfl, ExtN.refl _, tabs_same hT s7⟩ ?_ ?_ ?_
  · rintro i σ H' _ ⟨o2', _, e1, _⟩
    exact SqL.of (e1 _ _ upd_same fun ps z => nomatch z)
  · rintro i x σ H1 hx ⟨o2', rfl, e1, T1'⟩
    obtain ⟨d, hd, hxd⟩ := hall.get hx
    obtain ⟨hv, hz⟩ := texts_ok d (List.mem_of_getElem? hd)
    refine ⟨T1', fun H2 e2 T2' => ⟨none, fun H3 e3 E1 Q1 hno _ => ⟨_, rfl, x, d, rfl, ((hxd.extN e1).extN e2).extN e3, hz, fun d' z => (by rw [hv] at z; cases z), fun _ => hno rfl⟩, (fun d z => nomatch z), fun H3 u3 e3 T3' hu3 => ⟨(by show 2 ≤ sizeLine; decide), fun Tt nT => ?_⟩⟩⟩
    have sT : Same H3 (upd H3 Tt (.tup [.str "text", .int 0])) := same_upd nT
    refine ⟨wResD none, tx0, (hu3.same sT).dp, (Dt.tup upd_same (.cons (.str _) (.cons (.int _) .nil))).dp, tx0_lay, tx0_lay, (by rw [tx0_dep]; omega), _, rfl, ?_⟩
    rw [tx0_ne]
    exact iteF ⟨some x, rfl, ((e1.trans e2).trans e3).trans (ExtN.same sT), tabs_same T3' sT⟩
  · rintro σ H' ⟨o2', rfl, e1, T1'⟩
    exact q H' o2' ((ExtN.same s7).trans e1) T1'
end
end K8

set_option maxRecDepth 100000
set_option maxHeartbeats 1000000
namespace K8
open PySem PySem.Spec PyProof.Rows L2 LamX KX M8
section
variable {P : Program} {w : World} {K : PySem.W.Frag} {mg : Str → Option Value} {base : Heap} {A : Around} {outer : List Env} {s : Shared} {H0 : Hp} {E : XK} {f gW gc C cL PL cW aW fV fR : Addr} {fdW fdc fdV fdR : FuncData} {TT : List (Addr × Str)}
variable (T : Nm mg) (TW : WEr K mg C) (TD : WdC K mg C)
  (FW : FunD K "_law_word" "_law_word" (defArgs sWordOf) (defBody sWordOf) (defScope sWordOf) [] [] gW fdW) (Fc : FunD K "_law_caught" "_law_caught" (defArgs sCaught) (defBody sCaught) (defScope sCaught) [] [] gc fdc)
  (mW : mg "_law_word" = some (.ref gW)) (mc : mg "_law_caught" = some (.ref gc)) (bW : L2.Binds K fdW ["action"] []) (bc : L2.Binds K fdc ["action"] [])
  (hcW : fdW.code = .ref cW) (TBL : TabB base mg cL PL) (TBW : TabB base mg cW aW) (hmW : (aW, qWord) ∈ TT) (hmL : (PL, qLaw) ∈ TT) (huW : ∀ q ∈ TT, q.1 = aW → q.2 = qWord) (huL : ∀ q ∈ TT, q.1 = PL → q.2 = qLaw)
  (hg : A.guards = some []) (hr : Room 61 ((cxL P w K mg base f cL A outer s H0 E)).A)
  (G4value_text : GF P w K mg base 4 "value_text" ["value"] [] (spValueText C)) (G4read_value : GF P w K mg base 4 "read_value" ["text"] [] (spReadValue C))

include T TW TD FW Fc mW mc bW bc hcW TBL TBW hmW hmL huW huL hg hr

include G4value_text G4read_value
theorem st3 (G_law_is : GF P w K mg base 61 "_law_is" ["found", "due"] [] spIs) : ∃ t, PS (cxL P w K mg base f cL A outer s H0 E) (bdL 3) t ∧ ∀ (D : Ends) (H : Hp) (u : V) (o0 o1 o2 o4 o5 o6 o7 o8 o9 o10 : Option V), Tabs TT H → Dt H u deepD →
    (∀ H', ExtN H H' → Tabs TT H' → D.nx [o0, o1, o2, some u, o4, o5, o6, o7, o8, o9, o10] H') → t D [o0, o1, o2, some u, o4, o5, o6, o7, o8, o9, o10] H := by
  have hu : ((cxL P w K mg base f cL A outer s H0 E)).A.units + 64 < cLine := hr.units
  have hrW : Room (4 + 5) ((cxL P w K mg base f cL A outer s H0 E)).A := hr.mono (by decide)
  have Gvalue_text := G4value_text.mono (k := 61) (by decide)
  have Gread_value := G4read_value.mono (k := 61) (by decide)
  refine ⟨_, (ps_if (PW.pt (pw_or (pt_not (pt_val (pe_gf G_law_is hg hr passL (pa_cons (pe_gf Gvalue_text hg hr passL (pa_cons (pv 3) pa_nil)) (pa_cons (pe_op op_add_str (pe_op op_add_str (pe_op op_mulS pe_str pe_int) pe_str) (pe_op op_mulS pe_str pe_int)) pa_nil))))) (pw_or (pt_cmpR (op_neM hu) (pe_gf Gread_value hg hr passL (pa_cons (pe_op op_add_str (pe_op op_add_str (pe_op op_mulS pe_str pe_int) pe_str) (pe_op op_mulS pe_str pe_int)) pa_nil)) (pv 3) (nomark _)) (pw_or1 (pt_cmpR (op_neM hu) (pe_word (T := TT) (k := 4) FW Fc T TW TD (by rfl) mW mc hcW TBW hmW huW bW bc hg hrW TBL rfl hmL huL (lamS_by (sc := defScope sLaw) (by decide +kernel)) rfl (fun _ _ _ _ _ => rfl) (fun A1 outer1 s1 H1 E1 f1 c1 hg2 hr2 e02 => pe_gf G4read_value hg2 hr2 (lamPass (X := (cxL P w K mg base f cL A outer s H0 E)) (A := A1) (outer := outer1) (s := s1) (H := H1) (E := E1) (f := f1) (ca := c1)) (pa_cons (pe_op op_add_str (pe_op op_add_str (pe_op op_mulS pe_str pe_int) pe_str) (pe_op op_mulS pe_str pe_int)) pa_nil))) (pe_tup (pa_cons pe_str (pa_cons pe_int pa_nil))) (nomark _)))))) (pss_one (ps_ret pe_bl)) pss_nil), ?_⟩
  rintro D H u o0 o1 o2 o4 o5 o6 o7 o8 o9 o10 hT hd q
  obtain ⟨dv, dT, dr, dr6, dz, dz6⟩ := deep_ok
  have gd : Good deepD := ⟨by decide +kernel, by decide +kernel⟩
  have vdd := ((isValue_iff deepD).mp dv)
  have snT : Sane (.str (VT deepD)) := str_sane (by decide +kernel) (by decide +kernel)
  refine ⟨_, rfl, u, deepD, rfl, hd, gd, fun _ H1 s1 => ⟨"(", 59, rfl, rfl, by decide, by decide, by decide, by decide, _, _, rfl, rfl, (by decide +kernel), ")", 59, rfl, rfl, by decide, by decide, by decide, by decide, _, _, rfl, rfl, (by decide +kernel), .str (VT deepD), .str (deepS 59), .str (VT deepD), rfl, .str _, (by rw [← dT]; exact .str _), snT, fun H2 s2 => ?_⟩, fun z => absurd (dv.symm.trans z) (by decide)⟩
  have sz2 : sz deepD ≤ 100000 := gd.sz
  have lay := gd.lay
  refine ⟨_, rfl, iteF ⟨"(", 59, rfl, rfl, by decide, by decide, by decide, by decide, _, _, rfl, rfl, (by decide +kernel), ")", 59, rfl, rfl, by decide, by decide, by decide, by decide, _, _, rfl, rfl, (by decide +kernel), .str (deepS 59), .str (deepS 59), rfl, .str _, dz, fun d' hr' H3 u3 s3 hu3 => ?_, fun z => by rw [dr] at z; cases z⟩⟩
  obtain rfl : deepD = d' := Option.some.inj (dr.symm.trans hr')
  have s13 := (s1.trans s2).trans s3
  refine ⟨_, rfl, deepD, deepD, hu3.dp, (hd.same s13).dp, lay, lay, (by have := vdd.2; omega), _, rfl, ?_⟩
  have e0 : (!PyData.eqv deepD deepD) = false := by rw [eqv_self deepD (vd_noL vdd.1)]; rfl
  rw [e0]
  refine iteF ⟨tabs_same hT s13, fun H4 e4 T4 => ⟨none, fun H5 e5 E1 Q1 hno _ => ⟨"(", 60, rfl, rfl, by decide, by decide, by decide, by decide, _, _, rfl, rfl, (by decide +kernel), ")", 60, rfl, rfl, by decide, by decide, by decide, by decide, _, _, rfl, rfl, (by decide +kernel), .str (deepS 60), .str (deepS 60), rfl, .str _, dz6, fun d' z => (by rw [dr6] at z; cases z), fun _ => hno rfl⟩, (fun d z => nomatch z), fun H6 u6 e6 T6 hu6 => ⟨(by show 2 ≤ sizeLine; decide), fun Tt nT => ?_⟩⟩⟩
  have sT : Same H6 (upd H6 Tt (.tup [.str "text", .int 0])) := same_upd nT
  refine ⟨wResD none, tx0, (hu6.same sT).dp, (Dt.tup upd_same (.cons (.str _) (.cons (.int _) .nil))).dp, tx0_lay, tx0_lay, (by rw [tx0_dep]; omega), _, rfl, ?_⟩
  rw [tx0_ne]
  exact iteF (q _ ((((ExtN.same s13).trans e4).trans e6).trans (ExtN.same sT)) (tabs_same T6 sT))
end
end K8

set_option maxRecDepth 100000
set_option maxHeartbeats 1000000
namespace K8
open PySem PySem.Spec PyProof.Rows L2 LamX KX M8
/-- what _law_some_value gives -/
structure Sm (d : PyData) : Prop where
  vd : vdD d = true
  dp : PyData.depth d ≤ 3
  sz : sz d ≤ 391
theorem Sm.iv {d : PyData} (h : Sm d) : isValue d = true := (isValue_iff d).mpr ⟨h.vd, by have := h.dp; omega⟩
theorem Sm.good {d : PyData} (h : Sm d) : Good d := ⟨vd_lay h.vd, by have := h.sz; omega⟩
theorem Sm.sane {d : PyData} (h : Sm d) : Sane d := vd_sane h.vd (by have := h.dp; omega) (by have := h.sz; omega)
theorem Sm.len {d : PyData} (h : Sm d) : (VT d).length ≤ 6256 := by
  have h1 := vt_len h.vd
  have h2 := h.sz
  have h3 : (VT d).length = (vt d).length := by show (vt d).toArray.size = _; simp
  omega
theorem good_str {d : PyData} (h : Good (.str (VT d))) : PyData.canLay0 (.str (VT d)) = true := h.lay
mutual
theorem vt_cps : ∀ {d : PyData}, vdD d = true → ∀ c ∈ vt d, c < 128
  | .tuple ds, h, c, hc => by
    rw [vt] at hc
    rcases List.mem_cons.mp hc with rfl | hc
    · decide
    · rcases List.mem_append.mp hc with hc | hc
      · exact vtIn_cps (by rw [vdD] at h; exact h) c hc
      · rw [List.mem_singleton.mp hc]; decide
  | .none, _, c, hc => by
    rw [vt] at hc
    rw [List.mem_singleton.mp hc]; decide
  | .str x, h, c, hc => by
    rw [vt] at hc
    have hw : word x.cps.toList = true := by rw [vdD] at h; exact h
    unfold word at hw
    rw [Bool.and_eq_true] at hw
    have := List.all_eq_true.mp hw.2 c hc
    unfold small at this
    simp only [Bool.and_eq_true, decide_eq_true_eq] at this
    omega
  | .int i, h, c, hc => by
    rw [vt] at hc
    have k : ∀ n, ∀ c ∈ TL.numL n, c < 128 := fun n c hc => by
      have := TL.numL_digits n c hc
      omega
    cases i with
    | ofNat n =>
      have e : intT (Int.ofNat n) = TL.numL n := intT_nat n
      rw [e] at hc
      exact k n c hc
    | negSucc n =>
      rw [intT_neg] at hc
      rcases List.mem_cons.mp hc with rfl | hc
      · decide
      · exact k _ c hc
  | .bool _, h, _, _ => by rw [vdD] at h; cases h
  | .list _, h, _, _ => by rw [vdD] at h; cases h
  | .dict _, h, _, _ => by rw [vdD] at h; cases h
theorem vtIn_cps : ∀ {ds : List PyData}, vdA ds = true → ∀ c ∈ vtIn ds, c < 128
  | [], _, c, hc => by rw [vtIn] at hc; cases hc
  | d :: ds, h, c, hc => by
    rw [vdA, Bool.and_eq_true] at h
    rw [vtIn] at hc
    rcases List.mem_append.mp hc with hc | hc
    · exact vt_cps h.1 c hc
    · exact vtTl_cps h.2 c hc
theorem vtTl_cps : ∀ {ds : List PyData}, vdA ds = true → ∀ c ∈ vtTl ds, c < 128
  | [], _, c, hc => by rw [vtTl] at hc; cases hc
  | d :: ds, h, c, hc => by
    rw [vdA, Bool.and_eq_true] at h
    rw [vtTl] at hc
    rcases List.mem_cons.mp hc with rfl | hc
    · decide
    · rcases List.mem_append.mp hc with hc | hc
      · exact vt_cps h.1 c hc
      · exact vtTl_cps h.2 c hc
end
theorem VT_lay {d : PyData} (h : vdD d = true) : PyData.canLay0 (.str (VT d)) = true := by
  have k := vt_cps h
  rw [PyData.canLay0]
  refine Array.all_eq_true_iff_forall_mem.mpr fun c hc => ?_
  have := k c (by simpa [VT] using hc)
  simp
  omega
theorem Sm.saneT {d : PyData} (h : Sm d) : Sane (.str (VT d)) := str_sane (VT_lay h.vd) (by have := h.len; omega)
section
variable {P : Program} {w : World} {K : PySem.W.Frag} {mg : Str → Option Value} {base : Heap} {A : Around} {outer : List Env} {s : Shared} {H0 : Hp} {E : XK} {f gW gc C cL PL cW aW fV fR : Addr} {fdW fdc fdV fdR : FuncData} {TT : List (Addr × Str)}
variable (T : Nm mg) (TW : WEr K mg C) (TD : WdC K mg C)
  (FW : FunD K "_law_word" "_law_word" (defArgs sWordOf) (defBody sWordOf) (defScope sWordOf) [] [] gW fdW) (Fc : FunD K "_law_caught" "_law_caught" (defArgs sCaught) (defBody sCaught) (defScope sCaught) [] [] gc fdc)
  (mW : mg "_law_word" = some (.ref gW)) (mc : mg "_law_caught" = some (.ref gc)) (bW : L2.Binds K fdW ["action"] []) (bc : L2.Binds K fdc ["action"] [])
  (hcW : fdW.code = .ref cW) (TBL : TabB base mg cL PL) (TBW : TabB base mg cW aW) (hmW : (aW, qWord) ∈ TT) (hmL : (PL, qLaw) ∈ TT) (huW : ∀ q ∈ TT, q.1 = aW → q.2 = qWord) (huL : ∀ q ∈ TT, q.1 = PL → q.2 = qLaw)
  (hg : A.guards = some []) (hr : Room 61 ((cxL P w K mg base f cL A outer s H0 E)).A)
  (G4value_text : GF P w K mg base 4 "value_text" ["value"] [] (spValueText C)) (G4read_value : GF P w K mg base 4 "read_value" ["text"] [] (spReadValue C))

include T TW TD FW Fc mW mc bW bc hcW TBL TBW hmW hmL huW huL hg hr

include G4value_text G4read_value
theorem f0 (G_law_some_value : GF P w K mg base 61 "_law_some_value" ["state", "deep"] [] (spSome 4)) : ∃ t, PS (cxL P w K mg base f cL A outer s H0 E) (bdF 0) t ∧ ∀ (D : Ends) (H : Hp) (st g c : Addr) (gs cs : List Int) (r t' : Int) (o0 o2 o3 o4 o5 o6 o7 o8 o9 o10 : Option V), StAt H st g c gs cs r t' → 0 ≤ t' → t' < 2 ^ 29 →
    (∀ H' u1 d1 u2 d2, Sm d1 → Sm d2 → Dt H' u1 d1 → Dt H' u2 d2 → Drawn1 H st g c cs t' 160 H' → D.nx [o0, some (.ref st), o2, o3, o4, some u1, some u2, o7, o8, o9, o10] H') → t D [o0, some (.ref st), o2, o3, o4, o5, o6, o7, o8, o9, o10] H := by
  refine ⟨_, (ps_par (i := 5) (j := 6) rfl scLaw.nd rfl rfl (by decide) rfl rfl (pa_cons (pe_gf G_law_some_value hg hr passL (pa_cons (pv 1) (pa_cons pe_int pa_nil))) (pa_cons (pe_gf G_law_some_value hg hr passL (pa_cons (pv 1) (pa_cons pe_int pa_nil))) pa_nil)) rfl), ?_⟩
  rintro D H st g c gs cs r t' o0 o2 o3 o4 o5 o6 o7 o8 o9 o10 S h0 h1 q
  have e3 : cB 3 = 80 := rfl
  have b3 : bB 3 = 391 := rfl
  refine ⟨_, rfl, st, g, c, gs, cs, r, t', 3, rfl, by decide, by decide, S, h0, by rw [e3]; omega, fun H1 u1 d1 v1 p1 z1 D1 hu1 => ?_⟩
  obtain ⟨gs1, r1, t1, S1, a1, b1, f1⟩ := D1
  refine ⟨_, rfl, st, g, c, gs1, cs, r1, t1, 3, rfl, by decide, by decide, S1, by omega, by rw [e3] at b1 ⊢; omega, fun H2 u2 d2 v2 p2 z2 D2 hu2 => ?_⟩
  obtain ⟨gs2, r2, t2, S2, a2, b2, f2⟩ := D2
  exact ⟨u1, u2, rfl, q H2 u1 d1 u2 d2 ⟨v1, p1, by rw [b3] at z1; exact z1⟩ ⟨v2, p2, by rw [b3] at z2; exact z2⟩ (dtKeep (f2.keep S1) hu1 (vd_noL v1)) hu2 ⟨gs2, r2, t2, S2, by omega, by rw [e3] at b1 b2; omega, f1.trans f2⟩⟩
theorem f1 (G_law_value_text : GF P w K mg base 61 "_law_value_text" ["value"] [] (spLVT 60)) : ∃ t, PS (cxL P w K mg base f cL A outer s H0 E) (bdF 1) t ∧ ∀ (D : Ends) (H : Hp) (u1 : V) (d1 : PyData) (o0 o1 o2 o3 o4 o6 o7 o8 o9 o10 : Option V), Sm d1 → Dt H u1 d1 →
    (∀ H', Same H H' → D.nx [o0, o1, o2, o3, o4, some u1, o6, some (.str (VT d1)), o8, o9, o10] H') → t D [o0, o1, o2, o3, o4, some u1, o6, o7, o8, o9, o10] H := by
  refine ⟨_, (ps_set (i := 7) scLaw.nd rfl (Or.inl rfl) (pe_gf G_law_value_text hg hr passL (pa_cons (pv 5) pa_nil))), ?_⟩
  rintro D H u1 d1 o0 o1 o2 o3 o4 o6 o7 o8 o9 o10 m1 h1 q
  exact ⟨_, rfl, u1, d1, rfl, h1, m1.vd, by have := m1.sz; omega, by have := m1.dp; omega, fun H' s' => q H' s'⟩
end
end K8

set_option maxRecDepth 100000
set_option maxHeartbeats 1000000
namespace K8
open PySem PySem.Spec PyProof.Rows L2 LamX KX M8
theorem rd_str (d : PyData) : rdV (.str (VT d)) = readV (vt d) := by
  show readV (VT d).cps.toList = _
  simp [VT]
theorem strLen_le {d : PyData} (h : Sm d) : strLen (.str (VT d)) ≤ 50000 := by
  have := h.len
  show (VT d).length ≤ 50000
  omega
section
variable {P : Program} {w : World} {K : PySem.W.Frag} {mg : Str → Option Value} {base : Heap} {A : Around} {outer : List Env} {s : Shared} {H0 : Hp} {E : XK} {f gW gc C cL PL cW aW fV fR : Addr} {fdW fdc fdV fdR : FuncData} {TT : List (Addr × Str)}
variable (T : Nm mg) (TW : WEr K mg C) (TD : WdC K mg C)
  (FW : FunD K "_law_word" "_law_word" (defArgs sWordOf) (defBody sWordOf) (defScope sWordOf) [] [] gW fdW) (Fc : FunD K "_law_caught" "_law_caught" (defArgs sCaught) (defBody sCaught) (defScope sCaught) [] [] gc fdc)
  (mW : mg "_law_word" = some (.ref gW)) (mc : mg "_law_caught" = some (.ref gc)) (bW : L2.Binds K fdW ["action"] []) (bc : L2.Binds K fdc ["action"] [])
  (hcW : fdW.code = .ref cW) (TBL : TabB base mg cL PL) (TBW : TabB base mg cW aW) (hmW : (aW, qWord) ∈ TT) (hmL : (PL, qLaw) ∈ TT) (huW : ∀ q ∈ TT, q.1 = aW → q.2 = qWord) (huL : ∀ q ∈ TT, q.1 = PL → q.2 = qLaw)
  (hg : A.guards = some []) (hr : Room 61 ((cxL P w K mg base f cL A outer s H0 E)).A)
  (G4value_text : GF P w K mg base 4 "value_text" ["value"] [] (spValueText C)) (G4read_value : GF P w K mg base 4 "read_value" ["text"] [] (spReadValue C))

include T TW TD FW Fc mW mc bW bc hcW TBL TBW hmW hmL huW huL hg hr

include G4value_text G4read_value
section
variable (OV : FnG P w K mg base 3 fV fdV ["value"] (spValueText C)) (OR : FnG P w K mg base 4 fR fdR ["text"] (spReadValue C))
  (Fvalue_text : FunD K "value_text" "value_text" (defArgs sValueText) (defBody sValueText) (defScope sValueText) [] [] fV fdV) (mvalue_text : mg "value_text" = some (.ref fV))
  (Fread_value : FunD K "read_value" "read_value" (defArgs sReadValue) (defBody sReadValue) (defScope sReadValue) [] [] fR fdR) (mread_value : mg "read_value" = some (.ref fR))
include OV OR Fvalue_text mvalue_text Fread_value mread_value
theorem f2 (G_law_is : GF P w K mg base 61 "_law_is" ["found", "due"] [] spIs) : ∃ t, PS (cxL P w K mg base f cL A outer s H0 E) (bdF 2) t ∧ ∀ (D : Ends) (H : Hp) (u1 : V) (d1 : PyData) (o0 o1 o2 o3 o4 o6 o8 o9 o10 : Option V), Sm d1 → Dt H u1 d1 →
    (∀ H', Same H H' → D.nx [o0, o1, o2, o3, o4, some u1, o6, some (.str (VT d1)), o8, o9, o10] H') → t D [o0, o1, o2, o3, o4, some u1, o6, some (.str (VT d1)), o8, o9, o10] H := by
  have hu : ((cxL P w K mg base f cL A outer s H0 E)).A.units + 64 < cLine := hr.units
  have Gvalue_text := G4value_text.mono (k := 61) (by decide)
  have Gread_value := G4read_value.mono (k := 61) (by decide)
  have Ovalue_text := OV.mono (k := 61) (by decide)
  have Oread_value := OR.mono (k := 61) (by decide)
  have kwvalue_text := kw1 (n := "value") Fvalue_text fun _ _ _ _ _ _ _ => rfl
  have kwread_value := kw1 (n := "text") Fread_value fun _ _ _ _ _ _ _ => rfl
  refine ⟨_, (ps_if (PW.pt (pw_or (pt_not (pt_val (pe_gf G_law_is hg hr passL (pa_cons (pe_gf Gvalue_text hg hr passL (pa_cons (pv 5) pa_nil)) (pa_cons (pv 7) pa_nil))))) (pw_or (pt_not (pt_val (pe_gf G_law_is hg hr passL (pa_cons (pe_gf Gread_value hg hr passL (pa_cons (pv 7) pa_nil)) (pa_cons (pv 5) pa_nil))))) (pw_or (pt_not (pt_val (pe_gf G_law_is hg hr passL (pa_cons (pe_gk0 Oread_value hg hr mread_value Fread_value.kp kwread_value passL (pk_cons (pv 7) pk_nil)) (pa_cons (pv 5) pa_nil))))) (pw_or1 (pt_not (pt_val (pe_gf G_law_is hg hr passL (pa_cons (pe_gk0 Ovalue_text hg hr mvalue_text Fvalue_text.kp kwvalue_text passL (pk_cons (pv 5) pk_nil)) (pa_cons (pv 7) pa_nil)))))))))) (pss_one (ps_ret pe_bl)) pss_nil), ?_⟩
  rintro D H u1 d1 o0 o1 o2 o3 o4 o6 o8 o9 o10 m1 h1 q
  have iv := m1.iv
  have snT := m1.saneT
  have sn := m1.sane
  have rb : rdV (.str (VT d1)) = some d1 := (rd_str d1).trans (read_back iv)
  refine ⟨_, rfl, u1, d1, rfl, h1, m1.good, fun _ H1 s1 => ⟨_, rfl, .str (VT d1), .str (VT d1), .str (VT d1), rfl, .str _, .str _, snT, fun H2 s2 => ⟨_, rfl, iteF ?_⟩⟩, fun z => absurd (iv.symm.trans z) (by decide)⟩
  refine ⟨_, rfl, .str (VT d1), .str (VT d1), rfl, .str _, strLen_le m1, fun d' hr' H3 u3 s3 hu3 => ?_, fun z => by rw [rb] at z; cases z⟩
  obtain rfl : d1 = d' := Option.some.inj (rb.symm.trans hr')
  have s13 := (s1.trans s2).trans s3
  refine ⟨_, rfl, u3, u1, d1, rfl, hu3, h1.same s13, sn, fun H4 s4 => ⟨_, rfl, iteF ?_⟩⟩
  refine ⟨_, rfl, .str (VT d1), .str (VT d1), rfl, .str _, strLen_le m1, fun d' hr' H5 u5 s5 hu5 => ?_, fun z => by rw [rb] at z; cases z⟩
  obtain rfl : d1 = d' := Option.some.inj (rb.symm.trans hr')
  have s15 := (s13.trans s4).trans s5
  refine ⟨_, rfl, u5, u1, d1, rfl, hu5, h1.same s15, sn, fun H6 s6 => ⟨_, rfl, iteF ?_⟩⟩
  have s16 := s15.trans s6
  refine ⟨_, rfl, u1, d1, rfl, h1.same s16, m1.good, fun _ H7 s7 => ⟨_, rfl, .str (VT d1), .str (VT d1), .str (VT d1), rfl, .str _, .str _, snT, fun H8 s8 => ⟨_, rfl, iteF ?_⟩⟩, fun z => absurd (iv.symm.trans z) (by decide)⟩
  exact q H8 ((s16.trans s7).trans s8)
end
theorem f3 : ∃ t, PS (cxL P w K mg base f cL A outer s H0 E) (bdF 3) t ∧ ∀ (D : Ends) (H : Hp) (u1 u2 : V) (d1 d2 : PyData) (o0 o1 o2 o3 o4 o7 o8 o9 o10 : Option V), Sm d1 → Sm d2 → Dt H u1 d1 → Dt H u2 d2 →
    (∀ H', Same H H' → D.nx [o0, o1, o2, o3, o4, some u1, some u2, o7, o8, o9, o10] H') → t D [o0, o1, o2, o3, o4, some u1, some u2, o7, o8, o9, o10] H := by
  have hu : ((cxL P w K mg base f cL A outer s H0 E)).A.units + 64 < cLine := hr.units
  have Gvalue_text := G4value_text.mono (k := 61) (by decide)
  refine ⟨_, (ps_if (pt_cmpR op_ne (pe_cmpR op_eq (pe_gf Gvalue_text hg hr passL (pa_cons (pv 5) pa_nil)) (pe_gf Gvalue_text hg hr passL (pa_cons (pv 6) pa_nil)) (nomark _)) (pe_cmpR (op_eqM hu) (pv 5) (pv 6) (nomark _)) (nomark _)) (pss_one (ps_ret pe_bl)) pss_nil), ?_⟩
  rintro D H u1 u2 d1 d2 o0 o1 o2 o3 o4 o7 o8 o9 o10 m1 m2 h1 h2 q
  refine ⟨_, rfl, u1, d1, rfl, h1, m1.good, fun _ H1 s1 => ?_, fun z => absurd (m1.iv.symm.trans z) (by decide)⟩
  refine ⟨_, rfl, u2, d2, rfl, h2.same s1, m2.good, fun _ H2 s2 => ?_, fun z => absurd (m2.iv.symm.trans z) (by decide)⟩
  have s12 := s1.trans s2
  refine ⟨rfl, _, rfl, _, rfl, d1, d2, (h1.same s12).dp, (h2.same s12).dp, vd_lay m1.vd, vd_lay m2.vd, (by have := m1.dp; omega), rfl, _, rfl, ?_⟩
  have e : decide (V.str (VT d1) = V.str (VT d2)) = PyData.eqv d1 d2 := by
    by_cases c : d1 = d2
    · subst c
      rw [eqv_self d1 (vd_noL m1.vd)]
      simp
    · have e1 : PyData.eqv d1 d2 = false := by
        cases z : PyData.eqv d1 d2 with
        | false => rfl
        | true => exact absurd (eqv_eq d1 d2 m1.vd m2.vd z) c
      rw [e1]
      refine decide_eq_false fun z => c ?_
      exact VT_inj m1.iv m2.iv (V.str.inj z)
  rw [e]
  have e2 : (!decide (V.bl (PyData.eqv d1 d2) = V.bl (PyData.eqv d1 d2))) = false := by simp
  rw [e2]
  exact iteF (q H2 s12)
end
end K8

set_option maxRecDepth 100000
set_option maxHeartbeats 1000000
namespace K8
open PySem PySem.Spec PyProof.Rows L2 LamX KX M8
theorem read_good {X : List Nat} {d : PyData} (hx : X.length ≤ 50000) (h : readV X = some d) : Good d := by
  unfold readV at h
  split at h
  · cases h
  · rename_i d0 r hval
    split at h
    · split at h
      · cases h
        exact valueOf_good hx hval
      · cases h
    · cases h
section
variable {P : Program} {w : World} {K : PySem.W.Frag} {mg : Str → Option Value} {base : Heap} {A : Around} {outer : List Env} {s : Shared} {H0 : Hp} {E : XK} {f gW gc C cL PL cW aW fV fR : Addr} {fdW fdc fdV fdR : FuncData} {TT : List (Addr × Str)}
variable (T : Nm mg) (TW : WEr K mg C) (TD : WdC K mg C)
  (FW : FunD K "_law_word" "_law_word" (defArgs sWordOf) (defBody sWordOf) (defScope sWordOf) [] [] gW fdW) (Fc : FunD K "_law_caught" "_law_caught" (defArgs sCaught) (defBody sCaught) (defScope sCaught) [] [] gc fdc)
  (mW : mg "_law_word" = some (.ref gW)) (mc : mg "_law_caught" = some (.ref gc)) (bW : L2.Binds K fdW ["action"] []) (bc : L2.Binds K fdc ["action"] [])
  (hcW : fdW.code = .ref cW) (TBL : TabB base mg cL PL) (TBW : TabB base mg cW aW) (hmW : (aW, qWord) ∈ TT) (hmL : (PL, qLaw) ∈ TT) (huW : ∀ q ∈ TT, q.1 = aW → q.2 = qWord) (huL : ∀ q ∈ TT, q.1 = PL → q.2 = qLaw)
  (hg : A.guards = some []) (hr : Room 61 ((cxL P w K mg base f cL A outer s H0 E)).A)
  (G4value_text : GF P w K mg base 4 "value_text" ["value"] [] (spValueText C)) (G4read_value : GF P w K mg base 4 "read_value" ["text"] [] (spReadValue C))

include T TW TD FW Fc mW mc bW bc hcW TBL TBW hmW hmL huW huL hg hr

include G4value_text G4read_value
theorem f4 (G_law_draw : GF P w K mg base 61 "_law_draw" ["state", "room"] [] spDraw) : ∃ t, PS (cxL P w K mg base f cL A outer s H0 E) (bdF 4) t ∧ ∀ (D : Ends) (H : Hp) (st g c : Addr) (gs cs : List Int) (r t' : Int) (x : Str) (o0 o2 o3 o4 o5 o6 o8 o9 o10 : Option V), StAt H st g c gs cs r t' → 0 ≤ t' → t' < 2 ^ 29 → x.length ≤ 10000 →
    (∀ H' (k : Nat), Drawn1 H st g c cs t' 1 H' → D.nx [o0, some (.ref st), o2, o3, o4, o5, o6, some (.str x), some (.int k), o9, o10] H') → t D [o0, some (.ref st), o2, o3, o4, o5, o6, some (.str x), o8, o9, o10] H := by
  refine ⟨_, (ps_set (i := 8) scLaw.nd rfl (Or.inl rfl) (pe_gf G_law_draw hg hr passL (pa_cons (pv 1) (pa_cons (pe_op op_add (pe_callB call_len_str (by rfl) T.len bLEN (pa_cons (pv 7) pa_nil)) pe_int) pa_nil)))), ?_⟩
  rintro D H st g c gs cs r t' x o0 o2 o3 o4 o5 o6 o8 o9 o10 S h0 h1 hx q
  refine ⟨_, rfl, _, rfl, x, rfl, Nat.le_trans hx (by decide), _, _, rfl, rfl, st, g, c, gs, cs, r, t', x.length + 1, rfl, S, h0, by omega, by omega, by omega, fun k H' hk D1 => q H' k D1⟩
theorem f5 (G_law_pick : GF P w K mg base 61 "_law_pick" ["state", "some"] [] spPick) : ∃ t, PS (cxL P w K mg base f cL A outer s H0 E) (bdF 5) t ∧ ∀ (D : Ends) (H : Hp) (st g c : Addr) (gs cs : List Int) (r t' : Int) (x : Str) (k : Nat) (o0 o2 o3 o4 o5 o6 o9 o10 : Option V), StAt H st g c gs cs r t' → 0 ≤ t' → t' < 2 ^ 29 → x.length ≤ 10000 →
    (∀ H' (y : Str), y.length ≤ 50000 → Drawn1 H st g c cs t' 2 H' → D.nx [o0, some (.ref st), o2, o3, o4, o5, o6, some (.str x), some (.int k), some (.str y), o10] H') → t D [o0, some (.ref st), o2, o3, o4, o5, o6, some (.str x), some (.int k), o9, o10] H := by
  refine ⟨_, (ps_set (i := 9) scLaw.nd rfl (Or.inr rfl) (pe_gf G_law_pick hg hr passL (pa_cons (pv 1) (pa_cons (pe_lst (pa_cons (pe_op op_add_str (pe_op op_add_str (pe_slice sl_str (pv 7) po_none (po_some (pv 8))) (pe_gf G_law_pick hg hr passL (pa_cons (pv 1) (pa_cons (pe_lst (pa_cons pe_str (pa_cons pe_str (pa_cons pe_str (pa_cons pe_str pa_nil))))) pa_nil)))) (pe_slice sl_str (pv 7) (po_some (pv 8)) po_none)) (pa_cons (pe_op op_add_str (pe_slice sl_str (pv 7) po_none (po_some (pv 8))) (pe_slice sl_str (pv 7) (po_some (pe_op op_add (pv 8) pe_int)) po_none)) pa_nil))) pa_nil)))), ?_⟩
  rintro D H st g c gs cs r t' x k o0 o2 o3 o4 o5 o6 o9 o10 S h0 h1 hx q
  have hline : x.length ≤ sizeLine := Nat.le_trans hx (by decide)
  have hs : sizeLine = 16777216 := rfl
  have c1 := cutS_length x none (some (k : Int))
  have c2 := cutS_length x (some (k : Int)) none
  have c3 := cutS_length x (some ((k : Int) + 1)) none
  refine ⟨_, rfl, _, rfl, _, rfl, _, rfl, x, rfl, hline, _, rfl, (by show 4 ≤ sizeLine; decide), fun L nL => ?_⟩
  have sL : Same H (upd H L (.lst [.str "(", .str ")", .str " ", .str "A"])) := same_upd nL
  refine ⟨st, g, c, L, gs, cs, r, t', _, rfl, S.same sL, h0, by omega, List.cons_ne_nil _ _, by show 4 ≤ 1000; decide, upd_same, (ne_of_none S.hg nL).symm, fun v H1 hv D1 => ?_⟩
  obtain ⟨gs1, r1, t1, S1, a1, b1, f1⟩ := D1
  obtain ⟨z, rfl, hz⟩ : ∃ z : Str, v = .str z ∧ z.length = 1 := by
    rcases List.mem_cons.mp hv with rfl | hv
    · exact ⟨_, rfl, rfl⟩
    · rcases List.mem_cons.mp hv with rfl | hv
      · exact ⟨_, rfl, rfl⟩
      · rcases List.mem_cons.mp hv with rfl | hv
        · exact ⟨_, rfl, rfl⟩
        · rw [List.mem_singleton.mp hv]
          exact ⟨_, rfl, rfl⟩
  have e1 := Str.length_append (cutS x none (some (k : Int))) z
  have e2 := Str.length_append (cutS x none (some (k : Int)) ++ z) (cutS x (some (k : Int)) none)
  have e3 := Str.length_append (cutS x none (some (k : Int))) (cutS x (some ((k : Int) + 1)) none)
  refine ⟨_, _, rfl, rfl, by omega, _, rfl, _, rfl, _, rfl, x, rfl, hline, _, _, rfl, rfl, by omega, ?_⟩
  refine ⟨_, rfl, _, rfl, _, rfl, x, rfl, hline, _, rfl, _, rfl, _, _, rfl, rfl, _, rfl, x, rfl, hline, _, _, rfl, rfl, by omega, (by show 2 ≤ sizeLine; decide), fun L2 nL2 => ?_⟩
  have s2 : Same H1 (upd H1 L2 (.lst [.str (cutS x none (some (k : Int)) ++ z ++ cutS x (some (k : Int)) none), .str (cutS x none (some (k : Int)) ++ cutS x (some ((k : Int) + 1)) none)])) := same_upd nL2
  refine ⟨st, g, c, L2, gs1, cs, r1, t1, _, rfl, S1.same s2, by omega, by omega, List.cons_ne_nil _ _, by show 2 ≤ 1000; decide, upd_same, (ne_of_none S1.hg nL2).symm, fun v H2 hv D2 => ?_⟩
  obtain ⟨gs2, r2, t2, S2, a2, b2, f2⟩ := D2
  have dr : Drawn1 H st g c cs t' 2 H2 := ⟨gs2, r2, t2, S2, by omega, by omega, (((FrB.same sL).trans f1).trans (FrB.same s2)).trans f2⟩
  rcases List.mem_cons.mp hv with rfl | hv
  · exact q H2 _ (by omega) dr
  · rw [List.mem_singleton.mp hv]
    exact q H2 _ (by omega) dr
theorem f6 : ∃ t, PS (cxL P w K mg base f cL A outer s H0 E) (bdF 6) t ∧ ∀ (D : Ends) (H : Hp) (y : Str) (o0 o1 o2 o3 o4 o5 o6 o7 o8 o10 : Option V), Tabs TT H → y.length ≤ 50000 →
    (∀ H' u, ExtN H H' → Tabs TT H' → Dt H' u (wResD (readV y.cps.toList)) → D.nx [o0, o1, o2, o3, o4, o5, o6, o7, o8, some (.str y), some u] H') → t D [o0, o1, o2, o3, o4, o5, o6, o7, o8, some (.str y), o10] H := by
  have hrW : Room (4 + 5) ((cxL P w K mg base f cL A outer s H0 E)).A := hr.mono (by decide)
  refine ⟨_, (ps_set (i := 10) scLaw.nd rfl (Or.inl rfl) (pe_word (T := TT) (k := 4) FW Fc T TW TD (by rfl) mW mc hcW TBW hmW huW bW bc hg hrW TBL rfl hmL huL (lamS_by (sc := defScope sLaw) (by decide +kernel)) rfl (fun _ _ _ _ _ => rfl) (fun A1 outer1 s1 H1 E1 f1 c1 hg2 hr2 e02 => pe_gf G4read_value hg2 hr2 (lamPass (X := (cxL P w K mg base f cL A outer s H0 E)) (A := A1) (outer := outer1) (s := s1) (H := H1) (E := E1) (f := f1) (ca := c1)) (pa_cons (pv 9) pa_nil)))), ?_⟩
  rintro D H y o0 o1 o2 o3 o4 o5 o6 o7 o8 o10 hT hy q
  refine ⟨hT, fun H2 e2 T2 => ⟨readV y.cps.toList, fun H3 e3 E1 Q1 hno hok => ⟨_, rfl, .str y, .str y, rfl, .str _, hy, fun d' z H4 u4 s4 hu4 => hok u4 H4 d' z s4 hu4, fun z => hno z⟩, fun d z => vd_noL ((isValue_iff d).mp (read_is z).1).1, fun H3 u3 e3 T3 hu3 => q H3 u3 (e2.trans e3) T3 hu3⟩⟩
theorem f7 (G_law_plain : GF P w K mg base 61 "_law_plain" ["value"] [] (spPlain 60)) (G_law_value_text : GF P w K mg base 61 "_law_value_text" ["value"] [] (spLVT 60)) : ∃ t, PS (cxL P w K mg base f cL A outer s H0 E) (bdF 7) t ∧ ∀ (D : Ends) (H : Hp) (y : Str) (u : V) (o0 o1 o2 o3 o4 o5 o6 o7 o8 : Option V), y.length ≤ 50000 → Dt H u (wResD (readV y.cps.toList)) →
    (∀ H', Same H H' → D.nx [o0, o1, o2, o3, o4, o5, o6, o7, o8, some (.str y), some u] H') → t D [o0, o1, o2, o3, o4, o5, o6, o7, o8, some (.str y), some u] H := by
  have hu : ((cxL P w K mg base f cL A outer s H0 E)).A.units + 64 < cLine := hr.units
  refine ⟨_, (ps_if (PW.pt (pw_and (pt_cmpR (op_neM hu) (pv 10) (pe_tup (pa_cons pe_str (pa_cons pe_int pa_nil))) (nomark _)) (pw_and1 (PW.pt (pw_or (pt_not (pt_val (pe_gf G_law_plain hg hr passL (pa_cons (pv 10) pa_nil)))) (pw_or1 (pt_cmpR op_ne (pe_gf G_law_value_text hg hr passL (pa_cons (pv 10) pa_nil)) (pv 9) (nomark _)))))))) (pss_one (ps_ret pe_bl)) pss_nil), ?_⟩
  rintro D H y u o0 o1 o2 o3 o4 o5 o6 o7 o8 hy hd q
  refine ⟨_, rfl, (by show 2 ≤ sizeLine; decide), fun Tt nT => ?_⟩
  have sT : Same H (upd H Tt (.tup [.str "text", .int 0])) := same_upd nT
  have hlay : PyData.canLay0 (wResD (readV y.cps.toList)) = true := by
    cases z : readV y.cps.toList with
    | none => exact tx0_lay
    | some d => exact vd_lay ((isValue_iff d).mp (read_is z).1).1
  refine ⟨wResD (readV y.cps.toList), tx0, (hd.same sT).dp, (Dt.tup upd_same (.cons (.str _) (.cons (.int _) .nil))).dp, hlay, tx0_lay, (by rw [tx0_dep]; omega), _, rfl, ?_⟩
  cases z : readV y.cps.toList with
  | none =>
    rw [tx0_ne]
    exact iteF (q _ sT)
  | some d =>
    rw [z] at hd
    obtain ⟨iv, ev⟩ := read_is z
    obtain ⟨vd, dp⟩ := (isValue_iff d).mp iv
    have gd := read_good (by rw [← lenL]; exact hy) z
    have hd' : Dt H u d := hd
    have e1 : VT d = y := TL.ext_tl ev
    cases hb : (!PyData.eqv (wResD (some d)) tx0) with
    | false => exact iteF (q _ sT)
    | true =>
      refine iteT ⟨_, rfl, u, d, rfl, hd'.same sT, vd_noL vd, by omega, fun H1 s1 => ⟨_, rfl, iteF ?_⟩⟩
      refine ⟨_, rfl, u, d, rfl, (hd'.same sT).same s1, vd, gd.sz, by omega, fun H2 s2 => ⟨_, rfl, rfl, _, rfl, ?_⟩⟩
      rw [e1]
      have e2 : (!decide (V.str y = V.str y)) = false := by simp
      rw [e2]
      exact iteF (q _ ((sT.trans s1).trans s2))
end
end K8

set_option maxRecDepth 100000
set_option maxHeartbeats 1000000
namespace K8
open PySem PySem.Spec PyProof.Rows L2 LamX KX M8
theorem tc_ne_dK {o : HO} {ps : List (Key × V)} (h : (∃ ps, o = .tbl ps) ∨ ∃ c q, o = CodeO c q) : o ≠ .dK ps := fun z => by
  rcases h with ⟨ps, e⟩ | ⟨c, q, e⟩
  · rw [e] at z
    cases z
  · rw [e] at z
    unfold CodeO at z
    cases z
theorem tabs_frB {TT : List (Addr × Str)} {H H' : Hp} {st g c : Addr} {gs cs : List Int} {r t : Int} (T : Tabs TT H) (S : StAt H st g c gs cs r t) (f : FrB st g H H') : Tabs TT H' :=
  tabs_extE T fun b o e h => f b o (ne_of e S.hd (tc_ne_dK h)) (ne_of e S.hg (tc_ne_lst h)) e
theorem StAt.extN {H H' : Hp} {st g c : Addr} {gs cs : List Int} {r t : Int} (S : StAt H st g c gs cs r t) (e : ExtN H H') : StAt H' st g c gs cs r t := ⟨e _ _ S.hd fun _ z => (nomatch z), e _ _ S.hg fun _ z => (nomatch z), e _ _ S.hc fun _ z => (nomatch z), S.gc⟩
section
variable {P : Program} {w : World} {K : PySem.W.Frag} {mg : Str → Option Value} {base : Heap} {A : Around} {outer : List Env} {s : Shared} {H0 : Hp} {E : XK} {f gW gc C cL PL cW aW fV fR : Addr} {fdW fdc fdV fdR : FuncData} {TT : List (Addr × Str)}
variable (T : Nm mg) (TW : WEr K mg C) (TD : WdC K mg C)
  (FW : FunD K "_law_word" "_law_word" (defArgs sWordOf) (defBody sWordOf) (defScope sWordOf) [] [] gW fdW) (Fc : FunD K "_law_caught" "_law_caught" (defArgs sCaught) (defBody sCaught) (defScope sCaught) [] [] gc fdc)
  (mW : mg "_law_word" = some (.ref gW)) (mc : mg "_law_caught" = some (.ref gc)) (bW : L2.Binds K fdW ["action"] []) (bc : L2.Binds K fdc ["action"] [])
  (hcW : fdW.code = .ref cW) (TBL : TabB base mg cL PL) (TBW : TabB base mg cW aW) (hmW : (aW, qWord) ∈ TT) (hmL : (PL, qLaw) ∈ TT) (huW : ∀ q ∈ TT, q.1 = aW → q.2 = qWord) (huL : ∀ q ∈ TT, q.1 = PL → q.2 = qLaw)
  (hg : A.guards = some []) (hr : Room 61 ((cxL P w K mg base f cL A outer s H0 E)).A)
  (G4value_text : GF P w K mg base 4 "value_text" ["value"] [] (spValueText C)) (G4read_value : GF P w K mg base 4 "read_value" ["text"] [] (spReadValue C))

include T TW TD FW Fc mW mc bW bc hcW TBL TBW hmW hmL huW huL hg hr

include G4value_text G4read_value
variable (OV : FnG P w K mg base 3 fV fdV ["value"] (spValueText C)) (OR : FnG P w K mg base 4 fR fdR ["text"] (spReadValue C))
  (Fvalue_text : FunD K "value_text" "value_text" (defArgs sValueText) (defBody sValueText) (defScope sValueText) [] [] fV fdV) (mvalue_text : mg "value_text" = some (.ref fV))
  (Fread_value : FunD K "read_value" "read_value" (defArgs sReadValue) (defBody sReadValue) (defScope sReadValue) [] [] fR fdR) (mread_value : mg "read_value" = some (.ref fR))
include OV OR Fvalue_text mvalue_text Fread_value mread_value
theorem st5 (L : LawK P w K mg base C) : ∃ t, PS (cxL P w K mg base f cL A outer s H0 E) (bdL 5) t ∧ ∀ (D : Ends) (H : Hp) (a st g c : Addr) (ns gs cs : List Int) (o2 o3 o4 o5 o6 o7 o8 o9 o10 : Option V), SqL K H a (ns.map V.int) → ns.length ≤ 1000 → StAt H st g c gs cs 0 0 → Tabs TT H →
    (∀ σ' H', D.nx σ' H') → t D [some (.ref a), some (.ref st), o2, o3, o4, o5, o6, o7, o8, o9, o10] H := by
  obtain ⟨t0, p0, r0⟩ := f0 T TW TD FW Fc mW mc bW bc hcW TBL TBW hmW hmL huW huL hg hr G4value_text G4read_value L.some_
  obtain ⟨t1, p1, r1⟩ := f1 T TW TD FW Fc mW mc bW bc hcW TBL TBW hmW hmL huW huL hg hr G4value_text G4read_value L.lvt
  obtain ⟨t2, p2, r2⟩ := f2 T TW TD FW Fc mW mc bW bc hcW TBL TBW hmW hmL huW huL hg hr G4value_text G4read_value OV OR Fvalue_text mvalue_text Fread_value mread_value L.is_
  obtain ⟨t3, p3, r3⟩ := f3 T TW TD FW Fc mW mc bW bc hcW TBL TBW hmW hmL huW huL hg hr G4value_text G4read_value
  obtain ⟨t4, p4, r4⟩ := f4 T TW TD FW Fc mW mc bW bc hcW TBL TBW hmW hmL huW huL hg hr G4value_text G4read_value L.draw
  obtain ⟨t5, p5, r5⟩ := f5 T TW TD FW Fc mW mc bW bc hcW TBL TBW hmW hmL huW huL hg hr G4value_text G4read_value L.pick
  obtain ⟨t6, p6, r6⟩ := f6 T TW TD FW Fc mW mc bW bc hcW TBL TBW hmW hmL huW huL hg hr G4value_text G4read_value
  obtain ⟨t7, p7, r7⟩ := f7 T TW TD FW Fc mW mc bW bc hcW TBL TBW hmW hmL huW huL hg hr G4value_text G4read_value L.plain L.lvt
  refine ⟨_, (ps_for PassesOwn.never rfl (pi_range1 (by rfl) T.range (pa_cons (pe_op op_add pe_int (pe_callB (call_min2 rfl) (by rfl) T.min bMIN (pa_cons (pe_callB call_len_seq (by rfl) T.len bLEN (pa_cons (pv 0) pa_nil)) (pa_cons pe_int pa_nil)))) pa_nil)) (pg_name (i := 4) scLaw.nd rfl (Or.inl rfl))
    (pss_cons p0 (pss_cons p1 (pss_cons p2 (pss_cons p3 (pss_cons p4 (pss_cons p5 (pss_cons p6 (pss_one p7))))))))), ?_⟩
  rintro D H a st g c ns gs cs o2 o3 o4 o5 o6 o7 o8 o9 o10 hS hl S0 hT q
  refine ⟨_, rfl, a, _, rfl, .inl hS, _, _, rfl, _, _, rfl, rfl, ?_⟩
  obtain ⟨m, hm, hm2⟩ : ∃ m : Nat, (8 + (if (10 : Int) < ((ns.map V.int).length : Int) then (10 : Int) else ((ns.map V.int).length : Int))) = (m : Int) ∧ m ≤ 18 := by
    refine ⟨8 + min 10 (ns.map V.int).length, ?_, by omega⟩
    split <;> omega
  refine ⟨m, congrArg (fun z : Int => [V.int z]) hm, by omega, by omega, for_range (n := m) (fun i σ H' => ∃ o2 o3 o4 o5 o6 o7 o8 o9 o10 : Option V, σ = [some (.ref a), some (.ref st), o2, o3, o4, o5, o6, o7, o8, o9, o10] ∧ Tabs TT H' ∧ ∃ gs r t', StAt H' st g c gs cs r t' ∧ 0 ≤ t' ∧ t' ≤ (i * 200 : Nat))
    ⟨o2, o3, o4, o5, o6, o7, o8, o9, o10, rfl, hT, gs, 0, 0, S0, by omega, by omega⟩ ?_ ?_⟩
  · rintro i σ H1 hi ⟨o2, o3, o4, o5, o6, o7, o8, o9, o10, rfl, hT1, gs1, r1', t1', S1, h0, h1⟩
    refine r0 _ H1 st g c gs1 cs r1' t1' _ _ _ _ _ _ _ _ _ _ S1 h0 (by omega) fun H2 u1 d1 u2 d2 m1 m2 hu1 hu2 D1 => ?_
    obtain ⟨gs2, r2', t2', S2, a2, b2, fr2⟩ := D1
    have hT2 := tabs_frB hT1 S1 fr2
    refine r1 _ H2 u1 d1 _ _ _ _ _ _ _ _ _ _ m1 hu1 fun H3 s3 => ?_
    refine r2 _ H3 u1 d1 _ _ _ _ _ _ _ _ _ m1 (hu1.same s3) fun H4 s4 => ?_
    have s24 := s3.trans s4
    refine r3 _ H4 u1 u2 d1 d2 _ _ _ _ _ _ _ _ _ m1 m2 (hu1.same s24) (hu2.same s24) fun H5 s5 => ?_
    have s25 := s24.trans s5
    have S5 := S2.same s25
    have hT5 := tabs_same hT2 s25
    have hxl := m1.len
    refine r4 _ H5 st g c gs2 cs r2' t2' (VT d1) _ _ _ _ _ _ _ _ _ S5 (by omega) (by omega) (by omega) fun H6 k D6 => ?_
    obtain ⟨gs6, r6', t6', S6, a6, b6, fr6⟩ := D6
    have hT6 := tabs_frB hT5 S5 fr6
    refine r5 _ H6 st g c gs6 cs r6' t6' (VT d1) k _ _ _ _ _ _ _ _ S6 (by omega) (by omega) (by omega) fun H7 y hy D7 => ?_
    obtain ⟨gs7, r7', t7', S7, a7, b7, fr7⟩ := D7
    have hT7 := tabs_frB hT6 S6 fr7
    refine r6 _ H7 y _ _ _ _ _ _ _ _ _ _ hT7 hy fun H8 u e8 hT8 hu8 => ?_
    refine r7 _ H8 y u _ _ _ _ _ _ _ _ _ hy hu8 fun H9 s9 => ?_
    exact ⟨_, _, _, _, _, _, _, _, _, rfl, tabs_same hT8 s9, gs7, r7', t7', (S7.extN e8).same s9, by omega, by omega⟩
  · rintro σ H' _
    exact q _ _
end
end K8

set_option maxRecDepth 100000
set_option maxHeartbeats 1000000
namespace K8
open PySem PySem.Spec PyProof.Rows L2 LamX KX M8
theorem sqL_ext {K : PySem.W.Frag} {H H' : Hp} {a : Addr} {xs : List V} (h : SqL K H a xs) (e : ExtN H H') : SqL K H' a xs := by
  rcases h with (h | h) | h
  · exact .inl (.inl (e _ _ h fun _ z => (nomatch z)))
  · obtain ⟨o, h⟩ := h
    exact .inl (.inr ⟨o, e _ _ h fun _ z => (nomatch z)⟩)
  · exact .inr h
section
variable {P : Program} {w : World} {K : PySem.W.Frag} {mg : Str → Option Value} {base : Heap}
theorem body_eq : defBody sLaw = [bdL 0, bdL 1, bdL 2, bdL 3, bdL 4, bdL 5, bdL 6] := by rfl
theorem ok_law {f gW gc C cL PL cW PW fV fR : Addr} {fd fdW fdc fdV fdR : FuncData}
    (F : FunD K "law" "law" (defArgs sLaw) (defBody sLaw) (defScope sLaw) [] [] f fd) (T : Nm mg) (TW : WEr K mg C) (TD : WdC K mg C)
    (FW : FunD K "_law_word" "_law_word" (defArgs sWordOf) (defBody sWordOf) (defScope sWordOf) [] [] gW fdW) (Fc : FunD K "_law_caught" "_law_caught" (defArgs sCaught) (defBody sCaught) (defScope sCaught) [] [] gc fdc)
    (mW : mg "_law_word" = some (.ref gW)) (mc : mg "_law_caught" = some (.ref gc)) (bW : L2.Binds K fdW ["action"] []) (bc : L2.Binds K fdc ["action"] [])
    (Fvalue_text : FunD K "value_text" "value_text" (defArgs sValueText) (defBody sValueText) (defScope sValueText) [] [] fV fdV) (mvalue_text : mg "value_text" = some (.ref fV)) (bvalue_text : L2.Binds K fdV ["value"] []) (OV : FnG P w K mg base 3 fV fdV ["value"] (spValueText C))
    (Fread_value : FunD K "read_value" "read_value" (defArgs sReadValue) (defBody sReadValue) (defScope sReadValue) [] [] fR fdR) (mread_value : mg "read_value" = some (.ref fR)) (bread_value : L2.Binds K fdR ["text"] []) (OR : FnG P w K mg base 4 fR fdR ["text"] (spReadValue C))
    (L : LawK P w K mg base C) (hcL : fd.code = .ref cL) (hcW : fdW.code = .ref cW) (TBL : TabB base mg cL PL) (TBW : TabB base mg cW PW) (hne : PL ≠ PW) :
    FnG P w K mg base (61 + 1) f fd ["script"] (spLaw K [(PL, qLaw), (PW, qWord)]) := by
  obtain ⟨TT, eTT⟩ : ∃ TT, TT = [(PL, qLaw), (PW, qWord)] := ⟨_, rfl⟩
  have hmW : (PW, qWord) ∈ TT := by rw [eTT]; simp
  have hmL : (PL, qLaw) ∈ TT := by rw [eTT]; simp
  have huW : ∀ q ∈ TT, q.1 = PW → q.2 = qWord := by
    rw [eTT]
    intro q hq e
    rcases List.mem_cons.mp hq with rfl | hq
    · exact absurd e hne
    · rw [List.mem_singleton.mp hq]
  have huL : ∀ q ∈ TT, q.1 = PL → q.2 = qLaw := by
    rw [eTT]
    intro q hq e
    rcases List.mem_cons.mp hq with rfl | hq
    · rfl
    · rw [List.mem_singleton.mp hq] at e
      exact absurd e.symm hne
  rw [← eTT]
  refine okGc F scLaw hcL (fun vs H Q E h => ?_) (fun A outer s H vs Q E hg hr hsp => ?_)
  · obtain ⟨a, ns, rfl, _⟩ := h
    rfl
  have G4value_text : GF P w K mg base 4 "value_text" ["value"] [] (spValueText C) := ⟨fV, fdV, [], mvalue_text, Fvalue_text.kp, bvalue_text, .nil, OV.mono (by decide)⟩
  have G4read_value : GF P w K mg base 4 "read_value" ["text"] [] (spReadValue C) := ⟨fR, fdR, [], mread_value, Fread_value.kp, bread_value, .nil, OR⟩
  obtain ⟨t0, p0, r0⟩ := st0 (s := s) (H0 := H) (E := E) (outer := outer) (cL := cL) T hg hr L.begun
  obtain ⟨t1, p1, r1⟩ := st1 (s := s) (H0 := H) (E := E) (outer := outer) T TW TD FW Fc mW mc bW bc hcW TBL TBW hmW hmL huW huL hg hr G4value_text L.nested
  obtain ⟨t2, p2, r2⟩ := st2 (s := s) (H0 := H) (E := E) (outer := outer) (cL := cL) T hg hr L.nested
  obtain ⟨t3, p3, r3⟩ := st3 (s := s) (H0 := H) (E := E) (outer := outer) T TW TD FW Fc mW mc bW bc hcW TBL TBW hmW hmL huW huL hg hr G4value_text G4read_value L.is_
  obtain ⟨t4, p4, r4⟩ := st4 (s := s) (H0 := H) (E := E) (outer := outer) T TW TD FW Fc mW mc bW bc hcW TBL TBW hmW hmL huW huL hg hr G4read_value
  obtain ⟨t5, p5, r5⟩ := st5 (s := s) (H0 := H) (E := E) (outer := outer) T TW TD FW Fc mW mc bW bc hcW TBL TBW hmW hmL huW huL hg hr G4value_text G4read_value OV OR Fvalue_text mvalue_text Fread_value mread_value L
  rw [body_eq]
  refine ⟨_, PSs.nox (pss_cons p0 (pss_cons p1 (pss_cons p2 (pss_cons p3 (pss_cons p4 (pss_cons p5 (pss_one (show PS _ (bdL 6) _ from ps_ret pe_bl)))))))), ?_⟩
  obtain ⟨a, ns, rfl, hS, hlen, hT, q⟩ := hsp
  refine r0 _ H a ns hS hlen fun H1 st g c gs cs s1 n1 n2 n3 S1 => ?_
  have hT1 := tabs_same hT s1
  have hS1 := sqL_ext hS (ExtN.same s1)
  refine r1 _ H1 _ _ _ _ _ _ _ _ _ _ _ hT1 fun H2 o2 e2 hT2 => ?_
  refine r2 _ H2 _ _ _ _ _ _ _ _ _ _ _ fun H3 u s3 hu3 => ?_
  refine r3 _ H3 u _ _ _ _ _ _ _ _ _ _ (tabs_same hT2 s3) hu3 fun H4 e4 hT4 => ?_
  refine r4 _ H4 _ _ _ _ _ _ _ _ _ _ _ hT4 fun H5 o5 e5 hT5 => ?_
  have e15 : ExtN H1 H5 := ((e2.trans (ExtN.same s3)).trans e4).trans e5
  refine r5 _ H5 a st g c ns gs cs _ _ _ _ _ _ _ _ _ (sqL_ext hS1 e15) hlen (S1.extN e15) hT5 fun σ' H' => ?_
  exact q H'
end
end K8

set_option maxRecDepth 100000
set_option maxHeartbeats 1000000
namespace K8
open PySem PySem.Spec PyProof.Rows L2 LamX KX M8
/-- what a law's run starts with: the tables, and the script where nothing is known of it -/
def hpG (K : PySem.W.Frag) (T : List Addr) (a : Addr) (vs : List Value) (ns : List Int) : Hp := fun b =>
  if b ∈ T then some (.tbl #[]) else if b = a ∧ K.lookup a = none then some (.frz { cls := .type "list", data := .seq vs.toArray } (.lst (ns.map V.int))) else none
theorem hpG_inv {K : PySem.W.Frag} {T : List Addr} {a b : Addr} {vs : List Value} {ns : List Int} {u : HO} (h : hpG K T a vs ns b = some u) : (b ∈ T ∧ u = .tbl #[]) ∨ (b = a ∧ K.lookup a = none ∧ u = .frz { cls := .type "list", data := .seq vs.toArray } (.lst (ns.map V.int))) := by
  unfold hpG at h
  split at h
  · rename_i hb
    cases h
    exact .inl ⟨hb, rfl⟩
  · split at h
    · rename_i hb
      cases h
      exact .inr ⟨hb.1, hb.2, rfl⟩
    · cases h
section
variable {P : Program} {w : World} {K : PySem.W.Frag} {mg mb : Str → Option Value} {k : Nat} {fa a : Addr} {cs : List (Addr × Addr)} {fd : FuncData} {x : Str} {sp : Sp} {s₁ : Shared} {vs : List Value} {ns : List Int}
/-- a law's call, its def a FnG -/
theorem law_callG (KX : K.In s₁.heap) (hns : s₁.heap.Ns mainGlobals mg) (hb : s₁.heap.Ns builtinsNs mb) (hbb : ∀ x : Str, x ≠ "__name__" → mb x = bootBuiltins x) (hlim : s₁.heap.NoLimit) (hg : s₁.gens = #[])
    (hT : ∀ p ∈ cs, s₁.heap.get? p.2 = some { cls := .none, data := .fields #[] }) (nT : ∀ p ∈ cs, K.lookup p.2 = none) (C : ∀ p ∈ cs, PySem.W.CodeHd s₁.heap p.1 p.2)
    (hbm : ∃ (bm : Addr) (ob : Obj), mg "__builtins__" = some (.ref bm) ∧ bm ≠ builtinsNs ∧ s₁.heap.get? bm = some ob ∧ ob.cls = .type "module" ∧ ob.dict = some builtinsNs ∧ ob.data = .plain)
    (ha : s₁.heap.get? a = some { cls := .type "list", data := .seq vs.toArray }) (hi : IntsAre vs ns) (hl : ns.length ≤ sizeLine) (hr : Room k callerA)
    (F : ∀ base : Heap, K.In base → base.Ns mainGlobals mg → (∀ p ∈ cs, TabB base mg p.1 p.2) → FnG P w K mg base k fa fd [x] sp) (hbind : ∀ (s : Shared) (u : Value), BindsTo s fd ⟨[u], []⟩ [(x, u)])
    (hsp : ∀ H : Hp, (∀ p ∈ cs, H p.2 = some (.tbl #[])) → SqL K H a (ns.map V.int) → sp [.ref a] H (fun v _ => v = .bl true) fun _ _ _ => False) :
    codeAny (model P w) callerA (.call (.ref fa) ⟨[.ref a], []⟩) (fun r s' => r = .ok (.ret (.bool true)) ∧ OldK s₁.heap s'.heap ∧ s'.os = s₁.os ∧ AllBare s'.gens) s₁ := by
  have rv := vals_ints hi
  obtain ⟨T, eT⟩ : ∃ T, T = cs.map (·.2) := ⟨_, rfl⟩
  have memT : ∀ p ∈ cs, p.2 ∈ T := fun p hp => by rw [eT]; exact List.mem_map.mpr ⟨p, hp, rfl⟩
  have ofT : ∀ b ∈ T, s₁.heap.get? b = some { cls := .none, data := .fields #[] } ∧ K.lookup b = none := fun b hb => by
    rw [eT] at hb
    obtain ⟨p, hp, rfl⟩ := List.mem_map.mp hb
    exact ⟨hT p hp, nT p hp⟩
  have aT : a ∉ T := fun z => by
    have q := (ofT a z).1
    rw [ha] at q
    cases q
  obtain ⟨H, eH⟩ : ∃ H, H = hpG K T a vs ns := ⟨_, rfl⟩
  have inv : ∀ {b u}, H b = some u → (b ∈ T ∧ u = .tbl #[]) ∨ (b = a ∧ K.lookup a = none ∧ u = .frz { cls := .type "list", data := .seq vs.toArray } (.lst (ns.map V.int))) := fun {b u} h => hpG_inv (by rw [eH] at h; exact h)
  have hHT : ∀ p ∈ cs, H p.2 = some (.tbl #[]) := fun p hp => by rw [eH]; exact if_pos (memT p hp)
  have hS : SqL K H a (ns.map V.int) := by
    cases hk : K.lookup a with
    | some o =>
      have e := KX a o hk
      rw [ha] at e
      cases e
      exact .inr ⟨_, vs.toArray, _, hk, rfl, rfl, rfl, by rw [List.size_toArray, hi.length]; exact hl, by simpa using rv⟩
    | none =>
      refine .inl (.inr ⟨{ cls := .type "list", data := .seq vs.toArray }, ?_⟩)
      rw [eH]
      exact (if_neg aT).trans (if_pos ⟨rfl, hk⟩)
  have hok : HOk P w H s₁.heap := fun b u h => by
    rcases inv h with ⟨h1, rfl⟩ | ⟨rfl, h2, rfl⟩
    · exact (ofT b h1).1
    · exact ⟨ha, by rw [List.length_map]; exact hl, vs, _, rv, ha⟩
  -- an object that is neither a list nor a table is not tracked
  have free : ∀ {b o}, s₁.heap.get? b = some o → o ≠ { cls := .none, data := .fields #[] } → (∀ its n, o.data ≠ .seq its n) → H b = none := fun {b o} e n1 n2 => by
    cases q : H b with
    | none => rfl
    | some u =>
      rcases inv q with ⟨h1, _⟩ | ⟨h1, _, _⟩
      · rw [(ofT b h1).1] at e
        exact absurd (Option.some.inj e).symm n1
      · rw [h1, ha] at e
        cases e
        exact absurd rfl (n2 _ _)
  have nsB : ∀ {b m}, s₁.heap.Ns b m → (hidT s₁.heap H).Ns b m := fun {b m} ⟨o, es, ep, e, d, r⟩ => ⟨o, es, ep, hidT_get e (free e (fun z => by rw [z] at d; cases d) fun its n z => by rw [d] at z; cases z), d, r⟩
  have kIn : K.In (hidT s₁.heap H) := fun b o e => hidT_get (KX b o e) (by
    cases q : H b with
    | none => rfl
    | some u =>
      rcases inv q with ⟨h1, _⟩ | ⟨h1, h2, _⟩
      · rw [(ofT b h1).2] at e
        cases e
      · rw [h1, h2] at e
        cases e)
  have hM : L2.Mod K mg (hidT s₁.heap H) := ⟨kIn, nsB hns, ⟨mb, nsB hb, hbb⟩, let ⟨mc, h1, h2⟩ := hlim; ⟨mc, nsB h1, h2⟩⟩
  have hTB : ∀ p ∈ cs, TabB (hidT s₁.heap H) mg p.1 p.2 := fun p hp => by
    have tp := hT p hp
    refine ⟨?_, ?_, fun z => ?_⟩
    · obtain ⟨o, us, file, tf, flags, tg, inF, text, tt, e1, r1, r2, r3, r4, r5, r6, r7, r8, hne⟩ := C p hp
      exact ⟨o, us, file, tf, flags, tg, inF, text, tt, hidT_get e1 (free e1 (fun z => by
        rw [z] at r2
        cases r2
        simp at r3) fun its n z => by rw [r2] at z; cases z), r1, r2, r3, r4, r5, r6, r7, r8, hne⟩
    · obtain ⟨bm, ob, b1, b2, b3, b4, b5, b6⟩ := hbm
      have nP : bm ≠ p.2 := fun q => by
        rw [q, tp] at b3
        cases b3
        cases b6
      have nG : bm ≠ mainGlobals := fun q => by
        obtain ⟨o, es, ep, e, hd, _⟩ := hns
        rw [q, e] at b3
        cases b3
        rw [hd] at b6
        cases b6
      exact ⟨bm, ob, b1, b2, nG, nP, hidT_get b3 (free b3 (fun z => by rw [z] at b6; cases b6) fun its n z => by rw [b6] at z; cases z), b4, b5, b6⟩
    · obtain ⟨o, es, ep, e, hd, _⟩ := hns
      rw [z, tp] at e
      cases e
      cases hd
  have e0 : Env0 P w K mg (hidT s₁.heap H) callerA [] s₁ H := ⟨rfl, hM, fun b o e => of_hidT e, Nat.le_of_eq (hidT_size _ _), trivial, fun b hb => absurd (show b ∈ ([] : List Addr) from hb) (by simp), hok, .of_eq hg⟩
  refine codeAny_mono ((F _ kIn (nsB hns) hTB).run callerA [] s₁ H ⟨[.ref a], []⟩ [.ref a] [.ref a] _ _ rfl hr e0 (hbind s₁ (.ref a)) (.cons rfl .nil) (hsp H hHT hS)) fun r s' h => ?_
  cases r with
  | error e =>
    obtain ⟨_, _, _, _, _, _, _, _, _, _, _, _, z⟩ := h
    exact z.elim
  | ok fl =>
    cases fl with
    | next => exact False.elim h
    | brk => exact False.elim h
    | cont => exact False.elim h
    | ret u =>
      obtain ⟨v, H', os, bare, un, hok', r', q⟩ := h
      obtain rfl : v = .bl true := q
      obtain rfl : u = Value.bool true := r'
      have old : ∀ b o, b ∉ T → s₁.heap.get? b = some o → s'.heap.get? b = some o := fun b o nb e => by
        cases q : H b with
        | none => exact un.keep b o e q (by intro z; exact absurd (show b ∈ ([] : List Addr) from z) (by simp)) (by simp)
        | some u =>
          rcases inv q with ⟨h1, _⟩ | ⟨rfl, _, rfl⟩
          · exact absurd h1 nb
          · obtain ⟨e2, _⟩ := hok' b _ (un.frzs b _ _ q)
            rw [ha] at e
            cases e
            exact e2
      have grown : ∀ p ∈ cs, ∃ more : Array Value, s'.heap.get? p.2 = some { cls := .none, data := .fields more } := fun p hp => by
        obtain ⟨more, z⟩ := un.tbls p.2 #[] (hHT p hp)
        exact ⟨_, hok' p.2 _ z⟩
      have pick : ∀ b ∈ T, ∃ p ∈ cs, p.2 = b := fun b hb => by
        rw [eT] at hb
        exact List.mem_map.mp hb
      refine ⟨rfl, ⟨fun b o e => ?_, fun b o e => ?_⟩, os, bare⟩
      · by_cases hb : b ∈ T
        · obtain ⟨p, hp, rfl⟩ := pick b hb
          obtain ⟨more, hm⟩ := grown p hp
          rw [hT p hp] at e
          cases e
          exact .inr (.inl ⟨((C p hp).tab (hT p hp)).isCodeTable, rfl, #[], more, rfl, by rw [Array.empty_append]; exact hm⟩)
        · exact .inl (old b o hb e)
      · by_cases hb : b ∈ T
        · obtain ⟨p, hp, rfl⟩ := pick b hb
          obtain ⟨more, hm⟩ := grown p hp
          exact ⟨_, hm⟩
        · exact ⟨o, old b o hb e⟩
end
end K8

set_option maxRecDepth 100000
set_option maxHeartbeats 1000000
namespace K8
open PySem PySem.Spec PyProof.Rows L2 LamX KX M8
open PySem.W (Frag ksFn)
abbrev FnO : Type := Option (Str × Str × Arguments × FuncBody × Scope × Addr × List Str × Addr)
def cNT (K : Frag) : Addr := He.ga K "NoText"
def ntFn (K : Frag) : Option FuncData := match PySem.W.findIn K (.ref (cNT K)) "__init__" with
  | some (some (.ref f)) => (match K.lookup f with
    | some ⟨_, _, .func fd, _⟩ => some fd
    | _ => none)
  | _ => none
def ntObs (K : Frag) : FnO := (ntFn K).map fun fd => (fd.name, fd.qualname, fd.params, fd.body, fd.scope, fd.globals, fd.closure.map (·.1), fd.builtins)
def ntVal : FnO := some ("__init__", "NoText.__init__", defArgs sNTInit, .stmts (defBody sNTInit), defScope sNTInit, mainGlobals, ["__class__"], builtinsNs)
def clsB (K : Frag) (C : Addr) : Bool := match K.lookup C with
  | some ⟨.type "type", _, .cls cd, sl⟩ => (match cd.mro, sl.toList with
    | .ref C' :: bm, [_, _, _, _, some (.builtin n), _] => C' == C && n == "ValueError.__new__" && !cd.hasDel && cd.hasDict && PySem.HandSPX.refsVE bm && decide (PySem.W.alongIn K "__init__" bm = some (some (.builtin "ValueError.__init__")))
    | _, _ => false)
  | _ => false
def codeFileB (K : Frag) (c : Addr) (file : Str) : Bool := match K.lookup c with
  | some ⟨_, _, .fields vs, _⟩ => (match ((vs : Array Value)[2]? : Option Value) with
    | some (Value.str f _) => file == f
    | _ => false)
  | _ => false
def cellB (K : Frag) (c C : Addr) : Bool := match K.lookup c with
  | some ⟨_, _, .cell (some (.ref D)), _⟩ => D == C
  | _ => false
def dfB (K : Frag) (T : Addr) : Bool := match K.lookup T with
  | some ⟨_, _, .seq ⟨[.none]⟩ _, _⟩ => true
  | _ => false
def initB (K : Frag) (file : Str) : Bool := match PySem.W.findIn K (.ref (cNT K)) "__init__" with
  | some (some (.ref f)) => decide (PySem.W.typeIn K (.ref f) = some (.type "function")) && (match K.lookup f with
    | some ⟨_, _, .func fd, _⟩ => (match fd.closure, fd.defaults, fd.code with
      | [(_, cc)], .ref Td, .ref cda => PySem.W.codeIn K (.ref cda) "NoText.__init__" && (codeFileB K cda file && (cellB K cc (cNT K) && dfB K Td))
      | _, _, _ => false)
    | _ => false)
  | _ => false
def ntB (file : Str) (K : Frag) : Bool := clsB K (cNT K) && (decide (PySem.W.findIn K (.ref (cNT K)) "__setattr__" = some (some (.builtin "object.__setattr__"))) && (decide (PySem.W.subIn K (.ref (cNT K)) (.type "BaseException") = some true) &&
  (decide (PySem.W.subIn K (.ref (cNT K)) (.type "ValueError") = some true) && (decide (PySem.W.typeIn K (.ref (cNT K)) = some (.type "type")) && (PySem.W.keepIn K (.ref (cNT K)) && (decide (PySem.W.findIn K (.ref (cNT K)) "line" = some none) &&
  (decide (PySem.W.nsIn K cStatics "thirdparty.any" = some none) && initB K file)))))))
theorem clsB_ok {K : Frag} {C : Addr} (q : clsB K C = true) : ∃ nm q N bs bm sn sub ab col dd k0 k1 k2 k3 k5, K.lookup C = some (excClassObj nm q C N bs bm true sn sub ab col dd k0 k1 k2 k3 k5 "ValueError.__new__") ∧ PySem.HandSPX.refsVE bm = true ∧
    PySem.W.alongIn K "__init__" bm = some (some (.builtin "ValueError.__init__")) := by
  unfold clsB at q
  split at q
  · rename_i dd cd sl ho
    split at q
    · rename_i C' bm k0 k1 k2 k3 n k5 hm hs
      simp only [Bool.and_eq_true, beq_iff_eq, Bool.not_eq_true', decide_eq_true_eq] at q
      obtain ⟨⟨⟨⟨⟨rfl, rfl⟩, hdel⟩, hd⟩, hr⟩, hal⟩ := q
      obtain ⟨nm, bs, mro, ns, qn, hd', sn, sub, ab, col, del⟩ := cd
      dsimp only at hm hdel hd
      subst hm hdel hd
      have hsl : sl = #[k0, k1, k2, k3, some (.builtin "ValueError.__new__"), k5] := by
        obtain ⟨l⟩ := sl
        simp only at hs
        rw [hs]
      subst hsl
      exact ⟨nm, qn, ns, bs, bm, sn, sub, ab, col, dd, k0, k1, k2, k3, k5, ho, hr, hal⟩
    · cases q
  · cases q
theorem codeFileB_ok {K : Frag} {c : Addr} {file : Str} (q : codeFileB K c file = true) : ∃ ccl cdd vs ccs f tf, K.lookup c = some ⟨ccl, cdd, .fields vs, ccs⟩ ∧ vs[2]? = some (.str f tf) ∧ (file == f) = true := by
  unfold codeFileB at q
  split at q
  · rename_i a b vs d ho
    split at q
    · rename_i f tf hv
      exact ⟨a, b, vs, d, f, tf, ho, hv, q⟩
    · cases q
  · cases q
theorem cellB_ok {K : Frag} {c C : Addr} (q : cellB K c C = true) : ∃ cl cld csl, K.lookup c = some ⟨cl, cld, .cell (some (.ref C)), csl⟩ := by
  unfold cellB at q
  split at q
  · rename_i a b D d ho
    rw [beq_iff_eq] at q
    subst q
    exact ⟨_, _, _, ho⟩
  · cases q
theorem dfB_ok {K : Frag} {T : Addr} (q : dfB K T = true) : ∃ o n, K.lookup T = some o ∧ o.data = .seq #[.none] n := by
  unfold dfB at q
  split at q
  · rename_i a b n d ho
    exact ⟨_, n, ho, rfl⟩
  · cases q
theorem nt_of {P : Program} {K : Frag} {mg : Str → Option Value} (h1 : ntB P.main.file K = true) (h2 : ntObs K = ntVal) (mC : mg "NoText" = some (.ref (cNT K))) (mS : mg "super" = none) (top : (P.main.scope.names.lookup ("super" : Str)).isSome = false) : NT P K mg (cNT K) := by
  unfold ntB at h1
  simp only [Bool.and_eq_true, decide_eq_true_eq] at h1
  obtain ⟨c, sa, ex, ve, ty, kp, ln, an, hi⟩ := h1
  refine ⟨mC, mS, clsB_ok c, sa, ex, ve, ty, kp, ln, an, ?_, top⟩
  unfold initB at hi
  unfold ntObs ntFn at h2
  split at hi
  · rename_i f hf
    rw [hf] at h2
    rw [Bool.and_eq_true] at hi
    obtain ⟨ht, hi⟩ := hi
    split at hi
    · rename_i oc od fd osl lk
      dsimp only at h2
      rw [lk] at h2
      split at hi
      · rename_i nm cc Td cda e1 e2 e3
        simp only [Bool.and_eq_true] at hi
        obtain ⟨k1, k2, k3, k4⟩ := hi
        obtain ⟨n1, n2, n3, n4, n5, n6, n7, n8, n9, n10, n11, n12, n13, n14, n15⟩ := fd
        dsimp only at e1 e2 e3 h2
        subst e1 e2 e3
        unfold ntVal at h2
        simp only [Option.map_some, Option.some.injEq, Prod.mk.injEq, List.map_cons, List.map_nil, List.cons.injEq, and_true] at h2
        obtain ⟨rfl, rfl, rfl, rfl, rfl, rfl, rfl, rfl⟩ := h2
        exact ⟨f, oc, od, Td, n9, n10, n11, n12, cda, n14, cc, osl, hf, of_decide_eq_true ht, lk, k1, codeFileB_ok k2, cellB_ok k3, dfB_ok k4⟩
      · cases hi
    · cases hi
  · cases hi
/-! ### the rest of what the classes must be -/
def exB (K : Frag) (D : Addr) : Bool := decide (PySem.W.findIn K (.ref D) "__getattribute__" = some (some (.builtin "BaseException.__getattribute__"))) && (decide (PySem.W.findIn K (.ref D) "__getattr__" = some none) && (decide (PySem.W.subIn K (.ref D) (.type "BaseException") = some true) &&
  (PySem.W.hasDictIn K D && (decide (PySem.W.findIn K (.ref D) "__class__" = some (some (.builtin "object.__class__"))) && (decide (PySem.W.specialIn K (.builtin "object.__class__") "__get__" = some (some (.builtin "getset_descriptor.__get__"))) &&
  (decide (PySem.W.takesIn K (.builtin "object.__class__") = some true) && decide (PySem.W.mroIn K D (.type "object") = some true)))))))
theorem exB_ok {K : Frag} {D : Addr} (h : exB K D = true) : ExcC K D ∧ XfC K D := by
  unfold exB at h
  simp only [Bool.and_eq_true, decide_eq_true_eq] at h
  obtain ⟨a, b, c, d, e, f, g, i⟩ := h
  exact ⟨⟨a, b, c, d, e, f, g, i⟩, ⟨a, b, c, d⟩⟩
def wdB (K : Frag) : Bool := exB K (cNT K) && (decide (PySem.W.exmOne K (.ref (cNT K)) (.ref (He.ga K "WeightError")) = some true) && (decide (PySem.W.kitOne K (.ref (cNT K)) (.ref (He.ga K "Used")) = some false) &&
  (decide (PySem.W.kitOne K (.ref (cNT K)) (.ref (He.ga K "TooMany")) = some false) && (decide (PySem.W.kitOne K (.ref (cNT K)) (.ref (cNT K)) = some true) && decide (PySem.W.findIn K (.ref (cNT K)) "line" = some none)))))
theorem wd_of {K : Frag} {mg : Str → Option Value} (h : wdB K = true) (mC : mg "NoText" = some (.ref (cNT K))) (mW : mg "WeightError" = some (.ref (He.ga K "WeightError"))) (mU : mg "Used" = some (.ref (He.ga K "Used"))) (mM : mg "TooMany" = some (.ref (He.ga K "TooMany"))) :
    WEr K mg (cNT K) ∧ WdC K mg (cNT K) := by
  unfold wdB at h
  simp only [Bool.and_eq_true, decide_eq_true_eq] at h
  obtain ⟨a, b, c, d, e, f⟩ := h
  obtain ⟨x, y⟩ := exB_ok a
  exact ⟨⟨⟨_, mW, b⟩⟩, ⟨⟨_, mU, c⟩, ⟨_, mM, d⟩, ⟨mC, e⟩, x, y, f⟩⟩
end K8

set_option maxRecDepth 100000
set_option maxHeartbeats 0
namespace K8
open PySem PySem.Spec PyProof.Rows L2 LamX KX M8
def mkD (x : Str) (i : Nat) : He.DefD := ⟨(x, none), x, x, defArgs (top i), defBody (top i), defScope (top i), [], []⟩
def fnL : List He.DefD := [mkD "is_word" 25, mkD "is_figure" 26, mkD "is_value" 27, mkD "value_text" 28, mkD "pieces_of" 29, mkD "plain_of" 30, mkD "value_of" 31, mkD "read_value" 32,
  mkD "_law_begun" 34, mkD "_law_mixed" 35, mkD "_law_draw" 36, mkD "_law_pick" 37, mkD "_law_plain" 38, mkD "_law_is" 39, mkD "_law_value_text" 40, mkD "_law_caught" 41, mkD "_law_word" 42, mkD "_law_some_value" 43, mkD "_law_nested" 44, mkD "law" 45]
def gloL : List Str := ["is_word", "is_figure", "is_value", "value_text", "pieces_of", "plain_of", "value_of", "read_value", "_law_begun", "_law_mixed", "_law_draw", "_law_pick", "_law_plain", "_law_is", "_law_value_text", "_law_caught", "_law_word", "_law_some_value", "_law_nested", "law", "NoText", "WeightError", "Used", "TooMany"]
def freeL : List Str := ["isinstance", "str", "int", "bool", "tuple", "list", "dict", "abs", "all", "len", "reversed", "enumerate", "range", "repr", "min", "super"]
def faL : List He.Fa := gloL.map He.Fa.glo ++ freeL.map He.Fa.free ++ [.int "MOST_DEEP" 60, .int "MOST_FIGURES" 12, .int "MOST_NUMBER" 1000000000000, .str "SMALL" SMALL, .str "FIGURES" FIGURES]
def tfL : List He.Defn := [("law", none), ("_law_word", none)]
def names : List Str := (["WeightError", "NoName", "NoNumber", "NoPlace", "NoForm", "NoWeight", "NoModular", "NoBook", "NoState", "NoExpression", "NoLaw", "NoTable", "NoDeed", "NoPast", "Twice"] : List Str) ++ (["NoText", "Used", "TooMany", "MOST_DEEP", "MOST_FIGURES", "MOST_NUMBER", "SMALL", "FIGURES", "is_word", "is_figure", "is_value", "value_text", "pieces_of", "plain_of", "value_of"] : List Str) ++ (["read_value", "_law_begun", "_law_mixed", "_law_draw", "_law_pick", "_law_plain", "_law_is", "_law_value_text", "_law_caught", "_law_word", "_law_some_value", "_law_nested"] : List Str)
abbrev Rw : PySem.W.OpenRow := PySem.W.OpenLaw.row PySem.Challenge.rw_weightbook_k88_values_written
def exL (K : PySem.W.Frag) : Bool := ntB PySem.Challenge.rw_weightbook_k88_values_written.prog.main.file K && (wdB K && !decide ((He.cT K ("law", none)).2 = (He.cT K ("_law_word", none)).2))
/-- where the observation looks: the statics besides what hangs on the globals -/
def asY (g : Addr → Option Obj) : List Addr := cStatics :: He.asD g 5
def kY (g : Addr → Option Obj) : PySem.W.Frag := He.frT g (asY g)
/-- hookX's facts over that, and what NoText.__init__ is -/
def obsY (g : Addr → Option Obj) : He.AlX × FnO := ((He.obsT faL fnL [] (kY g), exL (kY g) && He.tabsB g tfL (kY g)), ntObs (kY g))
theorem tabY {h : Heap} {K : PySem.W.Frag} (e : He.tabsB h.get? tfL K = true) : ∀ p ∈ tfL, PySem.W.codeHdIn K (He.cT K p).1 (He.cT K p).2 = true ∧ ∃ o, h.get? (He.cT K p).2 = some o ∧ He.emptyTab o = true := by
  intro p hp
  have one := List.all_eq_true.mp e p hp
  rw [Bool.and_eq_true] at one
  refine ⟨one.1, ?_⟩
  have two := one.2
  split at two
  · rename_i o ho
    exact ⟨o, ho, two⟩
  · cases two
theorem saysY {w : World} {h : Heap} (e : obsY h.get? = (He.valX fnL [] w, ntVal)) : He.SaysX faL fnL [] tfL exL w h (kY h.get?) ∧ ntObs (kY h.get?) = ntVal := by
  unfold obsY He.valX at e
  simp only [Prod.mk.injEq] at e
  obtain ⟨⟨e1, e2⟩, e3⟩ := e
  rw [Bool.and_eq_true] at e2
  have k := tabY e2.2
  refine ⟨⟨e1, e2.1, fun p hp => (k p hp).1, fun p hp => ?_, fun p hp => ?_⟩, e3⟩
  · obtain ⟨_, o, a, b⟩ := k p hp
    exact He.frT_none a b
  · obtain ⟨_, o, a, b⟩ := k p hp
    rw [a, He.emptyTab_eq b]
def hkY : PySem.W.Hook where
  α := He.AlX × FnO
  obs := fun s => obsY s.heap.get?
  val := fun w => (He.valX fnL [] w, ntVal)
  says := fun w h => ∃ K : PySem.W.Frag, K.In h ∧ He.SaysX faL fnL [] tfL exL w h K ∧ ntObs K = ntVal
  of := fun _ _ e => ⟨_, He.frT_in, saysY e⟩
  keeps := fun _ _ _ ⟨K, hK, c, d⟩ k => ⟨K, PySem.W.Frag.In.keeps hK k, ⟨c.t, c.more, c.hd, c.out, fun p hp => k _ _ (c.empty p hp)⟩, d⟩
def obY (s : PySem.W.SharedT) : He.AlX × FnO := obsY (HandSHeadRun.getT s)
theorem obY_eq (s : PySem.W.SharedT) : obY s = hkY.obs s.abs := by
  have e : HandSHeadRun.getT s = s.abs.heap.get? := funext (HandSHeadRun.getT_eq s)
  show obsY (HandSHeadRun.getT s) = obsY s.abs.heap.get?
  rw [e]
end K8

set_option maxRecDepth 100000
set_option maxHeartbeats 0
namespace K8
open PySem PySem.Spec PyProof.Rows L2 LamX KX M8
theorem runY (w : World) : HandSHeadRun.RunEq Rw (PySem.W.view Rw.prog [45]) hkY obY 5000 names w := by
  intro os
  kernel_rfl
end K8

set_option maxRecDepth 100000
set_option maxHeartbeats 1000000
namespace K8
open PySem PySem.Spec PyProof.Rows L2 LamX KX M8
abbrev L88 : PySem.W.OpenLaw := PySem.Challenge.rw_weightbook_k88_values_written
abbrev PR : Program := PySem.Challenge.rw_weightbook_k88_values_written.prog
section
variable {w : World} {K : PySem.W.Frag} {mg : Str → Option Value} {h : Heap}
theorem top_super : (PR.main.scope.names.lookup ("super" : Str)).isSome = false := by kernel_rfl
theorem nm_of (X : K.In h) (G : h.Ns mainGlobals mg) (c : He.SaysD faL fnL K) : Nm mg where
  isinstance := He.free_ok X G (c.fact 24 (f := .free "isinstance") rfl)
  str := He.free_ok X G (c.fact 25 (f := .free "str") rfl)
  int := He.free_ok X G (c.fact 26 (f := .free "int") rfl)
  bool := He.free_ok X G (c.fact 27 (f := .free "bool") rfl)
  tuple := He.free_ok X G (c.fact 28 (f := .free "tuple") rfl)
  list := He.free_ok X G (c.fact 29 (f := .free "list") rfl)
  dict := He.free_ok X G (c.fact 30 (f := .free "dict") rfl)
  abs := He.free_ok X G (c.fact 31 (f := .free "abs") rfl)
  all := He.free_ok X G (c.fact 32 (f := .free "all") rfl)
  len := He.free_ok X G (c.fact 33 (f := .free "len") rfl)
  reversed := He.free_ok X G (c.fact 34 (f := .free "reversed") rfl)
  enumerate := He.free_ok X G (c.fact 35 (f := .free "enumerate") rfl)
  range := He.free_ok X G (c.fact 36 (f := .free "range") rfl)
  repr := He.free_ok X G (c.fact 37 (f := .free "repr") rfl)
  min := He.free_ok X G (c.fact 38 (f := .free "min") rfl)
  deep := He.int_ok X G (c.fact 40 (f := .int "MOST_DEEP" 60) rfl)
  figs := He.int_ok X G (c.fact 41 (f := .int "MOST_FIGURES" 12) rfl)
  numb := He.int_ok X G (c.fact 42 (f := .int "MOST_NUMBER" 1000000000000) rfl)
  small := He.str_ok X G (c.fact 43 (f := .str "SMALL" SMALL) rfl)
  figures := He.str_ok X G (c.fact 44 (f := .str "FIGURES" FIGURES) rfl)
/-- what is known of the law behind the head -/
def AtL (w : World) (K : PySem.W.Frag) (mg : Str → Option Value) (h : Heap) (fa : Addr) : Prop := ∃ (fd : FuncData) (cs : List (Addr × Addr)) (sp : Sp),
  (∀ p ∈ cs, h.get? p.2 = some { cls := .none, data := .fields #[] }) ∧ (∀ p ∈ cs, K.lookup p.2 = none) ∧ (∀ p ∈ cs, PySem.W.CodeHd h p.1 p.2) ∧ (∀ (s : Shared) (u : Value), BindsTo s fd ⟨[u], []⟩ [("script", u)]) ∧
  (∀ (H : Hp) (a : Addr) (ns : List Int), ns.length ≤ 63 → (∀ p ∈ cs, H p.2 = some (.tbl #[])) → SqL K H a (ns.map V.int) → sp [.ref a] H (fun v _ => v = .bl true) fun _ _ _ => False) ∧
  ∀ base : Heap, K.In base → base.Ns mainGlobals mg → (∀ p ∈ cs, TabB base mg p.1 p.2) → FnG PR w K mg base 62 fa fd ["script"] sp
theorem atL_of {fa : Addr} (X : K.In h) (G : h.Ns mainGlobals mg) (x : He.SaysX faL fnL [] tfL exL w h K) (o : ntObs K = ntVal) (hfa : mg ("law" : Str) = some (.ref fa)) : AtL w K mg h fa := by
  have c : He.SaysD faL fnL K := x.t.d
  have T : Nm mg := nm_of X G c
  have ex : (ntB PR.main.file K && (wdB K && !decide ((He.cT K ("law", none)).2 = (He.cT K ("_law_word", none)).2))) = true := x.more
  rw [Bool.and_eq_true, Bool.and_eq_true] at ex
  obtain ⟨ex1, ex2, ex3⟩ := ex
  have hne : (He.cT K ("law", none)).2 ≠ (He.cT K ("_law_word", none)).2 := of_decide_eq_false (by simpa using ex3)
  have mis_word := He.glo_ok X G (c.fact 0 (f := .glo "is_word") rfl)
  have mis_figure := He.glo_ok X G (c.fact 1 (f := .glo "is_figure") rfl)
  have mis_value := He.glo_ok X G (c.fact 2 (f := .glo "is_value") rfl)
  have mvalue_text := He.glo_ok X G (c.fact 3 (f := .glo "value_text") rfl)
  have mpieces_of := He.glo_ok X G (c.fact 4 (f := .glo "pieces_of") rfl)
  have mplain_of := He.glo_ok X G (c.fact 5 (f := .glo "plain_of") rfl)
  have mvalue_of := He.glo_ok X G (c.fact 6 (f := .glo "value_of") rfl)
  have mread_value := He.glo_ok X G (c.fact 7 (f := .glo "read_value") rfl)
  have m_law_begun := He.glo_ok X G (c.fact 8 (f := .glo "_law_begun") rfl)
  have m_law_mixed := He.glo_ok X G (c.fact 9 (f := .glo "_law_mixed") rfl)
  have m_law_draw := He.glo_ok X G (c.fact 10 (f := .glo "_law_draw") rfl)
  have m_law_pick := He.glo_ok X G (c.fact 11 (f := .glo "_law_pick") rfl)
  have m_law_plain := He.glo_ok X G (c.fact 12 (f := .glo "_law_plain") rfl)
  have m_law_is := He.glo_ok X G (c.fact 13 (f := .glo "_law_is") rfl)
  have m_law_value_text := He.glo_ok X G (c.fact 14 (f := .glo "_law_value_text") rfl)
  have m_law_caught := He.glo_ok X G (c.fact 15 (f := .glo "_law_caught") rfl)
  have m_law_word := He.glo_ok X G (c.fact 16 (f := .glo "_law_word") rfl)
  have m_law_some_value := He.glo_ok X G (c.fact 17 (f := .glo "_law_some_value") rfl)
  have m_law_nested := He.glo_ok X G (c.fact 18 (f := .glo "_law_nested") rfl)
  have mlaw := He.glo_ok X G (c.fact 19 (f := .glo "law") rfl)
  have mNoText := He.glo_ok X G (c.fact 20 (f := .glo "NoText") rfl)
  have mWeightError := He.glo_ok X G (c.fact 21 (f := .glo "WeightError") rfl)
  have mUsed := He.glo_ok X G (c.fact 22 (f := .glo "Used") rfl)
  have mTooMany := He.glo_ok X G (c.fact 23 (f := .glo "TooMany") rfl)
  have mSuper := He.free_ok X G (c.fact 39 (f := .free "super") rfl)
  have eNT : He.ga K "NoText" = cNT K := rfl
  rw [eNT] at mNoText
  have TN : NT PR K mg (cNT K) := nt_of (P := PR) ex1 o mNoText mSuper top_super
  obtain ⟨TW, TD⟩ := wd_of ex2 mNoText mWeightError mUsed mTooMany
  obtain ⟨dis_word, Fis_word⟩ : ∃ fd, FunD K "is_word" "is_word" (defArgs sIsWord) (defBody sIsWord) (defScope sIsWord) [] [] (He.ga K "is_word") fd := c.def_ 0 (d := mkD "is_word" 25) rfl
  have bis_word : L2.Binds K dis_word ["thing"] [] := Fis_word.bindsN fun _ _ _ _ _ _ us hl => match us, hl with | [_], _ => rfl
  obtain ⟨dis_figure, Fis_figure⟩ : ∃ fd, FunD K "is_figure" "is_figure" (defArgs sIsFigure) (defBody sIsFigure) (defScope sIsFigure) [] [] (He.ga K "is_figure") fd := c.def_ 1 (d := mkD "is_figure" 26) rfl
  have bis_figure : L2.Binds K dis_figure ["thing"] [] := Fis_figure.bindsN fun _ _ _ _ _ _ us hl => match us, hl with | [_], _ => rfl
  obtain ⟨dis_value, Fis_value⟩ : ∃ fd, FunD K "is_value" "is_value" (defArgs sIsValue) (defBody sIsValue) (defScope sIsValue) [] [] (He.ga K "is_value") fd := c.def_ 2 (d := mkD "is_value" 27) rfl
  have bis_value : L2.Binds K dis_value ["thing"] [] := Fis_value.bindsN fun _ _ _ _ _ _ us hl => match us, hl with | [_], _ => rfl
  obtain ⟨dvalue_text, Fvalue_text⟩ : ∃ fd, FunD K "value_text" "value_text" (defArgs sValueText) (defBody sValueText) (defScope sValueText) [] [] (He.ga K "value_text") fd := c.def_ 3 (d := mkD "value_text" 28) rfl
  have bvalue_text : L2.Binds K dvalue_text ["value"] [] := Fvalue_text.bindsN fun _ _ _ _ _ _ us hl => match us, hl with | [_], _ => rfl
  obtain ⟨dpieces_of, Fpieces_of⟩ : ∃ fd, FunD K "pieces_of" "pieces_of" (defArgs sPieces) (defBody sPieces) (defScope sPieces) [] [] (He.ga K "pieces_of") fd := c.def_ 4 (d := mkD "pieces_of" 29) rfl
  have bpieces_of : L2.Binds K dpieces_of ["text"] [] := Fpieces_of.bindsN fun _ _ _ _ _ _ us hl => match us, hl with | [_], _ => rfl
  obtain ⟨dplain_of, Fplain_of⟩ : ∃ fd, FunD K "plain_of" "plain_of" (defArgs sPlainOf) (defBody sPlainOf) (defScope sPlainOf) [] [] (He.ga K "plain_of") fd := c.def_ 5 (d := mkD "plain_of" 30) rfl
  have bplain_of : L2.Binds K dplain_of ["piece"] [] := Fplain_of.bindsN fun _ _ _ _ _ _ us hl => match us, hl with | [_], _ => rfl
  obtain ⟨dvalue_of, Fvalue_of⟩ : ∃ fd, FunD K "value_of" "value_of" (defArgs sValueOf) (defBody sValueOf) (defScope sValueOf) [] [] (He.ga K "value_of") fd := c.def_ 6 (d := mkD "value_of" 31) rfl
  have bvalue_of : L2.Binds K dvalue_of ["pieces"] [] := Fvalue_of.bindsN fun _ _ _ _ _ _ us hl => match us, hl with | [_], _ => rfl
  obtain ⟨dread_value, Fread_value⟩ : ∃ fd, FunD K "read_value" "read_value" (defArgs sReadValue) (defBody sReadValue) (defScope sReadValue) [] [] (He.ga K "read_value") fd := c.def_ 7 (d := mkD "read_value" 32) rfl
  have bread_value : L2.Binds K dread_value ["text"] [] := Fread_value.bindsN fun _ _ _ _ _ _ us hl => match us, hl with | [_], _ => rfl
  obtain ⟨d_law_begun, F_law_begun⟩ : ∃ fd, FunD K "_law_begun" "_law_begun" (defArgs sBegun) (defBody sBegun) (defScope sBegun) [] [] (He.ga K "_law_begun") fd := c.def_ 8 (d := mkD "_law_begun" 34) rfl
  have b_law_begun : L2.Binds K d_law_begun ["script"] [] := F_law_begun.bindsN fun _ _ _ _ _ _ us hl => match us, hl with | [_], _ => rfl
  obtain ⟨d_law_mixed, F_law_mixed⟩ : ∃ fd, FunD K "_law_mixed" "_law_mixed" (defArgs sMixed) (defBody sMixed) (defScope sMixed) [] [] (He.ga K "_law_mixed") fd := c.def_ 9 (d := mkD "_law_mixed" 35) rfl
  have b_law_mixed : L2.Binds K d_law_mixed ["state"] [] := F_law_mixed.bindsN fun _ _ _ _ _ _ us hl => match us, hl with | [_], _ => rfl
  obtain ⟨d_law_draw, F_law_draw⟩ : ∃ fd, FunD K "_law_draw" "_law_draw" (defArgs sDraw) (defBody sDraw) (defScope sDraw) [] [] (He.ga K "_law_draw") fd := c.def_ 10 (d := mkD "_law_draw" 36) rfl
  have b_law_draw : L2.Binds K d_law_draw ["state", "room"] [] := F_law_draw.bindsN fun _ _ _ _ _ _ us hl => match us, hl with | [_, _], _ => rfl
  obtain ⟨d_law_pick, F_law_pick⟩ : ∃ fd, FunD K "_law_pick" "_law_pick" (defArgs sPick) (defBody sPick) (defScope sPick) [] [] (He.ga K "_law_pick") fd := c.def_ 11 (d := mkD "_law_pick" 37) rfl
  have b_law_pick : L2.Binds K d_law_pick ["state", "some"] [] := F_law_pick.bindsN fun _ _ _ _ _ _ us hl => match us, hl with | [_, _], _ => rfl
  obtain ⟨d_law_plain, F_law_plain⟩ : ∃ fd, FunD K "_law_plain" "_law_plain" (defArgs sPlain) (defBody sPlain) (defScope sPlain) [] [] (He.ga K "_law_plain") fd := c.def_ 12 (d := mkD "_law_plain" 38) rfl
  have b_law_plain : L2.Binds K d_law_plain ["value"] [] := F_law_plain.bindsN fun _ _ _ _ _ _ us hl => match us, hl with | [_], _ => rfl
  obtain ⟨d_law_is, F_law_is⟩ : ∃ fd, FunD K "_law_is" "_law_is" (defArgs sIs) (defBody sIs) (defScope sIs) [] [] (He.ga K "_law_is") fd := c.def_ 13 (d := mkD "_law_is" 39) rfl
  have b_law_is : L2.Binds K d_law_is ["found", "due"] [] := F_law_is.bindsN fun _ _ _ _ _ _ us hl => match us, hl with | [_, _], _ => rfl
  obtain ⟨d_law_value_text, F_law_value_text⟩ : ∃ fd, FunD K "_law_value_text" "_law_value_text" (defArgs sLVT) (defBody sLVT) (defScope sLVT) [] [] (He.ga K "_law_value_text") fd := c.def_ 14 (d := mkD "_law_value_text" 40) rfl
  have b_law_value_text : L2.Binds K d_law_value_text ["value"] [] := F_law_value_text.bindsN fun _ _ _ _ _ _ us hl => match us, hl with | [_], _ => rfl
  obtain ⟨d_law_caught, F_law_caught⟩ : ∃ fd, FunD K "_law_caught" "_law_caught" (defArgs sCaught) (defBody sCaught) (defScope sCaught) [] [] (He.ga K "_law_caught") fd := c.def_ 15 (d := mkD "_law_caught" 41) rfl
  have b_law_caught : L2.Binds K d_law_caught ["action"] [] := F_law_caught.bindsN fun _ _ _ _ _ _ us hl => match us, hl with | [_], _ => rfl
  obtain ⟨d_law_word, F_law_word⟩ : ∃ fd, FunD K "_law_word" "_law_word" (defArgs sWordOf) (defBody sWordOf) (defScope sWordOf) [] [] (He.ga K "_law_word") fd := c.def_ 16 (d := mkD "_law_word" 42) rfl
  have b_law_word : L2.Binds K d_law_word ["action"] [] := F_law_word.bindsN fun _ _ _ _ _ _ us hl => match us, hl with | [_], _ => rfl
  obtain ⟨d_law_some_value, F_law_some_value⟩ : ∃ fd, FunD K "_law_some_value" "_law_some_value" (defArgs sSome) (defBody sSome) (defScope sSome) [] [] (He.ga K "_law_some_value") fd := c.def_ 17 (d := mkD "_law_some_value" 43) rfl
  have b_law_some_value : L2.Binds K d_law_some_value ["state", "deep"] [] := F_law_some_value.bindsN fun _ _ _ _ _ _ us hl => match us, hl with | [_, _], _ => rfl
  obtain ⟨d_law_nested, F_law_nested⟩ : ∃ fd, FunD K "_law_nested" "_law_nested" (defArgs sNested) (defBody sNested) (defScope sNested) [] [] (He.ga K "_law_nested") fd := c.def_ 18 (d := mkD "_law_nested" 44) rfl
  have b_law_nested : L2.Binds K d_law_nested ["many", "one"] [] := F_law_nested.bindsN fun _ _ _ _ _ _ us hl => match us, hl with | [_, _], _ => rfl
  obtain ⟨dlaw, Flaw⟩ : ∃ fd, FunD K "law" "law" (defArgs sLaw) (defBody sLaw) (defScope sLaw) [] [] (He.ga K "law") fd := c.def_ 19 (d := mkD "law" 45) rfl
  have blaw : L2.Binds K dlaw ["script"] [] := Flaw.bindsN fun _ _ _ _ _ _ us hl => match us, hl with | [_], _ => rfl
  have ea : fa = He.ga K "law" := by
    have e := hfa.symm.trans mlaw
    cases e
    rfl
  subst ea
  have both : ∀ {φ : Addr × Addr → Prop}, φ (He.cT K ("law", none)) → φ (He.cT K ("_law_word", none)) → ∀ p ∈ [He.cT K ("law", none), He.cT K ("_law_word", none)], φ p := fun a b p hp => by
    rcases List.mem_cons.mp hp with rfl | hp
    · exact a
    · rw [List.mem_singleton.mp hp]
      exact b
  have t1 : (("law", none) : He.Defn) ∈ tfL := List.mem_cons_self
  have t2 : (("_law_word", none) : He.Defn) ∈ tfL := List.mem_cons_of_mem _ List.mem_cons_self
  refine ⟨dlaw, [He.cT K ("law", none), He.cT K ("_law_word", none)], spLaw K [((He.cT K ("law", none)).2, qLaw), ((He.cT K ("_law_word", none)).2, qWord)], both (x.empty _ t1) (x.empty _ t2), both (x.out _ t1) (x.out _ t2), both (PySem.W.codeHd_of_K X (x.hd _ t1)) (PySem.W.codeHd_of_K X (x.hd _ t2)),
    fun s u => FunD.bindsA (ps := ["script"]) Flaw (fun _ _ _ _ _ _ us hl => match us, hl with | [_], _ => rfl) s [u] rfl, fun H a ns hl hT hS => ⟨a, ns, rfl, hS, by omega, fun p hp => ?_, fun _ => rfl⟩, fun base KB GB TB => ?_⟩
  · have e1 := hT _ (List.mem_cons_self (a := He.cT K ("law", none)) (l := [He.cT K ("_law_word", none)]))
    have e2 := hT _ (List.mem_cons_of_mem (He.cT K ("law", none)) (List.mem_cons_self (a := He.cT K ("_law_word", none)) (l := [])))
    rcases List.mem_cons.mp hp with rfl | hp
    · exact ⟨#[], e1, trivial, fun _ _ z => (nomatch z)⟩
    · rw [List.mem_singleton.mp hp]
      exact ⟨#[], e2, trivial, fun _ _ z => (nomatch z)⟩

  · have Gis_word : GF PR w K mg base 1 "is_word" ["thing"] [] spIsWord := ⟨_, _, [], mis_word, Fis_word.kp, bis_word, .nil, (ok_isWord Fis_word T)⟩
    have Gis_figure : GF PR w K mg base 1 "is_figure" ["thing"] [] spIsFigure := ⟨_, _, [], mis_figure, Fis_figure.kp, bis_figure, .nil, (ok_isFigure Fis_figure T)⟩
    have Gis_value : GF PR w K mg base 2 "is_value" ["thing"] [] spIsValue := ⟨_, _, [], mis_value, Fis_value.kp, bis_value, .nil, (ok_isValue Fis_value T Gis_word Gis_figure)⟩
    have OV : FnG PR w K mg base 3 _ dvalue_text ["value"] (spValueText (cNT K)) := ok_valueText Fvalue_text T TN Gis_value
    have Gvalue_text : GF PR w K mg base 3 "value_text" ["value"] [] (spValueText (cNT K)) := ⟨_, _, [], mvalue_text, Fvalue_text.kp, bvalue_text, .nil, (OV)⟩
    have Gpieces_of : GF PR w K mg base 1 "pieces_of" ["text"] [] spPieces := ⟨_, _, [], mpieces_of, Fpieces_of.kp, bpieces_of, .nil, (ok_pieces Fpieces_of T)⟩
    have Gplain_of : GF PR w K mg base 2 "plain_of" ["piece"] [] spPlainOf := ⟨_, _, [], mplain_of, Fplain_of.kp, bplain_of, .nil, (ok_plainOf Fplain_of T Gis_word)⟩
    have Gvalue_of : GF PR w K mg base 3 "value_of" ["pieces"] [] spValueOf := ⟨_, _, [], mvalue_of, Fvalue_of.kp, bvalue_of, .nil, (ok_valueOf Fvalue_of T Gplain_of)⟩
    have OR : FnG PR w K mg base 4 _ dread_value ["text"] (spReadValue (cNT K)) := ok_readValue Fread_value T TN Gvalue_of (Gpieces_of.mono (by decide)) (Gis_value.mono (by decide)) Gvalue_text
    have G_law_begun : GF PR w K mg base 1 "_law_begun" ["script"] [] (spBegun (K := K)) := ⟨_, _, [], m_law_begun, F_law_begun.kp, b_law_begun, .nil, (ok_begun F_law_begun T)⟩
    have G_law_mixed : GF PR w K mg base 1 "_law_mixed" ["state"] [] spMixed := ⟨_, _, [], m_law_mixed, F_law_mixed.kp, b_law_mixed, .nil, (ok_mixed F_law_mixed T)⟩
    have G_law_draw : GF PR w K mg base 2 "_law_draw" ["state", "room"] [] spDraw := ⟨_, _, [], m_law_draw, F_law_draw.kp, b_law_draw, .nil, (ok_draw F_law_draw T G_law_mixed)⟩
    have G_law_pick : GF PR w K mg base 3 "_law_pick" ["state", "some"] [] spPick := ⟨_, _, [], m_law_pick, F_law_pick.kp, b_law_pick, .nil, (ok_pick F_law_pick T G_law_draw)⟩
    have G_law_plain : GF PR w K mg base 60 "_law_plain" ["value"] [] (spPlain 60) := ⟨_, _, [], m_law_plain, F_law_plain.kp, b_law_plain, .nil, (ok_plain F_law_plain T m_law_plain F_law_plain.kp b_law_plain 60)⟩
    have G_law_is : GF PR w K mg base 61 "_law_is" ["found", "due"] [] spIs := ⟨_, _, [], m_law_is, F_law_is.kp, b_law_is, .nil, (ok_is F_law_is T (Nat.le_refl 60) G_law_plain)⟩
    have G_law_value_text : GF PR w K mg base 60 "_law_value_text" ["value"] [] (spLVT 60) := ⟨_, _, [], m_law_value_text, F_law_value_text.kp, b_law_value_text, .nil, (ok_lvt F_law_value_text T m_law_value_text F_law_value_text.kp b_law_value_text 60)⟩
    have G_law_some_value : GF PR w K mg base 7 "_law_some_value" ["state", "deep"] [] (spSome 4) := ⟨_, _, [], m_law_some_value, F_law_some_value.kp, b_law_some_value, .nil, (ok_some F_law_some_value T m_law_some_value F_law_some_value.kp b_law_some_value G_law_draw G_law_pick 4)⟩
    have G_law_nested : GF PR w K mg base 1 "_law_nested" ["many", "one"] [] spNested := ⟨_, _, [], m_law_nested, F_law_nested.kp, b_law_nested, .nil, (ok_nested F_law_nested T)⟩
    have LK : LawK PR w K mg base (cNT K) := ⟨G_law_begun.mono (by decide), G_law_nested.mono (by decide), G_law_is, G_law_plain.mono (by decide), G_law_value_text.mono (by decide), G_law_some_value.mono (by decide), G_law_draw.mono (by decide), G_law_pick.mono (by decide)⟩
    have cdOf : ∀ {n : Str} {pr : Arguments} {bd : List Stmt} {sc : Scope} {fd : FuncData}, FunD K n n pr bd sc [] [] (He.ga K n) fd → fd.code = .ref (He.cT K (n, none)).1 := fun {n pr bd sc fd} F => by
      obtain ⟨oc, od, dV, kV, doc, pm, an, cdv, ct, osl, rfl, lk, hcd, _, _⟩ := F.ex
      obtain ⟨cc, rfl⟩ := He.codeIn_ref hcd
      show Value.ref cc = _
      rw [show (He.cT K (n, none)).1 = cc from He.codeOf_eq (p := (n, none)) lk rfl]
    have TL := TB _ (List.mem_cons_self (a := He.cT K ("law", none)) (l := [He.cT K ("_law_word", none)]))
    have TW2 := TB _ (List.mem_cons_of_mem (He.cT K ("law", none)) (List.mem_cons_self (a := He.cT K ("_law_word", none)) (l := [])))
    exact ok_law Flaw T TW TD F_law_word F_law_caught m_law_word m_law_caught b_law_word b_law_caught Fvalue_text mvalue_text bvalue_text OV Fread_value mread_value bread_value OR LK (cdOf Flaw) (cdOf F_law_word) TL TW2 hne
end
end K8

set_option maxRecDepth 100000
set_option maxHeartbeats 0
namespace K8
open PySem PySem.Spec PyProof.Rows L2 LamX KX M8
/-- the law's call, whatever the world -/
theorem walk88 {loose : List Str} {XP : (Str → Option Value) → Heap → Prop} : PySem.W.WalkO (PySem.W.view Rw.prog [45]) loose XP hkY.says L88.row.toRowW (HandSHeadRun.topDef Rw.prog 45) [] (fun f vs => PySem.call f vs) := by
  refine Att.attach_callB (l := L88) (n := 63) rfl (by kernel_rfl) fun w s₀ s₁ mg mb fa o pm cd doc a vs ns G Y ho hd hcd hmg hobj hints hlen hbits hg => ?_
  obtain ⟨K, KX, x, e⟩ := Y
  have hmg2 : mg ("law" : Str) = some (.ref fa) := by
    have e2 : (HandSHeadRun.topDef Rw.prog 45).name = ("law" : Str) := by kernel_rfl
    rw [← e2]
    exact hmg
  obtain ⟨fd, cs, sp, hT, nT, C, hb, hsp, hF⟩ := atL_of (w := w) KX G.T.g x e hmg2
  exact law_callG KX G.T.g G.T.b G.T.builtins G.T.nolimit hg hT nT C G.T.bmain hobj hints (Nat.le_trans hlen (by decide)) (k := 62) ⟨rfl, by decide, by decide⟩ hF hb fun H hH hS => hsp H a ns hlen hH hS
end K8
open PySem PySem.W PySem.Calls PyProof.Rows
theorem PySem.Challenge.cw_weightbook_k88_values_written_holds : PySem.Challenge.rw_weightbook_k88_values_written.Holds := by
  w_on; o_law
  refine HandSHeadRun.head_any (r := K8.Rw) (q := view K8.Rw.prog [45]) (H := K8.hkY) (ob := K8.obY) (M := 5000) (loose := K8.names) (d := HandSHeadRun.topDef K8.Rw.prog 45) (kwd := []) K8.obY_eq
    (by kernel_rfl) (fun s => by kernel_rfl) K8.runY (by kernel_rfl) (by kernel_rfl) (by kernel_rfl) (by rfl) (by first | assumption | decide +kernel) (by decide +kernel) ⟨rfl, rfl, rfl, rfl, rfl, by decide +kernel⟩ ?hw K8.walk88
  case hw => w_witness2

