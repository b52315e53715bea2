import PyProof.Rows.All
import Wide.All
import OpenK.AllK
import Wide.FinOn
import KE.KStateDown
import HandS.ForMost
import HandS.Defaults
import HandS.Head0
import HandS.Head1
import HandS.Head2
import HandS.HeadEnd
import HandS.HeadHook1
import HandS.HeadHook2
import HandS.HeadHook3
import HandS.IsInst
import HandS.More
import KE.KDictLaw
import HandS.DictComp
import HandS.Walk
import KE.KEqNest
import KE.KExcSuper
import HandS.TryOnly
import HandS.ExcIs
import HandS.Star
import HandS.Style
import HandS.WordsExc
import PySem.Challenge.RW_showndrafts_k14_texts_refused
set_option Elab.async false
set_option linter.all false
set_option maxRecDepth 100000
set_option maxHeartbeats 0
/-! the head by facts: a Hook of one's own, defs by He.DefD, other facts as tests over the written part -/
namespace SD
open PySem PySem.Spec PyProof.Rows L2
abbrev Chk : Type := PySem.W.Frag → Bool
abbrev FnE : Type := Option (Str × Str × Arguments × FuncBody × Scope × Addr × List Str × Value × Addr)
/-- the class's own __init__, its closure by names -/
def fnE (K : PySem.W.Frag) (x : Str) : FnE := match K.lookup (He.ma K (He.ga K x) "__init__") with
  | some ⟨_, _, .func fd, _⟩ => some (fd.name, fd.qualname, fd.params, fd.body, fd.scope, fd.globals, fd.closure.map (·.1), fd.defaults, fd.builtins)
  | _ => none
/-- an error's class, its __init__ in the text -/
structure ErrD where
  x : Str
  st : Stmt
def ErrD.val (d : ErrD) : FnE := some ("__init__", d.x ++ ".__init__", defArgs d.st, .stmts (defBody d.st), defScope d.st, mainGlobals, ["__class__"], .none, builtinsNs)
abbrev AlX : Type := He.AlD × List (Option (List (Option (Str × Int)))) × List FnE
/-- facts, defs, tables (dicts of the top with text keys), errors -/
structure Look where
  cs : List Chk
  fn : List He.DefD
  ts : List He.Tab
  es : List ErrD
def obsX (L : Look) (K : PySem.W.Frag) : AlX := (((L.cs.all fun f => f K) && L.fn.all fun d => d.ok K, L.fn.map fun d => He.fnW K d.at_), L.ts.map fun t => He.dicW K (t.1 K), L.es.map fun d => fnE K d.x)
def valX (L : Look) (w : World) : AlX := (He.valD L.fn, (L.ts.map fun t => some (He.keysIn w.params t.2)), L.es.map ErrD.val)
def SaysX (L : Look) (w : World) (K : PySem.W.Frag) : Prop := obsX L K = valX L w
def obsXG (n : Nat) (L : Look) (g : Addr → Option Obj) : AlX := obsX L (He.frG g (cStatics :: He.asD g n))
def hookX (n : Nat) (L : Look) : PySem.W.Hook where
  α := AlX
  obs := fun s => obsXG n L s.heap.get?
  val := fun w => valX L w
  says := fun w h => ∃ K : PySem.W.Frag, K.In h ∧ SaysX L w K
  of := fun _ _ e => ⟨_, He.frG_in, e⟩
  keeps := fun _ _ _ ⟨K, hK, c⟩ k => ⟨K, PySem.W.Frag.In.keeps hK k, c⟩
theorem obsXG_eq {n : Nat} {L : Look} {g : Addr → Option Obj} {s : Shared} (h : ∀ a, g a = s.heap.get? a) : obsXG n L g = (hookX n L).obs s := by
  have e : g = s.heap.get? := funext h
  rw [e] <;> rfl
section
variable {L : Look} {w : World} {K : PySem.W.Frag}
theorem SaysX.chk (c : SaysX L w K) (i : Nat) {f : Chk} (h : L.cs[i]? = some f := by rfl) : f K = true := by
  have c0 : ((L.cs.all fun f => f K) && L.fn.all fun d => d.ok K) = true := congrArg (fun z : AlX => z.1.1) c
  exact List.all_eq_true.mp (He.ba c0).1 f (List.mem_of_getElem? h)
theorem SaysX.def_ (c : SaysX L w K) (i : Nat) {d : He.DefD} (h : L.fn[i]? = some d := by rfl) : ∃ fd, FunD K d.name d.qual d.params d.body d.scope (d.dvs K) (d.kws K) (He.fAd K d.at_) fd := by
  have c0 : ((L.cs.all fun f => f K) && L.fn.all fun d => d.ok K) = true := congrArg (fun z : AlX => z.1.1) c
  have e : L.fn.map (fun d => He.fnW K d.at_) = L.fn.map He.DefD.val := congrArg (fun z : AlX => z.1.2) c
  have e2 : (L.fn.map fun d => He.fnW K d.at_)[i]? = (L.fn.map He.DefD.val)[i]? := by rw [e]
  rw [List.getElem?_map, List.getElem?_map, h] at e2
  exact He.DefD.funD (Option.some.inj e2) (List.all_eq_true.mp (He.ba c0).2 d (List.mem_of_getElem? h))
theorem SaysX.tab (c : SaysX L w K) (i : Nat) {t : He.Tab} (h : L.ts[i]? = some t := by rfl) : He.dicW K (t.1 K) = some (He.keysIn w.params t.2) := by
  have e : L.ts.map (fun t => He.dicW K (t.1 K)) = L.ts.map fun t => some (He.keysIn w.params t.2) := congrArg (fun z : AlX => z.2.1) c
  have e2 : (L.ts.map fun t => He.dicW K (t.1 K))[i]? = (L.ts.map fun t => some (He.keysIn w.params t.2))[i]? := by rw [e]
  rw [List.getElem?_map, List.getElem?_map, h] at e2
  exact Option.some.inj e2
theorem SaysX.err (c : SaysX L w K) (i : Nat) {d : ErrD} (h : L.es[i]? = some d := by rfl) : fnE K d.x = d.val := by
  have e : L.es.map (fun d => fnE K d.x) = L.es.map ErrD.val := congrArg (fun z : AlX => z.2.2) c
  have e2 : (L.es.map fun d => fnE K d.x)[i]? = (L.es.map ErrD.val)[i]? := by rw [e]
  rw [List.getElem?_map, List.getElem?_map, h] at e2
  exact Option.some.inj e2
end
/-! ### data of the top -/
mutual
def kdat (K : PySem.W.Frag) : PyData → Value → Bool
  | .none, .none => true
  | .bool b, .bool c => b == c
  | .int i, .int j _ => decide (i = j)
  | .str x, .str y _ => decide (x = y)
  | .tuple ds, .ref a => (match K.lookup a with
    | some ⟨.type c, _, .seq its _, _⟩ => decide (c = "tuple") && (decide (its.size ≤ sizeLine) && kdatL K ds its.toList)
    | _ => false)
  | _, _ => false
def kdatL (K : PySem.W.Frag) : List PyData → List Value → Bool
  | [], [] => true
  | d :: ds, v :: vs => kdat K d v && kdatL K ds vs
  | _, _ => false
end
mutual
theorem kdat_ok {K : PySem.W.Frag} : ∀ (d : PyData) (v : Value), kdat K d v = true → ∃ x, RelV x v ∧ ∀ H, Dp K H x d
  | .none, v, h => by
    cases v with
    | none => exact ⟨.non, rfl, fun _ => .non⟩
    | _ => simp [kdat] at h
  | .bool b, v, h => by
    cases v with
    | bool c =>
      simp [kdat] at h
      subst h
      exact ⟨.bl b, rfl, fun _ => .bl b⟩
    | _ => simp [kdat] at h
  | .int i, v, h => by
    cases v with
    | int j t =>
      simp [kdat] at h
      subst h
      exact ⟨.int i, ⟨t, rfl⟩, fun _ => .int i⟩
    | _ => simp [kdat] at h
  | .str x, v, h => by
    cases v with
    | str y t =>
      simp [kdat] at h
      subst h
      exact ⟨.str x, ⟨t, rfl⟩, fun _ => .str x⟩
    | _ => simp [kdat] at h
  | .list _, v, h => by cases v <;> simp [kdat] at h
  | .dict _, v, h => by cases v <;> simp [kdat] at h
  | .tuple ds, v, h => by
    cases v with
    | ref a =>
      unfold kdat at h
      cases q : K.lookup a with
      | none => rw [q] at h; cases h
      | some o =>
        obtain ⟨oc, od, dt, osl⟩ := o
        rw [q] at h
        cases oc with
        | type c =>
          cases dt with
          | seq its n =>
            obtain ⟨h1, h2⟩ := He.ba (show (decide (c = "tuple") && (decide (its.size ≤ sizeLine) && kdatL K ds its.toList)) = true from h)
            obtain ⟨h3, h4⟩ := He.ba h2
            obtain ⟨xs, r, hx⟩ := kdatL_ok ds its.toList h4
            exact ⟨.ref a, rfl, fun H => .tup (.inr ⟨_, its, n, q, congrArg Value.type (of_decide_eq_true h1), rfl, of_decide_eq_true h3, r⟩) (hx H)⟩
          | _ => cases h
        | _ => cases dt <;> cases h
    | _ => simp [kdat] at h
theorem kdatL_ok {K : PySem.W.Frag} : ∀ (ds : List PyData) (vs : List Value), kdatL K ds vs = true → ∃ xs, Vals xs vs ∧ ∀ H, DpAll K H xs ds
  | [], [], _ => ⟨[], .nil, fun _ => .nil⟩
  | [], _ :: _, h => by simp [kdatL] at h
  | _ :: _, [], h => by simp [kdatL] at h
  | d :: ds, v :: vs, h => by
    obtain ⟨h1, h2⟩ := He.ba (show (kdat K d v && kdatL K ds vs) = true from h)
    obtain ⟨x, r, hx⟩ := kdat_ok d v h1
    obtain ⟨xs, rs, hxs⟩ := kdatL_ok ds vs h2
    exact ⟨x :: xs, .cons r rs, fun H => .cons (hx H) (hxs H)⟩
end
/-- the module's name x stands for these data -/
def cD (x : Str) (d : PyData) : Chk := fun K => match PySem.W.nsIn K mainGlobals x with
  | some (some v) => kdat K d v
  | _ => false
theorem cD_ok {K : PySem.W.Frag} {h : Heap} {mg : Str → Option Value} {x : Str} {d : PyData} (X : K.In h) (G : h.Ns mainGlobals mg) (c : cD x d K = true) : ∃ (v : V) (u : Value), mg x = some u ∧ RelV v u ∧ ∀ H, Dp K H v d := by
  unfold cD at c
  cases e : PySem.W.nsIn K mainGlobals x with
  | none => rw [e] at c; cases c
  | some r =>
    rw [e] at c
    cases r with
    | none => cases c
    | some v =>
      obtain ⟨y, r, hy⟩ := kdat_ok d v c
      exact ⟨y, v, PySem.W.mg_of X G e, r, hy⟩
/-- the dict at the module's name x holds these, in order -/
def cT (x : Str) (kvs : List (Str × PyData)) : Chk := fun K => match K.lookup (He.ga K x) with
  | some ⟨_, _, .dict es _, _⟩ => kdatL K (kvs.map (·.2)) (es.toList.map (·.val))
  | _ => false
/-- a def of the text without defaults -/
def dG (x : Str) (st : Stmt) : He.DefD := ⟨(x, none), x, x, defArgs st, defBody st, defScope st, [], []⟩
/-- a method of a class of the text -/
def dM (C m q : Str) (st : Stmt) : He.DefD := ⟨(C, some m), m, q, defArgs st, defBody st, defScope st, [], []⟩
def cG (x : Str) : Chk := fun K => (He.Fa.glo x).ok K
def cF (x : Str) : Chk := fun K => (He.Fa.free x).ok K
def cC (x : Str) : Chk := fun K => (He.Fa.cls x).ok K
def cN (x f : Str) : Chk := fun K => (He.Fa.noat x f).ok K
def cM (x m : Str) : Chk := fun K => (He.Fa.meth x m).ok K
def cK (x : Str) : Chk := fun K => (He.Fa.mkr x).ok K
/-- FunD without defaults is Fun -/
theorem fun_of {K : PySem.W.Frag} {x q : Str} {st : Stmt} {f : Addr} {fd : FuncData} (F : FunD K x q (defArgs st) (defBody st) (defScope st) [] [] f fd) : Fun K x q st f fd := by
  obtain ⟨⟨oc, od, dV, kV, doc, pm, an, cdv, ct, osl, e, lk, hc, hd, hk⟩, kp⟩ := F
  rcases hd with ⟨_, e2⟩ | ⟨ne, _⟩
  · subst e2
    exact ⟨⟨oc, od, kV, doc, pm, an, cdv, ct, osl, e, lk, hc⟩, kp⟩
  · exact absurd rfl ne
end SD
/-! draws: the source of draws as the laws hold it; what each of its defs promises -/
namespace SD
open PySem L2
theorem bo_int : bootBuiltins "int" = some (.type "int") := by decide +kernel
theorem bo_str : bootBuiltins "str" = some (.type "str") := by decide +kernel
theorem bo_len : bootBuiltins "len" = some (.builtin "len") := by decide +kernel
theorem bo_max : bootBuiltins "max" = some (.builtin "max") := by decide +kernel
theorem bo_list : bootBuiltins "list" = some (.type "list") := by decide +kernel
theorem bo_tuple : bootBuiltins "tuple" = some (.type "tuple") := by decide +kernel
theorem bo_isi : bootBuiltins "isinstance" = some (.builtin "isinstance") := by decide +kernel
theorem bo_all : bootBuiltins "all" = some (.builtin "all") := by decide +kernel
theorem bo_any : bootBuiltins "any" = some (.builtin "any") := by decide +kernel
theorem bo_dict : bootBuiltins "dict" = some (.type "dict") := by decide +kernel
theorem bo_bool : bootBuiltins "bool" = some (.type "bool") := by decide +kernel
theorem bo_sorted : bootBuiltins "sorted" = some (.builtin "sorted") := by decide +kernel
theorem bo_set : bootBuiltins "set" = some (.type "set") := by decide +kernel
theorem bo_repr : bootBuiltins "repr" = some (.builtin "repr") := by decide +kernel
/-- how a def of the module stands in the written part, for a call by its name -/
structure DefIn (K : PySem.W.Frag) (mg : Str → Option Value) (x : Str) (f : Addr) (fd : FuncData) (ps : List Str) : Prop where
  m : mg x = some (.ref f)
  kp : PySem.W.keepIn K (.ref f) = true
  b : Binds K fd ps []
section
variable {X : Cx} {CX : CXT} {k : Nat} {f : Addr} {fd : FuncData} {ps : List Str} {sp : Sp} {x : Str} {p pos : Pos} {e : Expr} {es : List Expr} {t : TA}
theorem pe_cl (G : FnOk X.prog X.w X.K X.mg X.base CX0 k f fd ps sp) (hr : Room k X.A) (D : DefIn X.K X.mg x f fd ps) (ha : PA X (e :: es) t) (hg : Gl X x := by rfl) (hdb : (x == ("__debug__" : Str)) = false := by decide)
    (he : starEach (e :: es) X.env = (false, eval e X.env) :: starEach es X.env := by rfl) (hpl : (backTo pos (starEach es X.env)).any (·.1) = false := by rfl) :
    PE X (.Call (.Name x p) (e :: es) [] pos) (tCall sp [] E0 t) := pe_call G hr hg D.m D.kp D.b .nil pass0 ha hdb he hpl
theorem pe_cl0 (G : FnOk X.prog X.w X.K X.mg X.base CX0 k f fd ps sp) (hr : Room k X.A) (D : DefIn X.K X.mg x f fd ps) (hg : Gl X x := by rfl) (hdb : (x == ("__debug__" : Str)) = false := by decide) :
    PE X (.Call (.Name x p) [] [] pos) (tCall sp [] E0 tNil) := pe_call0 G hr hg D.m D.kp D.b .nil pass0 hdb
end
/-! ### the rules that name the written part, the part told (within a comprehension's block it must be) -/
section
variable {X : Cx} {K : PySem.W.Frag} {e o l : Expr} {te tl ta : TE} {tg : Expr} {f : Str} {pos : Pos}
theorem ix_listK (h : X.K = K := by rfl) : IxR X (rIxL K) := h ▸ ix_list
theorem ix_tupK (h : X.K = K := by rfl) : IxR X (rIxT K) := h ▸ ix_tup
theorem ix_seqK (h : X.K = K := by rfl) : IxR X (rIx K) := h ▸ ix_seq
theorem op_inK (h : X.K = K := by rfl) : OpR X (compareOp .In) (rIn K false) := h ▸ op_in_seq
theorem op_notInK (h : X.K = K := by rfl) : OpR X (compareOp .NotIn) (rIn K true) := h ▸ op_notIn_seq
theorem op_eqDK (hu : X.A.units + 64 < cLine) (h : X.K = K := by rfl) : OpR X (compareOp .Eq) (rEqD K) := h ▸ op_eqD hu
theorem op_neDK (hu : X.A.units + 64 < cLine) (h : X.K = K := by rfl) : OpR X (compareOp .NotEq) (rNeD K) := h ▸ op_neD hu
theorem sl_listK (h : X.K = K := by rfl) : SlR X (rSlL K) := h ▸ sl_list
theorem sl_tupK (h : X.K = K := by rfl) : SlR X (rSlT K) := h ▸ sl_tup
theorem len_seqK (h : X.K = K := by rfl) : CallR X (.builtin "len") (fun xs H Q => ∃ p ys, xs = [.ref p] ∧ (SqL K H p ys ∨ SqT K H p ys) ∧ Q (.int ys.length) H) := h ▸ call_len_seq
theorem list_ofK (h : X.K = K := by rfl) : CallR X (.type "list") (fun xs H Q => ∃ p ys, xs = [.ref p] ∧ (SqL K H p ys ∨ SqT K H p ys) ∧ ∀ l, H l = none → Q (.ref l) (upd H l (.lst ys))) := h ▸ call_list_of
theorem tuple_ofK (h : X.K = K := by rfl) : CallR X (.type "tuple") (fun xs H Q => ∃ p ys, xs = [.ref p] ∧ ((SqL K H p ys ∧ ∀ l, H l = none → Q (.ref l) (upd H l (.tup ys))) ∨ (SqT K H p ys ∧ Q (.ref p) H))) := h ▸ call_tuple_of
theorem isiK (h : X.K = K := by rfl) : CallR X (.builtin "isinstance") (rIsi K) := h ▸ call_isi
theorem isiTK (h : X.K = K := by rfl) : CallR X (.builtin "isinstance") (rIsiT K) := h ▸ call_isiT
theorem allK (hc : X.calm = true) (h : X.K = K := by rfl) : CallR X (.builtin "all") (rAll K) := h ▸ cr_all hc
theorem anyK (hc : X.calm = true) (h : X.K = K := by rfl) : CallR X (.builtin "any") (rAny K) := h ▸ cr_any hc
theorem pi_listK (hl : PE X l tl) (h : X.K = K := by rfl) : PI X tg l (iList K tl) := h ▸ pi_list hl
theorem pi_tupK (hl : PE X l tl) (h : X.K = K := by rfl) : PI X tg l (iTup K tl) := h ▸ pi_tup hl
theorem pg_tupK {es : List Expr} {k : Nat} {t : TGs} {n : Nat} (hc : X.calm = true) (h : PGs X es t) (hn : (assignEach es X.env).length = n := by rfl) (hst : (assignEach es X.env).findIdx? (·.1) = none := by rfl) (hK : X.K = K := by rfl) : PG X (.Tuple es k pos) (gTup K n t) := hK ▸ pg_tup hc h hn hst
theorem pe_fldK (he : PE X e ta) (hb : attributeBase e f X.env (eval e X.env) = eval e X.env := by rfl) (h : X.K = K := by rfl) : PE X (.Attribute e f pos) (tFld K ta f) := h ▸ pe_fld he hb
end
/-- all but what stands at p and at c is as it was -/
def Fr2 (p c : Addr) (H H' : Hp) : Prop := ∀ b o, b ≠ p → b ≠ c → H b = some o → H' b = some o
theorem Fr2.of {p c : Addr} {H H' : Hp} (s : Same H H') : Fr2 p c H H' := fun b o _ _ h => s b o h
theorem Fr2.trans {p c : Addr} {H H1 H2 : Hp} (a : Fr2 p c H H1) (b : Fr2 p c H1 H2) : Fr2 p c H H2 := fun x o h1 h2 h => b x o h1 h2 (a x o h1 h2 h)
theorem Fr2.refl (p c : Addr) (H : Hp) : Fr2 p c H H := fun _ _ _ _ h => h
end SD
namespace L2
open PySem
theorem Same.upd {H : Hp} {p : Addr} {o : HO} (h : H p = none) : Same H (L2.upd H p o) := fun b u e => by
  rw [upd_ne (ne_of_none e h)]; exact e
theorem Same.upd' {H H1 : Hp} {p : Addr} {o : HO} (s : Same H H1) (h : H1 p = none) : Same H (L2.upd H1 p o) := s.trans (Same.upd h)
end L2
namespace SD
open PySem L2
theorem Fr2.updp {p c : Addr} {H H1 : Hp} {o : HO} (s : Fr2 p c H H1) : Fr2 p c H (L2.upd H1 p o) := fun b u h1 h2 e => by
  rw [upd_ne h1]; exact s b u h1 h2 e
theorem Fr2.updc {p c : Addr} {H H1 : Hp} {o : HO} (s : Fr2 p c H H1) : Fr2 p c H (L2.upd H1 c o) := fun b u h1 h2 e => by
  rw [upd_ne h2]; exact s b u h1 h2 e
/-- the source of draws stands at p, its cells at c -/
structure DrS (H : Hp) (p c : Addr) (st ix : Int) (cs : List Int) : Prop where
  hp : H p = some (.lst [.int st, .ref c, .int ix])
  hc : H c = some (.lst (cs.map V.int))
  s1 : 0 ≤ st
  s2 : st < 2147483647
  i0 : 0 ≤ ix
  len : cs.length ≤ 63
def Dr (H : Hp) (p c : Addr) : Prop := ∃ st ix cs, DrS H p c st ix cs
theorem lst_ne {cs : List Int} {a b : Int} {c : Addr} : HO.lst [.int a, .ref c, .int b] ≠ HO.lst (cs.map V.int) := by
  intro e
  injection e with e
  match cs with
  | [] => simp at e
  | [_] => simp at e
  | _ :: _ :: _ => simp at e
theorem DrS.ne {H : Hp} {p c : Addr} {st ix : Int} {cs : List Int} (d : DrS H p c st ix cs) : p ≠ c := ne_of d.hp d.hc lst_ne
theorem DrS.same {H H' : Hp} {p c : Addr} {st ix : Int} {cs : List Int} (d : DrS H p c st ix cs) (s : L2.Same H H') : DrS H' p c st ix cs :=
  ⟨s _ _ d.hp, s _ _ d.hc, d.s1, d.s2, d.i0, d.len⟩
theorem Dr.same {H H' : Hp} {p c : Addr} (d : Dr H p c) (s : Same H H') : Dr H' p c := let ⟨st, ix, cs, d⟩ := d; ⟨st, ix, cs, d.same s⟩
/-! ### the promises -/
def spMix (K : PySem.W.Frag) : Sp := fun vs H Q _ => ∃ (a : Addr) (seed : Int) (ns : List Int), vs = [.ref a, .int seed] ∧ SqL K H a (ns.map V.int) ∧ 0 ≤ seed ∧ seed < 2147483647 ∧ ns.length ≤ 63 ∧
  ∀ (p c : Addr) (H' : Hp), Same H H' → H p = none → H c = none → Dr H' p c → Q (.ref p) H'
def spNext : Sp := fun vs H Q _ => ∃ (p c : Addr) (cap : Int), vs = [.ref p, .int cap] ∧ Dr H p c ∧ 1 ≤ cap ∧ cap < 1073741824 ∧
  ∀ (r : Int) (H' : Hp), 0 ≤ r → r < cap → Dr H' p c → Fr2 p c H H' → Q (.int r) H'
def spPick (K : PySem.W.Frag) : Sp := fun vs H Q _ => ∃ (p c a : Addr) (xs : List V), vs = [.ref p, .ref a] ∧ Dr H p c ∧ (SqL K H a xs ∨ SqT K H a xs) ∧ xs ≠ [] ∧ xs.length < 1000 ∧ a ≠ p ∧ a ≠ c ∧
  ∀ (i : Nat) (v : V) (H' : Hp), xs[i]? = some v → Dr H' p c → Fr2 p c H H' → Q v H'
/-! ### the arithmetic -/
theorem at_cell {cs : List Int} {ix : Int} (h : 0 ≤ ix) : ∃ z, atI (cs.map V.int ++ [V.int 0]) (ix % (if ((cs.map V.int).length : Int) > 1 then ((cs.map V.int).length : Int) else 1)) = some (V.int z) ∧ (cs = [] → z = 0) := by
  have hl : (cs.map V.int).length = cs.length := List.length_map _
  rw [hl]
  have hm : (0 : Int) < (if (cs.length : Int) > 1 then (cs.length : Int) else 1) := by split <;> omega
  have h1 := Int.emod_nonneg ix (Int.ne_of_gt hm)
  have h2 := Int.emod_lt_of_pos ix hm
  generalize ix % (if (cs.length : Int) > 1 then (cs.length : Int) else 1) = k at h1 h2
  obtain ⟨j, rfl⟩ := Int.eq_ofNat_of_zero_le h1
  have hb : j ≤ cs.length ∧ (cs ≠ [] → j < cs.length) := by
    constructor
    · split at h2 <;> omega
    · intro hne
      have : 0 < cs.length := List.length_pos_iff.mpr hne
      split at h2 <;> omega
  have hj : j < (cs.map V.int ++ [V.int 0]).length := by rw [List.length_append, List.length_map]; show j < cs.length + 1; omega
  cases cs with
  | nil =>
    have : j = 0 := by have := hb.1; simp at this; omega
    subst this
    exact ⟨0, rfl, fun _ => rfl⟩
  | cons a r =>
    have hjl := hb.2 (by simp)
    refine ⟨(a :: r)[j], ?_, fun q => nomatch q⟩
    refine atI_nat ?_
    rw [List.getElem?_append_left (by rw [List.length_map]; exact hjl), List.getElem?_map]
    simp [hjl]
theorem ix_cell {n : Nat} {ix : Int} (hn : 0 < n) (h : 0 ≤ ix) : ∃ j, ixN n (ix % (n : Int)) = some j ∧ j < n := by
  have h1 := Int.emod_nonneg ix (b := (n : Int)) (by omega)
  have h2 := Int.emod_lt_of_pos ix (b := (n : Int)) (by omega)
  refine ⟨(ix % (n : Int)).toNat, ?_, by omega⟩
  unfold ixN
  rw [if_pos h1, if_pos h2]
theorem set_int {cs : List Int} {j : Nat} {z : Int} : (cs.map V.int).set j (V.int z) = (cs.set j z).map V.int := by
  rw [List.map_set]
end SD
/-! dicts of the module's top with text keys: len, list, walks of keys and of items, what stands at a key -/
namespace SD
open PySem PySem.Spec PyProof.Rows L2
/-- at d in the written part: a dict with these text keys and values, in order -/
def KD (P : Program) (w : World) (K : PySem.W.Frag) (d : Addr) (kvs : List (Str × V)) : Prop :=
  (d == sysModules) = false ∧ kvs.length ≤ 1000 ∧ ∃ (es : Array DictEntry) (ep : Nat) (vs : List (Str × Value)),
    K.lookup d = some ⟨.type "dict", none, .dict es ep, #[]⟩ ∧ KV kvs vs ∧ es.size = kvs.length ∧ (∀ h : Heap, K.In h → h.DictAt (PySem.strKind P w) d vs ep) ∧ PySem.W.KeysLit w.params es.toList
theorem small_line {n : Nat} (h : n ≤ 1000) : n ≤ sizeLine := Nat.le_trans h (by rw [sizeLine_eq]; decide)
section
variable {X : Cx} {pins : List (Addr × Obj)} {σ : L2.St} {H : Hp} {s : Shared} {d : Addr} {kvs : List (Str × V)}
theorem kd_len (D : KD X.prog X.w X.K d kvs) : CallR X (.builtin "len") (fun xs H Q => xs = [V.ref d] ∧ Q (.int kvs.length) H) := by
  intro pins s σ H xs us Q I r h
  obtain ⟨rfl, q⟩ := h
  obtain ⟨u, rfl, ru⟩ := vals1 r
  cases ru
  obtain ⟨lo, hz, es, ep, vs, hl, kv, sz, hd, _⟩ := D
  have e : kvs.length = vs.length := Paired.length kv
  refine call_len_dict lo (hd _ I.kIn).dictOf (by rw [← e]; omega) ?_
  rw [← e]
  exact ⟨.int kvs.length, H, I.tok _, ⟨_, rfl⟩, q⟩
theorem kd_list (D : KD X.prog X.w X.K d kvs) (hcalm : X.calm = true) : CallR X (.type "list") (fun xs H Q => xs = [V.ref d] ∧ ∀ p, H p = none → Q (.ref p) (upd H p (.lst (kvs.map fun kv => V.str kv.1)))) := by
  intro pins s σ H xs us Q I r h
  obtain ⟨rfl, q⟩ := h
  obtain ⟨u, rfl, ru⟩ := vals1 r
  cases ru
  obtain ⟨lo, hz, es, ep, vs, hl, kv, sz, hd, _⟩ := D
  have e : kvs.length = vs.length := Paired.length kv
  refine PySem.W.kdl_call (PySem.W.kdl_dict (knd := PySem.strKind X.prog X.w) (kvs := vs) (ep := ep) lo) (I.ok.hd hcalm) (hd _ I.kIn) (by rw [← e]; exact small_line hz) fun h' tk acc c' hk hD hacc => ?_
  have hv : Vals (kvs.map fun kv => V.str kv.1) acc.toList := by
    have hsz : acc.toList.length = kvs.length := by rw [Array.length_toList, e]; exact hacc.1
    have step : ∀ (l : List (Str × V)) (l2 : List (Str × Value)) (us : List Value), KV l l2 → us.length = l.length → (∀ (j : Nat) (v : Value), us[j]? = some v → ∃ k x, l2[j]? = some (k, x) ∧ Value.isStrOf k v = true) → Vals (l.map fun kv => V.str kv.1) us := by
      intro l
      induction l with
      | nil => intro l2 us _ hu _; cases us with
        | nil => exact .nil
        | cons a b => cases hu
      | cons a l ih =>
        intro l2 us hkv hu hj
        cases hkv with
        | @cons _ b _ r1 hab hr =>
          cases us with
          | nil => cases hu
          | cons u us =>
            obtain ⟨k, x, e1, e2⟩ := hj 0 u rfl
            have e1' : b = (k, x) := Option.some.inj e1
            obtain ⟨t, rfl⟩ := Value.isStrOf_shape e2
            refine .cons ⟨t, ?_⟩ (ih r1 us hr (by simpa using hu) fun j v hv => hj (j + 1) v hv)
            rw [hab.1, e1']
    exact step kvs vs acc.toList kv hsz fun j v hv => hacc.2 j v (by rw [← Array.getElem?_toList]; exact hv)
  refine ⟨.ref s.heap.objs.size, upd H s.heap.objs.size (.lst (kvs.map fun kv => V.str kv.1)), I.laid (t' := tk) hk (Nat.le_refl _) ?_, rfl, q _ (I.hok.fresh (Nat.le_refl _))⟩
  exact ⟨by rw [List.length_map]; exact small_line hz, acc.toList, c', hv, by rw [Array.toArray_toList]; exact hD⟩
/-- the walk of keys -/
def ItkD (kvs : List (Str × V)) : It := ⟨fun i _ => i < kvs.length, fun i H x H' => H' = H ∧ ∃ p, kvs[i]? = some p ∧ x = V.str p.1, fun i _ => kvs.length ≤ i⟩
theorem turn_kd {P : Program} {w : World} {K : PySem.W.Frag} {tg : Expr} {es : Array DictEntry} {ep : Nat} {vs : List (Str × Value)} (it : Addr) (hl : K.lookup d = some ⟨.type "dict", none, .dict es ep, #[]⟩)
    (kv : KV kvs vs) (sz : es.size = kvs.length) (hd : ∀ h : Heap, K.In h → h.DictAt (PySem.strKind P w) d vs ep) : Turn P w K tg (ItkD kvs) [it] it (fun i h => h.IsKeyIter it d i kvs.length ep) where
  mem := by simp
  obj := fun i h st b hb => by
    obtain rfl : b = it := by simpa using hb
    obtain ⟨oi, e, c, dd⟩ := st
    exact ⟨oi, e, fun v z => by rw [dd] at z; cases z⟩
  keep := fun i h h' st k => st.at fun oi e => k it (by simp) oi e
  item := by
    intro Y hP hw hK hc i pins s σ H E I hf st hg
    subst hP hw hK
    have hi : i < kvs.length := hg
    obtain ⟨f0, f1, f2, f3, f4, f5⟩ := hf it (by simp)
    have hkv : kvs[i]? = some kvs[i] := List.getElem?_eq_getElem hi
    obtain ⟨u, hu, ru⟩ := kv_get (k := kvs[i].1) (v := kvs[i].2) kv hkv
    have e : kvs.length = vs.length := Paired.length kv
    rw [e] at st
    refine wpAny_pyNext_dict_item st (hd _ I.kIn) hu fun key h' hkey st' sb => ?_
    have J := I.turned (t' := s.toks) (fun b ob hb e => (sb.2 b hb).trans e) f0 f1 f3 f4 f5
    obtain ⟨oi, e1, c, dd⟩ := id st'
    obtain ⟨t, rfl⟩ := Value.isStrOf_shape (show Value.isStrOf kvs[i].1 key = true from hkey)
    refine ⟨_, rfl, go_of (s := { s with heap := h' }) e1 c dd (by decide) ⟨V.str kvs[i].1, H, J, ⟨t, rfl⟩, ⟨rfl, _, hkv, rfl⟩, ?_, fun b hb => (hf b hb).1⟩⟩
    rw [e]
    exact st'
  done := by
    intro Y hP hw hK hc i pins s σ H E I hf st hg
    subst hP hw hK
    obtain ⟨f0, f1, f2, f3, f4, f5⟩ := hf it (by simp)
    exact next_key_end (I.ok.hd hc) st (I.kIn _ _ hl) rfl sz hg fun h' eb => ⟨rfl, I.turned (t' := s.toks) (fun b ob hb e => eb b ob hb e) f0 f1 f3 f4 f5⟩
  self := fun A i s Q E st h => wpAny_pyIter_keyiter st h
def iKD (d : Addr) (kvs : List (Str × V)) (te : TE) : TI := fun σ H R => te σ H fun x H1 => x = .ref d ∧ R (ItkD kvs) H1
theorem pi_kd {tg e : Expr} {te : TE} (D : KD X.prog X.w X.K d kvs) (he : PE X e te) : PI X tg e (iKD d kvs te) := by
  refine ⟨fun pins s σ H R I h => ?_⟩
  refine thn (he.run pins s σ H _ I h) fun v s1 ⟨x, H1, I1, r1, ex, q⟩ => ?_
  subst ex
  cases r1
  obtain ⟨lo, hz, es, ep, vs, hl, kv, sz, hd, _⟩ := D
  refine iter_keys lo (I1.kIn _ _ hl) ⟨rfl, rfl, rfl⟩ rfl (pi_one (tk := s1.toks) I1 _ (turn_kd _ hl kv sz hd) ⟨_, Heap.get?_push_size _ rfl, rfl, ?_⟩ q)
  show Data.fields #[Value.ref d, .int 0 0, .int (es.size : Nat) 0, .int ep 0] = _
  rw [sz]
  rfl
/-- the walk of items: each a new pair -/
def ItiD (kvs : List (Str × V)) : It := ⟨fun i _ => i < kvs.length, fun i H x H' => ∃ T p, kvs[i]? = some p ∧ x = .ref T ∧ H T = none ∧ H' = upd H T (.tup [V.str p.1, p.2]), fun i _ => kvs.length ≤ i⟩
theorem turn_kdI {P : Program} {w : World} {K : PySem.W.Frag} {elts : List Expr} {kk : Nat} {tpos : Pos} {ep : Nat} {vs : List (Str × Value)} (it : Addr) (kv : KV kvs vs)
    (hd : ∀ h : Heap, K.In h → h.DictAt (PySem.strKind P w) d vs ep) : Turn P w K (.Tuple elts kk tpos) (ItiD kvs) [it] it (fun i h => ∃ ok ov, IsItemIter h it d i kvs.length ep ok ov) where
  mem := by simp
  obj := fun i h st b hb => by
    obtain rfl : b = it := by simpa using hb
    obtain ⟨ok, ov, e⟩ := st
    exact ⟨_, e, fun v z => nomatch z⟩
  keep := fun i h h' st k => by
    obtain ⟨ok, ov, e⟩ := st
    exact ⟨ok, ov, k it (by simp) _ e⟩
  item := by
    intro Y hP hw hK hc i pins s σ H E I hf st hg
    subst hP hw hK
    have hi : i < kvs.length := hg
    have hkv : kvs[i]? = some kvs[i] := List.getElem?_eq_getElem hi
    obtain ⟨u, hu, ru⟩ := kv_get (k := kvs[i].1) (v := kvs[i].2) kv hkv
    have el : kvs.length = vs.length := Paired.length kv
    obtain ⟨ok, ov, he⟩ := st
    rw [el] at he
    have hlt : it < s.heap.objs.size := Heap.lt_size he
    refine wpAny_pyNext_items_item he (hd _ I.kIn) hu fun key h' hkey ho hT hz hk => ?_
    obtain ⟨t, rfl⟩ := Value.isStrOf_shape (show Value.isStrOf kvs[i].1 key = true from hkey)
    refine ⟨_, rfl, wpAny_letOwnedTupleGo_items (s := { s with heap := h' }) ho fun h2 he' sb => ?_⟩
    have hT2 := (sb.2 _ (Nat.ne_of_gt hlt)).trans hT
    have new : ObjOk Y.prog Y.w (upd H s.heap.objs.size (.tup [V.str kvs[i].1, kvs[i].2])) h2 s.heap.objs.size (.tup [V.str kvs[i].1, kvs[i].2]) :=
      ⟨small_line (show 2 ≤ 1000 by decide), [_, u], .cons ⟨t, rfl⟩ (.cons ru .nil), ⟨_, hT2, rfl, _, rfl⟩⟩
    have J : Inv Y pins σ (upd H s.heap.objs.size (.tup [V.str kvs[i].1, kvs[i].2])) { s with heap := h2 } :=
      I.turnedNew (t' := s.toks) (ch := [it]) (fun b ob hb e => (sb.2 b (by simpa using hb)).trans (hk b ob (by simpa using hb) e)) hf (Nat.le_refl _) new
    refine ⟨.ref s.heap.objs.size, _, J, rfl, ⟨_, _, hkv, rfl, I.hok.fresh (Nat.le_refl _), rfl⟩, ⟨.str kvs[i].1 t, u, ?_⟩, fun b hb => ?_⟩
    · rw [el]; exact he'
    · obtain rfl : b = it := by simpa using hb
      rw [upd_ne (Nat.ne_of_lt hlt)]
      exact (hf b (by simp)).1
  done := by
    intro Y hP hw hK hc i pins s σ H E I hf st hg
    subst hP hw hK
    have hi : kvs.length ≤ i := hg
    obtain ⟨f0, f1, f2, f3, f4, f5⟩ := hf it (by simp)
    have el : kvs.length = vs.length := Paired.length kv
    obtain ⟨ok, ov, he⟩ := st
    rw [el] at he
    exact wpAny_pyNext_items_end (I.ok.hd hc) he (hd _ I.kIn) (List.getElem?_eq_none (by omega)) fun h' eb => ⟨rfl, I.turned (t' := s.toks) (fun b ob hb q => eb b ob hb q) f0 f1 f3 f4 f5⟩
  self := fun A i s Q E st h => by
    obtain ⟨_, _, e⟩ := st
    exact PySem.W.kcp_self e h
def iKDI (d : Addr) (kvs : List (Str × V)) (te : TE) : TI := fun σ H R => te σ H fun x H1 => x = .ref d ∧ R (ItiD kvs) H1
theorem pi_kdI {elts : List Expr} {kk : Nat} {tpos apos cpos : Pos} {e : Expr} {te : TE} (D : KD X.prog X.w X.K d kvs) (he : PE X e te)
    (hbase : attributeBase e "items" X.env (eval e X.env) = eval e X.env := by rfl) (hline : (apos.endLine == cpos.line) = true := by rfl) :
    PI X (.Tuple elts kk tpos) (.Call (.Attribute e "items" apos) [] [] cpos) (iKDI d kvs te) := by
  refine ⟨fun pins s σ H R I h => ?_⟩
  refine wpAny_Call_method (T := "dict") (id := "dict.items") hbase rfl hline F.plainAttrs_dict F.slot_dict_items F.type_dict_items (thn (he.run pins s σ H _ I h) fun u s1 hq => ?_)
  obtain ⟨x, H1, I1, rx, ex, q⟩ := hq
  subst ex
  obtain rfl : u = Value.ref d := rx
  obtain ⟨lo, hz, es, ep, vs, hl, kv, sz, hd, _⟩ := D
  have hm := hd _ I1.kIn
  have el : kvs.length = vs.length := Paired.length kv
  refine ⟨hm.dictOf.typeIs, hm.dictOf.mapOf.noDict, ?_⟩
  have I2 : Inv X pins σ H1 { s1 with heap := s1.heap.push { cls := .type "dict_items", data := .fields #[.ref d] } } := I1.kept (t' := s1.toks) fun b ob z => Heap.get?_push_of_some _ z
  have fin : wpAny (model X.prog X.w) X.A (pyIter (.ref s1.heap.objs.size)) (PIE X pins σ (.Tuple elts kk tpos) R) X.xe { s1 with heap := s1.heap.push { cls := .type "dict_items", data := .fields #[.ref d] } } := by
    refine wpAny_pyIter_items (d := d) (knd := PySem.strKind X.prog X.w) ⟨_, Heap.get?_push_size _ rfl, rfl, rfl⟩ (hm.push _) (pi_one (tk := s1.toks) I2 _ (turn_kdI _ kv hd) ⟨.none, .none, ?_⟩ q)
    rw [el]
    exact Heap.get?_push_size _ rfl
  show wpAny _ _ (callWith cpos (.builtin "dict.items") [.ref d] [] []) _ X.xe s1
  exact method_meetsIn F.slot_dict_items F.entry_dict_items rfl (PySem.evalArgs_none ⟨rfl, hm.dictOf.typeIs, F.args_dict_items_1 _, _, meets_dict_items (PySem.strKind X.prog X.w) d lo, ⟨vs, hm.dictOf⟩, fin⟩)
end
/-! ### from the looks at the top -/
theorem tab_walk {P : Program} {w : World} {K : PySem.W.Frag} : ∀ (l : List DictEntry) (kvs : List (Str × PyData)), l.map He.keyOf = He.keysIn w.params (kvs.map (·.1)) → kdatL K (kvs.map (·.2)) (l.map (·.val)) = true →
    ∃ (xs : List (Str × V)) (vs : List (Str × Value)), Pairs (PySem.strKind P w) l vs ∧ KV xs vs ∧ xs.map (·.1) = kvs.map (·.1) ∧ vs.map (·.1) = kvs.map (·.1) ∧ ∀ H, DpAll K H (xs.map (·.2)) (kvs.map (·.2))
  | [], [], _, _ => ⟨[], [], .nil, .nil, rfl, rfl, fun _ => .nil⟩
  | [], _ :: _, h, _ => by cases h
  | _ :: _, [], h, _ => by cases h
  | e :: l, (k, d) :: kvs, h1, h2 => by
    obtain ⟨q1, q2⟩ := He.ba (show (kdat K d e.val && kdatL K (kvs.map (·.2)) (l.map (·.val))) = true from h2)
    injection h1 with h3 h4
    obtain ⟨xs, vs, p, kv, e1, e2, hd⟩ := tab_walk l kvs h4 q2
    obtain ⟨x, r, hx⟩ := kdat_ok d e.val q1
    have hk : Value.isStrOf k e.key = true := by
      unfold He.keyOf at h3
      split at h3
      · rename_i y t q
        have h5 := (Prod.mk.inj (Option.some.inj h3)).1
        rw [q, show k = y from h5.symm]
        exact PySem.strKind_is P w y t
      · cases h3
    exact ⟨(k, x) :: xs, (k, e.val) :: vs, .cons hk rfl p, .cons ⟨rfl, r⟩ kv, by simp [e1], by simp [e2], fun H => .cons (hx H) (hd H)⟩
theorem KD.of {P : Program} {w : World} {K : PySem.W.Frag} {x : Str} {kvs : List (Str × PyData)} (h1 : He.dicW K (He.ga K x) = some (He.keysIn w.params (kvs.map (·.1)))) (h2 : cT x kvs K = true) (hl : kvs.length ≤ 1000) (nd : (kvs.map (·.1)).Nodup) :
    ∃ xs : List (Str × V), KD P w K (He.ga K x) xs ∧ xs.map (·.1) = kvs.map (·.1) ∧ ∀ H, DpAll K H (xs.map (·.2)) (kvs.map (·.2)) := by
  obtain ⟨es, n, D⟩ := He.dicW_ok h1
  have hes : es.toList.map He.keyOf = He.keysIn w.params (kvs.map (·.1)) := by
    unfold He.dicW at h1
    rw [D.at_] at h1
    have h3 : (match decide (("dict" : String) = "dict") && ((#[] : Array (Option Value)).isEmpty && !(He.ga K x == sysModules)) with
      | true => some (es.toList.map He.keyOf)
      | false => none) = some (He.keysIn w.params (kvs.map (·.1))) := h1
    rw [D.low] at h3
    exact Option.some.inj h3
  have h4 : kdatL K (kvs.map (·.2)) (es.toList.map (·.val)) = true := by
    unfold cT at h2
    rw [D.at_] at h2
    exact h2
  obtain ⟨xs, vs, p, kv, e1, e2, hd⟩ := tab_walk (P := P) es.toList kvs hes h4
  have el : xs.length = kvs.length := by
    have := congrArg List.length e1
    simpa using this
  refine ⟨xs, ⟨D.low, by omega, es, n, vs, D.at_, kv, ?_, fun h hK => ⟨_, es, hK _ _ D.at_, ⟨rfl, rfl, rfl⟩, rfl, fun e he => ?_, p, by rw [e2]; exact nd⟩, D.lit⟩, e1, hd⟩
  · rw [← Array.length_toList, p.length, ← Paired.length kv]
  · obtain ⟨y, t, q1, q2⟩ := D.lit.all e (Array.mem_toList_iff.mpr he)
    exact ⟨y, by rw [q1]; exact PySem.strKind_is P w y t, q2⟩
theorem kv_mem {kvs : List (Str × V)} {vs : List (Str × Value)} (h : KV kvs vs) {k : Str} {v : V} (hk : (k, v) ∈ kvs) : ∃ u, (k, u) ∈ vs ∧ L2.RelV v u := by
  obtain ⟨i, hi⟩ := List.mem_iff_getElem?.mp hk
  obtain ⟨u, hu, r⟩ := kv_get h hi
  exact ⟨u, List.mem_iff_getElem?.mpr ⟨i, hu⟩, r⟩
/-- d[k] -/
theorem ix_kd {X : Cx} {d : Addr} {kvs : List (Str × V)} (D : KD X.prog X.w X.K d kvs) : IxR X (fun x y H Q => ∃ z v, x = .ref d ∧ y = .str z ∧ (z, v) ∈ kvs ∧ Q v H) := by
  intro value slice pins s σ H x y v u Q I rx ry h hs
  obtain ⟨z, r, rfl, rfl, hm, q⟩ := h
  obtain rfl : v = Value.ref d := rx
  obtain ⟨t, rfl⟩ := ry
  obtain ⟨lo, hz, es, ep, vs, hl, kv, sz, hd, lit⟩ := D
  obtain ⟨u0, hu0, r0⟩ := kv_mem kv hm
  have da := hd _ I.kIn
  have nd : (vs.map (·.1)).Nodup := by
    obtain ⟨_, _, _, _, _, _, _, n⟩ := da
    exact n
  have mo := da.dictOf.mapOf
  exact tail_any mo.typeIs slot_dict_getitem.lookup (wpAny_getItem_of (PySem.strKind_is X.prog X.w z t) mo (valueAt_of_mem nd hu0) ⟨r, H, I.tok _, r0, q⟩) hs
/-! ### a loop over what is written down -/
theorem for_keys {kvs : List (Str × V)} {g : TG} {tb : TS} {D : Ends} {σ : L2.St} {H : Hp} (Pv : Nat → L2.St → Hp → Prop) (h0 : Pv 0 σ H)
    (hs : ∀ i p σ H, kvs[i]? = some p → Pv i σ H → g (.str p.1) σ H fun σ2 H2 => tb { D with nx := Pv (i + 1), ct := Pv (i + 1), bk := D.nx } σ2 H2) (he : ∀ σ H, Pv kvs.length σ H → D.nx σ H) :
    ∃ W : Nat → Nat → L2.St → Hp → Prop, (∃ m, W 0 m σ H) ∧ ∀ i m σ H, W i m σ H →
      ((ItkD kvs).stop i H ∧ D.nx σ H) ∨ ((ItkD kvs).go i H ∧ ∃ N : L2.St → Hp → Prop, (∀ σ' H', N σ' H' → ∃ m', m' < m ∧ W (i + 1) m' σ' H') ∧ ∀ x H', (ItkD kvs).yld i H x H' → g x σ H' fun σ2 H2 => tb { D with nx := N, ct := N, bk := D.nx } σ2 H2) := by
  refine ⟨fun i m σ H => m = kvs.length - i ∧ i ≤ kvs.length ∧ Pv i σ H, ⟨_, rfl, Nat.zero_le _, h0⟩, ?_⟩
  rintro i m σ H ⟨rfl, hi, p⟩
  rcases Nat.lt_or_ge i kvs.length with hlt | hge
  · refine .inr ⟨hlt, Pv (i + 1), fun σ' H' p' => ⟨kvs.length - (i + 1), by omega, rfl, hlt, p'⟩, fun x H' y => ?_⟩
    obtain ⟨rfl, q, hq, rfl⟩ := y
    exact hs i q σ _ hq p
  · obtain rfl : i = kvs.length := by omega
    exact .inl ⟨Nat.le_refl _, he σ H p⟩
theorem for_items {kvs : List (Str × V)} {g : TG} {tb : TS} {D : Ends} {σ : L2.St} {H : Hp} (Pv : Nat → L2.St → Hp → Prop) (h0 : Pv 0 σ H)
    (hs : ∀ i p T σ H, kvs[i]? = some p → Pv i σ H → H T = none → g (.ref T) σ (upd H T (.tup [.str p.1, p.2])) fun σ2 H2 => tb { D with nx := Pv (i + 1), ct := Pv (i + 1), bk := D.nx } σ2 H2) (he : ∀ σ H, Pv kvs.length σ H → D.nx σ H) :
    ∃ W : Nat → Nat → L2.St → Hp → Prop, (∃ m, W 0 m σ H) ∧ ∀ i m σ H, W i m σ H →
      ((ItiD kvs).stop i H ∧ D.nx σ H) ∨ ((ItiD kvs).go i H ∧ ∃ N : L2.St → Hp → Prop, (∀ σ' H', N σ' H' → ∃ m', m' < m ∧ W (i + 1) m' σ' H') ∧ ∀ x H', (ItiD kvs).yld i H x H' → g x σ H' fun σ2 H2 => tb { D with nx := N, ct := N, bk := D.nx } σ2 H2) := by
  refine ⟨fun i m σ H => m = kvs.length - i ∧ i ≤ kvs.length ∧ Pv i σ H, ⟨_, rfl, Nat.zero_le _, h0⟩, ?_⟩
  rintro i m σ H ⟨rfl, hi, p⟩
  rcases Nat.lt_or_ge i kvs.length with hlt | hge
  · refine .inr ⟨hlt, Pv (i + 1), fun σ' H' p' => ⟨kvs.length - (i + 1), by omega, rfl, hlt, p'⟩, fun x H' y => ?_⟩
    obtain ⟨T, q, hq, rfl, hT, rfl⟩ := y
    exact hs i q T σ H hq p hT
  · obtain rfl : i = kvs.length := by omega
    exact .inl ⟨Nat.le_refl _, he σ H p⟩
end SD
/-! rules and books as data; the parts as the laws write them -/
namespace SD
open PySem L2
def pn : List Str := ["along", "clash", "drafts", "leads", "restores", "staged"]
def w0 : List Str := ["alone", "last", "one", "draft", "before", "now"]
def w1 : List Str := ["links", "refuse", "own", "nothing", "nothing", "then"]
structure Rule where
  al : Bool
  cl : Bool
  dr : Bool
  le : Bool
  re : Bool
  sg : Bool
  deriving DecidableEq
def Rule.ws (r : Rule) : List Str := [bif r.al then "links" else "alone", bif r.cl then "refuse" else "last", bif r.dr then "own" else "one", bif r.le then "nothing" else "draft", bif r.re then "nothing" else "before", bif r.sg then "then" else "now"]
/-- parts and words, as far as there are words -/
def kvN (ws : List Str) : List (Key × V) := List.zipWith (fun k w => (Sum.inr k, V.str w)) pn ws
def Rule.kv (r : Rule) : List (Key × V) := kvN r.ws
def prow (j : Nat) : List V := [V.str (pn.getD j ""), V.str (w0.getD j ""), V.str (w1.getD j "")]
/-- what _law_parts hands back -/
def PartsAt (H : Hp) (p : Addr) : Prop := ∃ q0 q1 q2 q3 q4 q5 : Addr, H p = some (.lst [.ref q0, .ref q1, .ref q2, .ref q3, .ref q4, .ref q5]) ∧
  H q0 = some (.lst (prow 0)) ∧ H q1 = some (.lst (prow 1)) ∧ H q2 = some (.lst (prow 2)) ∧ H q3 = some (.lst (prow 3)) ∧ H q4 = some (.lst (prow 4)) ∧ H q5 = some (.lst (prow 5))
theorem PartsAt.same {H H' : Hp} {p : Addr} (a : PartsAt H p) (s : L2.Same H H') : PartsAt H' p := by
  obtain ⟨q0, q1, q2, q3, q4, q5, h, h0, h1, h2, h3, h4, h5⟩ := a
  exact ⟨q0, q1, q2, q3, q4, q5, s _ _ h, s _ _ h0, s _ _ h1, s _ _ h2, s _ _ h3, s _ _ h4, s _ _ h5⟩
theorem prow_ne {j : Nat} {cs : List Int} {st ix : Int} {c : Addr} : HO.lst (prow j) ≠ HO.lst [.int st, .ref c, .int ix] ∧ HO.lst (prow j) ≠ HO.lst (cs.map V.int) := by
  constructor
  · intro e
    injection e with e
    cases e
  · intro e
    injection e with e
    cases cs with
    | nil => cases e
    | cons a r => cases e
theorem refs_ne {q : Addr} {qs : List V} {cs : List Int} {st ix : Int} {c : Addr} : HO.lst (.ref q :: qs) ≠ HO.lst [.int st, .ref c, .int ix] ∧ HO.lst (.ref q :: qs) ≠ HO.lst (cs.map V.int) := by
  constructor
  · intro e
    injection e with e
    cases e
  · intro e
    injection e with e
    cases cs with
    | nil => cases e
    | cons a r => cases e
/-- what stands in the source of draws is no list but of its own make -/
theorem DrS.apart {H : Hp} {p c b : Addr} {st ix : Int} {cs : List Int} {o : HO} (d : DrS H p c st ix cs) (h : H b = some o) (n : o ≠ .lst [.int st, .ref c, .int ix] ∧ o ≠ .lst (cs.map V.int)) : b ≠ p ∧ b ≠ c :=
  ⟨ne_of h d.hp n.1, ne_of h d.hc n.2⟩
theorem PartsAt.fr {H H' : Hp} {p c q : Addr} (a : PartsAt H q) (d : Dr H p c) (f : Fr2 p c H H') : PartsAt H' q := by
  obtain ⟨st, ix, cs, d⟩ := d
  obtain ⟨q0, q1, q2, q3, q4, q5, h, h0, h1, h2, h3, h4, h5⟩ := a
  have go : ∀ {b : Addr} {o : HO}, H b = some o → (o ≠ .lst [.int st, .ref c, .int ix] ∧ o ≠ .lst (cs.map V.int)) → H' b = some o := fun h n => f _ _ (d.apart h n).1 (d.apart h n).2 h
  exact ⟨q0, q1, q2, q3, q4, q5, go h refs_ne, go h0 prow_ne, go h1 prow_ne, go h2 prow_ne, go h3 prow_ne, go h4 prow_ne, go h5 prow_ne⟩
theorem dK_ne {kvs : List (Key × V)} {cs : List Int} {st ix : Int} {c : Addr} : HO.dK kvs ≠ HO.lst [.int st, .ref c, .int ix] ∧ HO.dK kvs ≠ HO.lst (cs.map V.int) := by
  constructor <;> intro e <;> cases e
theorem kvN_snoc : ∀ {ws : List Str} {w k : Str}, pn[ws.length]? = some k → kvN (ws ++ [w]) = kvN ws ++ [(Sum.inr k, V.str w)]
  | [], _, _, h => by cases h; rfl
  | [_], _, _, h => by cases h; rfl
  | [_, _], _, _, h => by cases h; rfl
  | [_, _, _], _, _, h => by cases h; rfl
  | [_, _, _, _], _, _, h => by cases h; rfl
  | [_, _, _, _, _], _, _, h => by cases h; rfl
  | _ :: _ :: _ :: _ :: _ :: _ :: r, _, _, h => by
    have e := (List.getElem?_eq_some_iff.mp h).1
    simp only [List.length_cons] at e
    have e2 : pn.length = 6 := rfl
    omega
theorem kvN_new : ∀ {ws : List Str} {k : Str}, pn[ws.length]? = some k → valV (kvN ws) (Sum.inr k : Key) = none
  | [], _, h => by cases h; rfl
  | [_], _, h => by cases h; rfl
  | [_, _], _, h => by cases h; rfl
  | [_, _, _], _, h => by cases h; rfl
  | [_, _, _, _], _, h => by cases h; rfl
  | [_, _, _, _, _], _, h => by cases h; rfl
  | _ :: _ :: _ :: _ :: _ :: _ :: r, _, h => by
    have e := (List.getElem?_eq_some_iff.mp h).1
    simp only [List.length_cons] at e
    have e2 : pn.length = 6 := rfl
    omega
def spParts : Sp := fun vs H Q _ => vs = [] ∧ ∀ (p : Addr) (H' : Hp), L2.Same H H' → H p = none → PartsAt H' p → Q (.ref p) H'
def spRule : Sp := fun vs H Q _ => ∃ (p c : Addr), vs = [.ref p] ∧ Dr H p c ∧ ∀ (r : Rule) (d : Addr) (H' : Hp), Dr H' p c → Fr2 p c H H' → H d = none → H' d = some (.dK r.kv) → Q (.ref d) H'
end SD
/-! books as data, and how they stand in the heap; == of what they hold -/
namespace SD
open PySem L2
structure Kinds where
  ba : Bool
  bo : Bool
  hi : Bool
  st : Bool
  th : Bool
  deriving DecidableEq
def Kinds.ws (k : Kinds) : List Str := (bif k.ba then ([Str.ofString "back"] : List Str) else []) ++ (bif k.bo then ([Str.ofString "both"] : List Str) else []) ++ (bif k.hi then ([Str.ofString "hide"] : List Str) else []) ++ (bif k.st then ([Str.ofString "stage"] : List Str) else []) ++ (bif k.th then ([Str.ofString "throw"] : List Str) else [])
def allW : List Str := ["back", "both", "hide", "stage", "throw"]
structure Bk where
  two : Bool
  r : Rule
  k : Kinds
  deriving DecidableEq
def Bk.people (b : Bk) : Int := bif b.two then 2 else 1
structure BookIs (K : PySem.W.Frag) (C : Addr) (H : Hp) (a : Addr) (b : Bk) (dx d t : Addr) : Prop where
  ob : H a = some (.ins C dx [("many", .int b.people), ("terms", .ref d), ("kinds", .ref t)])
  te : H d = some (.dK b.r.kv)
  ki : SqT K H t (b.k.ws.map V.str)
def BookAt (K : PySem.W.Frag) (C : Addr) (H : Hp) (a : Addr) (b : Bk) : Prop := ∃ dx d t, BookIs K C H a b dx d t
theorem SqT.same {K : PySem.W.Frag} {H H' : Hp} {a : Addr} {xs : List V} (s : L2.Same H H') (h : SqT K H a xs) : SqT K H' a xs := by
  rcases h with (h | ⟨o, h⟩) | h
  · exact .inl (.inl (s _ _ h))
  · exact .inl (.inr ⟨o, s _ _ h⟩)
  · exact .inr h
theorem SqL.same {K : PySem.W.Frag} {H H' : Hp} {a : Addr} {xs : List V} (s : L2.Same H H') (h : SqL K H a xs) : SqL K H' a xs := by
  rcases h with (h | ⟨o, h⟩) | h
  · exact .inl (.inl (s _ _ h))
  · exact .inl (.inr ⟨o, s _ _ h⟩)
  · exact .inr h
theorem BookIs.same {K : PySem.W.Frag} {C : Addr} {H H' : Hp} {a dx d t : Addr} {b : Bk} (h : BookIs K C H a b dx d t) (s : L2.Same H H') : BookIs K C H' a b dx d t := ⟨s _ _ h.ob, s _ _ h.te, SqT.same s h.ki⟩
theorem BookAt.same {K : PySem.W.Frag} {C : Addr} {H H' : Hp} {a : Addr} {b : Bk} (h : BookAt K C H a b) (s : L2.Same H H') : BookAt K C H' a b := by
  obtain ⟨dx, d, t, h⟩ := h
  exact ⟨dx, d, t, h.same s⟩
theorem ws_len (k : Kinds) : k.ws.length ≤ 5 := by
  obtain ⟨a, b, c, d, e⟩ := k
  cases a <;> cases b <;> cases c <;> cases d <;> cases e <;> decide
theorem ws_filter (k : Kinds) : allW.filter (fun w => decide (w ∈ k.ws)) = k.ws := by
  obtain ⟨a, b, c, d, e⟩ := k
  cases a <;> cases b <;> cases c <;> cases d <;> cases e <;> decide +kernel
theorem ws_sub (k : Kinds) : ∀ w ∈ k.ws, w ∈ allW := by
  obtain ⟨a, b, c, d, e⟩ := k
  cases a <;> cases b <;> cases c <;> cases d <;> cases e <;> decide +kernel
theorem ws_inj {k l : Kinds} : k.ws = l.ws ↔ k = l := by
  constructor
  · intro h
    obtain ⟨a, b, c, d, e⟩ := k
    obtain ⟨a', b', c', d', e'⟩ := l
    have f : ∀ w : Str, decide (w ∈ (⟨a, b, c, d, e⟩ : Kinds).ws) = decide (w ∈ (⟨a', b', c', d', e'⟩ : Kinds).ws) := fun w => by rw [h]
    have g : ∀ k : Kinds, decide (("back" : Str) ∈ k.ws) = k.ba ∧ decide (("both" : Str) ∈ k.ws) = k.bo ∧ decide (("hide" : Str) ∈ k.ws) = k.hi ∧ decide (("stage" : Str) ∈ k.ws) = k.st ∧ decide (("throw" : Str) ∈ k.ws) = k.th := fun k => by
      obtain ⟨a, b, c, d, e⟩ := k
      cases a <;> cases b <;> cases c <;> cases d <;> cases e <;> decide +kernel
    obtain ⟨p1, p2, p3, p4, p5⟩ := g ⟨a, b, c, d, e⟩
    obtain ⟨q1, q2, q3, q4, q5⟩ := g ⟨a', b', c', d', e'⟩
    rw [f] at p1 p2 p3 p4 p5
    have e1 : a' = a := q1.symm.trans p1
    have e2 : b' = b := q2.symm.trans p2
    have e3 : c' = c := q3.symm.trans p3
    have e4 : d' = d := q4.symm.trans p4
    have e5 : e' = e := q5.symm.trans p5
    rw [e1, e2, e3, e4, e5]
  · intro h
    rw [h]
/-! ### a dict comprehension over what is walked -/
theorem dc_it {J : It} {n : Nat} {G : Hp → Prop} {Y : Nat → Hp → V → Hp → Prop} (wk : Walk J n G Y) {g : TG} {tt : TT} {tk tv : TE} {vs : List Nat} {σ : L2.St} {H1 : Hp} {D : Addr} {Qd : Hp → Prop} (Pv : Nat → Hp → Prop) (h0 : Pv 0 (upd H1 D (.dK []))) (hG : ∀ i H, i ≤ n → Pv i H → G H)
    (hs : ∀ i x H H', i < n → Pv i H → Y i H x H' → g x (wipe σ vs) H' fun σ2 H2 => wipe σ2 vs = wipe σ vs ∧ tt σ2 H2 fun b H3 =>
      if b = true then tk σ2 H3 fun y H4 => tv σ2 H4 fun z H5 => ∃ kvs k, y = kV k ∧ H5 D = some (.dK kvs) ∧ kvs.length < sizeLine ∧ Pv (i + 1) (upd H5 D (.dK (putK kvs k z))) else Pv (i + 1) H3) (hd : ∀ H, Pv n H → Qd H) :
    ∃ W : Nat → Nat → Hp → Prop, (∃ m, W 0 m (upd H1 D (.dK []))) ∧ ∀ i m H, W i m H →
      (J.stop i H ∧ Qd H) ∨ (J.go i H ∧ ∃ Nx : Hp → Prop, (∀ H', Nx H' → ∃ m', m' < m ∧ W (i + 1) m' H') ∧ ∀ x H', J.yld i H x H' → g x (wipe σ vs) H' fun σ2 H2 => wipe σ2 vs = wipe σ vs ∧ tt σ2 H2 fun b H3 =>
        if b = true then tk σ2 H3 fun y H4 => tv σ2 H4 fun z H5 => ∃ kvs k, y = kV k ∧ H5 D = some (.dK kvs) ∧ kvs.length < sizeLine ∧ Nx (upd H5 D (.dK (putK kvs k z))) else Nx H3) := by
  refine ⟨fun i m H => m = n - i ∧ i ≤ n ∧ Pv i H, ⟨n, rfl, Nat.zero_le _, h0⟩, ?_⟩
  rintro i m H ⟨rfl, hi, p⟩
  have q := hG i H hi p
  rcases Nat.lt_or_ge i n with hlt | hge
  · exact .inr ⟨wk.goes i H hlt q, Pv (i + 1), fun H' p' => ⟨n - (i + 1), by omega, rfl, hlt, p'⟩, fun x H' y => hs i x H H' hlt p (wk.yields i H x H' hlt q y)⟩
  · obtain rfl : i = n := by omega
    exact .inl ⟨wk.stops H q, hd H p⟩
/-! ### == of what two books hold -/
theorem shaped_strs : ∀ ws : List Str, (∀ w ∈ ws, w ∈ allW) → SeqAt.shaped (.tuple (ws.map PyData.str)) = true := by
  have h1 : ∀ ws : List Str, (∀ w ∈ ws, w ∈ allW) → PyData.canLayAll0 (ws.map PyData.str) = true ∧ PyData.depthAll (ws.map PyData.str) = 0 := by
    intro ws
    induction ws with
    | nil => intro _; exact ⟨rfl, rfl⟩
    | cons w r ih =>
      intro h
      obtain ⟨i1, i2⟩ := ih fun x hx => h x (List.mem_cons_of_mem _ hx)
      have hw := h w List.mem_cons_self
      have ok : PyData.canLay0 (.str w) = true := by
        simp only [allW, List.mem_cons, List.not_mem_nil, or_false] at hw
        rcases hw with e | e | e | e | e <;> (rw [e]; decide +kernel)
      exact ⟨by rw [List.map_cons, PyData.canLayAll0, ok, i1]; rfl, by rw [List.map_cons, PyData.depthAll, i2]; rfl⟩
  intro ws h
  obtain ⟨i1, i2⟩ := h1 ws h
  unfold SeqAt.shaped
  rw [PyData.canLay0, i1, PyData.depth, i2]
  rfl
theorem eqv_strs : ∀ ws us : List Str, PyData.eqvAll (ws.map PyData.str) (us.map PyData.str) = decide (ws = us)
  | [], [] => rfl
  | [], _ :: _ => rfl
  | _ :: _, [] => rfl
  | w :: ws, u :: us => by
    rw [List.map_cons, List.map_cons, PyData.eqvAll, eqv_strs ws us, PyData.eqv]
    by_cases e : w = u
    · subst e
      simp
    · have e2 : (w == u) = false := by simpa using e
      rw [e2, Bool.false_and]
      exact (decide_eq_false fun q => e (List.cons.inj q).1).symm
theorem dp_strs {K : PySem.W.Frag} {H : Hp} : ∀ ws : List Str, DpAll K H (ws.map V.str) (ws.map PyData.str)
  | [] => .nil
  | w :: r => .cons (.str w) (dp_strs r)
theorem val_kv (r : Rule) (k : Str) (v : V) (h : (Sum.inr k, v) ∈ r.kv) (r' : Rule) : ∃ x x', v = .str x ∧ valV r'.kv (Sum.inr k : Key) = some (.str x') := by
  have h' : (Sum.inr k, v) ∈ ([(Sum.inr (Str.ofString "along"), .str (bif r.al then "links" else "alone")), (Sum.inr (Str.ofString "clash"), .str (bif r.cl then "refuse" else "last")), (Sum.inr (Str.ofString "drafts"), .str (bif r.dr then "own" else "one")), (Sum.inr (Str.ofString "leads"), .str (bif r.le then "nothing" else "draft")), (Sum.inr (Str.ofString "restores"), .str (bif r.re then "nothing" else "before")), (Sum.inr (Str.ofString "staged"), .str (bif r.sg then "then" else "now"))] : List (Key × V)) := h
  simp only [List.mem_cons, List.not_mem_nil, or_false, Prod.mk.injEq, Sum.inr.injEq] at h'
  rcases h' with ⟨rfl, rfl⟩ | ⟨rfl, rfl⟩ | ⟨rfl, rfl⟩ | ⟨rfl, rfl⟩ | ⟨rfl, rfl⟩ | ⟨rfl, rfl⟩ <;> exact ⟨_, _, rfl, rfl⟩
theorem bw {x y : Str} {a b : Bool} (h : (V.str (bif a then x else y)) = V.str (bif b then x else y)) (n : x ≠ y) : a = b := by
  cases a <;> cases b
  · rfl
  · injection h with h
    exact absurd h.symm n
  · injection h with h
    exact absurd h n
  · rfl
theorem kv_val (r : Rule) : valV r.kv (Sum.inr (Str.ofString "along") : Key) = some (.str (bif r.al then "links" else "alone")) ∧ valV r.kv (Sum.inr (Str.ofString "clash") : Key) = some (.str (bif r.cl then "refuse" else "last")) ∧
    valV r.kv (Sum.inr (Str.ofString "drafts") : Key) = some (.str (bif r.dr then "own" else "one")) ∧ valV r.kv (Sum.inr (Str.ofString "leads") : Key) = some (.str (bif r.le then "nothing" else "draft")) ∧
    valV r.kv (Sum.inr (Str.ofString "restores") : Key) = some (.str (bif r.re then "nothing" else "before")) ∧ valV r.kv (Sum.inr (Str.ofString "staged") : Key) = some (.str (bif r.sg then "then" else "now")) := ⟨rfl, rfl, rfl, rfl, rfl, rfl⟩
theorem rule_ext {r s : Rule} (h : ∀ k ∈ pn, valV r.kv (Sum.inr k : Key) = valV s.kv (Sum.inr k : Key)) : r = s := by
  obtain ⟨a1, a2, a3, a4, a5, a6⟩ := kv_val r
  obtain ⟨b1, b2, b3, b4, b5, b6⟩ := kv_val s
  have go : ∀ {k : Str}, k ∈ pn → ∀ {x y : V}, valV r.kv (Sum.inr k : Key) = some x → valV s.kv (Sum.inr k : Key) = some y → x = y := fun hk x y h1 h2 => by
    rw [h _ hk, h2] at h1
    exact (Option.some.inj h1).symm
  have e1 := bw (go (by decide +kernel) a1 b1) (by decide +kernel)
  have e2 := bw (go (by decide +kernel) a2 b2) (by decide +kernel)
  have e3 := bw (go (by decide +kernel) a3 b3) (by decide +kernel)
  have e4 := bw (go (by decide +kernel) a4 b4) (by decide +kernel)
  have e5 := bw (go (by decide +kernel) a5 b5) (by decide +kernel)
  have e6 := bw (go (by decide +kernel) a6 b6) (by decide +kernel)
  obtain ⟨x1, x2, x3, x4, x5, x6⟩ := r
  obtain ⟨y1, y2, y3, y4, y5, y6⟩ := s
  exact (Rule.mk.injEq ..).mpr ⟨e1, e2, e3, e4, e5, e6⟩
theorem kv_keys (r : Rule) : r.kv.map (·.1) = pn.map Sum.inr := rfl
section
variable {X : Cx}
def rEqBk (K : PySem.W.Frag) : R2 := fun x y H Q => ∃ (t1 t2 d1 d2 k1 k2 : Addr) (b1 b2 : Bk), x = .ref t1 ∧ y = .ref t2 ∧ SqT K H t1 [.int b1.people, .ref d1, .ref k1] ∧ SqT K H t2 [.int b2.people, .ref d2, .ref k2] ∧
  H d1 = some (.dK b1.r.kv) ∧ H d2 = some (.dK b2.r.kv) ∧ SqT K H k1 (b1.k.ws.map V.str) ∧ SqT K H k2 (b2.k.ws.map V.str) ∧ Q (.bl (decide (b1 = b2))) H
theorem op_eqBk (hu : X.A.units + 200 < cLine) : OpR X (compareOp .Eq) (rEqBk X.K) := by
  intro pins s σ H x y v u Q I rx ry h
  obtain ⟨t1, t2, d1, d2, k1, k2, b1, b2, rfl, rfl, h1, h2, e1, e2, s1, s2, q⟩ := h
  cases rx
  cases ry
  obtain ⟨i1, r1, T1, _⟩ := I.tuple h1
  obtain ⟨i2, r2, T2, _⟩ := I.tuple h2
  obtain ⟨z1, l1, vs1, kv1, D1⟩ := (show ObjOk X.prog X.w H s.heap d1 (.dK b1.r.kv) from I.hok d1 _ e1)
  obtain ⟨z2, l2, vs2, kv2, D2⟩ := (show ObjOk X.prog X.w H s.heap d2 (.dK b2.r.kv) from I.hok d2 _ e2)
  cases r1 with
  | @cons _ p1 _ _ rp1 r1 =>
  cases r1 with
  | @cons _ q1 _ _ rq1 r1 =>
  cases r1 with
  | @cons _ w1' _ _ rw1 r1 =>
  cases r1
  cases r2 with
  | @cons _ p2 _ _ rp2 r2 =>
  cases r2 with
  | @cons _ q2 _ _ rq2 r2 =>
  cases r2 with
  | @cons _ w2' _ _ rw2 r2 =>
  cases r2
  obtain ⟨tk1, rfl⟩ := rp1
  obtain ⟨tk2, rfl⟩ := rp2
  obtain rfl : q1 = Value.ref d1 := rq1
  obtain rfl : q2 = Value.ref d2 := rq2
  obtain rfl : w1' = Value.ref k1 := rw1
  obtain rfl : w2' = Value.ref k2 := rw2
  have f0 : PySem.W.EqTree X.prog X.w s 100 (.int b1.people tk1) (.int b2.people tk2) (b1.people == b2.people) := .leaf fun A _ => SeqAt.EqAt.int_int _ _ _ _
  have f2 : PySem.W.EqTree X.prog X.w s 100 (.ref k1) (.ref k2) (PyData.eqv (.tuple (b1.k.ws.map PyData.str)) (.tuple (b2.k.ws.map PyData.str))) := .leaf fun A hA => by
    obtain ⟨as, ra⟩ := Dp.reads I _ _ _ (.tup s1 (dp_strs _)) (show RelV (.ref k1) (.ref k1) from rfl)
    obtain ⟨bs, rb⟩ := Dp.reads I _ _ _ (.tup s2 (dp_strs _)) (show RelV (.ref k2) (.ref k2) from rfl)
    have g1 := shaped_strs b1.k.ws (ws_sub _)
    have g2 := shaped_strs b2.k.ws (ws_sub _)
    unfold SeqAt.shaped at g1 g2
    rw [Bool.and_eq_true] at g1 g2
    have d64 := of_decide_eq_true g1.2
    exact SeqAt.eqAt_reads _ _ A s _ _ as bs ra rb g1.1 g2.1 (by omega)
  have f1 : ∃ bb, PySem.W.EqTree X.prog X.w s 100 (.ref d1) (.ref d2) bb ∧ bb = decide (b1.r = b2.r) := by
    by_cases hd : d1 = d2
    · subst hd
      rw [e1] at e2
      have er : b1.r = b2.r := by
        have e3 := Option.some.inj e2
        injection e3 with e3
        exact rule_ext fun k _ => by rw [e3]
      exact ⟨true, .same, by rw [er]; simp⟩
    · refine ⟨_, .dicts (n := 99) (knd := mixKind X.prog X.w) (e := fun k => decide (valV b1.r.kv k = valV b2.r.kv k)) hd l1 l2 D1 D2 (fun k v y hm hy => ?_), ?_⟩
      · obtain ⟨i, hi⟩ := List.mem_iff_getElem?.mp hm
        have hl : vs1.length = b1.r.kv.length := (KV.length kv1).symm
        have hi1 : i < b1.r.kv.length := by rw [← hl]; exact (List.getElem?_eq_some_iff.mp hi).1
        obtain ⟨u, hu, ru⟩ := kv_get (k := (b1.r.kv[i]).1) (v := (b1.r.kv[i]).2) kv1 (List.getElem?_eq_getElem hi1)
        rw [hi] at hu
        have hu2 := Prod.mk.inj (Option.some.inj hu)
        obtain ⟨z1, z2⟩ := hu2
        have hmem : (k, (b1.r.kv[i]).2) ∈ b1.r.kv := by
          rw [z1]
          exact List.getElem_mem hi1
        have hkp : k ∈ pn.map Sum.inr := by
          rw [← kv_keys b1.r]
          exact List.mem_map.mpr ⟨_, hmem, rfl⟩
        obtain ⟨kk, hkk, rfl⟩ := List.mem_map.mp hkp
        obtain ⟨x, x', ex, ex'⟩ := val_kv _ _ _ hmem b2.r
        obtain ⟨x2, xx, ex2, ex2'⟩ := val_kv _ _ _ hmem b1.r
        have q1 := KV.val kv1 (Sum.inr kk : Key)
        have q2 := KV.val kv2 (Sum.inr kk : Key)
        rw [ex2', valueAt_of_mem (by rw [← KV.keys kv1, kv_keys]; decide +kernel) hm] at q1
        rw [ex', hy] at q2
        obtain ⟨ta, rfl⟩ := q1
        obtain ⟨tb, rfl⟩ := q2
        refine .leaf fun A _ => ?_
        have e := SeqAt.EqAt.str_str (A := A) (s := s) xx ta x' tb
        rw [ex2', ex']
        have e5 : decide (some (V.str xx) = some (V.str x')) = (xx == x') := by
          by_cases q : xx = x'
          · subst q; simp
          · have : (xx == x') = false := by simpa using q
            rw [this]
            exact decide_eq_false fun z => q (V.str.inj (Option.some.inj z))
        rw [e5]
        exact e
      · have hl : vs1.length = vs2.length := by rw [← KV.length kv1, ← KV.length kv2]; rfl
        rw [hl, BEq.rfl, Bool.true_and, Bool.eq_iff_iff, List.all_eq_true, decide_eq_true_iff]
        constructor
        · intro h
          refine rule_ext fun k hk => ?_
          have : (Sum.inr k : Key) ∈ vs1.map (·.1) := by
            rw [← KV.keys kv1, kv_keys]
            exact List.mem_map.mpr ⟨k, hk, rfl⟩
          obtain ⟨p, hp, ep⟩ := List.mem_map.mp this
          have := (Bool.and_eq_true_iff.mp (h p hp)).2
          rw [ep] at this
          exact of_decide_eq_true this
        · intro er p hp
          have hk : p.1 ∈ vs2.map (·.1) := by
            rw [← KV.keys kv2, kv_keys, ← kv_keys b1.r, KV.keys kv1]
            exact List.mem_map.mpr ⟨p, hp, rfl⟩
          obtain ⟨p2, hp2, ep2⟩ := List.mem_map.mp hk
          have nd : (vs2.map (·.1)).Nodup := by rw [← KV.keys kv2, kv_keys]; decide +kernel
          rw [er, valueAt_of_mem nd (show (p.1, p2.2) ∈ vs2 by rw [← ep2]; exact hp2)]
          simp
  obtain ⟨bb, f1, eb⟩ := f1
  refine PySem.W.eq_tuplesT (n := 100) (e := fun j => match j with | 0 => (b1.people == b2.people) | 1 => bb | _ => PyData.eqv (.tuple (b1.k.ws.map PyData.str)) (.tuple (b2.k.ws.map PyData.str))) T1 T2 (fun j g1 g2 => ?_) (by omega) ⟨.bl (decide (b1 = b2)), H, I, ?_, q⟩
  · match j, g1, g2 with
    | 0, _, _ => exact f0
    | 1, _, _ => exact f1
    | 2, _, _ => exact f2
    | j + 3, g, _ => exact absurd g (by simp)
  · show Value.bool _ = Value.bool _
    congr 1
    have e3 : PyData.eqv (.tuple (b1.k.ws.map PyData.str)) (.tuple (b2.k.ws.map PyData.str)) = decide (b1.k = b2.k) := by
      rw [PyData.eqv, eqv_strs]
      exact decide_eq_decide.mpr ws_inj
    have e1 : (b1.people == b2.people) = decide (b1.two = b2.two) := by
      unfold Bk.people
      cases b1.two <;> cases b2.two <;> rfl
    show (((b1.people == b2.people) && (bb && (PyData.eqv (.tuple (b1.k.ws.map PyData.str)) (.tuple (b2.k.ws.map PyData.str)) && true))) && true) = _
    rw [e1, e3, eb]
    obtain ⟨a1, a2, a3⟩ := b1
    obtain ⟨c1, c2, c3⟩ := b2
    simp only [Bk.mk.injEq, Bool.and_true, Bool.decide_and]
/-- == by the left one's own __eq__ -/
def rEqOwn (K : PySem.W.Frag) (C : Addr) (sp : Sp) : R2 := fun x y H Q => ∃ (a dx : Addr) (fs : List (Str × V)) (t : Value), x = .ref a ∧ H a = some (.ins C dx fs) ∧ TyX K H y t ∧ PySem.W.notFirst K C t = true ∧ sp [x, y] H (fun v H' => ∃ b, v = .bl b ∧ Q (.bl b) H') E0
theorem op_eqOwn {n : Nat} {C f : Addr} {fd : FuncData} {ps : List Str} {sp : Sp} {K : PySem.W.Frag} (F : FnOk X.prog X.w X.K X.mg X.base CX0 n f fd ps sp) (hr : Room n X.A) (hs : PySem.W.findIn X.K (.ref C) "__eq__" = some (some (.ref f))) (hf : PySem.W.isFn X.K (.ref f) = true)
    (hb : Binds X.K fd ps []) (hK : X.K = K := by rfl) : OpR X (compareOp .Eq) (rEqOwn K C sp) := by
  subst hK
  intro pins s σ H x y v u Q I rx ry h
  obtain ⟨a, dx, fs, t, rfl, ha, ty, nf, hsp⟩ := h
  cases rx
  obtain ⟨mA, J, _⟩ := ins_get I.hok ha
  obtain ⟨od, J, _⟩ := J.look
  obtain ⟨m, hF⟩ := I.fr
  obtain ⟨Pk, kx, hp, _⟩ := kit_of I ry ty
  show wpAny (model X.prog X.w) X.A (richCompare .Eq (.ref a) u) (EP X pins σ Q) X.xe s
  refine PySem.W.cmp_K (op := .Eq) (tb := t) hr.units0 hF I.ok.mod.kin J (kx.ty _ _ I.kIn hp) nf hs hf ?_
  have hl := F.len _ _ _ _ hsp
  refine wpAny_call (codeAny_mono (F.run X.A X.stack s H ⟨[.ref a, u], []⟩ [.ref a, u] [.ref a, y] _ E0 hr I.env0 (by
    have := hb s [.ref a, u] I.kIn (by simpa using hl)
    simpa using this) (.cons rfl (.cons ry .nil)) hsp) fun r s' hq => ?_)
  cases r with
  | error e => exact False.elim hq
  | ok fl =>
    cases fl with
    | ret w' =>
      obtain ⟨z, H', I', rz, b, ez, q⟩ := I.after hq
      subst ez
      cases rz
      exact ⟨.bl b, H', I', rfl, q⟩
    | next => exact False.elim hq
    | brk => exact False.elim hq
    | cont => exact False.elim hq
end
end SD
/-! drawn choices -/
namespace SD
open PySem L2
def pickB {α : Type} (ws : List α) (bs : List Bool) : List α := (ws.zip bs).filterMap fun p => bif p.2 then some p.1 else none
theorem pickB_snoc {α : Type} {w : α} {b : Bool} : ∀ {ws : List α} {bs : List Bool}, ws[bs.length]? = some w → pickB ws (bs ++ [b]) = pickB ws bs ++ (bif b then [w] else [])
  | [], _, h => by cases h
  | x :: ws, [], h => by
    obtain rfl : x = w := Option.some.inj h
    cases b <;> cases ws <;> rfl
  | x :: ws, c :: bs, h => by
    have ih := pickB_snoc (b := b) (ws := ws) (bs := bs) h
    cases c
    · exact ih
    · exact congrArg (x :: ·) ih
theorem pickB_len {α : Type} : ∀ (ws : List α) (bs : List Bool), (pickB ws bs).length ≤ bs.length
  | [], _ => Nat.zero_le _
  | _ :: _, [] => Nat.zero_le _
  | x :: ws, c :: bs => by
    have ih := pickB_len ws bs
    cases c
    · exact Nat.le_succ_of_le ih
    · exact Nat.succ_le_succ ih
theorem pickB_ws {bs : List Bool} (h : bs.length = 5) : ∃ k : Kinds, pickB allW bs = k.ws := by
  match bs, h with
  | [a, b, c, d, e], _ => exact ⟨⟨a, b, c, d, e⟩, by cases a <;> cases b <;> cases c <;> cases d <;> cases e <;> rfl⟩
def cIsi (x : Str) : Chk := fun K => He.eqO (PySem.W.findIn K (.ref (He.ga K x)) "__class__") (some (some (.builtin "object.__class__"))) && (He.eqO (PySem.W.specialIn K (.builtin "object.__class__") "__get__") (some (some (.builtin "getset_descriptor.__get__"))) &&
  (decide (PySem.W.takesIn K (.builtin "object.__class__") = some true) && decide (PySem.W.mroIn K (He.ga K x) (.type "object") = some true)))
theorem dp_strT {K : PySem.W.Frag} {v : V} {ws : List Str} (h : ∀ H, Dp K H v (.tuple (ws.map PyData.str))) : ∃ a, v = .ref a ∧ ∀ H, SqT K H a (ws.map V.str) := by
  have go : ∀ (ws : List Str) (xs : List V) (H : Hp), DpAll K H xs (ws.map PyData.str) → xs = ws.map V.str := by
    intro ws
    induction ws with
    | nil => intro xs H h; cases h; rfl
    | cons w r ih =>
      intro xs H h
      cases h with
      | cons h1 h2 =>
        cases h1
        rw [ih _ H h2]
        rfl
  obtain ⟨a, rfl⟩ : ∃ a, v = .ref a := by
    cases h (fun _ => none) with
    | tup _ _ => exact ⟨_, rfl⟩
  refine ⟨a, rfl, fun H => ?_⟩
  cases h H with
  | tup hs ha =>
    rw [← go _ _ H ha]
    exact hs
theorem Dr.ats {H : Hp} {p c : Addr} (d : Dr H p c) : (∃ o, H p = some o) ∧ ∃ o, H c = some o := by
  obtain ⟨_, _, _, d⟩ := d
  exact ⟨⟨_, d.hp⟩, ⟨_, d.hc⟩⟩
/-- what is new stands apart from the source of draws -/
theorem Dr.new {H : Hp} {p c q : Addr} (d : Dr H p c) (h : H q = none) : q ≠ p ∧ q ≠ c := by
  obtain ⟨⟨_, hp⟩, ⟨_, hc⟩⟩ := d.ats
  exact ⟨(ne_of_none hp h).symm, (ne_of_none hc h).symm⟩
theorem Dr.keep {H H' : Hp} {p c q : Addr} {o : HO} (d : Dr H p c) (f : Fr2 p c H H') (h : H q = some o) (n : ∀ xs, o ≠ .lst xs) : H' q = some o := by
  obtain ⟨_, _, _, d⟩ := d
  have a := d.apart h ⟨n _, n _⟩
  exact f _ _ a.1 a.2 h
theorem Dr.one {H : Hp} {p c q : Addr} {o : HO} (d : Dr H p c) (n : q ≠ p ∧ q ≠ c) : Dr (upd H q o) p c := by
  obtain ⟨st, ix, cs, d⟩ := d
  exact ⟨st, ix, cs, by rw [upd_ne n.1.symm]; exact d.hp, by rw [upd_ne n.2.symm]; exact d.hc, d.s1, d.s2, d.i0, d.len⟩
theorem Dr.ap {H : Hp} {p c q : Addr} {o : HO} (d : Dr H p c) (h : H q = some o) (n : ∀ xs, o ≠ .lst xs) : q ≠ p ∧ q ≠ c := by
  obtain ⟨_, _, _, d⟩ := d
  exact d.apart h ⟨n _, n _⟩
theorem tz {α : Type} {xs : List α} (n : Nat) (h : xs.length = n) (hn : n ≤ 40 := by decide) : xs.length ≤ sizeLine := by
  rw [sizeLine_eq]
  omega
theorem fr_free {H H' : Hp} {p c q : Addr} (d : Dr H p c) (f : Fr2 p c H H') (n : H' q = none) (d' : Dr H' p c) : H q = none := by
  obtain ⟨np, nc⟩ := d'.new n
  cases e : H q with
  | none => rfl
  | some o =>
    have := f q o np nc e
    rw [n] at this
    cases this
theorem str_ne {x : Str} {xs : List V} {cs : List Int} {st ix : Int} {c : Addr} : HO.lst (.str x :: xs) ≠ HO.lst [.int st, .ref c, .int ix] ∧ HO.lst (.str x :: xs) ≠ HO.lst (cs.map V.int) := by
  constructor
  · intro e
    injection e with e
    cases e
  · intro e
    injection e with e
    cases cs with
    | nil => cases e
    | cons a r => cases e
theorem Dr.keepS {H H' : Hp} {p c q : Addr} {x : Str} {xs : List V} (d : Dr H p c) (f : Fr2 p c H H') (h : H q = some (.lst (.str x :: xs))) : H' q = some (.lst (.str x :: xs)) := by
  obtain ⟨_, _, _, d⟩ := d
  have a := d.apart h str_ne
  exact f _ _ a.1 a.2 h
theorem Dr.apS {H : Hp} {p c q : Addr} {x : Str} {xs : List V} (d : Dr H p c) (h : H q = some (.lst (.str x :: xs))) : q ≠ p ∧ q ≠ c := by
  obtain ⟨_, _, _, d⟩ := d
  exact d.apart h str_ne
end SD
/-! errors over ValueError whose __init__ says super().__init__(text) and keeps at most one field -/
namespace SD
open PySem PySem.Spec PyProof.Rows L2
open PySem.W PySem.Calls PySem.HandSPX
/-- the first row of such an __init__ -/
def supRow (txt : Str) (k : Nat) (a b c d e f : Pos) : Stmt := .Expr (.Call (.Attribute (.Call (.Name "super" a) [] [] b) "__init__" c) [.Constant (.str txt) k d] [] e) f
/-- the second -/
def fldRow (x : Str) (a b c d : Pos) : Stmt := .Assign [.Attribute (.Name "self" a) x b] (.Name x c) d
structure IniSc (q : Str) (S : Scope) (txt : Str) (kk : Nat) (a b c d e : Pos) : Prop where
  ia : ∀ L f cdv cc, interactive (ksEnv q S L f cdv cc) = false
  ev : ∀ L f cdv cc, ∃ pl : Sem Bool, eval (.Call (.Attribute (.Call (.Name "super" a) [] [] b) "__init__" c) [.Constant (.str txt) kk d] [] e) (ksEnv q S L f cdv cc) = (do
      let ov ← attributeBase (.Call (.Name "super" a) [] [] b) "__init__" (ksEnv q S L f cdv cc) (eval (.Call (.Name "super" a) [] [] b) (ksEnv q S L f cdv cc))
      standAt c.atName
      let (f', first) ← holding [ov] (getMethod ov "__init__" pl)
      callWith e f' first (backTo e (starEach [.Constant (.str txt) kk d] (ksEnv q S L f cdv cc))) [])
  k : S.kind = .function
  su : S.names.lookup ("super" : Str) = some .globalImplicit
  cl : S.names.lookup ("__class__" : Str) = some .free
  se : S.names.lookup ("self" : Str) = some .local
  nc : ∀ x ∈ S.names, x.2 ≠ .cell
  co : S.isCoroutine = false
  ge : S.isGenerator = false
/-- what the written part says of the class named x, at C, and of its __init__ at fI -/
structure ErrTxt (P : Program) (K : PySem.W.Frag) (mg : Str → Option Value) (x : Str) (fld : Option Str) (C fI : Addr) : Prop where
  gC : mg x = some (.ref C)
  gS : mg "super" = none
  cls : ∃ nm q N bs bm sn sub ab col dd k0 k1 k2 k3 k5, K.lookup C = some (excClassObj nm q C N bs bm true sn sub ab col dd k0 k1 k2 k3 k5 "ValueError.__new__") ∧ refsVE bm = true
  sa : findIn K (.ref C) "__setattr__" = some (some (.builtin "object.__setattr__"))
  ga : findIn K (.ref C) "__getattribute__" = some (some (.builtin "BaseException.__getattribute__"))
  gg : findIn K (.ref C) "__getattr__" = some none
  noN : ∀ n, fld = some n → findIn K (.ref C) n = some none
  iC : findIn K (.ref C) "__init__" = some (some (.ref fI))
  tC : typeIn K (.ref fI) = some (.type "function")
  kC : keepIn K (.ref C) = true
  exC : subIn K (.ref C) (.type "BaseException") = some true
  tyC : typeIn K (.ref C) = some (.type "type")
  hdC : hasDictIn K C = true
  te : exmOne K (.ref C) (.ref C) = some true
  op : nsIn K cStatics "thirdparty.any" = some none
  sI : ks_superIn K C C "__init__" = some (some (.builtin "ValueError.__init__"))
  sB : subIn K (.ref C) (.type "ValueError") = some true
  mr : mroIn K C (.ref C) = some true
  top : (P.main.scope.names.lookup ("super" : Str)).isSome = false
  fn : ∃ (oc : Value) (od : Option Addr) (kV doc pm : Value) (an : Option Addr) (cda : Addr) (ct : Value) (osl : Array (Option Value)) (cc : Addr) (ccl : Value) (cdd : Option Addr) (vs : Array Value) (ccs : Array (Option Value)) (cl : Value) (cld : Option Addr) (csl : Array (Option Value)) (file : Str) (tf : Tok) (q : Str)
      (S : Scope) (AS : Arguments) (txt : Str) (kk : Nat) (a b c d e f a2 b2 c2 d2 : Pos) (ps : Pos) (rest : List Arg),
    K.lookup fI = some ⟨oc, od, .func (ksFn "__init__" q AS (supRow txt kk a b c d e f :: (match fld with | none => [] | some n => [fldRow n a2 b2 c2 d2])) S .none kV doc pm an (.ref cda) ct cc), osl⟩ ∧ codeIn K (.ref cda) q = true ∧
    K.lookup cda = some ⟨ccl, cdd, .fields vs, ccs⟩ ∧ vs[2]? = some (.str file tf) ∧ ((P.main.file : Str) == file) = true ∧ K.lookup cc = some ⟨cl, cld, .cell (some (.ref C)), csl⟩ ∧ IniSc q S txt kk a b c d e ∧
    (AS.posonlyargs ++ AS.args).head? = some ⟨"self", none, ps⟩ ∧ txt.length ≤ 1000 ∧
    (match fld with
      | none => ∀ kV doc pm an ct v, bindArgs (ksFn "__init__" q AS (supRow txt kk a b c d e f :: []) S .none kV doc pm an (.ref cda) ct cc) ⟨[v], []⟩ = pure ([(("self" : Str), v)] : List (Str × Value))
      | some n => S.names.lookup n = some .local ∧ (n == ("self" : Str)) = false ∧ (n == ("__debug__" : Str)) = false ∧ ∀ kV doc pm an ct v u, bindArgs (ksFn "__init__" q AS (supRow txt kk a b c d e f :: [fldRow n a2 b2 c2 d2]) S .none kV doc pm an (.ref cda) ct cc) ⟨[v, u], []⟩ = pure ([(("self" : Str), v), (n, u)] : List (Str × Value)))
section
variable {prog : Program} {w : World} {A : Around} {E : Value → Shared → Prop} {R : Result → Shared → Prop} {s : Shared} {K : PySem.W.Frag} {mg : Str → Option Value} {C fI : Addr} {x : Str}
theorem one_le (v : Value) : [v].length ≤ sizeLine := by
  rw [sizeLine_eq]
  exact (by decide : 1 ≤ 16777216)
/-- ValueError.__init__ bound to the exception, called with a text -/
theorem vcall_bw {h : Heap} {g : Array GenState} {d : Drawn} {t : Nat} {os : OsState} {nm q : Str} {N : Addr} {bs bm : List Value} {sn : List Str} {sub : List Value} {ab : Bool} {col : Option Bool} {dd : Option Addr} {k0 k1 k2 k3 k5 : Option Value} {u e t0 : Addr} {rest : List Value} {Q : Value → Shared → Prop}
    (hC : h.get? C = some (excClassObj nm q C N bs bm true sn sub ab col dd k0 k1 k2 k3 k5 "ValueError.__new__")) (he : h.get? e = some (excO C t0)) (hu : h.get? u = some (kxs_mw "ValueError.__init__" e)) (hrest : rest.length ≤ sizeLine)
    (hq : ∀ h' t1, (∀ b o, b ≠ e → h.get? b = some o → h'.get? b = some o) → h'.get? e = some (excO C t1) → Q .none ⟨h', g, d, t, os⟩) :
    wpAny (model prog w) A (call (.ref u) rest) Q E ⟨h, g, d, t, os⟩ := by
  refine wpAny_call (codeAny_of_tree ?_)
  show wpAny _ A.in1 (callAny (.ref u) ⟨rest, []⟩) _ _ _
  simp only [callAny]
  refine wpAny_bind (wpAny_load hu ?_)
  simp only [kxs_mw, show (Value.type "method-wrapper" == Value.type "method" || Value.type "method-wrapper" == Value.type "builtin_function_or_method" || Value.type "method-wrapper" == Value.type "method-wrapper") = true by decide, if_true]
  refine KFB.if_so (by decide) ?_
  refine wpAny_bind (check_bound_init F.excBase_ValueError.toExcCallFacts hC he rfl ?_)
  refine wpAny_bind (wpAny_pure (wpAny_pure ?_))
  refine ⟨plainId_quiet F.excBase_ValueError.init.plain _, codeAny_builtin F.excBase_ValueError.initEntry ?_⟩
  exact exc_init_tree (cls := .ref C) (t0 := t0) (dv := none) (c2 := .none) (c3 := .none) (b4 := .bool false) he hrest fun h' k e' _ => hq h' _ k e'
/-- the first row, run: the exception's args are laid anew, all else stands -/
theorem err_row {P : Program} {fld : Option Str} (T : ErrTxt P K mg x fld C fI) {q : Str} {S : Scope} {AS : Arguments} {body0 body rest : List Stmt} {kV doc pm : Value} {an : Option Addr} {cda cc L e t0 : Addr} {ct oc : Value} {od : Option Addr} {osl : Array (Option Value)}
    {ccl cl : Value} {cdd cld : Option Addr} {vs : Array Value} {ccs csl : Array (Option Value)} {file : Str} {tf : Tok} {ps : Pos} {txt : Str} {kk : Nat} {a b c d e' f : Pos} {m mb : Str → Option Value} {Q : Flow → Shared → Prop}
    (hfn : K.lookup fI = some ⟨oc, od, .func (ksFn "__init__" q AS body0 S .none kV doc pm an (.ref cda) ct cc), osl⟩) (hcode : K.lookup cda = some ⟨ccl, cdd, .fields vs, ccs⟩) (hvs : vs[2]? = some (.str file tf)) (hfile : ((P.main.file : Str) == file) = true)
    (hcell : K.lookup cc = some ⟨cl, cld, .cell (some (.ref C)), csl⟩) (SC : IniSc q S txt kk a b c d e') (hp : (AS.posonlyargs ++ AS.args).head? = some ⟨"self", none, ps⟩) (htx : txt.length ≤ 1000)
    (X : K.In s.heap) (hg : s.heap.Ns mainGlobals mg) (hb : s.heap.Ns builtinsNs mb) (hbl : mb "super" = bootBuiltins "super") (hn : s.heap.Ns L m) (hm : m "self" = some (.ref e)) (he : s.heap.get? e = some (excO C t0)) (hne : e ≠ C) (hLe : L ≠ e)
    (h : ∀ h' t1 tk, (∀ b o, b ≠ e → s.heap.get? b = some o → h'.get? b = some o) → h'.get? e = some (excO C t1) → h'.Ns L m → _root_.PySem.wpAt (model P w) A (.func body (ksEnv q S L fI (.ref cda) cc)) (execs rest (ksEnv q S L fI (.ref cda) cc)) Q E { s with heap := h', toks := tk }) :
    _root_.PySem.wpAt (model P w) A (.func body (ksEnv q S L fI (.ref cda) cc)) (execs (supRow txt kk a b c d e' f :: rest) (ksEnv q S L fI (.ref cda) cc)) Q E s := by
  obtain ⟨nm, qq, N, bs, bm, sn, sub, ab, col, dd, k0, k1, k2, k3, k5, hC, hbm⟩ := T.cls
  have hcl : clsIn K C = some { name := nm, bases := bs, mro := .ref C :: bm, ns := N, qualname := qq, hasDict := true, slotNames := sn, subclasses := sub, abstract := ab, collection := col, hasDel := false } := by unfold clsIn; rw [hC] <;> rfl
  unfold supRow
  refine ks_wpAt_execs_cons ?_
  refine ks_wpAt_Expr_any ?_ (SC.ia _ _ _ _)
  obtain ⟨pl, hpl⟩ := SC.ev L fI (.ref cda) cc
  refine ks_wpAt_MethodCall (pl := pl) ?_ hpl
  refine ks_wpAt_super_base (env := ksEnv q S L fI (.ref cda) cc) SC.su SC.cl (by decide) rfl (X _ _ hfn) rfl hp rfl (X _ _ hcode) rfl hvs hfile T.top ?_
  refine ks_loadName_global SC.k SC.su (loadGlobal_builtin (env := ksEnv q S L fI (.ref cda) cc) hg T.gS hb (hbl.trans (by decide +kernel)) ⟨rfl, ?_⟩)
  refine wpAny_loadName_free SC.k SC.cl rfl ⟨_, X _ _ hcell, rfl⟩ ?_
  refine wpAny_loadName_local SC.k SC.se hn hm ?_
  refine ks_wpAny_isType_cls (X _ _ hC) rfl ⟨rfl, ?_⟩
  obtain ⟨hp0, g, dr, tk, os⟩ := s
  refine ks_wpAny_call_super (X _ _ hC) rfl he rfl (fun c z => by cases z) (looks_mroIn X T.mr) (fun h1 e1 k1 => ?_)
  have X1 : K.In h1 := X.keeps k1
  have sI : alongIn K "__init__" (((Value.ref C :: bm).dropWhile (· != .ref C)).drop 1) = some (some (.builtin "ValueError.__init__")) := by
    have z := T.sI
    unfold ks_superIn at z
    rw [hcl] at z
    exact z
  have I1 : InstAt h1 e (excO C t0) C none := ⟨k1 _ _ he, rfl, rfl, trivial⟩
  refine kxs_getMethod kxs_ValueError e1 (looks_opaque X1 T.op) (l₀ := .ref C :: bm) ?_ rfl X1 sI (I1.type.andThen (looks_subIn X1 T.sB)) hne (by decide) ?_
  · exact fun A Q E s k q => wpAny_bind ((looks_clsIn X1 hcl) A _ E s k (wpAny_pure q))
  have X2 : K.In (h1.push (kxs_mw "ValueError.__init__" e)) := X1.keeps fun b o z => Heap.get?_push_of_some _ z
  refine kxs_callWith (i := "ValueError.__init__") (x := e) (by rfl) ?_
  show wpAny _ _ (evalArgs _ true (backTo e' (starEach [Expr.Constant (.str txt) kk d] _)) []) _ _ _
  refine evalArgs_plain ?_
  refine Calls.spliced_cons ?_
  show wpAny _ _ (eval (Expr.Constant (.str txt) kk d) _) _ _ _
  refine wpAny_Constant_str ?_
  refine Calls.spliced_nil ?_
  refine ⟨Heap.get?_push_at rfl rfl, ?_⟩
  have kk2 : ∀ b o, hp0.get? b = some o → (h1.push (kxs_mw "ValueError.__init__" e)).get? b = some o := fun b o z => Heap.get?_push_of_some _ (k1 b o z)
  refine vcall_bw (X2 _ _ hC) (kk2 _ _ he) (Heap.get?_push_at rfl rfl) (one_le _) fun h' t1 k2 e2 => ?_
  exact h h' t1 _ (fun b o hb z => k2 b o hb (kk2 b o z)) e2 (hn.at fun o z => k2 _ _ hLe (kk2 _ _ z))
/-- what such an __init__ leaves of a fresh exception at x -/
structure ErrEnd (h h' : Heap) (x C t1 : Addr) (fld : Option (Str × Value)) (dx : Option Addr) : Prop where
  keep : ∀ b o, b ≠ x → h.get? b = some o → h'.get? b = some o
  obj : h'.get? x = some { cls := .ref C, dict := dx, data := .fields #[.ref t1, .none, .none, .none, .bool false, .none] }
  fl : match fld with
    | none => dx = none
    | some (n, v) => ∃ d, dx = some d ∧ h.objs.size ≤ d ∧ d ≠ x ∧ h'.Ns1 d (fun y => if y = n then some v else none)
theorem err_init {P : Program} {fld : Option Str} (T : ErrTxt P K mg x fld C fI) {us : List Value} {e t0 : Addr} {mb : Str → Option Value} (X : K.In s.heap) (hlim : s.heap.NoLimit) (hg : s.heap.Ns mainGlobals mg) (hb : s.heap.Ns builtinsNs mb) (hbl : mb "super" = bootBuiltins "super")
    (he : s.heap.get? e = some (excO C t0)) (hne : e ≠ C) (hnx : K.lookup e = none) (hroom : A.depth < recursionLimit) (hus : us.length = (match fld with | none => 0 | some _ => 1))
    (hq : ∀ h' tk t1 dx, ErrEnd s.heap h' e C t1 (match fld, us with | some n, [v] => some (n, v) | _, _ => none) dx → R (.ok (.ret .none)) { s with heap := h', toks := tk }) :
    codeAny (model P w) A (.call (.ref fI) ⟨.ref e :: us, []⟩) R s := by
  obtain ⟨oc, od, kV, doc, pm, an, cda, ct, osl, cc, ccl, cdd, vs, ccs, cl, cld, csl, file, tf, q, S, AS, txt, kk, a, b, c, d, e', f, a2, b2, c2, d2, ps, rest, hfn, hcd, hcode, hvs, hfile, hcell, SC, hp, htx, hfl⟩ := T.fn
  obtain ⟨nm, qq, N, bs, bm, sn, sub, ab, col, dd, k0, k1, k2, k3, k5, hC, hbm⟩ := T.cls
  have hcl : clsIn K C = some { name := nm, bases := bs, mro := .ref C :: bm, ns := N, qualname := qq, hasDict := true, slotNames := sn, subclasses := sub, abstract := ab, collection := col, hasDel := false } := by unfold clsIn; rw [hC] <;> rfl
  have hLe : s.heap.objs.size ≠ e := Nat.ne_of_gt (Heap.lt_size he)
  cases fld with
  | none =>
    match us, hus with
    | [], _ =>
      refine ks_codeAny_call_defAt (fd := ksFn "__init__" q AS [supRow txt kk a b c d e' f] S .none kV doc pm an (.ref cda) ct cc) (binds := [("self", .ref e)]) hroom (X _ _ hfn) rfl hlim (codeRec_of X hcd) rfl (BindsTo.of_eq (hfl _ _ _ _ _ _)) SC.nc (fun y hy => ?_) (fun h₁ hns k₁ => ?_) SC.co SC.ge SC.k
      · obtain rfl := List.mem_singleton.mp hy
        exact SC.se
      · refine err_row T hfn hcode hvs hfile hcell SC hp htx (X.keeps k₁) (hg.keeps k₁) (hb.keeps k₁) hbl hns rfl (k₁ _ _ he) hne hLe fun h' t1 tk k' e2 _ => ?_
        exact wpAt_of_wpAny (wpAny_execs_nil (hq h' tk t1 none ⟨fun b o hb z => k' b o hb (k₁ b o z), e2, rfl⟩))
  | some n =>
    match us, hus with
    | [u], _ =>
      obtain ⟨hnl, hns', hnd, hbi⟩ := hfl
      have hn1 : ∀ z : Str, ([(("self" : Str), Value.ref e), (n, u)] : List (Str × Value)).reverse.lookup z = if z = n then some u else if z = "self" then some (.ref e) else none := fun z => by
        show List.lookup z [(n, u), (("self" : Str), Value.ref e)] = _
        by_cases h1 : z = n
        · rw [if_pos h1]
          simp [List.lookup, h1]
        · have q1 : (z == n) = false := by simpa using h1
          rw [if_neg h1]
          by_cases h2 : z = "self"
          · rw [if_pos h2]
            simp [List.lookup, q1, h2]
            rw [h2] at q1
            simp [q1]
          · have q2 : (z == ("self" : Str)) = false := by simpa using h2
            rw [if_neg h2]
            simp [List.lookup, q1, q2]
      have hse : (("self" : Str) = n) = False := by
        have := hns'
        simp only [eq_iff_iff, iff_false]
        intro z
        rw [← z] at this
        simp at this
      refine ks_codeAny_call_defAt (fd := ksFn "__init__" q AS [supRow txt kk a b c d e' f, fldRow n a2 b2 c2 d2] S .none kV doc pm an (.ref cda) ct cc) (binds := [("self", .ref e), (n, u)]) hroom (X _ _ hfn) rfl hlim (codeRec_of X hcd) rfl (BindsTo.of_eq (hbi _ _ _ _ _ _ _)) SC.nc (fun y hy => ?_) (fun h₁ hns k₁ => ?_) SC.co SC.ge SC.k
      · rcases List.mem_cons.mp hy with rfl | hy
        · exact SC.se
        · obtain rfl := List.mem_singleton.mp hy
          exact hnl
      · have hm1 : ([(("self" : Str), Value.ref e), (n, u)] : List (Str × Value)).reverse.lookup ("self" : Str) = some (Value.ref e) := by rw [hn1, if_neg (by rw [hse]; exact id), if_pos rfl]
        have hm2 : ([(("self" : Str), Value.ref e), (n, u)] : List (Str × Value)).reverse.lookup n = some u := by rw [hn1, if_pos rfl]
        refine err_row T hfn hcode hvs hfile hcell SC hp htx (X.keeps k₁) (hg.keeps k₁) (hb.keeps k₁) hbl hns hm1 (k₁ _ _ he) hne hLe fun h' t1 tk k' e2 hn2 => ?_
        have X2 : K.In h' := fun b o z => k' b o (fun w => by rw [w, hnx] at z; cases z) (X.keeps k₁ b o z)
        unfold fldRow
        refine ks_wpAt_execs_cons (wpAt_of_wpAny (plainObj_wpAny_Assign_Attribute ?_))
        refine wpAny_Name (wpAny_loadName_local SC.k hnl hn2 hm2 ?_) hnd
        refine wpAny_Name (wpAny_loadName_local SC.k SC.se hn2 hm1 ?_) (by decide)
        refine set_plain X2 (ox := excO C t1) (od := none) ⟨e2, rfl, rfl, trivial⟩ T.sa ?_
        refine exc_osa X2 e2 hcl (show refsVE (.ref C :: bm) = true from hbm) rfl (T.noN n rfl) (fun h₃ tk₃ dx k₃ dn dne hx₃ hn₃ => ?_)
        refine wpAt_of_wpAny (wpAny_execs_nil (hq h₃ tk₃ t1 (some dx) ⟨fun b o hb z => k₃ b o hb (k' b o hb (k₁ b o z)), hx₃, dx, rfl, ?_, dne, hn₃⟩))
        have z : s.heap.objs.size < h'.objs.size := hn2.lt
        exact Nat.le_of_lt (Nat.lt_of_lt_of_le z dn)
/-- a made error -/
structure ErrMade (h h' : Heap) (e C : Addr) (fld : Option (Str × Value)) (dx : Option Addr) : Prop where
  keep : ∀ b o, h.get? b = some o → h'.get? b = some o
  new : h.objs.size ≤ e
  obj : ∃ oe vs, h'.get? e = some oe ∧ oe.cls = .ref C ∧ oe.dict = dx ∧ oe.data = .fields vs ∧ vs[1]? = some .none
  fl : match fld with
    | none => dx = none
    | some (n, v) => ∃ d, dx = some d ∧ h.objs.size ≤ d ∧ d ≠ e ∧ h'.Ns1 d (fun y => if y = n then some v else none)
theorem err_made {P : Program} {fld : Option Str} (T : ErrTxt P K mg x fld C fI) {us : List Value} {mb : Str → Option Value} (X : K.In s.heap) (hlim : s.heap.NoLimit) (hg : s.heap.Ns mainGlobals mg) (hb : s.heap.Ns builtinsNs mb) (hbl : mb "super" = bootBuiltins "super")
    (hroom : A.depth + 1 < recursionLimit) (hus : us.length = (match fld with | none => 0 | some _ => 1))
    (hq : ∀ h' tk e dx, ErrMade s.heap h' e C (match fld, us with | some n, [v] => some (n, v) | _, _ => none) dx → R (.ok (.ret (.ref e))) { s with heap := h', toks := tk }) :
    codeAny (model P w) A (.call (.ref C) ⟨us, []⟩) R s := by
  obtain ⟨nm, q, N, bs, bm, sn, sub, ab, col, dd, k0, k1, k2, k3, k5, hC, hbm⟩ := T.cls
  obtain ⟨hp, g, dr, tk, os⟩ := s
  have k : ∀ b o, hp.get? b = some o → ((hp.push (kdv_tup us)).push (excO C hp.objs.size)).get? b = some o := fun b o e => Heap.get?_push_of_some _ (Heap.get?_push_of_some _ e)
  have hget : ((hp.push (kdv_tup us)).push (excO C hp.objs.size)).get? (hp.objs.size + 1) = some (excO C hp.objs.size) := by heap_get
  have hnx : K.lookup (hp.objs.size + 1) = none := by
    cases e : K.lookup (hp.objs.size + 1) with
    | none => rfl
    | some o =>
      have z : hp.get? (hp.objs.size + 1) = some o := X _ _ e
      exact absurd (Nat.lt_of_succ_lt (Heap.lt_size z)) (Nat.lt_irrefl _)
  have hne : hp.objs.size + 1 ≠ C := fun z => by rw [z, hC] at hnx; cases hnx
  have hz : us.length ≤ sizeLine := by
    have : us.length ≤ 1 := by
      rw [hus]
      cases fld
      · exact Nat.zero_le _
      · exact Nat.le_refl _
    rw [sizeLine_eq]
    omega
  refine call_own F.excBase_ValueError (fun X => refsVE_contains X bm hbm) (X _ _ hC) (looks_findIn X T.iC) (fun self => bind_fn X self T.tC) hz ?_
  refine err_init (s := ⟨(hp.push (kdv_tup us)).push (excO C hp.objs.size), g, dr, tk, os⟩) T (X.keeps k) (hlim.keeps k) (hg.keeps k) (hb.keeps k) hbl hget hne hnx ?_ hus fun h' tk' t1 dx M => ?_
  · show A.depth + 1 < recursionLimit
    exact hroom
  · obtain ⟨k', hx, fl⟩ := M
    have old : ∀ b o, hp.get? b = some o → h'.get? b = some o := fun b o e => k' b o (Nat.ne_of_lt (Nat.lt_succ_of_lt (Heap.lt_size e))) (k b o e)
    refine ⟨rfl, hq h' tk' (hp.objs.size + 1) dx ⟨old, Nat.le_succ _, ⟨_, _, hx, rfl, rfl, rfl, rfl⟩, ?_⟩⟩
    have go : ∀ fv : Option (Str × Value), (match fv with
        | none => dx = none
        | some (n, v) => ∃ d, dx = some d ∧ ((hp.push (kdv_tup us)).push (excO C hp.objs.size)).objs.size ≤ d ∧ d ≠ hp.objs.size + 1 ∧ h'.Ns1 d (fun y => if y = n then some v else none)) → (match fv with
        | none => dx = none
        | some (n, v) => ∃ d, dx = some d ∧ hp.objs.size ≤ d ∧ d ≠ hp.objs.size + 1 ∧ h'.Ns1 d (fun y => if y = n then some v else none)) := by
      rintro (_ | ⟨n, v⟩) fl
      · exact fl
      · obtain ⟨d, e1, dn, d2, hns⟩ := fl
        have z : hp.objs.size + 1 + 1 ≤ d := by
          first
            | (simpa only [Heap.size_push] using dn)
            | exact dn
            | (have q := dn; rw [Heap.size_push, Heap.size_push] at q; exact q)
        exact ⟨d, e1, Nat.le_trans (Nat.le_trans (Nat.le_succ _) (Nat.le_succ _)) z, d2, hns⟩
    exact go _ fl
end
theorem relO_one {n : Str} {v : V} {v' : Value} (r : RelV v v') (f : Str) : RelO (List.lookup f [(n, v)]) (if f = n then some v' else none) := by
  by_cases hw : f = n
  · subst hw
    rw [if_pos rfl]
    have q : List.lookup f [(f, v)] = some v := by simp [List.lookup]
    rw [q]
    exact r
  · rw [if_neg hw]
    have qw : (f == n) = false := by simpa using hw
    have q2 : List.lookup f [(n, v)] = none := by simp [List.lookup, qw]
    rw [q2]
    trivial
section
variable {X : Cx} {C fI : Addr} {x : Str}
theorem super_blt {pins : List (Addr × Obj)} {s : Shared} {σ : L2.St} {H : Hp} (I : Inv X pins σ H s) : ∃ mb, s.heap.Ns builtinsNs mb ∧ mb "super" = bootBuiltins "super" := by
  obtain ⟨mb, h1, h2⟩ := I.mod.blt
  exact ⟨mb, h1.keeps I.bk, h2 _ (by decide)⟩
/-- X() -/
def tMkE0 (C : Addr) : L2.St → Hp → XK → Prop := fun _ H Q => Q (.ref C) none H
theorem pmk_e0 {p pos : Pos} {k : Nat} (T : ErrTxt X.prog X.K X.mg x none C fI) (hr : Room k X.A) (hg : Gl X x := by rfl) (hdb : (x == ("__debug__" : Str)) = false := by decide) : PMk X (.Call (.Name x p) [] [] pos) (tMkE0 C) := by
  intro pins s σ H Q I h
  refine wpAny_Call_Name_kw (ld_glob I hg T.gC ?_ hdb)
  refine PySem.W.callWith_K0 I.kIn T.kC ?_
  show wpAny _ _ (call (.ref C) []) _ _ _
  have hlim := I.nolimit
  obtain ⟨mb, hb, hbl⟩ := super_blt I
  have hg := I.mod.glob.keeps I.bk
  have hkin := I.kIn
  obtain ⟨hp, g, dr, tk, os⟩ := s
  refine wpAny_call (err_made T (us := []) hkin hlim hg hb hbl (by have := hr.dp; omega) rfl fun h' tk' e dx M => ?_)
  show MkP X pins σ Q (.ref e) ⟨h', g, dr, tk', os⟩
  obtain ⟨oe, fv, hoe, hc, hd, hdat, h1⟩ := M.obj
  have fl : dx = none := M.fl
  subst fl
  obtain ⟨G', g1, g2⟩ := restrict h' fun b => decide (b ≠ e)
  have gk : ∀ b, b ≠ e → G'.get? b = h'.get? b := fun b hb => g1 b (decide_eq_true hb)
  have ge : G'.get? e = none := g2 e (by simp)
  have old : ∀ b o, hp.get? b = some o → G'.get? b = some o := fun b o q => (gk b (Nat.ne_of_lt (Nat.lt_of_lt_of_le (Heap.lt_size q) M.new))).trans (M.keep b o q)
  have J : Inv X pins σ H ⟨G', g, dr, tk', os⟩ := I.kept (t' := tk') old
  refine ⟨e, oe, fv, ⟨G', g, dr, tk', os⟩, H, .ref C, none, rfl, J, fun b o q => ?_, ge, hoe, ⟨hc, hd⟩, hdat, h1, I.hok.fresh M.new, rfl, I.bare, raises_own T.exC T.tyC, h⟩
  by_cases hb : b = e
  · have q' : G'.get? b = some o := q
    rw [hb, ge] at q'; cases q'
  · exact (gk b hb).symm.trans q
/-- X(e), kept as the field n -/
def tMkE1 (C : Addr) (n : Str) (ta : TA) : L2.St → Hp → XK → Prop := fun σ H Q => ta σ H fun vs H1 => ∃ v, vs = [v] ∧ ∀ d, H1 d = none → Q (.ref C) (some d) (upd H1 d (.xd [(n, v)]))
theorem pmk_e1 {n : Str} {a : Expr} {ta : TA} {p pos : Pos} {k : Nat} (T : ErrTxt X.prog X.K X.mg x (some n) C fI) (hr : Room k X.A) (ha : PA X [a] ta) (hg : Gl X x := by rfl) (hdb : (x == ("__debug__" : Str)) = false := by decide)
    (he : starEach (a :: []) X.env = (false, eval a X.env) :: starEach [] X.env := by rfl) (hpl : (backTo pos (starEach [] X.env)).any (·.1) = false := by rfl) : PMk X (.Call (.Name x p) [a] [] pos) (tMkE1 C n ta) := by
  intro pins s σ H Q I h
  refine wpAny_Call_Name_kw (ld_glob I hg T.gC ?_ hdb)
  refine PySem.W.callWith_K (h₀ := X.base) I.ok.mod.kin T.kC (thn (ha.run pos pins s σ H _ I h) fun us s1 hh => ?_) he hpl
  obtain ⟨vs, H1, I1, r1, v, ev, q1⟩ := hh
  subst ev
  refine ⟨I1.kIn, ?_⟩
  cases r1 with
  | cons rv rn =>
    rename_i v' us'
    cases rn
    show wpAny _ _ (call (.ref C) [v']) _ _ _
    have hlim := I1.nolimit
    obtain ⟨mb, hb, hbl⟩ := super_blt I1
    have hg := I1.mod.glob.keeps I1.bk
    have hkin := I1.kIn
    obtain ⟨hp, g, dr, tk, os⟩ := s1
    refine wpAny_call (err_made T (us := [v']) hkin hlim hg hb hbl (by have := hr.dp; omega) rfl fun h' tk' e dx M => ?_)
    show MkP X pins σ Q (.ref e) ⟨h', g, dr, tk', os⟩
    obtain ⟨oe, fv, hoe, hc, hd, hdat, h1⟩ := M.obj
    obtain ⟨d, rfl, dbig, dne, hns⟩ := M.fl
    obtain ⟨G', g1, g2⟩ := restrict h' fun b => decide (b ≠ e)
    have gk : ∀ b, b ≠ e → G'.get? b = h'.get? b := fun b hb => g1 b (decide_eq_true hb)
    have ge : G'.get? e = none := g2 e (by simp)
    have old : ∀ b o, hp.get? b = some o → G'.get? b = some o := fun b o q => (gk b (Nat.ne_of_lt (Nat.lt_of_lt_of_le (Heap.lt_size q) M.new))).trans (M.keep b o q)
    have ob : ObjOk X.prog X.w (upd H1 d (.xd [(n, v)])) G' d (.xd [(n, v)]) :=
      ⟨_, hns.at (fun o q => (gk d dne).trans q), fun f => relO_one rv f⟩
    have J : Inv X pins σ (upd H1 d (.xd [(n, v)])) ⟨G', g, dr, tk', os⟩ := I1.laid (t' := tk') old dbig ob
    refine ⟨e, oe, fv, ⟨G', g, dr, tk', os⟩, _, .ref C, some d, rfl, J, fun b o q => ?_, ge, hoe, ⟨hc, hd⟩, hdat, h1, ?_, rfl, I1.bare, raises_own T.exC T.tyC, q1 d (I1.hok.fresh dbig)⟩
    · by_cases hb : b = e
      · have q' : G'.get? b = some o := q
        rw [hb, ge] at q'; cases q'
      · exact (gk b hb).symm.trans q
    · rw [upd_ne (Ne.symm dne)]
      exact I1.hok.fresh M.new
def tRsE0 (C : Addr) (W : WX) : TS := fun _ σ H => tMkE0 C σ H fun cls d H' => W cls d σ H'
theorem ps_e0 {W : WX} {p pos pos2 : Pos} {k : Nat} (hc : X.calm = true) (T : ErrTxt X.prog X.K X.mg x none C fI) (hr : Room k X.A) (tk : Takes X W) (hg : Gl X x := by rfl) (hdb : (x == ("__debug__" : Str)) = false := by decide) :
    PS X (.Raise (some (.Call (.Name x p) [] [] pos)) none pos2) (tRsE0 C W) := ps_raise hc tk (pmk_e0 T hr hg hdb)
def tRsE1 (C : Addr) (n : Str) (W : WX) (ta : TA) : TS := fun _ σ H => tMkE1 C n ta σ H fun cls d H' => W cls d σ H'
theorem ps_e1 {n : Str} {a : Expr} {ta : TA} {W : WX} {p pos pos2 : Pos} {k : Nat} (hc : X.calm = true) (T : ErrTxt X.prog X.K X.mg x (some n) C fI) (hr : Room k X.A) (tk : Takes X W) (ha : PA X [a] ta) (hg : Gl X x := by rfl) (hdb : (x == ("__debug__" : Str)) = false := by decide)
    (he : starEach (a :: []) X.env = (false, eval a X.env) :: starEach [] X.env := by rfl) (hpl : (backTo pos (starEach [] X.env)).any (·.1) = false := by rfl) :
    PS X (.Raise (some (.Call (.Name x p) [a] [] pos)) none pos2) (tRsE1 C n W ta) := ps_raise hc tk (pmk_e1 T hr ha hg hdb he hpl)
/-- err.n, err the error that the suite holds (at a; its class cls, its dict d) -/
def tErF (C : Addr) (n : Str) (a : Addr) (cls : Value) (d : Option Addr) (te : TE) : TE := fun σ H Q => te σ H fun x H1 => x = .ref a ∧ cls = .ref C ∧ ∃ (dd : Addr) (v : V), d = some dd ∧ H1 dd = some (.xd [(n, v)]) ∧ Q v H1
theorem pe_erF {n : Str} {a : Addr} {oe : Obj} {cls : Value} {d : Option Addr} {pn : List (Addr × Obj)} {e : Expr} {te : TE} {pos : Pos} (T : ErrTxt X.prog X.K X.mg x (some n) C fI) (hz : Zc cls d oe) (hf : ∃ vs, oe.data = .fields vs) (he : PE (X.suite a ((a, oe) :: pn)) e te)
    (hb : attributeBase e n X.env (eval e X.env) = eval e X.env := by rfl) :
    PE (X.suite a ((a, oe) :: pn)) (.Attribute e n pos) (tErF C n a cls d te) := by
  refine ⟨fun pins s σ H Q I h => ?_⟩
  refine attr_of hb (thn (he.run pins s σ H _ I h) fun u s1 hh => ?_)
  obtain ⟨x, H1, I1, rx, ex, ec, dd, v, ed, ea, q⟩ := hh
  subst ex
  obtain rfl : u = Value.ref a := rx
  subst ec
  subst ed
  obtain ⟨ha, _⟩ := I1.pin (a, oe) (List.mem_append_left _ List.mem_cons_self)
  obtain ⟨vs, hd⟩ := hf
  have hx : ObjOk X.prog X.w H1 s1.heap dd (.xd [(n, v)]) := I1.hok dd _ ea
  obtain ⟨mA, hns, hr⟩ := hx
  obtain ⟨od, ho, hl⟩ := lookIn_ns hns
  have l : List.lookup n [(n, v)] = some v := by simp [List.lookup]
  obtain ⟨u, hu, ru⟩ := RelO.some_of (v := v) (o := mA n) (by rw [← l]; exact hr n)
  have J : PySem.W.InstAt s1.heap a oe C (some od) := ⟨ha, hz.1, by unfold PySem.W.notCls; rw [hd] <;> rfl, by rw [hz.2]; exact ho⟩
  exact HandSPX.exc_get I1.kIn J T.ga T.gg T.exC (PySem.W.findObj_own T.hdC (T.noN n rfl) rfl (by rw [hl, hu])) (handed_of ru) ⟨v, H1, I1.tok _, ru, q⟩
end
/-! ### isinstance of a caught error that has its field -/
section
variable {prog : Program} {w : World} {A : Around} {E : Value → Shared → Prop} {s : Shared} {K : PySem.W.Frag} {x D : Addr} {ox : Obj} {od : Option Obj}
structure ErrIs (K : PySem.W.Frag) (D : Addr) : Prop where
  g1 : findIn K (.ref D) "__getattribute__" = some (some (.builtin "BaseException.__getattribute__"))
  g2 : findIn K (.ref D) "__getattr__" = some none
  g3 : subIn K (.ref D) (.type "BaseException") = some true
  g4 : hasDictIn K D = true
  g5 : findIn K (.ref D) "__class__" = some (some (.builtin "object.__class__"))
  g6 : specialIn K (.builtin "object.__class__") "__get__" = some (some (.builtin "getset_descriptor.__get__"))
  g7 : takesIn K (.builtin "object.__class__") = some true
  g8 : mroIn K D (.type "object") = some true
theorem err_class {Q : Option Value → Shared → Prop} (G : ErrIs K D) (X : K.In s.heap) (I : InstAt s.heap x ox D od) (fin : Q (some (.ref D)) { s with toks := s.toks + 1 }) : wpAny (model prog w) A (getAttr? (.ref x) "__class__") Q E s := by
  have found : findObj K D od "__class__" = some (.bind (.builtin "getset_descriptor.__get__") (.builtin "object.__class__")) := by
    obtain ⟨cd, hcd, _⟩ := any_some G.g4
    unfold findObj
    rw [hcd, Option.bind_some, G.g5, Option.bind_some]
    simp [G.g6, G.g7]
  obtain ⟨hh, gg, dd, tt, oo⟩ := s
  have l0 := I.type (M := model prog w)
  have l1 := looks_findIn (M := model prog w) X G.g1
  have l2 := looks_findIn (M := model prog w) X G.g2
  have l3 := looks_find (M := model prog w) X I found
  have isB : Looks (model prog w) hh (isInstance (.ref x) (.type "BaseException")) true := l0.andThen (looks_subIn X G.g3)
  have n0 : (false && onTheHeap (Value.builtin "BaseException.__getattribute__")) = false := rfl
  have n2 : (Value.builtin "BaseException.__getattribute__" == Value.builtin "object.__getattribute__") = false := by decide +kernel
  have n1 : (onTheHeap (Value.ref D) && Value.builtin "BaseException.__getattribute__" == Value.builtin "object.__getattribute__") = false := by rw [n2]; rfl
  unfold getAttr? getAttrBy? getAttrBy
  refine wpAny_bind (wpAny_mkText (wpAny_bind (wpAny_attempt (wpAny_holding (wpAny_bind (l0.at (wpAny_bind (l1.at ?_))))))))
  show wpAny _ _ (if (onTheHeap (.ref D) && Value.builtin "BaseException.__getattribute__" == Value.builtin "object.__getattribute__") = true then _ else _) _ _ _
  rw [n1, if_neg Bool.false_ne_true]
  unfold getAttrByItsOwn hookBefore
  refine wpAny_bind ?_
  rw [if_pos (show onTheHeap (.ref D) = true from rfl)]
  refine l2.at ?_
  refine wpAny_bind (wpAny_attempt (wpAny_holding ?_))
  unfold callGetattribute
  rw [n0, if_neg Bool.false_ne_true]
  unfold boundAndCalled
  rw [F.excAttr_ValueError.ga.bind (.ref x)]
  refine wpAny_bind (wpAny_pure ?_)
  show wpAny _ _ (call (.builtin "BaseException.__getattribute__") [.ref x, .str "__class__" tt]) _ _ _
  refine wpAny_call (codeAny_call_builtin F.excAttr_ValueError.ga.plain F.entry_bexc_ga ?_)
  refine @check_slot (model prog w) _ _ ⟨hh, gg, dd, tt + 1, oo⟩ "BaseException.__getattribute__" "BaseException" "__getattribute__" (.ref x) [.str "__class__" tt] [] _ (by decide +kernel) (by decide +kernel) isB (F.args_bexc_ga (.ref x) (.str "__class__" tt)) ?_
  unfold Builtin.«object.__getattribute__»
  refine wpAny_bind (wpAny_of_eq (a := (Value.ref x, [Value.str "__class__" tt])) (by first | rfl | (simp only [slotArgs]; rfl)) ?_)
  refine wpAny_bind (wpAny_pure (wpAny_bind (l0.at (wpAny_bind (l3.at ?_)))))
  show wpAny _ _ (holding [.builtin "object.__class__"] (call (.builtin "getset_descriptor.__get__") [.builtin "object.__class__", .ref x, .ref D]) >>= ret) _ _ _
  refine wpAny_bind (wpAny_holding (wpAny_call (class_get (s := ⟨hh, gg, dd, tt + 1, oo⟩) (ox := ox) (od := od) X I G.g8 ?_)))
  refine wpAny_pure ?_
  show wpAny _ _ (handedOut (.ref D)) _ _ _
  rw [handedOut_of (v := .ref D) rfl]
  first
    | exact wpAny_pure (wpAny_pure fin)
    | exact wpAny_pure fin
    | exact wpAny_pure (wpAny_bind (wpAny_pure (wpAny_pure fin)))
theorem kit_err (G : ErrIs K D) : KitX K (.ref x) (.ref D) (fun h => ∃ od, InstAt h x ox D od) where
  ty := fun _ _ _ I => by
    obtain ⟨_, I⟩ := I
    exact I.type
  it := fun _ _ X _ => by
    obtain ⟨cd, hcd, _⟩ := any_some G.g4
    unfold clsIn at hcd
    split at hcd
    · rename_i c1 d1 cd1 sl1 ho
      intro A1 Q1 E1 s1 kk q
      unfold isType loadHead
      exact wpAny_bind (wpAny_loadPart (kk _ _ (X _ _ ho)) (wpAny_pure q))
    · cases hcd
  ne := fun h tp dd its n sl X htp => by
    obtain ⟨cd, hcd, _⟩ := any_some G.g4
    refine Bool.eq_false_iff.mpr fun q => ?_
    have e := Value.ref.inj (beq_iff_eq.mp q)
    subst e
    unfold clsIn at hcd
    split at hcd
    · rename_i c1 d1 cd1 sl1 ho
      have z := (X _ _ ho).symm.trans htp
      cases z
    · cases hcd
  ca := fun X I kk => by
    obtain ⟨_, I⟩ := I
    exact err_class G X I kk
end
def rIsE1 (K : PySem.W.Frag) (a : Addr) (cls : Value) (d : Option Addr) : List V → Hp → VK → Prop := fun xs H Q => ∃ (D : Addr) (c : V) (cv : Value) (b : Bool) (dd : Addr) (fs : List (Str × V)), xs = [.ref a, c] ∧ cls = .ref D ∧ ErrIs K D ∧ (∀ u, RelV c u → u = cv) ∧ kitOne K (.ref D) cv = some b ∧ d = some dd ∧ H dd = some (.xd fs) ∧ Q (.bl b) H
theorem call_isE1 {X : Cx} {a : Addr} {oe : Obj} {cls : Value} {d : Option Addr} {pn : List (Addr × Obj)} (hz : Zc cls d oe) (hf : ∃ vs, oe.data = .fields vs) : CallR (X.suite a ((a, oe) :: pn)) (.builtin "isinstance") (rIsE1 X.K a cls d) := by
  intro pins s σ H xs us Q I r h
  obtain ⟨D, c, cv, b, dd, fs, rfl, rfl, G, hcv, e, rfl, hd, q⟩ := h
  cases r with
  | cons rx rr =>
    cases rr with
    | cons rt rr =>
      cases rr
      cases rx
      have ec := hcv _ rt
      subst ec
      obtain ⟨hget, _⟩ := I.pin (a, oe) (List.mem_append.mpr (.inl List.mem_cons_self))
      obtain ⟨vs, hv⟩ := hf
      have hx : ObjOk X.prog X.w H s.heap dd (.xd fs) := I.hok dd _ hd
      obtain ⟨mA, hns, _⟩ := hx
      obtain ⟨o1, ho, _⟩ := lookIn_ns hns
      have J : InstAt s.heap a oe D (some o1) := ⟨hget, hz.1, by unfold notCls; rw [hv] <;> rfl, by rw [hz.2]; exact ho⟩
      exact kia_one (kit_err (ox := oe) G) I.kIn ⟨_, J⟩ e (fun z => nomatch z) fun tk => ⟨.bl b, H, I.kept (t' := tk) fun _ _ z => z, rfl, q⟩
end SD
/-! an error's facts, from the looks at the top -/
namespace SD
open PySem PySem.Spec PyProof.Rows L2
open PySem.W PySem.HandSPX
def mroVE (C : Addr) (cd : ClassData) (sl : Array (Option Value)) : Bool := match cd.mro, sl.toList with
  | .ref C' :: bm, [_, _, _, _, some (.builtin n), _] => decide (C' = C) && (decide (n = "ValueError.__new__") && (!cd.hasDel && (cd.hasDict && refsVE bm)))
  | _, _ => false
def clsVE (K : PySem.W.Frag) (C : Addr) : Bool := match K.lookup C with
  | some ⟨.type t, _, .cls cd, sl⟩ => decide (t = "type") && mroVE C cd sl
  | _ => false
def fileB (K : PySem.W.Frag) (v : Value) (fl : Str) : Bool := match v with
  | .ref c => (match K.lookup c with
    | some ⟨_, _, .fields vs, _⟩ => (match (vs[2]? : Option Value) with
      | some (.str f _) => decide (f = fl)
      | _ => false)
    | _ => false)
  | _ => false
def cellB (K : PySem.W.Frag) (C : Addr) (l : List (Str × Addr)) : Bool := match l with
  | [(_, c)] => (match K.lookup c with
    | some ⟨_, _, .cell (some (.ref D)), _⟩ => decide (D = C)
    | _ => false)
  | _ => false
def iniB (K : PySem.W.Frag) (C fI : Addr) (q fl : Str) : Bool := match K.lookup fI with
  | some ⟨_, _, .func fd, _⟩ => codeIn K fd.code q && (fileB K fd.code fl && cellB K C fd.closure)
  | _ => false
def noB (K : PySem.W.Frag) (C : Addr) : Option Str → Bool
  | none => true
  | some n => He.eqO (findIn K (.ref C) n) (some none)
def errB (K : PySem.W.Frag) (x fl : Str) (fld : Option Str) (C fI : Addr) : Bool := He.eqO (nsIn K mainGlobals x) (some (some (.ref C))) && (He.eqO (nsIn K mainGlobals "super") (some none) && (clsVE K C &&
  (He.eqO (findIn K (.ref C) "__setattr__") (some (some (.builtin "object.__setattr__"))) && (He.eqO (findIn K (.ref C) "__getattribute__") (some (some (.builtin "BaseException.__getattribute__"))) &&
  (He.eqO (findIn K (.ref C) "__getattr__") (some none) && (noB K C fld && (He.eqO (findIn K (.ref C) "__init__") (some (some (.ref fI))) &&
  (decide (typeIn K (.ref fI) = some (.type "function")) && (keepIn K (.ref C) && (decide (subIn K (.ref C) (.type "BaseException") = some true) && (decide (typeIn K (.ref C) = some (.type "type")) &&
  (hasDictIn K C && (decide (exmOne K (.ref C) (.ref C) = some true) && (He.eqO (nsIn K cStatics "thirdparty.any") (some none) && (He.eqO (ks_superIn K C C "__init__") (some (some (.builtin "ValueError.__init__"))) &&
  (decide (subIn K (.ref C) (.type "ValueError") = some true) && (decide (mroIn K C (.ref C) = some true) && iniB K C fI (x ++ ".__init__") fl)))))))))))))))))
def cErr (x fl : Str) (fld : Option Str) : Chk := fun K => errB K x fl fld (He.ga K x) (He.ma K (He.ga K x) "__init__")
theorem mroVE_ok {C : Addr} {cd : ClassData} {sl : Array (Option Value)} (g : mroVE C cd sl = true) : ∃ nm q N bs bm sn sub ab col k0 k1 k2 k3 k5,
    cd = { name := nm, bases := bs, mro := .ref C :: bm, ns := N, qualname := q, hasDict := true, slotNames := sn, subclasses := sub, abstract := ab, collection := col, hasDel := false } ∧ sl = #[k0, k1, k2, k3, some (.builtin "ValueError.__new__"), k5] ∧ refsVE bm = true := by
  unfold mroVE at g
  split at g
  · rename_i C' bm k0 k1 k2 k3 n k5 hm hs
    obtain ⟨g2, g3⟩ := He.ba g
    obtain ⟨g4, g5⟩ := He.ba g3
    obtain ⟨g6, g7⟩ := He.ba g5
    obtain ⟨g8, g9⟩ := He.ba g7
    obtain rfl := of_decide_eq_true g2
    obtain rfl := of_decide_eq_true g4
    have g6' : cd.hasDel = false := by simpa using g6
    clear g g2 g3 g4 g5 g6 g7
    obtain ⟨nm, bs, mro, ns, qn, hd, sn, sub, ab, col, del⟩ := cd
    dsimp only at hm g6' g8
    subst hm g6' g8
    have hsl : sl = #[k0, k1, k2, k3, some (.builtin "ValueError.__new__"), k5] := by
      obtain ⟨l⟩ := sl
      simp only at hs
      rw [hs]
    exact ⟨nm, qn, ns, bs, bm, sn, sub, ab, col, k0, k1, k2, k3, k5, rfl, hsl, g9⟩
  · cases g
theorem clsVE_ok {K : PySem.W.Frag} {C : Addr} (h : clsVE K C = true) : ∃ nm q N bs bm sn sub ab col dd k0 k1 k2 k3 k5, K.lookup C = some (excClassObj nm q C N bs bm true sn sub ab col dd k0 k1 k2 k3 k5 "ValueError.__new__") ∧ refsVE bm = true := by
  unfold clsVE at h
  cases ho : K.lookup C with
  | none => rw [ho] at h; cases h
  | some o =>
    obtain ⟨oc, dd, dt, sl⟩ := o
    rw [ho] at h
    cases oc with
    | type t =>
      cases dt with
      | cls cd =>
        obtain ⟨h1, h2⟩ := He.ba (show (decide (t = "type") && mroVE C cd sl) = true from h)
        obtain rfl := of_decide_eq_true h1
        obtain ⟨nm, q, N, bs, bm, sn, sub, ab, col, k0, k1, k2, k3, k5, rfl, rfl, hb⟩ := mroVE_ok h2
        exact ⟨nm, q, N, bs, bm, sn, sub, ab, col, dd, k0, k1, k2, k3, k5, rfl, hb⟩
      | _ => cases h
    | _ => cases dt <;> cases h
/-- what the text of such an __init__ is -/
def IniOf (q : Str) (st : Stmt) (fld : Option Str) : Prop := ∃ (txt : Str) (kk : Nat) (a b c d e f a2 b2 c2 d2 : Pos) (ps : Pos),
  defBody st = supRow txt kk a b c d e f :: (match fld with | none => [] | some n => [fldRow n a2 b2 c2 d2]) ∧ IniSc q (defScope st) txt kk a b c d e ∧ ((defArgs st).posonlyargs ++ (defArgs st).args).head? = some ⟨"self", none, ps⟩ ∧ txt.length ≤ 1000 ∧
  ∀ (cda cc : Addr), (match fld with
      | none => ∀ kV doc pm an ct v, bindArgs (ksFn "__init__" q (defArgs st) (supRow txt kk a b c d e f :: []) (defScope st) .none kV doc pm an (.ref cda) ct cc) ⟨[v], []⟩ = pure ([(("self" : Str), v)] : List (Str × Value))
      | some n => (defScope st).names.lookup n = some .local ∧ (n == ("self" : Str)) = false ∧ (n == ("__debug__" : Str)) = false ∧ ∀ kV doc pm an ct v u, bindArgs (ksFn "__init__" q (defArgs st) (supRow txt kk a b c d e f :: [fldRow n a2 b2 c2 d2]) (defScope st) .none kV doc pm an (.ref cda) ct cc) ⟨[v, u], []⟩ = pure ([(("self" : Str), v), (n, u)] : List (Str × Value)))
theorem err_ok {P : Program} {K : PySem.W.Frag} {h : Heap} {mg : Str → Option Value} {x fl : Str} {fld : Option Str} {st : Stmt} (X : K.In h) (G : h.Ns mainGlobals mg) (c : cErr x fl fld K = true) (e : fnE K x = (⟨x, st⟩ : ErrD).val) (I : IniOf (x ++ ".__init__") st fld)
    (hT : (P.main.scope.names.lookup ("super" : Str)).isSome = false) (hF : ((P.main.file : Str) == fl) = true) : ErrTxt P K mg x fld (He.ga K x) (He.ma K (He.ga K x) "__init__") := by
  have c : errB K x fl fld (He.ga K x) (He.ma K (He.ga K x) "__init__") = true := c
  unfold errB at c
  obtain ⟨c1, c⟩ := He.ba c
  obtain ⟨c2, c⟩ := He.ba c
  obtain ⟨c3, c⟩ := He.ba c
  obtain ⟨c4, c⟩ := He.ba c
  obtain ⟨c5, c⟩ := He.ba c
  obtain ⟨c6, c⟩ := He.ba c
  obtain ⟨c7, c⟩ := He.ba c
  obtain ⟨c8, c⟩ := He.ba c
  obtain ⟨c9, c⟩ := He.ba c
  obtain ⟨c10, c⟩ := He.ba c
  obtain ⟨c11, c⟩ := He.ba c
  obtain ⟨c12, c⟩ := He.ba c
  obtain ⟨c13, c⟩ := He.ba c
  obtain ⟨c14, c⟩ := He.ba c
  obtain ⟨c15, c⟩ := He.ba c
  obtain ⟨c16, c⟩ := He.ba c
  obtain ⟨c17, c⟩ := He.ba c
  obtain ⟨c18, c19⟩ := He.ba c
  refine ⟨PySem.W.mg_of X G (He.eqO_ok c1), PySem.W.mg_none_of X G (He.eqO_ok c2), clsVE_ok c3, He.eqO_ok c4, He.eqO_ok c5, He.eqO_ok c6, ?_, He.eqO_ok c8, of_decide_eq_true c9, c10, of_decide_eq_true c11, of_decide_eq_true c12, c13, of_decide_eq_true c14, He.eqO_ok c15, He.eqO_ok c16, of_decide_eq_true c17, of_decide_eq_true c18, hT, ?_⟩
  · intro n hn
    subst hn
    exact He.eqO_ok c7
  · unfold fnE at e
    unfold iniB at c19
    generalize He.ga K x = C at *
    generalize He.ma K C "__init__" = fI at *
    cases q : K.lookup fI with
    | none => rw [q] at c19; cases c19
    | some o =>
      obtain ⟨oc, od, dt, osl⟩ := o
      rw [q] at c19 e
      cases dt with
      | func fd =>
        obtain ⟨n1, n2, n3, n4, n5, n6, n7, n8, n9, n10, n11, n12, n13, n14, n15⟩ := fd
        have e2 : (some (n1, n2, n3, n4, n5, n6, n7.map (·.1), n8, n15) : FnE) = (some (Str.ofString "__init__", x ++ ".__init__", defArgs st, FuncBody.stmts (defBody st), defScope st, mainGlobals, [Str.ofString "__class__"], Value.none, builtinsNs) : FnE) := e
        simp only [Option.some.injEq, Prod.mk.injEq] at e2
        obtain ⟨h1, h2, h3, h4, h5, h6, h7, h8, h9⟩ := e2
        subst h1 h2 h3 h4 h5 h6 h8 h9
        obtain ⟨d1, d2⟩ := He.ba (show (codeIn K n13 (x ++ ".__init__") && (fileB K n13 fl && cellB K C n7)) = true from c19)
        obtain ⟨d2, d3⟩ := He.ba d2
        obtain ⟨cda, ccl, cdd, vs, ccs, f, tf, rfl, hcode, hvs, rfl⟩ : ∃ cda ccl cdd vs ccs f tf, n13 = .ref cda ∧ K.lookup cda = some ⟨ccl, cdd, .fields vs, ccs⟩ ∧ vs[2]? = some (.str f tf) ∧ f = fl := by
          clear q e c19 h7 d1
          unfold fileB at d2
          cases n13 with
          | ref cda =>
            dsimp only at d2
            cases hk : K.lookup cda with
            | none => rw [hk] at d2; cases d2
            | some o =>
              obtain ⟨ccl, cdd, dt, ccs⟩ := o
              rw [hk] at d2
              cases dt with
              | fields vs =>
                dsimp only at d2
                cases hv : (vs[2]? : Option Value) with
                | none => rw [hv] at d2; cases d2
                | some u =>
                  rw [hv] at d2
                  cases u with
                  | str f tf => exact ⟨cda, ccl, cdd, vs, ccs, f, tf, rfl, hk, hv, of_decide_eq_true d2⟩
                  | _ => cases d2
              | _ => cases d2
          | _ => cases d2
        obtain ⟨cc, cl, cld, csl, rfl, hcell⟩ : ∃ cc cl cld csl, n7 = [(("__class__" : Str), cc)] ∧ K.lookup cc = some ⟨cl, cld, .cell (some (.ref C)), csl⟩ := by
          clear q e c19 d1
          match n7, h7, d3 with
          | [(nm, cc)], h7, d3 =>
            have h8 : nm = "__class__" := (List.cons.inj h7).1
            subst h8
            unfold cellB at d3
            dsimp only at d3
            cases hk : K.lookup cc with
            | none => rw [hk] at d3; cases d3
            | some o =>
              obtain ⟨cl, cld, dt, csl⟩ := o
              rw [hk] at d3
              cases dt with
              | cell v =>
                cases v with
                | none => cases d3
                | some u =>
                  cases u with
                  | ref D =>
                    obtain rfl : D = C := of_decide_eq_true d3
                    exact ⟨cc, cl, cld, csl, rfl, hk⟩
                  | _ => cases d3
              | _ => cases d3
        obtain ⟨txt, kk, a, b, c, d, e', f', a2, b2, c2', d2', ps, hbody, SC, hp, ht, hfl⟩ := I
        refine ⟨oc, od, n9, n10, n11, n12, cda, n14, osl, cc, ccl, cdd, vs, ccs, cl, cld, csl, f, tf, x ++ ".__init__", defScope st, defArgs st, txt, kk, a, b, c, d, e', f', a2, b2, c2', d2', ps, [], ?_, d1, hcode, hvs, hF, hcell, SC, hp, ht, ?_⟩
        · cases fld <;> (dsimp only at hbody ⊢; rw [← hbody])
        · cases fld <;> exact hfl cda cc
      | _ => cases c19
def cKit (x y : Str) : Chk := fun K => decide (kitOne K (.ref (He.ga K x)) (.ref (He.ga K y)) = some true)
end SD
namespace SD
open PySem L2
def top (i : Nat) : Stmt := PySem.Challenge.pw_showndrafts_k14_texts_refused.main.body.getD i (.Pass ⟨0, 0, 0, 0⟩)
abbrev sMix : Stmt := top 21
abbrev sNext : Stmt := top 22
abbrev sPick : Stmt := top 24
section
variable {P : Program} {w : World} {K : PySem.W.Frag} {mg : Str → Option Value} {base : Heap}
theorem scMix : FnScope ["_law_script", "_law_seed", "_law_state", "_law_cell"] ["_law_script", "_law_seed"] (defScope sMix) := ⟨rfl, rfl, rfl, by decide +kernel, rfl, by decide +kernel, by decide +kernel⟩
theorem ok_mix {f : Addr} {fd : FuncData} (F : Fun K "_law_mix" "_law_mix" sMix f fd) (mInt : mg "int" = none) (mList : mg "list" = none) : FnOk P w K mg base CX0 1 f fd ["_law_script", "_law_seed"] (spMix K) := by
  refine F.ok scMix (fun vs H Q E h => ?_) (fun cdv A outer s H vs Q E hr h => ?_)
  · obtain ⟨a, z, ns, rfl, _⟩ := h
    rfl
  · obtain ⟨a, z, ns, rfl, hS, h0, h1, hl, k⟩ := h
    refine ⟨_, pss_cons (ps_set (i := 2) scMix.nd rfl (.inl rfl) (pv 1))
      (pss_cons (ps_for PassesOwn.never rfl (pi_list (pv 0)) (pg_name (i := 3) scMix.nd rfl (.inl rfl))
        (pss_one (ps_set (i := 2) scMix.nd rfl (.inl rfl) (pe_op op_mod (pe_callTy call_int1 (by rfl) mInt bo_int (pa_cons (pe_op op_add (pe_op op_add (pe_op op_mul (pv 2) pe_int) (pe_op op_mod (pe_callTy call_int1 (by rfl) mInt bo_int (pa_cons (pv 3) pa_nil)) pe_int)) pe_int) pa_nil)) pe_int))))
      (pss_one (ps_ret (pe_lst (pa_cons (pv 2) (pa_cons (pe_callTy call_list_of (by rfl) mList bo_list (pa_cons (pv 0) pa_nil)) (pa_cons pe_int pa_nil))))))), ?_⟩
    refine ⟨_, rfl, ?_⟩
    refine ⟨_, rfl, a, rfl, ⟨_, hS⟩, for_list (K := K) (a := a) (xs := ns.map V.int) (fun i σ H' => ∃ (st : Int) (v : Option V), σ = [some (.ref a), some (.int z), some (.int st), v] ∧ H' = H ∧ 0 ≤ st ∧ st < 2147483647)
      ⟨z, none, rfl, rfl, h0, h1⟩ (fun i σ H' _ ⟨_, _, _, e, _⟩ => by rw [e]; exact hS) ?_ ?_⟩
    · rintro i y σ H' hi ⟨st, v, rfl, rfl, b0, b1⟩
      obtain ⟨n, rfl⟩ : ∃ n, y = V.int n := by
        rw [List.getElem?_map] at hi
        cases e : ns[i]? with
        | none => rw [e] at hi; cases hi
        | some n => rw [e] at hi; exact ⟨n, (Option.some.inj hi).symm⟩
      refine ⟨_, rfl, _, _, rfl, rfl, .inr ⟨by decide, by decide⟩, ?_⟩
      refine ⟨_, rfl, .inl ⟨_, rfl, ?_⟩⟩
      refine ⟨_, _, rfl, rfl, (by show (0 : Int) < 2147483629; decide), ?_⟩
      refine ⟨_, _, rfl, rfl, ?_⟩
      refine ⟨_, _, rfl, rfl, ?_⟩
      refine .inl ⟨_, rfl, ?_⟩
      refine ⟨_, _, rfl, rfl, (by show (0 : Int) < 2147483647; decide), ?_⟩
      refine ⟨_, _, rfl, rfl, Int.emod_nonneg _ (by decide), Int.emod_lt_of_pos _ (by decide)⟩
    · rintro σ H' ⟨st, v, rfl, rfl, b0, b1⟩
      refine ⟨_, rfl, _, rfl, a, _, rfl, .inl hS, fun c hc => ?_⟩
      refine ⟨(by show 3 ≤ sizeLine; decide), fun p hp => ?_⟩
      have s1 : Same H' (upd H' c (.lst (ns.map V.int))) := Same.upd hc
      have hcp : c ≠ p := ne_of_none upd_same hp
      refine k p c _ (Same.upd' s1 hp) (Same.free s1 hp) hc ⟨st, 0, ns, upd_same, by rw [upd_ne hcp]; exact upd_same, b0, b1, by decide, hl⟩
theorem scNext : FnScope ["_law_h", "_law_cap", "_law_cell"] ["_law_h", "_law_cap"] (defScope sNext) := ⟨rfl, rfl, rfl, by decide +kernel, rfl, by decide +kernel, by decide +kernel⟩
theorem ok_next {f : Addr} {fd : FuncData} (F : Fun K "_law_next" "_law_next" sNext f fd) (mInt : mg "int" = none) (mLen : mg "len" = none) (mMax : mg "max" = none) : FnOk P w K mg base CX0 1 f fd ["_law_h", "_law_cap"] spNext := by
  refine F.ok scNext (fun vs H Q E h => ?_) (fun cdv A outer s H vs Q E hr h => ?_)
  · obtain ⟨p, c, cap, rfl, _⟩ := h
    rfl
  · obtain ⟨p, c, cap, rfl, ⟨st, ix, cs, d⟩, c1, c2, k⟩ := h
    refine ⟨_, pss_cons (ps_set (i := 2) scNext.nd rfl (.inl rfl) (pe_ix ix_list (pe_op op_cat (pe_ix ix_list (pv 0) pe_int (fun _ _ => rfl)) (pe_lst (pa_cons pe_int pa_nil)))
          (pe_op op_mod (pe_callTy call_int1 (by rfl) mInt bo_int (pa_cons (pe_ix ix_list (pv 0) pe_int (fun _ _ => rfl)) pa_nil))
            (pe_callB (call_max2 rfl) (by rfl) mMax bo_max (pa_cons pe_int (pa_cons (pe_callB call_len_seq (by rfl) mLen bo_len (pa_cons (pe_ix ix_list (pv 0) pe_int (fun _ _ => rfl)) pa_nil)) pa_nil)))) (fun _ _ => rfl)))
      (pss_cons (ps_if (pt_cmpR op_ge (pv 2) (pe_op op_pow pe_int pe_int) (nomark _))
        (pss_cons (ps_asg (pe_op op_fdiv (pv 2) (pv 1)) (pg_sub (pe_ix ix_list (pv 0) pe_int (fun _ _ => rfl)) (pe_op op_mod (pe_callTy call_int1 (by rfl) mInt bo_int (pa_cons (pe_ix ix_list (pv 0) pe_int (fun _ _ => rfl)) pa_nil)) (pe_callB call_len_seq (by rfl) mLen bo_len (pa_cons (pe_ix ix_list (pv 0) pe_int (fun _ _ => rfl)) pa_nil))) set_list))
          (pss_one (ps_ret (pe_op op_mod (pe_callTy call_int1 (by rfl) mInt bo_int (pa_cons (pv 2) pa_nil)) (pv 1)))))
        pss_nil)
      (pss_cons (ps_asg (pe_op op_mod (pe_callTy call_int1 (by rfl) mInt bo_int (pa_cons (pe_op op_add (pe_op op_add (pe_op op_mul (pe_ix ix_list (pv 0) pe_int (fun _ _ => rfl)) pe_int) (pe_op op_mul (pv 2) pe_int)) pe_int) pa_nil)) pe_int) (pg_sub (pv 0) pe_int set_list))
      (pss_cons (ps_asg (pe_op op_add (pe_ix ix_list (pv 0) pe_int (fun _ _ => rfl)) pe_int) (pg_sub (pv 0) pe_int set_list))
      (pss_one (ps_ret (pe_op op_mod (pe_callTy call_int1 (by rfl) mInt bo_int (pa_cons (pe_op op_fdiv (pe_ix ix_list (pv 0) pe_int (fun _ _ => rfl)) pe_int) pa_nil)) (pv 1))))))), ?_⟩
    obtain ⟨z, hz, hz0⟩ := at_cell (cs := cs) d.i0
    -- _law_cell
    refine ⟨_, rfl, p, _, _, _, rfl, rfl, SqL.of d.hp, rfl, ?_⟩
    refine ⟨(by show 1 ≤ sizeLine; decide), fun q hq => ?_⟩
    have s1 := Same.upd (o := HO.lst [V.int 0]) hq
    have d1 := d.same s1
    refine ⟨_, _, _, _, rfl, rfl, d1.hc, upd_same, (by rw [List.length_map]; have := d.len; rw [sizeLine_eq]; show cs.length + 1 ≤ _; omega), fun q2 hq2 => ?_⟩
    have s2 := Same.upd' (s := s1) (o := HO.lst (cs.map V.int ++ [V.int 0])) hq2
    have d2 := d.same s2
    refine ⟨_, rfl, p, _, _, _, rfl, rfl, SqL.of d2.hp, rfl, ?_⟩
    refine .inl ⟨_, rfl, ?_⟩
    refine ⟨_, rfl, p, _, _, _, rfl, rfl, SqL.of d2.hp, rfl, ?_⟩
    refine ⟨_, _, rfl, .inl (SqL.of d2.hc), ?_⟩
    refine ⟨_, _, rfl, ?_⟩
    refine ⟨_, _, rfl, rfl, (by show (0 : Int) < (if _ then _ else _); split <;> omega), ?_⟩
    refine ⟨q2, _, _, _, rfl, rfl, SqL.of upd_same, hz, ?_⟩
    -- if _law_cell >= 10 ** 18
    refine ⟨_, rfl, _, _, rfl, rfl, ⟨by decide, by decide, by decide⟩, ?_⟩
    refine ⟨_, _, rfl, rfl, _, rfl, ?_⟩
    have fr2 : Fr2 p c H _ := Fr2.of s2
    refine ite2 (fun hz1 => ?_) (fun _ => ?_)
    · have hz1 : (10 : Int) ^ 18 ≤ z := of_decide_eq_true hz1
      have hn : 0 < cs.length := by
        refine List.length_pos_iff.mpr fun e => ?_
        rw [hz0 e] at hz1
        exact absurd hz1 (by decide)
      obtain ⟨j, hj, hjl⟩ := ix_cell (n := cs.length) hn d.i0
      refine ⟨_, rfl, _, rfl, _, _, rfl, rfl, ⟨by omega, by omega⟩, ?_⟩
      refine ⟨_, rfl, p, _, _, _, rfl, rfl, SqL.of d2.hp, rfl, ?_⟩
      refine ⟨_, rfl, p, _, _, _, rfl, rfl, SqL.of d2.hp, rfl, ?_⟩
      refine .inl ⟨_, rfl, ?_⟩
      refine ⟨_, rfl, p, _, _, _, rfl, rfl, SqL.of d2.hp, rfl, ?_⟩
      refine ⟨_, _, rfl, .inl (SqL.of d2.hc), ?_⟩
      refine ⟨_, _, rfl, rfl, (by rw [List.length_map]; show (0 : Int) < _; omega), ?_⟩
      refine ⟨c, _, _, j, rfl, rfl, d2.hc, (by rw [List.length_map]; exact hj), ?_⟩
      refine ⟨_, rfl, .inl ⟨_, rfl, ?_⟩⟩
      refine ⟨_, rfl, _, _, rfl, rfl, (by show (0 : Int) < _; omega), ?_⟩
      refine k _ _ (Int.emod_nonneg _ (by omega)) (Int.emod_lt_of_pos _ (by omega)) ⟨st, ix, cs.set j (z / cap), ?_, ?_, d.s1, d.s2, d.i0, ?_⟩ fr2.updc
      · rw [upd_ne d.ne]; exact d2.hp
      · rw [upd_same, set_int]
      · rw [List.length_set]; exact d.len
    · -- _law_h[0] = ..
      refine ⟨_, rfl, p, _, _, _, rfl, rfl, SqL.of d2.hp, rfl, ?_⟩
      refine ⟨_, _, rfl, rfl, .inr ⟨by decide, by decide⟩, ?_⟩
      refine ⟨_, rfl, _, _, rfl, rfl, .inr ⟨by decide, by decide⟩, ?_⟩
      refine ⟨_, _, rfl, rfl, ?_⟩
      refine ⟨_, _, rfl, rfl, ?_⟩
      refine .inl ⟨_, rfl, ?_⟩
      refine ⟨_, _, rfl, rfl, (by show (0 : Int) < 2147483647; decide), ?_⟩
      refine ⟨_, rfl, p, _, _, 0, rfl, rfl, d2.hp, rfl, ?_⟩
      -- _law_h[2] = ..
      refine ⟨_, rfl, p, _, _, _, rfl, rfl, SqL.of upd_same, rfl, ?_⟩
      refine ⟨_, _, rfl, rfl, ?_⟩
      refine ⟨_, rfl, p, _, _, 2, rfl, rfl, upd_same, rfl, ?_⟩
      refine ⟨_, rfl, p, _, _, _, rfl, rfl, SqL.of upd_same, rfl, ?_⟩
      refine ⟨_, _, rfl, rfl, ⟨by decide, by decide⟩, ?_⟩
      refine .inl ⟨_, rfl, ?_⟩
      refine ⟨_, rfl, _, _, rfl, rfl, (by show (0 : Int) < _; omega), ?_⟩
      refine k _ _ (Int.emod_nonneg _ (by omega)) (Int.emod_lt_of_pos _ (by omega)) ⟨_, ix + 1, cs, upd_same, ?_, Int.emod_nonneg _ (by decide), Int.emod_lt_of_pos _ (by decide), by have := d.i0; omega, d.len⟩ fr2.updp.updp
      rw [upd_ne d.ne.symm, upd_ne d.ne.symm]; exact d2.hc
theorem scPick : FnScope ["_law_h", "_law_things"] ["_law_h", "_law_things"] (defScope sPick) := ⟨rfl, rfl, rfl, by decide +kernel, rfl, by decide +kernel, by decide +kernel⟩
theorem ok_pick {f fN : Addr} {fd fdN : FuncData} (F : Fun K "_law_pick" "_law_pick" sPick f fd) (mLen : mg "len" = none)
    (GN : FnOk P w K mg base CX0 1 fN fdN ["_law_h", "_law_cap"] spNext) (mN : mg "_law_next" = some (.ref fN)) (kN : PySem.W.keepIn K (.ref fN) = true) (bN : Binds K fdN ["_law_h", "_law_cap"] []) :
    FnOk P w K mg base CX0 2 f fd ["_law_h", "_law_things"] (spPick K) := by
  refine F.ok scPick (fun vs H Q E h => ?_) (fun cdv A outer s H vs Q E hr h => ?_)
  · obtain ⟨p, c, a, xs, rfl, _⟩ := h
    rfl
  · obtain ⟨p, c, a, xs, rfl, d, hx, hne, hl, ap, ac, k⟩ := h
    have hpos : 0 < xs.length := List.length_pos_iff.mpr hne
    refine ⟨_, pss_one (ps_ret (pe_ix (ix_list.or ix_tup) (pv 1) (pe_call GN hr rfl mN kN bN .nil pass0 (pa_cons (pv 0) (pa_cons (pe_callB call_len_seq (by rfl) mLen bo_len (pa_cons (pv 1) pa_nil)) pa_nil))) (fun _ _ => rfl))), ?_⟩
    refine ⟨_, rfl, _, rfl, _, rfl, _, _, rfl, hx, ?_⟩
    refine ⟨p, c, _, rfl, d, by omega, by omega, fun r H' r0 r1 d' fr => ?_⟩
    obtain ⟨j, rfl⟩ := Int.eq_ofNat_of_zero_le r0
    have hj : j < xs.length := by omega
    have hv : xs[j]? = some xs[j] := by simp [hj]
    rcases hx with hx | hx
    · refine .inl ⟨_, _, _, _, rfl, rfl, ?_, atI_nat hv, k j _ H' hv d' fr⟩
      rcases hx with (hx | ⟨o, hx⟩) | hx
      · exact .inl (.inl (fr _ _ ap ac hx))
      · exact .inl (.inr ⟨o, fr _ _ ap ac hx⟩)
      · exact .inr hx
    · refine .inr ⟨_, _, _, _, rfl, rfl, ?_, atI_nat hv, k j _ H' hv d' fr⟩
      rcases hx with (hx | ⟨o, hx⟩) | hx
      · exact .inl (.inl (fr _ _ ap ac hx))
      · exact .inl (.inr ⟨o, fr _ _ ap ac hx⟩)
      · exact .inr hx
abbrev sParts : Stmt := top 25
theorem scParts : FnScope ["_law_found"] [] (defScope sParts) := ⟨rfl, rfl, rfl, by decide +kernel, rfl, by decide +kernel, by decide +kernel⟩
theorem ok_parts {f : Addr} {fd : FuncData} (F : Fun K "_law_parts" "_law_parts" sParts f fd) : FnOk P w K mg base CX0 1 f fd [] spParts := by
  refine F.ok scParts (fun vs H Q E h => ?_) (fun cdv A outer s H vs Q E hr h => ?_)
  · obtain ⟨rfl, _⟩ := h
    rfl
  · obtain ⟨rfl, k⟩ := h
    refine ⟨_, pss_cons (ps_set (i := 0) scParts.nd rfl (.inl rfl) (pe_lst (pa_cons (pe_lst (pa_cons pe_str (pa_cons pe_str (pa_cons pe_str pa_nil)))) (pa_cons (pe_lst (pa_cons pe_str (pa_cons pe_str (pa_cons pe_str pa_nil)))) (pa_cons (pe_lst (pa_cons pe_str (pa_cons pe_str (pa_cons pe_str pa_nil)))) pa_nil)))))
      (pss_one (ps_ret (pe_op op_cat (pv 0) (pe_lst (pa_cons (pe_lst (pa_cons pe_str (pa_cons pe_str (pa_cons pe_str pa_nil)))) (pa_cons (pe_lst (pa_cons pe_str (pa_cons pe_str (pa_cons pe_str pa_nil)))) (pa_cons (pe_lst (pa_cons pe_str (pa_cons pe_str (pa_cons pe_str pa_nil)))) pa_nil))))))), ?_⟩
    have z3 : 3 ≤ sizeLine := by rw [sizeLine_eq]; decide
    refine ⟨z3, fun q0 n0 => ⟨z3, fun q1 n1 => ⟨z3, fun q2 n2 => ⟨z3, fun l n3 => ?_⟩⟩⟩⟩
    refine ⟨_, rfl, z3, fun q3 n4 => ⟨z3, fun q4 n5 => ⟨z3, fun q5 n6 => ⟨z3, fun l2 n7 => ?_⟩⟩⟩⟩
    have a7 := Same.upd (o := HO.lst [V.ref q3, V.ref q4, V.ref q5]) n7
    have a6 := (Same.upd (o := HO.lst (prow 5)) n6).trans a7
    have a5 := (Same.upd (o := HO.lst (prow 4)) n5).trans a6
    have a4 := (Same.upd (o := HO.lst (prow 3)) n4).trans a5
    have a3 := (Same.upd (o := HO.lst [V.ref q0, V.ref q1, V.ref q2]) n3).trans a4
    have a2 := (Same.upd (o := HO.lst (prow 2)) n2).trans a3
    have a1 := (Same.upd (o := HO.lst (prow 1)) n1).trans a2
    have a0 := (Same.upd (o := HO.lst (prow 0)) n0).trans a1
    refine ⟨l, l2, _, _, rfl, rfl, a4 _ _ upd_same, upd_same, (by show 6 ≤ sizeLine; rw [sizeLine_eq]; decide), fun p np => ?_⟩
    have b := Same.upd (o := HO.lst [V.ref q0, V.ref q1, V.ref q2, V.ref q3, V.ref q4, V.ref q5]) np
    exact k p _ (a0.trans b) (Same.free a0 np) ⟨q0, q1, q2, q3, q4, q5, upd_same, b _ _ (a1 _ _ upd_same), b _ _ (a2 _ _ upd_same), b _ _ (a3 _ _ upd_same), b _ _ (a5 _ _ upd_same), b _ _ (a6 _ _ upd_same), b _ _ (a7 _ _ upd_same)⟩
abbrev sRule : Stmt := top 26
theorem scRule : FnScope ["_law_h", "_law_rule_here", "_law_row"] ["_law_h"] (defScope sRule) := ⟨rfl, rfl, rfl, by decide +kernel, rfl, by decide +kernel, by decide +kernel⟩
theorem ok_rule {f fP fQ : Addr} {fd fdP fdQ : FuncData} (F : Fun K "_law_rule" "_law_rule" sRule f fd)
    (GP : FnOk P w K mg base CX0 2 fP fdP ["_law_h", "_law_things"] (spPick K)) (mP : mg "_law_pick" = some (.ref fP)) (kP : PySem.W.keepIn K (.ref fP) = true) (bP : Binds K fdP ["_law_h", "_law_things"] [])
    (GQ : FnOk P w K mg base CX0 1 fQ fdQ [] spParts) (mQ : mg "_law_parts" = some (.ref fQ)) (kQ : PySem.W.keepIn K (.ref fQ) = true) (bQ : Binds K fdQ [] []) :
    FnOk P w K mg base CX0 3 f fd ["_law_h"] spRule := by
  refine F.ok scRule (fun vs H Q E h => ?_) (fun cdv A outer s H vs Q E hr h => ?_)
  · obtain ⟨p, c, rfl, _⟩ := h
    rfl
  · obtain ⟨p, c, rfl, dr, k⟩ := h
    have hu := hu_of hr
    refine ⟨_, pss_cons (ps_set (i := 1) scRule.nd rfl (.inl rfl) pe_dnewK)
      (pss_cons (ps_for PassesOwn.never rfl (pi_list (pe_call0 GQ (hr.mono (by decide)) rfl mQ kQ bQ .nil pass0)) (pg_name (i := 2) scRule.nd rfl (.inl rfl))
        (pss_one (ps_dput hu (pv 1) (pe_ix ix_list (pv 2) pe_int (fun _ _ => rfl)) (pe_call GP hr rfl mP kP bP .nil pass0 (pa_cons (pv 0) (pa_cons (pe_slice sl_list (pv 2) (po_some pe_int) po_none) pa_nil))) rfl)))
      (pss_one (ps_ret (pv 1)))), ?_⟩
    intro d hd
    have s0 := Same.upd (o := HO.dK []) hd
    refine ⟨rfl, fun l H1 s1 nl pa => ?_⟩
    obtain ⟨q0, q1, q2, q3, q4, q5, hl, e0, e1, e2, e3, e4, e5⟩ := id pa
    have d1 := dr.same (s0.trans s1)
    have hd1 : H1 d = some (.dK (kvN [])) := s1 _ _ upd_same
    have f1 : Fr2 p c H H1 := Fr2.of (s0.trans s1)
    refine ⟨l, rfl, ⟨_, SqL.of hl⟩, for_list (K := K) (a := l) (xs := [.ref q0, .ref q1, .ref q2, .ref q3, .ref q4, .ref q5]) (fun i σ H' => ∃ (ws : List Str) (v : Option V), σ = [some (.ref p), some (.ref d), v] ∧ ws.length = i ∧
        (∀ j w, ws[j]? = some w → w = w0.getD j "" ∨ w = w1.getD j "") ∧ H' d = some (.dK (kvN ws)) ∧ Dr H' p c ∧ Fr2 p c H H' ∧ PartsAt H' l ∧ H' l = some (.lst [.ref q0, .ref q1, .ref q2, .ref q3, .ref q4, .ref q5]) ∧
        ∀ j q, ([q0, q1, q2, q3, q4, q5] : List Addr)[j]? = some q → H' q = some (.lst (prow j)))
      ⟨[], none, rfl, rfl, (fun j w h => by simp at h), hd1, d1, f1, pa, hl, ?_⟩ (fun i σ H' _ ⟨_, _, _, _, _, _, _, _, _, h, _⟩ => SqL.of h) ?_ ?_⟩
    · intro j q hj
      match j, hj with
      | 0, hj => cases hj; exact e0
      | 1, hj => cases hj; exact e1
      | 2, hj => cases hj; exact e2
      | 3, hj => cases hj; exact e3
      | 4, hj => cases hj; exact e4
      | 5, hj => cases hj; exact e5
      | _ + 6, hj => simp at hj
    · rintro i y σ H' hi ⟨ws, v, rfl, hw, hc, hD, dD, fr, pp, hL, hq⟩
      obtain ⟨q, hqi, rfl⟩ : ∃ q, ([q0, q1, q2, q3, q4, q5] : List Addr)[i]? = some q ∧ y = .ref q := by
        match i, hi with
        | 0, hj => cases hj; exact ⟨_, rfl, rfl⟩
        | 1, hj => cases hj; exact ⟨_, rfl, rfl⟩
        | 2, hj => cases hj; exact ⟨_, rfl, rfl⟩
        | 3, hj => cases hj; exact ⟨_, rfl, rfl⟩
        | 4, hj => cases hj; exact ⟨_, rfl, rfl⟩
        | 5, hj => cases hj; exact ⟨_, rfl, rfl⟩
        | _ + 6, hj => simp at hj
      have hqr := hq i q hqi
      have hi6 : i < 6 := (List.getElem?_eq_some_iff.mp hqi).1
      have hpk : pn[ws.length]? = some (pn.getD i "") := by
        rw [hw]
        match i, hi6 with
        | 0, _ => rfl
        | 1, _ => rfl
        | 2, _ => rfl
        | 3, _ => rfl
        | 4, _ => rfl
        | 5, _ => rfl
      -- the value: a word drawn of the row's second and third
      refine ⟨_, rfl, _, rfl, _, rfl, q, _, rfl, SqL.of hqr, fun z nz => ?_⟩
      have sz := Same.upd (o := HO.lst (cutV (prow i) (some 1) none)) nz
      have dz := dD.same sz
      obtain ⟨st, ix, cs, dS⟩ := id dz
      have zap := dS.apart (b := z) upd_same (by constructor <;> (intro e; injection e with e; first | cases e | (cases cs <;> cases e)))
      refine ⟨p, c, z, _, rfl, dz, .inl (SqL.of upd_same), (by intro e; cases e), (by show 2 < 1000; decide), zap.1, zap.2, fun j w H2 hj d2 fr2 => ?_⟩
      have hwj : ∃ w', w = V.str w' ∧ (w' = w0.getD i "" ∨ w' = w1.getD i "") := by
        have hj' : ([V.str (w0.getD i ""), V.str (w1.getD i "")] : List V)[j]? = some w := hj
        match j, hj' with
        | 0, hj => cases hj; exact ⟨_, rfl, .inl rfl⟩
        | 1, hj => cases hj; exact ⟨_, rfl, .inr rfl⟩
        | _ + 2, hj => simp at hj
      obtain ⟨w', rfl, hw'⟩ := hwj
      have go : ∀ {b : Addr} {o : HO}, H' b = some o → (o ≠ .lst [.int st, .ref c, .int ix] ∧ o ≠ .lst (cs.map V.int)) → H2 b = some o := fun h n => fr2 _ _ (dS.apart (sz _ _ h) n).1 (dS.apart (sz _ _ h) n).2 (sz _ _ h)
      have hD2 := go hD dK_ne
      have hq2 := go hqr prow_ne
      have ek : prow i = V.str (pn.getD i "") :: [V.str (w0.getD i ""), V.str (w1.getD i "")] := rfl
      refine ⟨_, rfl, _, rfl, q, _, _, _, rfl, rfl, SqL.of hq2, rfl, d, _, rfl, DPut.k (k := Sum.inr (pn.getD i "")) hD2 ?_, ?_⟩
      · refine small1000 ?_
        have : (kvN ws).length ≤ 6 := by
          unfold kvN
          rw [List.length_zipWith]
          exact Nat.min_le_left _ _
        omega
      have ne : ∀ {b : Addr} {o : HO}, H2 b = some o → (∀ kvs, o ≠ .dK kvs) → upd H2 d (.dK (putK (kvN ws) (Sum.inr (pn.getD i "")) (V.str w'))) b = some o := fun h n => by
        rw [upd_ne (ne_of h hD2 (n _))]; exact h
      obtain ⟨st2, ix2, cs2, dS2⟩ := id d2
      refine ⟨ws ++ [w'], _, rfl, by rw [List.length_append, hw]; rfl, fun j' w2 h2 => ?_, ?_, ⟨st2, ix2, cs2, ne dS2.hp (by intro kvs e; cases e), ne dS2.hc (by intro kvs e; cases e), dS2.s1, dS2.s2, dS2.i0, dS2.len⟩, ?_, ?_, ?_, ?_⟩
      · rcases Nat.lt_or_ge j' ws.length with hlt | hge
        · rw [List.getElem?_append_left hlt] at h2
          exact hc j' w2 h2
        · rw [List.getElem?_append_right hge] at h2
          have e0 : j' - ws.length = 0 := by
            have := (List.getElem?_eq_some_iff.mp h2).1
            simp at this
            omega
          rw [e0] at h2
          obtain rfl := Option.some.inj h2
          have e1 : j' = i := by omega
          rw [e1]
          exact hw'
      · rw [upd_same, kvN_snoc hpk, putK_new _ (kvN_new hpk)]
      · intro b o h1 h2 h
        have nb : b ≠ d := ne_of_none h hd
        rw [upd_ne nb]
        exact fr2 _ _ h1 h2 (sz _ _ (fr _ _ h1 h2 h))
      · have p2 : PartsAt H2 l := (pp.same sz).fr dz fr2
        obtain ⟨r0, r1, r2, r3, r4, r5, g, g0, g1, g2, g3, g4, g5⟩ := p2
        exact ⟨r0, r1, r2, r3, r4, r5, ne g (by intro kvs e; cases e), ne g0 (by intro kvs e; cases e), ne g1 (by intro kvs e; cases e), ne g2 (by intro kvs e; cases e), ne g3 (by intro kvs e; cases e), ne g4 (by intro kvs e; cases e), ne g5 (by intro kvs e; cases e)⟩
      · exact ne (go hL refs_ne) (by intro kvs e; cases e)
      · exact fun j' q' h' => ne (go (hq j' q' h') prow_ne) (by intro kvs e; cases e)
    · rintro σ H' ⟨ws, v, rfl, hw, hc, hD, dD, fr, pp, hL, hq⟩
      match ws, hw with
      | [a0, a1, a2, a3, a4, a5], _ =>
        have pick : ∀ (j : Nat) (w : Str), ([a0, a1, a2, a3, a4, a5] : List Str)[j]? = some w → ∃ b : Bool, w = bif b then w1.getD j "" else w0.getD j "" := fun j w h => by
          rcases hc j w h with e | e
          · exact ⟨false, e⟩
          · exact ⟨true, e⟩
        obtain ⟨b0, rfl⟩ := pick 0 a0 rfl
        obtain ⟨b1, rfl⟩ := pick 1 a1 rfl
        obtain ⟨b2, rfl⟩ := pick 2 a2 rfl
        obtain ⟨b3, rfl⟩ := pick 3 a3 rfl
        obtain ⟨b4, rfl⟩ := pick 4 a4 rfl
        obtain ⟨b5, rfl⟩ := pick 5 a5 rfl
        exact ⟨_, rfl, k ⟨b0, b1, b2, b3, b4, b5⟩ d H' dD fr hd hD⟩
end
end SD
namespace SD
open PySem L2
/-! ### walks of the top's dicts -/
theorem walk_kd {kvs : List (Str × V)} : Walk (ItkD kvs) kvs.length (fun _ => True) (fun i H x H' => H' = H ∧ ∃ p, kvs[i]? = some p ∧ x = V.str p.1) :=
  ⟨fun _ _ hi _ => hi, fun _ _ => Nat.le_refl _, fun _ _ _ _ _ _ y => y⟩
theorem walk_kdI {kvs : List (Str × V)} : Walk (ItiD kvs) kvs.length (fun _ => True) (fun i H x H' => ∃ T p, kvs[i]? = some p ∧ x = .ref T ∧ H T = none ∧ H' = upd H T (.tup [V.str p.1, p.2])) :=
  ⟨fun _ _ hi _ => hi, fun _ _ => Nat.le_refl _, fun _ _ _ _ _ _ y => y⟩
theorem inV_str {z : Str} : ∀ ws : List Str, inV (.str z) (ws.map V.str) = decide (z ∈ ws)
  | [] => by simp [inV]
  | a :: r => by
    have ih := inV_str (z := z) r
    unfold inV at ih ⊢
    rw [List.map_cons, List.any_cons, ih]
    have e : eqV (V.str a) (V.str z) = decide (a = z) := by
      show (a == z) = _
      by_cases h : a = z
      · subst h; simp
      · rw [decide_eq_false h]; simpa using h
    rw [e]
    by_cases h : a = z
    · subst h
      rw [decide_eq_true rfl, Bool.true_or, decide_eq_true List.mem_cons_self]
    · rw [decide_eq_false h, Bool.false_or]
      exact decide_eq_decide.mpr ⟨List.mem_cons_of_mem _, fun q => (List.mem_cons.mp q).resolve_left fun e => h e.symm⟩
theorem flat_strs : ∀ ws : List Str, (ws.map V.str).all flatV = true
  | [] => rfl
  | _ :: r => by rw [List.map_cons, List.all_cons, flat_strs r]; rfl
/-! ### is_word, is_integer -/
def spWord (K : PySem.W.Frag) : Sp := fun vs H Q _ => ∃ (x : V) (a : Addr) (ws : List Str) (b : Bool), vs = [x, .ref a] ∧ (SqL K H a (ws.map V.str) ∨ SqT K H a (ws.map V.str)) ∧
  ((∃ z, x = .str z ∧ b = decide (z ∈ ws)) ∨ (b = false ∧ ∃ t, TyX K H x t ∧ PySem.W.kitOne K t (.type "str") = some false)) ∧ Q (.bl b) H
section
variable {P : Program} {w : World} {K : PySem.W.Frag} {mg : Str → Option Value} {base : Heap}
abbrev s_is_word : Stmt := top 11
theorem sc_is_word : FnScope ["thing", "words"] ["thing", "words"] (defScope s_is_word) := ⟨rfl, rfl, rfl, by decide +kernel, rfl, by decide +kernel, by decide +kernel⟩
theorem ok_is_word {f : Addr} {fd : FuncData} (F : Fun K "is_word" "is_word" s_is_word f fd) (n_isinstance : mg "isinstance" = none) (n_str : mg "str" = none) :
    FnOk P w K mg base CX0 1 f fd ["thing", "words"] (spWord K) := by
  refine F.ok sc_is_word (fun vs H Q E h => ?_) (fun cdv A outer s H vs Q E hr h => ?_)
  · (repeat (obtain ⟨_, h⟩ := h)) <;> (subst_vars; rfl)
  · have hu := hu_of hr
    refine ⟨_, (pss_one (ps_ret (pe_and (pe_callB (isiK (K := K)) (by rfl) n_isinstance bo_isi (pa_cons (L2.pv 0) (pa_cons (pe_bltn (v := .ty "str") (by rfl) n_str bo_str rfl) pa_nil))) (pe_one (pe_cmpR (op_inK (K := K)) (L2.pv 0) (L2.pv 1) (by rfl)))))), ?_⟩
    obtain ⟨x, a, ws, b, rfl, hq, hb, k⟩ := h
    rcases hb with ⟨z, rfl, rfl⟩ | ⟨rfl, t, ht, kt⟩
    · refine ⟨_, rfl, _, _, _, _, true, rfl, .ty "str", .base (.str z), kit_ty (by decide +kernel), true, rfl, ?_⟩
      refine iteT ⟨_, rfl, _, rfl, a, _, rfl, hq, rfl, flat_strs ws, ?_⟩
      show Q (.bl (inV _ _)) H
      rw [inV_str]
      exact k
    · exact ⟨_, rfl, _, _, _, _, false, rfl, .ty "str", ht, kt, false, rfl, iteF k⟩
def spInt (K : PySem.W.Frag) : Sp := fun vs H Q _ => ∃ (x : V) (lo hi : Int) (b : Bool), vs = [x, .int lo, .int hi] ∧
  ((∃ i, x = .int i ∧ b = decide (lo ≤ i ∧ i ≤ hi)) ∨ (b = false ∧ ((∃ c, x = .bl c) ∨ ∃ t, TyX K H x t ∧ PySem.W.kitOne K t (.type "int") = some false))) ∧ Q (.bl b) H
abbrev s_is_integer : Stmt := top 10
theorem sc_is_integer : FnScope ["thing", "low", "high"] ["thing", "low", "high"] (defScope s_is_integer) := ⟨rfl, rfl, rfl, by decide +kernel, rfl, by decide +kernel, by decide +kernel⟩
theorem ok_is_integer {f : Addr} {fd : FuncData} (F : Fun K "is_integer" "is_integer" s_is_integer f fd) (n_bool : mg "bool" = none) (n_int : mg "int" = none) (n_isinstance : mg "isinstance" = none) :
    FnOk P w K mg base CX0 1 f fd ["thing", "low", "high"] (spInt K) := by
  refine F.ok sc_is_integer (fun vs H Q E h => ?_) (fun cdv A outer s H vs Q E hr h => ?_)
  · (repeat (obtain ⟨_, h⟩ := h)) <;> (subst_vars; rfl)
  · have hu := hu_of hr
    refine ⟨_, (pss_one (ps_ret (pe_and (pe_callB (isiK (K := K)) (by rfl) n_isinstance bo_isi (pa_cons (L2.pv 0) (pa_cons (pe_bltn (v := .ty "int") (by rfl) n_int bo_int rfl) pa_nil))) (pe_and (pe_not (pe_callB (isiK (K := K)) (by rfl) n_isinstance bo_isi (pa_cons (L2.pv 0) (pa_cons (pe_bltn (v := .ty "bool") (by rfl) n_bool bo_bool rfl) pa_nil)))) (pe_one (pe_chain op_le op_le (L2.pv 1) (L2.pv 0) (L2.pv 2))))))), ?_⟩
    obtain ⟨x, lo, hi, b, rfl, hb, k⟩ := h
    rcases hb with ⟨i, rfl, rfl⟩ | ⟨rfl, ⟨c, rfl⟩ | ⟨t, ht, kt⟩⟩
    · refine ⟨_, rfl, _, _, _, _, true, rfl, .ty "int", .base (.int i), kit_ty (by decide +kernel), true, rfl, iteT ?_⟩
      refine ⟨_, rfl, _, _, _, _, false, rfl, .ty "bool", .base (.int i), kit_ty (by decide +kernel), false, rfl, true, rfl, iteT ?_⟩
      refine ⟨_, rfl, _, rfl, _, _, rfl, rfl, _, rfl, ?_⟩
      by_cases h1 : lo ≤ i
      · rw [decide_eq_true h1]
        refine iteT ⟨_, rfl, _, _, rfl, rfl, ?_⟩
        have e : decide (i ≤ hi) = decide (lo ≤ i ∧ i ≤ hi) := by simp [h1]
        show Q (.bl (decide (i ≤ hi))) H
        rw [e]
        exact k
      · rw [decide_eq_false h1]
        refine iteF ?_
        have e : decide (lo ≤ i ∧ i ≤ hi) = false := by simp [h1]
        rw [e] at k
        exact k
    · refine ⟨_, rfl, _, _, _, _, true, rfl, .ty "int", .base (.bl c), kit_ty (by decide +kernel), true, rfl, iteT ?_⟩
      exact ⟨_, rfl, _, _, _, _, true, rfl, .ty "bool", .base (.bl c), kit_ty (by decide +kernel), true, rfl, false, rfl, iteF k⟩
    · exact ⟨_, rfl, _, _, _, _, false, rfl, .ty "int", ht, kt, false, rfl, iteF k⟩
/-! ### check_rule, of a rule that is one -/
def spCheck : Sp := fun vs H Q _ => ∃ (d : Addr) (r : Rule), vs = [.ref d] ∧ H d = some (.dK r.kv) ∧ ∀ H', L2.Same H H' → Q .non H'
/-- PARTS -/
def partsD : List (Str × PyData) := [("along", .tuple [.str "alone", .str "links"]), ("clash", .tuple [.str "last", .str "refuse"]), ("drafts", .tuple [.str "one", .str "own"]), ("leads", .tuple [.str "draft", .str "nothing"]),
  ("restores", .tuple [.str "before", .str "nothing"]), ("staged", .tuple [.str "now", .str "then"])]
def wordsD : PyData := .tuple [.str "back", .str "both", .str "hide", .str "stage", .str "throw"]
/-- what is known of the tables of books.py -/
structure BkTab (P : Program) (w : World) (K : PySem.W.Frag) (mg : Str → Option Value) (dP : Addr) (pv : List (Str × V)) (aW : Addr) : Prop where
  mP : mg "PARTS" = some (.ref dP)
  kd : KD P w K dP pv
  keys : pv.map (·.1) = pn
  vals : ∀ H, DpAll K H (pv.map (·.2)) (partsD.map (·.2))
  mW : mg "WORDS" = some (.ref aW)
  wd : ∀ H, SqT K H aW [.str "back", .str "both", .str "hide", .str "stage", .str "throw"]
theorem dp_two {v : V} {x y : Str} (h : ∀ H, Dp K H v (.tuple [.str x, .str y])) : ∃ a, v = .ref a ∧ ∀ H, SqT K H a [.str x, .str y] := by
  obtain ⟨a, rfl⟩ : ∃ a, v = .ref a := by
    cases h (fun _ => none) with
    | tup _ _ => exact ⟨_, rfl⟩
  refine ⟨a, rfl, fun H => ?_⟩
  cases h H with
  | tup hs ha =>
    cases ha with
    | cons h1 h2 =>
      cases h1
      cases h2 with
      | cons h3 h4 =>
        cases h3
        cases h4
        exact hs
theorem BkTab.at {P : Program} {w : World} {dP aW : Addr} {pv : List (Str × V)} (T : BkTab P w K mg dP pv aW) {i : Nat} {p : Str × V} (h : pv[i]? = some p) : pn[i]? = some p.1 ∧ i < 6 ∧ ∃ a, p.2 = .ref a ∧ ∀ H, SqT K H a [.str (w0.getD i ""), .str (w1.getD i "")] := by
  have e1 : pn[i]? = some p.1 := by
    rw [← T.keys, List.getElem?_map, h]
    rfl
  have hi : i < 6 := (List.getElem?_eq_some_iff.mp e1).1
  refine ⟨e1, hi, ?_⟩
  have get : ∀ (xs : List V) (ds : List PyData) (H : Hp) (i : Nat) (x : V), DpAll K H xs ds → xs[i]? = some x → ∃ d, ds[i]? = some d ∧ Dp K H x d := by
    intro xs
    induction xs with
    | nil => intro ds H i x _ hx; simp at hx
    | cons a r ih =>
      intro ds H i x hd hx
      cases hd with
      | cons h1 h2 =>
        match i, hx with
        | 0, hx => exact ⟨_, rfl, by cases hx; exact h1⟩
        | i + 1, hx => exact ih _ H i x h2 hx
  have hv : (pv.map (·.2))[i]? = some p.2 := by
    rw [List.getElem?_map, h]
    rfl
  have dd : ∀ H, Dp K H p.2 (.tuple [.str (w0.getD i ""), .str (w1.getD i "")]) := fun H => by
    obtain ⟨d, e, q⟩ := get _ _ H i _ (T.vals H) hv
    match i, hi, e with
    | 0, _, e => cases e; exact q
    | 1, _, e => cases e; exact q
    | 2, _, e => cases e; exact q
    | 3, _, e => cases e; exact q
    | 4, _, e => cases e; exact q
    | 5, _, e => cases e; exact q
  exact dp_two dd
theorem BkTab.len {P : Program} {w : World} {dP aW : Addr} {pv : List (Str × V)} (T : BkTab P w K mg dP pv aW) : pv.length = 6 := by
  have e := congrArg List.length T.keys
  rw [List.length_map] at e
  exact e
theorem kv_at {r : Rule} {i : Nat} {k : Str} (h : pn[i]? = some k) : ∃ b : Bool, valV r.kv (Sum.inr k : Key) = some (.str (bif b then w1.getD i "" else w0.getD i "")) ∧ r.kv[i]? = some (Sum.inr k, .str (bif b then w1.getD i "" else w0.getD i "")) := by
  have hi : i < 6 := (List.getElem?_eq_some_iff.mp h).1
  match i, hi, h with
  | 0, _, h => cases h; exact ⟨r.al, rfl, rfl⟩
  | 1, _, h => cases h; exact ⟨r.cl, rfl, rfl⟩
  | 2, _, h => cases h; exact ⟨r.dr, rfl, rfl⟩
  | 3, _, h => cases h; exact ⟨r.le, rfl, rfl⟩
  | 4, _, h => cases h; exact ⟨r.re, rfl, rfl⟩
  | 5, _, h => cases h; exact ⟨r.sg, rfl, rfl⟩
abbrev s_check_rule : Stmt := top 12
theorem sc_check_rule : FnScope ["rule", "part", "words"] ["rule"] (defScope s_check_rule) := ⟨rfl, rfl, rfl, by decide +kernel, rfl, by decide +kernel, by decide +kernel⟩
theorem ok_check_rule {f : Addr} {fd : FuncData} (F : Fun K "check_rule" "check_rule" s_check_rule f fd) {dP aW : Addr} {pv : List (Str × V)} (T : BkTab P w K mg dP pv aW) (n_all : mg "all" = none) (n_dict : mg "dict" = none) (n_isinstance : mg "isinstance" = none) (n_len : mg "len" = none) (n_list : mg "list" = none)
    {f_is_word : Addr} {fd_is_word : FuncData} (G_is_word : FnOk P w K mg base CX0 1 f_is_word fd_is_word ["thing", "words"] (spWord K)) (D_is_word : DefIn K mg "is_word" f_is_word fd_is_word ["thing", "words"]) :
    FnOk P w K mg base CX0 2 f fd ["rule"] spCheck := by
  refine F.ok sc_check_rule (fun vs H Q E h => ?_) (fun cdv A outer s H vs Q E hr h => ?_)
  · (repeat (obtain ⟨_, h⟩ := h)) <;> (subst_vars; rfl)
  · have hu := hu_of hr
    refine ⟨_, (pss_cons (ps_if (PW.pt (pw_or (pt_not (pt_val (pe_callB (isiK (K := K)) (by rfl) n_isinstance bo_isi (pa_cons (L2.pv 0) (pa_cons (pe_bltn (v := .ty "dict") (by rfl) n_dict bo_dict rfl) pa_nil))))) (pw_or (pt_cmpR op_ne (pe_callB call_lenD (by rfl) n_len bo_len (pa_cons (L2.pv 0) pa_nil)) (pe_callB (kd_len T.kd) (by rfl) n_len bo_len (pa_cons (pe_glob (v := .ref dP) (by rfl) T.mP rfl) pa_nil)) (nomark _)) (pw_or1 (pt_not (pt_val (pe_callB (allK (K := K) rfl) (by rfl) n_all bo_all (pa_cons (pe_lock (pe_lc (own := [("part", 1)]) (g := gName 1) (tt := tYes) rfl sc_check_rule.nd (pi_keys (L2.pv 0)) (blkOk_by (N := ["rule", "part", "words"]) (sc := defScope s_check_rule) (by decide +kernel)) (fun _ _ _ _ _ => pg_name (i := 1) sc_check_rule.nd rfl (by first | exact .inl rfl | exact .inr rfl)) (fun _ _ _ _ _ => pts_nil) (fun _ _ _ _ _ => (pe_cl G_is_word (hr.mono (by decide)) D_is_word (pa_cons (L2.pv 1) (pa_cons (pe_callTy (kd_list T.kd rfl) (by rfl) n_list bo_list (pa_cons (pe_glob (v := .ref dP) (by rfl) T.mP rfl) pa_nil)) pa_nil)))))) pa_nil)))))))) (pss_one ps_never) pss_nil)
      (pss_one (ps_for PassesOwn.never rfl (pi_kdI T.kd (pe_glob (v := .ref dP) (by rfl) T.mP rfl)) (pg_tupK (K := K) rfl (pgs_cons (pg_name (i := 1) sc_check_rule.nd rfl (by first | exact .inl rfl | exact .inr rfl)) (pgs_cons (pg_name (i := 2) sc_check_rule.nd rfl (by first | exact .inl rfl | exact .inr rfl)) pgs_nil))) (pss_one (ps_if (pt_not (pt_val (pe_cl G_is_word (hr.mono (by decide)) D_is_word (pa_cons (pe_dget hu (L2.pv 0) (L2.pv 1) (fun _ _ => rfl)) (pa_cons (L2.pv 2) pa_nil))))) (pss_one ps_never) pss_nil))))), ?_⟩
    obtain ⟨d, r, rfl, hd, k⟩ := h
    refine ⟨_, rfl, _, _, _, _, true, rfl, .ty "dict", .base (.dK hd), kit_ty (by decide +kernel), true, rfl, iteF ?_⟩
    refine ⟨_, rfl, d, _, rfl, hd, ⟨rfl, rfl, _, rfl, iteNS (show V.int (r.kv.length : Int) = V.int (pv.length : Int) by rw [T.len]; rfl) ?_⟩⟩
    have ep : pv.map (fun kv => V.str kv.1) = pn.map V.str := by rw [← T.keys, List.map_map]; rfl
    refine ⟨d, _, hd, trivial, fun od => ⟨_, rfl, d, od, rfl, .inl ⟨r.kv, upd_same, fun D hD => ?_⟩⟩⟩
    have sD : L2.Same (upd H d (.frz od (.dK r.kv))) (upd (upd H d (.frz od (.dK r.kv))) D (.lst [])) := Same.upd hD
    refine lc_it walk_keys (fun i H' => L2.Same (upd H d (.frz od (.dK r.kv))) H' ∧ H' D = some (.lst ((List.replicate i true).map V.bl))) ⟨sD, upd_same⟩ (fun i H' _ p => p.1 _ _ upd_same) ?_ ?_
    · rintro i x H1 H2 hi ⟨s1, hL⟩ ⟨rfl, kk, v, hkv, rfl⟩
      have e1 : pn[i]? = some (pn.getD i "") := by
        match i, hi with
        | 0, _ => rfl
        | 1, _ => rfl
        | 2, _ => rfl
        | 3, _ => rfl
        | 4, _ => rfl
        | 5, _ => rfl
      obtain ⟨b, _, e2⟩ := kv_at (r := r) e1
      rw [hkv] at e2
      cases e2
      refine ⟨rfl, _, rfl, rfl, fun q hq => ?_⟩
      have s2 := Same.upd (o := HO.lst (pv.map fun kv => V.str kv.1)) hq
      refine ⟨_, q, pn, true, rfl, .inl (SqL.of (by rw [upd_same, ep])), .inl ⟨_, rfl, (decide_eq_true (List.mem_of_getElem? e1)).symm⟩, ?_⟩
      refine ⟨_, s2 _ _ hL, ?_, ?_, ?_⟩
      · rw [List.length_map, List.length_replicate]
        have h6 : r.kv.length = 6 := rfl
        exact small1000 (by omega)
      · intro b2 o2 h2
        have nb : b2 ≠ D := ne_of_none h2 hD
        rw [upd_ne nb]
        exact s2 _ _ (s1 _ _ h2)
      · rw [upd_same, List.replicate_succ', List.map_append]
        rfl
    · rintro H1 ⟨s1, hL⟩
      refine ⟨s1 _ _ upd_same, D, List.replicate 6 true, rfl, SqL.of ?_, true, rfl, iteF ?_⟩
      · have nD : D ≠ d := (ne_of_none (upd_same (H := H) (a := d)) hD).symm
        rw [upd_ne nD]
        exact hL
      have s2 : L2.Same H (upd H1 d (.dK r.kv)) := fun b o hb => by
        by_cases e : b = d
        · subst e
          rw [hd] at hb
          cases hb
          exact upd_same
        · rw [upd_ne e]
          exact s1 _ _ (by rw [upd_ne e]; exact hb)
      -- for part, words in PARTS.items()
      refine ⟨rfl, for_it walk_kdI (fun i σ H' => ∃ v1 v2 : Option V, σ = [some (.ref d), v1, v2] ∧ L2.Same H H') ⟨none, none, rfl, s2⟩ (fun _ _ _ _ _ => trivial) ?_ ?_⟩
      · rintro i x σ H2 H3 hi ⟨v1, v2, rfl, s3⟩ ⟨T0, p, hp, rfl, hT, rfl⟩
        obtain ⟨pk, px⟩ := p
        obtain ⟨e1, _, a, ha, hw⟩ := T.at hp
        have ha : px = .ref a := ha
        subst ha
        have s4 := Same.upd' (o := HO.tup [V.str pk, .ref a]) s3 hT
        obtain ⟨b, e2, _⟩ := kv_at (r := r) e1
        refine ⟨T0, _, rfl, SqT.of upd_same, rfl, _, _, rfl, _, _, rfl, rfl, ?_⟩
        refine ⟨_, rfl, _, rfl, d, _, rfl, (by rw [← e2]; exact DGet.k (k := Sum.inr pk) (s4 _ _ hd)), ?_⟩
        refine ⟨_, rfl, _, a, [w0.getD i "", w1.getD i ""], true, rfl, .inr (hw _), .inl ⟨_, rfl, ?_⟩, true, rfl, _, _, rfl, s4⟩
        cases b
        · exact (decide_eq_true List.mem_cons_self).symm
        · exact (decide_eq_true (List.mem_cons_of_mem _ List.mem_cons_self)).symm
      · rintro σ H2 ⟨v1, v2, rfl, s3⟩
        exact k H2 s3
theorem tyX_tup {H : Hp} {a : Addr} {xs : List V} (h : SqT K H a xs) : TyX K H (.ref a) (.type "tuple") := by
  rcases h with (h | ⟨o, h⟩) | ⟨o, its, n, h1, h2, _⟩
  · exact .base (.tup h)
  · exact .fTuple h
  · exact .kTuple h1 h2
theorem at_str {ws : List Str} {i : Nat} {x : V} (h : (ws.map V.str)[i]? = some x) : ∃ w, ws[i]? = some w ∧ x = .str w := by
  rw [List.getElem?_map] at h
  cases e : ws[i]? with
  | none => rw [e] at h; cases h
  | some w => rw [e] at h; exact ⟨w, rfl, (Option.some.inj h).symm⟩
/-! ### Book(..), of what makes a book -/
structure BkCls (K : PySem.W.Frag) (mg : Str → Option Value) (C : Addr) : Prop where
  cl : Cls K C
  nM : NoAttr K C "many"
  nT : NoAttr K C "terms"
  nK : NoAttr K C "kinds"
  mC : mg "Book" = some (.ref C)
def spBook (K : PySem.W.Frag) (C : Addr) : Sp := fun vs H Q _ => ∃ (p dx d t : Addr) (b : Bk), vs = [.ref p, .int b.people, .ref d, .ref t] ∧ H p = some (.ins C dx []) ∧ H d = some (.dK b.r.kv) ∧ SqT K H t (b.k.ws.map V.str) ∧
  ∀ H', (∀ q o, q ≠ p → H q = some o → H' q = some o) → BookAt K C H' p b → Q .non H'
abbrev s_Book___init__ : Stmt := inClass (top 13) 0
theorem sc_Book___init__ : FnScope ["self", "people", "rule", "words", "word", "part"] ["self", "people", "rule", "words"] (defScope s_Book___init__) := ⟨rfl, rfl, rfl, by decide +kernel, rfl, by decide +kernel, by decide +kernel⟩
theorem ok_Book___init__ {f : Addr} {fd : FuncData} (F : Fun K "__init__" "Book.__init__" s_Book___init__ f fd) {C : Addr} (B : BkCls K mg C) {dP aW : Addr} {pv : List (Str × V)} (T : BkTab P w K mg dP pv aW) (n_all : mg "all" = none) (n_isinstance : mg "isinstance" = none) (n_list : mg "list" = none) (n_tuple : mg "tuple" = none)
    {f_is_word : Addr} {fd_is_word : FuncData} (G_is_word : FnOk P w K mg base CX0 1 f_is_word fd_is_word ["thing", "words"] (spWord K)) (D_is_word : DefIn K mg "is_word" f_is_word fd_is_word ["thing", "words"])
    {f_check_rule : Addr} {fd_check_rule : FuncData} (G_check_rule : FnOk P w K mg base CX0 2 f_check_rule fd_check_rule ["rule"] spCheck) (D_check_rule : DefIn K mg "check_rule" f_check_rule fd_check_rule ["rule"])
    {f_is_integer : Addr} {fd_is_integer : FuncData} (G_is_integer : FnOk P w K mg base CX0 1 f_is_integer fd_is_integer ["thing", "low", "high"] (spInt K)) (D_is_integer : DefIn K mg "is_integer" f_is_integer fd_is_integer ["thing", "low", "high"]) :
    FnOk P w K mg base CX0 3 f fd ["self", "people", "rule", "words"] (spBook K C) := by
  refine F.ok sc_Book___init__ (fun vs H Q E h => ?_) (fun cdv A outer s H vs Q E hr h => ?_)
  · (repeat (obtain ⟨_, h⟩ := h)) <;> (subst_vars; rfl)
  · have hu := hu_of hr
    refine ⟨_, (pss_cons (ps_if (pt_not (pt_val (pe_cl G_is_integer (hr.mono (by decide)) D_is_integer (pa_cons (L2.pv 1) (pa_cons pe_int (pa_cons pe_int pa_nil)))))) (pss_one ps_never) pss_nil)
      (pss_cons (ps_expr (pe_cl G_check_rule (hr.mono (by decide)) D_check_rule (pa_cons (L2.pv 2) pa_nil)))
      (pss_cons (ps_if (PW.pt (pw_or (pt_not (pt_val (pe_callB (isiK (K := K)) (by rfl) n_isinstance bo_isi (pa_cons (L2.pv 3) (pa_cons (pe_bltn (v := .ty "tuple") (by rfl) n_tuple bo_tuple rfl) pa_nil))))) (pw_or1 (pt_not (pt_val (pe_callB (allK (K := K) rfl) (by rfl) n_all bo_all (pa_cons (pe_lc (own := [("word", 4)]) (g := gName 4) (tt := tYes) rfl sc_Book___init__.nd (pi_tupK (K := K) (L2.pv 3)) (blkOk_by (N := ["self", "people", "rule", "words", "word", "part"]) (sc := defScope s_Book___init__) (by decide +kernel)) (fun _ _ _ _ _ => pg_name (i := 4) sc_Book___init__.nd rfl (by first | exact .inl rfl | exact .inr rfl)) (fun _ _ _ _ _ => pts_nil) (fun _ _ _ _ _ => (pe_cl G_is_word (hr.mono (by decide)) D_is_word (pa_cons (L2.pv 4) (pa_cons (pe_glob (v := .ref aW) (by rfl) T.mW rfl) pa_nil))))) pa_nil))))))) (pss_one ps_never) pss_nil)
      (pss_cons (ps_if (pt_cmpR (op_neDK (K := K) hr.units) (pe_lc (own := [("word", 4)]) (g := gName 4) rfl sc_Book___init__.nd (pi_tupK (K := K) (pe_glob (v := .ref aW) (by rfl) T.mW rfl)) (blkOk_by (N := ["self", "people", "rule", "words", "word", "part"]) (sc := defScope s_Book___init__) (by decide +kernel)) (fun _ _ _ _ _ => pg_name (i := 4) sc_Book___init__.nd rfl (by first | exact .inl rfl | exact .inr rfl)) (fun _ _ _ _ _ => (pts_one (pt_cmpR (op_inK (K := K)) (L2.pv 4) (L2.pv 3) (by rfl)))) (fun _ _ _ _ _ => (L2.pv 4))) (pe_callTy (list_ofK (K := K)) (by rfl) n_list bo_list (pa_cons (L2.pv 3) pa_nil)) (nomark _)) (pss_one ps_never) pss_nil)
      (pss_cons (ps_fld (L2.pv 0) (L2.pv 1) rfl)
      (pss_cons (ps_fld (L2.pv 0) (pe_dc (own := [("part", 5)]) (g := gName 5) (tt := tYes) rfl sc_Book___init__.nd (pi_kd T.kd (pe_glob (v := .ref dP) (by rfl) T.mP rfl)) (blkOk_by (N := ["self", "people", "rule", "words", "word", "part"]) (sc := defScope s_Book___init__) (by decide +kernel)) (fun _ _ _ _ _ => pg_name (i := 5) sc_Book___init__.nd rfl (by first | exact .inl rfl | exact .inr rfl)) (fun _ _ _ _ _ => pts_nil) (fun _ _ _ _ _ => (L2.pv 5)) (fun _ _ _ _ _ => (pe_dget hu (L2.pv 2) (L2.pv 5) (fun _ _ => rfl)))) rfl)
      (pss_one (ps_fld (L2.pv 0) (L2.pv 3) rfl)))))))), ?_⟩
    obtain ⟨p, dx, d, t, b, rfl, hp, hd, ht, k⟩ := h
    have hb : (1 : Int) ≤ b.people ∧ b.people ≤ 2 := by
      unfold Bk.people
      cases b.two <;> decide
    refine ⟨_, rfl, _, 1, 2, true, rfl, .inl ⟨_, rfl, (decide_eq_true hb).symm⟩, true, rfl, ?_⟩
    refine ⟨_, rfl, d, b.r, rfl, hd, fun H1 s1 => ?_⟩
    have ht1 := SqT.same s1 ht
    -- if not isinstance(words, tuple) or not all(..)
    refine ⟨_, rfl, _, _, _, _, true, rfl, .ty "tuple", tyX_tup ht1, kit_ty (by decide +kernel), true, rfl, ?_⟩
    refine ⟨_, rfl, t, rfl, ⟨_, ht1⟩, fun D hD => ?_⟩
    refine lc_it walk_tup (fun i H' => L2.Same H1 H' ∧ H' D = some (.lst ((List.replicate i true).map V.bl))) ⟨Same.upd hD, upd_same⟩ (fun i H' _ p => SqT.same p.1 ht1) ?_ ?_
    · rintro i x H2 H3 hi ⟨s2, hL⟩ ⟨rfl, hx⟩
      obtain ⟨w', hw', rfl⟩ := at_str hx
      refine ⟨rfl, _, rfl, _, aW, allW, true, rfl, .inr (T.wd _), .inl ⟨w', rfl, (decide_eq_true (ws_sub _ _ (List.mem_of_getElem? hw'))).symm⟩, _, hL, ?_, ?_, ?_⟩
      · have := ws_len b.k
        rw [List.length_map] at hi
        rw [List.length_map, List.length_replicate]
        exact small1000 (by omega)
      · exact fun b2 o2 h2 => by rw [upd_ne (ne_of_none h2 hD)]; exact s2 _ _ h2
      · rw [upd_same, List.replicate_succ', List.map_append]
        rfl
    rintro H2 ⟨s2, hL⟩
    refine ⟨D, List.replicate _ true, rfl, SqL.of hL, true, ?_, ?_⟩
    · show V.bl ((List.replicate _ true).all id) = V.bl true
      congr 1
      rw [List.all_eq_true]
      intro z hz
      exact (List.mem_replicate.mp hz).2
    have s2 := s1.trans s2
    -- if [..] != list(words)
    refine ⟨aW, rfl, ⟨_, T.wd _⟩, fun D2 hD2 => ?_⟩
    have ht2 := SqT.same s2 ht
    refine lc_it walk_tup (fun i H' => L2.Same H2 H' ∧ H' D2 = some (.lst (((allW.take i).filter fun w => decide (w ∈ b.k.ws)).map V.str))) ⟨Same.upd hD2, upd_same⟩ (fun i H' _ p => T.wd _) ?_ ?_
    · rintro i x H3 H4 hi ⟨s3, hL3⟩ ⟨rfl, hx⟩
      obtain ⟨w', hw', rfl⟩ := at_str (ws := allW) hx
      have tk : allW.take (i + 1) = allW.take i ++ [w'] := by
        rw [List.take_add_one, hw']
        rfl
      refine ⟨rfl, _, rfl, _, rfl, t, _, rfl, .inr (SqT.same s3 ht2), rfl, flat_strs _, _, rfl, ?_⟩
      rw [tk, List.filter_append, List.map_append]
      show if inV (.str w') (b.k.ws.map V.str) = true then _ else _
      rw [inV_str]
      by_cases hm : w' ∈ b.k.ws
      · rw [decide_eq_true hm]
        refine ⟨_, rfl, _, hL3, ?_, ?_, ?_⟩
        · rw [List.length_map]
          refine small1000 (Nat.le_trans (List.length_filter_le _ _) ?_)
          rw [List.length_take]
          exact Nat.le_trans (Nat.min_le_right _ _) (by decide)
        · exact fun b2 o2 h2 => by rw [upd_ne (ne_of_none h2 hD2)]; exact s3 _ _ h2
        · rw [upd_same, List.filter_cons_of_pos (by exact decide_eq_true hm)]
          rfl
      · rw [decide_eq_false hm]
        refine ⟨s3, ?_⟩
        rw [List.filter_cons_of_neg (by rw [decide_eq_false hm]; exact Bool.false_ne_true)]
        rw [List.filter_nil, List.map_nil, List.append_nil]
        exact hL3
    rintro H3 ⟨s3, hL3⟩
    have hL3 : H3 D2 = some (.lst (b.k.ws.map V.str)) := by
      have e : ((allW.take ([.str "back", .str "both", .str "hide", .str "stage", .str "throw"] : List V).length).filter fun w => decide (w ∈ b.k.ws)) = b.k.ws := ws_filter b.k
      rw [e] at hL3
      exact hL3
    have s3 := s2.trans s3
    refine ⟨_, rfl, t, _, rfl, .inr (SqT.same s3 ht), fun l hl => ?_⟩
    have s4 := Same.upd' (o := HO.lst (b.k.ws.map V.str)) s3 hl
    have eqD : PyData.eqv (.list (b.k.ws.map PyData.str)) (.list (b.k.ws.map PyData.str)) = true := by
      rw [PyData.eqv, eqv_strs]
      exact decide_eq_true rfl
    have sh : SeqAt.shaped (.list (b.k.ws.map PyData.str)) = true := shaped_strs b.k.ws (ws_sub _)
    refine ⟨_, _, .lst (SqL.of ((Same.upd (o := HO.lst (b.k.ws.map V.str)) hl) _ _ hL3)) (dp_strs _), .lst (SqL.of upd_same) (dp_strs _), sh, sh, _, rfl, ?_⟩
    rw [eqD]
    show if (!true) = true then _ else _
    refine iteF ?_
    -- the fields
    have hp4 := s4 _ _ hp
    refine ⟨_, rfl, _, rfl, p, C, dx, [], rfl, hp4, B.cl, B.nM, (by show 0 < 1000; decide), ?_⟩
    have k5 : ∀ q o, q ≠ p → H q = some o → (upd (upd H3 l (.lst (b.k.ws.map V.str))) p (.ins C dx (putF "many" (.int b.people) []))) q = some o := fun q o hq h => by
      rw [upd_ne hq]; exact s4 _ _ h
    have hp5 : (upd (upd H3 l (.lst (b.k.ws.map V.str))) p (.ins C dx (putF "many" (.int b.people) []))) p = some (.ins C dx (putF "many" (.int b.people) [])) := upd_same
    revert k5 hp5
    generalize upd (upd H3 l (.lst (b.k.ws.map V.str))) p (.ins C dx (putF "many" (.int b.people) [])) = H5
    intro k5 hp5
    have dp : d ≠ p := ne_of hd hp (by intro e; cases e)
    refine ⟨rfl, fun D3 hD3 => ?_⟩
    refine dc_it walk_kd (fun i H' => L2.Same H5 H' ∧ H' D3 = some (.dK (kvN (b.r.ws.take i)))) ⟨Same.upd hD3, upd_same⟩ (fun _ _ _ _ => trivial) ?_ ?_
    · rintro i x H6 H7 hi ⟨s6, hL6⟩ ⟨rfl, q, hq, rfl⟩
      obtain ⟨e1, i6, _⟩ := T.at hq
      obtain ⟨bb, e2, e3⟩ := kv_at (r := b.r) e1
      have hw : b.r.ws[i]? = some (bif bb then w1.getD i "" else w0.getD i "") := by
        have e4 : (b.r.kv)[i]? = ((pn.zip b.r.ws).map fun z => ((Sum.inr z.1 : Key), V.str z.2))[i]? := by
          rw [show b.r.kv = (pn.zip b.r.ws).map fun z => ((Sum.inr z.1 : Key), V.str z.2) from rfl]
        rw [e3, List.getElem?_map] at e4
        cases e5 : (pn.zip b.r.ws)[i]? with
        | none => rw [e5] at e4; cases e4
        | some z =>
          rw [e5] at e4
          have e6 := Option.some.inj e4
          have e7 := V.str.inj (Prod.mk.inj e6).2
          rw [e7]
          exact (List.getElem?_zip_eq_some.mp e5).2
      have tl : (b.r.ws.take i).length = i := by
        rw [List.length_take]
        exact Nat.min_eq_left (Nat.le_of_lt i6)
      have hn : pn[(b.r.ws.take i).length]? = some q.1 := by rw [tl]; exact e1
      refine ⟨rfl, _, rfl, _, rfl, _, rfl, d, _, rfl, (by rw [← e2]; exact DGet.k (k := Sum.inr q.1) (s6 _ _ (k5 _ _ dp hd))), _, Sum.inr q.1, rfl, hL6, ?_, ?_, ?_⟩
      · refine small1000 ?_
        unfold kvN
        rw [List.length_zipWith]
        exact Nat.le_trans (Nat.min_le_left _ _) (by decide)
      · exact fun b2 o2 h2 => by rw [upd_ne (ne_of_none h2 hD3)]; exact s6 _ _ h2
      · rw [upd_same, putK_new _ (kvN_new hn), ← kvN_snoc hn, List.take_add_one, hw]
        rfl
    rintro H6 ⟨s6, hL6⟩
    have hL6 : H6 D3 = some (.dK b.r.kv) := by
      rw [T.len] at hL6
      exact hL6
    have n63 : D3 ≠ p := (ne_of_none hp5 hD3).symm
    refine ⟨_, rfl, p, C, dx, _, rfl, s6 _ _ hp5, B.cl, B.nT, (by show 1 < 1000; decide), ?_⟩
    refine ⟨_, rfl, _, rfl, p, C, dx, _, rfl, upd_same, B.cl, B.nK, (by show 2 < 1000; decide), ?_⟩
    refine k _ (fun q o hq h => ?_) ⟨dx, D3, t, ?_, ?_, ?_⟩
    · rw [upd_ne hq, upd_ne hq]
      exact s6 _ _ (k5 _ _ hq h)
    · rw [upd_same]
      rfl
    · rw [upd_ne n63, upd_ne n63]
      exact hL6
    · have tp : ∀ o, H t = some o → (∀ C dx fs, o ≠ .ins C dx fs) → t ≠ p := fun o h1 h2 => ne_of h1 hp (h2 _ _ _)
      rcases ht with (h | ⟨o, h⟩) | h
      · refine .inl (.inl ?_)
        have ne := tp _ h (by intro _ _ _ e; cases e)
        rw [upd_ne ne, upd_ne ne]
        exact s6 _ _ (k5 _ _ ne h)
      · refine .inl (.inr ⟨o, ?_⟩)
        have ne := tp _ h (by intro _ _ _ e; cases e)
        rw [upd_ne ne, upd_ne ne]
        exact s6 _ _ (k5 _ _ ne h)
      · exact .inr h
/-! ### == of books; a book of a row -/
structure BkIsi (K : PySem.W.Frag) (C : Addr) : Prop where
  ha : PySem.W.findIn K (.ref C) "__class__" = some (some (.builtin "object.__class__"))
  hn : PySem.W.specialIn K (.builtin "object.__class__") "__get__" = some (some (.builtin "getset_descriptor.__get__"))
  ht : PySem.W.takesIn K (.builtin "object.__class__") = some true
  hm : PySem.W.mroIn K C (.type "object") = some true
theorem isi_ok {K : PySem.W.Frag} {x : Str} (h : cIsi x K = true) : BkIsi K (He.ga K x) := by
  obtain ⟨h1, h⟩ := He.ba h
  obtain ⟨h2, h⟩ := He.ba h
  obtain ⟨h3, h4⟩ := He.ba h
  exact ⟨He.eqO_ok h1, He.eqO_ok h2, of_decide_eq_true h3, of_decide_eq_true h4⟩
theorem tyX_ins {K : PySem.W.Frag} {mg : Str → Option Value} {C a dx : Addr} {H : Hp} {fs : List (Str × V)} (B : BkCls K mg C) (S : BkIsi K C) (h : H a = some (.ins C dx fs)) : TyX K H (.ref a) (.ref C) := .base (.ins h B.cl S.ha S.hn S.ht S.hm)
theorem kit_self {K : PySem.W.Frag} {C : Addr} : PySem.W.kitOne K (.ref C) (.ref C) = some true := by
  unfold PySem.W.kitOne
  rw [if_pos (by simp)]
theorem r200 {k : Nat} {A : Around} (r : Room k A) : A.units + 200 < cLine := by
  have := r.un
  omega
def spEq (K : PySem.W.Frag) (C : Addr) : Sp := fun vs H Q _ => ∃ (a : Addr) (b1 : Bk) (x : V), vs = [.ref a, x] ∧ BookAt K C H a b1 ∧
  ((∃ c b2, x = .ref c ∧ BookAt K C H c b2 ∧ ∀ H', L2.Same H H' → Q (.bl (decide (b1 = b2))) H') ∨ ((∃ t, TyX K H x t ∧ PySem.W.kitOne K t (.ref C) = some false) ∧ Q (.bl false) H))
abbrev s_Book___eq__ : Stmt := inClass (top 13) 5
theorem sc_Book___eq__ : FnScope ["self", "other"] ["self", "other"] (defScope s_Book___eq__) := ⟨rfl, rfl, rfl, by decide +kernel, rfl, by decide +kernel, by decide +kernel⟩
theorem ok_Book___eq__ {f : Addr} {fd : FuncData} (F : Fun K "__eq__" "Book.__eq__" s_Book___eq__ f fd) {C : Addr} (B : BkCls K mg C) (S : BkIsi K C) (n_isinstance : mg "isinstance" = none) :
    FnOk P w K mg base CX0 1 f fd ["self", "other"] (spEq K C) := by
  refine F.ok sc_Book___eq__ (fun vs H Q E h => ?_) (fun cdv A outer s H vs Q E hr h => ?_)
  · (repeat (obtain ⟨_, h⟩ := h)) <;> (subst_vars; rfl)
  · have hu := hu_of hr
    refine ⟨_, (pss_cons (ps_if (pt_not (pt_val (pe_callB (isiK (K := K)) (by rfl) n_isinstance bo_isi (pa_cons (L2.pv 1) (pa_cons (pe_glob (v := .ref C) (by rfl) B.mC rfl) pa_nil))))) (pss_one (ps_ret pe_bl)) pss_nil)
      (pss_one (ps_ret (pe_cmpR (op_eqBk (r200 hr)) (pe_tup (pa_cons (pe_fldK (K := K) (L2.pv 0)) (pa_cons (pe_fldK (K := K) (L2.pv 0)) (pa_cons (pe_fldK (K := K) (L2.pv 0)) pa_nil)))) (pe_tup (pa_cons (pe_fldK (K := K) (L2.pv 1)) (pa_cons (pe_fldK (K := K) (L2.pv 1)) (pa_cons (pe_fldK (K := K) (L2.pv 1)) pa_nil)))) (nomark _))))), ?_⟩
    obtain ⟨a, b1, x, rfl, ⟨dx, d, t, h1⟩, hx⟩ := h
    rcases hx with ⟨c, b2, rfl, ⟨dx2, d2, t2, h2⟩, k⟩ | ⟨⟨ty, hty, kt⟩, k⟩
    · refine ⟨_, rfl, _, _, _, _, true, rfl, .own C, tyX_ins B S h2.ob, kit_self, true, rfl, ?_⟩
      refine ⟨_, rfl, a, C, dx, _, _, rfl, h1.ob, B.cl, B.nM, rfl, ?_⟩
      refine ⟨_, rfl, a, C, dx, _, _, rfl, h1.ob, B.cl, B.nT, rfl, ?_⟩
      refine ⟨_, rfl, a, C, dx, _, _, rfl, h1.ob, B.cl, B.nK, rfl, ?_⟩
      refine ⟨(by show 3 ≤ sizeLine; rw [sizeLine_eq]; decide), fun p np => ?_⟩
      have s1 := Same.upd (o := HO.tup [.int b1.people, .ref d, .ref t]) np
      have g2 := h2.same s1
      refine ⟨_, rfl, c, C, dx2, _, _, rfl, g2.ob, B.cl, B.nM, rfl, ?_⟩
      refine ⟨_, rfl, c, C, dx2, _, _, rfl, g2.ob, B.cl, B.nT, rfl, ?_⟩
      refine ⟨_, rfl, c, C, dx2, _, _, rfl, g2.ob, B.cl, B.nK, rfl, ?_⟩
      refine ⟨(by show 3 ≤ sizeLine; rw [sizeLine_eq]; decide), fun q nq => ?_⟩
      have s2 := Same.upd' (o := HO.tup [.int b2.people, .ref d2, .ref t2]) s1 nq
      have s3 := Same.upd (o := HO.tup [.int b2.people, .ref d2, .ref t2]) nq
      exact ⟨p, q, d, d2, t, t2, b1, b2, rfl, rfl, SqT.of (s3 _ _ upd_same), SqT.of upd_same, s2 _ _ h1.te, s2 _ _ h2.te, SqT.same s2 h1.ki, SqT.same s2 h2.ki, k _ s2⟩
    · exact ⟨_, rfl, _, _, _, _, false, rfl, .own C, hty, kt, false, rfl, k⟩
/-- people, rule, words at p -/
def RowAt (K : PySem.W.Frag) (H : Hp) (p : Addr) (b : Bk) : Prop := ∃ d t, H p = some (.lst [.int b.people, .ref d, .ref t]) ∧ H d = some (.dK b.r.kv) ∧ SqT K H t (b.k.ws.map V.str)
theorem RowAt.same {K : PySem.W.Frag} {H H' : Hp} {p : Addr} {b : Bk} (h : RowAt K H p b) (s : L2.Same H H') : RowAt K H' p b := by
  obtain ⟨d, t, h1, h2, h3⟩ := h
  exact ⟨d, t, s _ _ h1, s _ _ h2, SqT.same s h3⟩
def spBuilt (K : PySem.W.Frag) (C : Addr) : Sp := fun vs H Q _ => ∃ (p : Addr) (b : Bk), vs = [.ref p] ∧ RowAt K H p b ∧ ∀ (a : Addr) (H' : Hp), L2.Same H H' → H a = none → BookAt K C H' a b → Q (.ref a) H'
end
end SD
namespace SD
open PySem L2 StX
theorem errIs_ok {P : Program} {K : PySem.W.Frag} {mg : Str → Option Value} {x : Str} {fld : Option Str} {C fI : Addr} (T : ErrTxt P K mg x fld C fI) (B : BkIsi K C) : ErrIs K C := ⟨T.ga, T.gg, T.exC, T.hdC, B.ha, B.hn, B.ht, B.hm⟩
/-! ### a text read, or refused -/
def sp1 : Str := " "
def nl1 : Str := "\n"
theorem cut1 {x : V} {xs : List V} : cutV (x :: xs) (some 1) none = xs := by
  unfold cutV
  have e : HT.sIx (x :: xs).length 0 (some 1) = 1 := by
    show min 1 (xs.length + 1) = 1
    omega
  have e2 : HT.sIx (x :: xs).length (x :: xs).length none = xs.length + 1 := rfl
  rw [e, e2]
  show xs.take (xs.length + 1 - 1) = xs
  rw [Nat.add_sub_cancel, List.take_length]
def pairOk (a : Str) (ws : List Str) (s : Str) : Option Str := match Txt.split s sp1 with
  | [b, w] => if b = a ∧ w ∈ ws then some w else none
  | _ => none
def wordsOk (s : Str) : Option (List Str) := match Txt.split s sp1 with
  | b :: r => if b = "words" ∧ allW.filter (fun w => decide (w ∈ r)) = r then some r else none
  | [] => none
def LineOk (s : Str) : Prop := s.length ≤ 1000 ∧ Txt.split s sp1 ≠ [] ∧ ∀ w ∈ Txt.split s sp1, PyData.canLay0 (.str w) = true
instance (s : Str) : Decidable (LineOk s) := by unfold LineOk; infer_instance
theorem shaped_lay {ws : List Str} (h : ∀ w ∈ ws, PyData.canLay0 (.str w) = true) : SeqAt.shaped (.list (ws.map PyData.str)) = true := by
  have h1 : ∀ ws : List Str, (∀ w ∈ ws, PyData.canLay0 (.str w) = true) → PyData.canLayAll0 (ws.map PyData.str) = true ∧ PyData.depthAll (ws.map PyData.str) = 0 := by
    intro ws
    induction ws with
    | nil => intro _; exact ⟨rfl, rfl⟩
    | cons w r ih =>
      intro h
      obtain ⟨i1, i2⟩ := ih fun x hx => h x (List.mem_cons_of_mem _ hx)
      exact ⟨by rw [List.map_cons, PyData.canLayAll0, h w List.mem_cons_self, i1]; rfl, by rw [List.map_cons, PyData.depthAll, i2]; rfl⟩
  obtain ⟨i1, i2⟩ := h1 ws h
  unfold SeqAt.shaped
  rw [PyData.canLay0, i1, PyData.depth, i2]
  rfl
/-- the first k lines hold; this refuses line k + 1 -/
def RefAt (E : XK) (C : Addr) (H : Hp) (n : Nat) : Prop := ∀ d H', L2.Same H H' → H' d = some (.xd [("line", .int (n : Int))]) → E (.ref C) (some d) H'
theorem RefAt.of {E : XK} {C : Addr} {H H1 : Hp} {n : Nat} (h : RefAt E C H n) (s : L2.Same H H1) : RefAt E C H1 n := fun d H' s1 e => h d H' (s.trans s1) e
def spLine (K : PySem.W.Frag) (C : Addr) : Sp := fun vs H Q E => ∃ (l : Addr) (i : Nat) (ls : List Str), vs = [.ref l, .int i] ∧ SqL K H l (ls.map V.str) ∧ (∀ s ∈ ls, LineOk s) ∧ i ≤ ls.length ∧
  (∀ s, ls[i]? = some s → ∀ p, H p = none → Q (.ref p) (upd H p (.lst ((Txt.split s sp1).map V.str)))) ∧ (ls[i]? = none → RefAt E C H (i + 1))
def spPair (K : PySem.W.Frag) (C : Addr) : Sp := fun vs H Q E => ∃ (l al : Addr) (i : Nat) (ls : List Str) (a : Str) (ws : List Str), vs = [.ref l, .int i, .str a, .ref al] ∧ SqL K H l (ls.map V.str) ∧ (∀ s ∈ ls, LineOk s) ∧ i ≤ ls.length ∧
  (SqL K H al (ws.map V.str) ∨ SqT K H al (ws.map V.str)) ∧ (∀ w, (ls[i]?).bind (pairOk a ws) = some w → ∀ H', L2.Same H H' → Q (.str w) H') ∧ ((ls[i]?).bind (pairOk a ws) = none → RefAt E C H (i + 1))
def spWords (K : PySem.W.Frag) (C : Addr) : Sp := fun vs H Q E => ∃ (l : Addr) (i : Nat) (ls : List Str), vs = [.ref l, .int i] ∧ SqL K H l (ls.map V.str) ∧ (∀ s ∈ ls, LineOk s) ∧ i ≤ ls.length ∧
  (∀ r, (ls[i]?).bind wordsOk = some r → ∀ t H', L2.Same H H' → SqT K H' t (r.map V.str) → Q (.ref t) H') ∧ ((ls[i]?).bind wordsOk = none → RefAt E C H (i + 1))
section
variable {P : Program} {w : World} {K : PySem.W.Frag} {mg : Str → Option Value} {base : Heap}
abbrev s_line_at : Stmt := top 16
theorem sc_line_at : FnScope ["lines", "index"] ["lines", "index"] (defScope s_line_at) := ⟨rfl, rfl, rfl, by decide +kernel, rfl, by decide +kernel, by decide +kernel⟩
theorem ok_line_at {f : Addr} {fd : FuncData} (F : Fun K "line_at" "line_at" s_line_at f fd) {C_InvalidLine f_InvalidLine : Addr} (T_InvalidLine : ErrTxt P K mg "InvalidLine" (some "line") C_InvalidLine f_InvalidLine) (n_len : mg "len" = none) :
    FnOk P w K mg base (L2.CX P w) 3 f fd ["lines", "index"] (spLine K C_InvalidLine) := by
  refine F.okX sc_line_at (fun vs H Q E h => ?_) (fun cdv A outer s H vs Q E hr h => ?_)
  · (repeat (obtain ⟨_, h⟩ := h)) <;> (subst_vars; rfl)
  · have hu := hu_of hr
    refine ⟨_, (pss_cons (ps_if (pt_cmpR op_ge (L2.pv 1) (pe_callB (len_seqK (K := K)) (by rfl) n_len bo_len (pa_cons (L2.pv 0) pa_nil)) (nomark _)) (pss_one (ps_e1 rfl T_InvalidLine hr (takes_of rfl rfl rfl rfl) (by exact (pa_cons (pe_op op_add (pe_callB (len_seqK (K := K)) (by rfl) n_len bo_len (pa_cons (L2.pv 0) pa_nil)) pe_int) pa_nil)))) pss_nil)
      (pss_one (ps_ret (pe_split (pe_ix (ix_listK (K := K)) (L2.pv 0) (L2.pv 1) (fun _ _ => rfl)) pe_str)))), ?_⟩
    obtain ⟨l, i, ls, rfl, hl, hz, hi, k, r⟩ := h
    refine ⟨_, rfl, _, rfl, l, _, rfl, .inl hl, _, _, rfl, rfl, _, rfl, ?_⟩
    refine ite2 (fun h1 => ?_) (fun h1 => ?_)
    · have h1 := of_decide_eq_true h1
      rw [List.length_map] at h1
      have e : ls.length = i := by omega
      refine ⟨_, rfl, l, _, rfl, .inl hl, _, _, rfl, rfl, _, rfl, fun d hd => ?_⟩
      refine r (List.getElem?_eq_none (by omega)) d _ (Same.upd hd) ?_
      rw [upd_same, List.length_map, e]
      rfl
    · have h1 : ¬ ((ls.map V.str).length : Int) ≤ i := fun z => h1 (decide_eq_true z)
      rw [List.length_map] at h1
      have hi2 : ls[i]? = some (ls[i]'(by omega)) := List.getElem?_eq_getElem (by omega)
      refine ⟨_, rfl, _, rfl, l, _, _, _, rfl, rfl, hl, atI_nat (by rw [List.getElem?_map, hi2]; rfl), ?_⟩
      refine ⟨⟨_, rfl⟩, _, sp1, rfl, rfl, by decide +kernel, ?_, k _ hi2⟩
      have := (hz _ (List.mem_of_getElem? hi2)).1
      rw [sizeLine_eq]
      omega
abbrev s_pair_at : Stmt := top 17
theorem sc_pair_at : FnScope ["lines", "index", "first", "allowed", "words"] ["lines", "index", "first", "allowed"] (defScope s_pair_at) := ⟨rfl, rfl, rfl, by decide +kernel, rfl, by decide +kernel, by decide +kernel⟩
theorem ok_pair_at {f : Addr} {fd : FuncData} (F : Fun K "pair_at" "pair_at" s_pair_at f fd) {C_InvalidLine f_InvalidLine : Addr} (T_InvalidLine : ErrTxt P K mg "InvalidLine" (some "line") C_InvalidLine f_InvalidLine) (n_len : mg "len" = none)
    {f_line_at : Addr} {fd_line_at : FuncData} (G_line_at : FnOk P w K mg base (L2.CX P w) 3 f_line_at fd_line_at ["lines", "index"] (spLine K C_InvalidLine)) (D_line_at : DefIn K mg "line_at" f_line_at fd_line_at ["lines", "index"]) :
    FnOk P w K mg base (L2.CX P w) 4 f fd ["lines", "index", "first", "allowed"] (spPair K C_InvalidLine) := by
  refine F.okX sc_pair_at (fun vs H Q E h => ?_) (fun cdv A outer s H vs Q E hr h => ?_)
  · (repeat (obtain ⟨_, h⟩ := h)) <;> (subst_vars; rfl)
  · have hu := hu_of hr
    refine ⟨_, (pss_cons (ps_set (i := 4) sc_pair_at.nd rfl (by first | exact .inl rfl | exact .inr rfl) (pe_call G_line_at (hr.mono (by decide)) rfl D_line_at.m D_line_at.kp D_line_at.b .nil (passes_call (takes_of rfl rfl rfl rfl) (fun _ _ _ _ h => h)) (pa_cons (L2.pv 0) (pa_cons (L2.pv 1) pa_nil))))
      (pss_cons (ps_if (PW.pt (pw_or (pt_cmpR op_ne (pe_callB (len_seqK (K := K)) (by rfl) n_len bo_len (pa_cons (L2.pv 4) pa_nil)) pe_int (nomark _)) (pw_or (pt_cmpR op_ne (pe_ix (ix_listK (K := K)) (L2.pv 4) pe_int (fun _ _ => rfl)) (L2.pv 2) (nomark _)) (pw_or1 (pt_cmpR (op_notInK (K := K)) (pe_ix (ix_listK (K := K)) (L2.pv 4) pe_int (fun _ _ => rfl)) (L2.pv 3) (by rfl)))))) (pss_one (ps_e1 rfl T_InvalidLine hr (takes_of rfl rfl rfl rfl) (by exact (pa_cons (pe_op op_add (L2.pv 1) pe_int) pa_nil)))) pss_nil)
      (pss_one (ps_ret (pe_ix (ix_listK (K := K)) (L2.pv 4) pe_int (fun _ _ => rfl)))))), ?_⟩
    obtain ⟨l, al, i, ls, a, ws, rfl, hl, hz, hi, ha, k, r⟩ := h
    refine ⟨_, rfl, _, rfl, l, i, ls, rfl, hl, hz, hi, fun s hs p hp => ?_, fun hn => r (by rw [hn]; rfl)⟩
    have s1 : L2.Same H (upd H p (.lst ((Txt.split s sp1).map V.str))) := Same.upd hp
    have h0 : (upd H p (.lst ((Txt.split s sp1).map V.str))) p = some (.lst ((Txt.split s sp1).map V.str)) := upd_same
    have k : ∀ w, pairOk a ws s = some w → ∀ H', L2.Same (upd H p (.lst ((Txt.split s sp1).map V.str))) H' → Q (.str w) H' := fun w h H' s2 => k w (by rw [hs]; exact h) H' (s1.trans s2)
    have r : pairOk a ws s = none → RefAt E C_InvalidLine (upd H p (.lst ((Txt.split s sp1).map V.str))) (i + 1) := fun h => (r (by rw [hs]; exact h)).of s1
    have ha1 : SqL K (upd H p (.lst ((Txt.split s sp1).map V.str))) al (ws.map V.str) ∨ SqT K (upd H p (.lst ((Txt.split s sp1).map V.str))) al (ws.map V.str) := ha.imp (fun h => SqL.same s1 h) (fun h => SqT.same s1 h)
    revert h0 k r ha1
    generalize upd H p (.lst ((Txt.split s sp1).map V.str)) = H1
    intro h0 k r ha1
    have hp1 := SqL.of (K := K) h0
    have rr : pairOk a ws s = none → ∀ d, H1 d = none → E (.ref C_InvalidLine) (some d) (upd H1 d (.xd [("line", .int ((i : Int) + 1))])) := fun h d hd => r h d _ (Same.upd hd) (by rw [upd_same]; rfl)
    refine ⟨_, rfl, p, _, rfl, .inl hp1, rfl, _, rfl, ?_⟩
    unfold pairOk at k rr
    generalize Txt.split s sp1 = sw at *
    match sw with
    | [] => exact ⟨_, rfl, _, _, rfl, rfl, _, rfl, rr rfl⟩
    | [x] => exact ⟨_, rfl, _, _, rfl, rfl, _, rfl, rr rfl⟩
    | x :: y :: z :: q =>
      refine ite2 (fun _ => ⟨_, rfl, _, _, rfl, rfl, _, rfl, rr rfl⟩) (fun h => ?_)
      have e : decide (V.int (((x :: y :: z :: q).map V.str).length : Int) = V.int 2) = false := by
        refine decide_eq_false fun e => ?_
        have e := V.int.inj e
        simp only [List.length_map, List.length_cons] at e
        omega
      rw [e] at h
      exact absurd rfl h
    | [x, y] =>
      refine iteNS rfl ?_
      refine ⟨_, rfl, p, _, _, _, rfl, rfl, hp1, rfl, _, rfl, rfl, _, rfl, ?_⟩
      by_cases e1 : x = a
      · subst e1
        refine iteNS rfl ?_
        refine ⟨_, rfl, p, _, _, _, rfl, rfl, hp1, rfl, _, rfl, al, _, rfl, ha1, rfl, flat_strs ws, !inV (.str y) (ws.map V.str), rfl, ?_⟩
        rw [inV_str]
        by_cases e2 : y ∈ ws
        · rw [decide_eq_true e2]
          refine iteF ?_
          exact ⟨_, rfl, p, _, _, _, rfl, rfl, hp1, rfl, k y (if_pos ⟨rfl, e2⟩) _ (fun _ _ h => h)⟩
        · rw [decide_eq_false e2]
          exact ⟨_, rfl, _, _, rfl, rfl, _, rfl, rr (if_neg fun z => e2 z.2)⟩
      · rw [decide_eq_false (fun z => e1 (V.str.inj z))]
        exact ⟨_, rfl, _, _, rfl, rfl, _, rfl, rr (if_neg fun z => e1 z.1)⟩
abbrev s_words_at : Stmt := top 18
theorem sc_words_at : FnScope ["lines", "index", "words", "word"] ["lines", "index"] (defScope s_words_at) := ⟨rfl, rfl, rfl, by decide +kernel, rfl, by decide +kernel, by decide +kernel⟩
theorem ok_words_at {f : Addr} {fd : FuncData} (F : Fun K "words_at" "words_at" s_words_at f fd) {C_InvalidLine f_InvalidLine : Addr} (T_InvalidLine : ErrTxt P K mg "InvalidLine" (some "line") C_InvalidLine f_InvalidLine) {dP aW : Addr} {pv : List (Str × V)} (T : BkTab P w K mg dP pv aW) (n_tuple : mg "tuple" = none)
    {f_line_at : Addr} {fd_line_at : FuncData} (G_line_at : FnOk P w K mg base (L2.CX P w) 3 f_line_at fd_line_at ["lines", "index"] (spLine K C_InvalidLine)) (D_line_at : DefIn K mg "line_at" f_line_at fd_line_at ["lines", "index"]) :
    FnOk P w K mg base (L2.CX P w) 4 f fd ["lines", "index"] (spWords K C_InvalidLine) := by
  refine F.okX sc_words_at (fun vs H Q E h => ?_) (fun cdv A outer s H vs Q E hr h => ?_)
  · (repeat (obtain ⟨_, h⟩ := h)) <;> (subst_vars; rfl)
  · have hu := hu_of hr
    refine ⟨_, (pss_cons (ps_set (i := 2) sc_words_at.nd rfl (by first | exact .inl rfl | exact .inr rfl) (pe_call G_line_at (hr.mono (by decide)) rfl D_line_at.m D_line_at.kp D_line_at.b .nil (passes_call (takes_of rfl rfl rfl rfl) (fun _ _ _ _ h => h)) (pa_cons (L2.pv 0) (pa_cons (L2.pv 1) pa_nil))))
      (pss_cons (ps_if (PW.pt (pw_or (pt_cmpR op_ne (pe_ix (ix_listK (K := K)) (L2.pv 2) pe_int (fun _ _ => rfl)) pe_str (nomark _)) (pw_or1 (pt_cmpR (op_neDK (K := K) hr.units) (pe_lc (own := [("word", 3)]) (g := gName 3) rfl sc_words_at.nd (pi_tupK (K := K) (pe_glob (v := .ref aW) (by rfl) T.mW rfl)) (blkOk_by (N := ["lines", "index", "words", "word"]) (sc := defScope s_words_at) (by decide +kernel)) (fun _ _ _ _ _ => pg_name (i := 3) sc_words_at.nd rfl (by first | exact .inl rfl | exact .inr rfl)) (fun _ _ _ _ _ => (pts_one (pt_cmpR (op_inK (K := K)) (L2.pv 3) (pe_slice (sl_listK (K := K)) (L2.pv 2) (po_some pe_int) po_none) (by rfl)))) (fun _ _ _ _ _ => (L2.pv 3))) (pe_slice (sl_listK (K := K)) (L2.pv 2) (po_some pe_int) po_none) (nomark _))))) (pss_one (ps_e1 rfl T_InvalidLine hr (takes_of rfl rfl rfl rfl) (by exact (pa_cons (pe_op op_add (L2.pv 1) pe_int) pa_nil)))) pss_nil)
      (pss_one (ps_ret (pe_callTy (tuple_ofK (K := K)) (by rfl) n_tuple bo_tuple (pa_cons (pe_slice (sl_listK (K := K)) (L2.pv 2) (po_some pe_int) po_none) pa_nil)))))), ?_⟩
    obtain ⟨l, i, ls, rfl, hl, hz, hi, k, r⟩ := h
    refine ⟨_, rfl, _, rfl, l, i, ls, rfl, hl, hz, hi, fun s hs p hp => ?_, fun hn => r (by rw [hn]; rfl)⟩
    have s1 : L2.Same H (upd H p (.lst ((Txt.split s sp1).map V.str))) := Same.upd hp
    have h0 : (upd H p (.lst ((Txt.split s sp1).map V.str))) p = some (.lst ((Txt.split s sp1).map V.str)) := upd_same
    have k : ∀ r, wordsOk s = some r → ∀ t H', L2.Same (upd H p (.lst ((Txt.split s sp1).map V.str))) H' → SqT K H' t (r.map V.str) → Q (.ref t) H' := fun w h t H' s2 => k w (by rw [hs]; exact h) t H' (s1.trans s2)
    have r : wordsOk s = none → RefAt E C_InvalidLine (upd H p (.lst ((Txt.split s sp1).map V.str))) (i + 1) := fun h => (r (by rw [hs]; exact h)).of s1
    obtain ⟨_, hne, hly⟩ := hz _ (List.mem_of_getElem? hs)
    revert h0 k r
    generalize upd H p (.lst ((Txt.split s sp1).map V.str)) = H1
    intro h0 k r
    have rr : wordsOk s = none → ∀ H2, L2.Same H1 H2 → ∀ d, H2 d = none → E (.ref C_InvalidLine) (some d) (upd H2 d (.xd [("line", .int ((i : Int) + 1))])) := fun h H2 s2 d hd => r h d _ (s2.trans (Same.upd hd)) (by rw [upd_same]; rfl)
    unfold wordsOk at k rr
    generalize Txt.split s sp1 = sw at *
    match sw with
    | [] => exact absurd rfl hne
    | x :: ws =>
    have h0 : H1 p = some (.lst (.str x :: ws.map V.str)) := h0
    have hp1 := SqL.of (K := K) h0
    refine ⟨_, rfl, p, _, _, _, rfl, rfl, hp1, atI_nat (j := 0) (v := .str x) rfl, rfl, _, rfl, ?_⟩
    by_cases e1 : x = "words"
    · subst e1
      refine iteNS rfl ?_
      refine ⟨aW, rfl, ⟨_, T.wd _⟩, fun D hD => ?_⟩
      refine lc_it walk_tup (fun i H' => L2.Same H1 H' ∧ H' D = some (.lst (((allW.take i).filter fun w => decide (w ∈ ws)).map V.str))) ⟨Same.upd hD, upd_same⟩ (fun i H' _ p => T.wd _) ?_ ?_
      · rintro i x H3 H4 hi ⟨s3, hL3⟩ ⟨rfl, hx⟩
        obtain ⟨w', hw', rfl⟩ := at_str (ws := allW) hx
        have tk : allW.take (i + 1) = allW.take i ++ [w'] := by
          rw [List.take_add_one, hw']
          rfl
        refine ⟨rfl, _, rfl, _, rfl, _, rfl, p, _, rfl, SqL.of (s3 _ _ h0), fun p2 hp2 => ?_⟩
        rw [cut1]
        have s4 := Same.upd' (o := HO.lst (ws.map V.str)) s3 hp2
        have hL4 := Same.upd (o := HO.lst (ws.map V.str)) hp2 _ _ hL3
        have n2 : p2 ≠ D := (ne_of_none hL3 hp2).symm
        refine ⟨p2, _, rfl, .inl (SqL.of upd_same), rfl, flat_strs _, _, rfl, ?_⟩
        revert s4 hL4
        generalize upd H4 p2 (.lst (ws.map V.str)) = H5
        intro s4 hL4
        rw [tk, List.filter_append, List.map_append]
        show if inV (.str w') (ws.map V.str) = true then _ else _
        rw [inV_str]
        by_cases hm : w' ∈ ws
        · rw [decide_eq_true hm]
          refine ⟨_, rfl, _, hL4, ?_, ?_, ?_⟩
          · rw [List.length_map]
            refine small1000 (Nat.le_trans (List.length_filter_le _ _) ?_)
            rw [List.length_take]
            exact Nat.le_trans (Nat.min_le_right _ _) (by decide)
          · exact fun b2 o2 h2 => by rw [upd_ne (ne_of_none h2 hD)]; exact s4 _ _ h2
          · rw [upd_same, List.filter_cons_of_pos (by exact decide_eq_true hm)]
            rfl
        · rw [decide_eq_false hm]
          refine ⟨s4, ?_⟩
          rw [List.filter_cons_of_neg (by rw [decide_eq_false hm]; exact Bool.false_ne_true)]
          rw [List.filter_nil, List.map_nil, List.append_nil]
          exact hL4
      rintro H3 ⟨s3, hL3⟩
      have hL3 : H3 D = some (.lst ((allW.filter fun w => decide (w ∈ ws)).map V.str)) := hL3
      refine ⟨_, rfl, _, rfl, p, _, rfl, SqL.of (s3 _ _ h0), fun p2 hp2 => ?_⟩
      rw [cut1]
      have s4 := Same.upd' (o := HO.lst (ws.map V.str)) s3 hp2
      have sh1 : SeqAt.shaped (.list ((allW.filter fun w => decide (w ∈ ws)).map PyData.str)) = true := shaped_strs _ fun w h => (List.mem_filter.mp h).1
      have sh2 : SeqAt.shaped (.list (ws.map PyData.str)) = true := shaped_lay fun w h => hly w (List.mem_cons_of_mem _ h)
      refine ⟨_, _, .lst (SqL.of ((Same.upd (o := HO.lst (ws.map V.str)) hp2) _ _ hL3)) (dp_strs _), .lst (SqL.of upd_same) (dp_strs _), sh1, sh2, _, rfl, ?_⟩
      rw [PyData.eqv, eqv_strs]
      by_cases e2 : (allW.filter fun w => decide (w ∈ ws)) = ws
      · rw [decide_eq_true e2]
        refine iteF ?_
        refine ⟨_, rfl, _, rfl, p, _, rfl, SqL.of (s4 _ _ h0), fun p3 hp3 => ?_⟩
        rw [cut1]
        have s5 := Same.upd' (o := HO.lst (ws.map V.str)) s4 hp3
        refine ⟨p3, _, rfl, .inl ⟨SqL.of upd_same, fun t ht => ?_⟩⟩
        exact k ws (if_pos ⟨rfl, e2⟩) t _ (Same.upd' s5 ht) (SqT.of upd_same)
      · rw [decide_eq_false e2]
        exact ⟨_, rfl, _, _, rfl, rfl, _, rfl, rr (if_neg fun z => e2 z.2) _ s4⟩
    · rw [decide_eq_false (fun z => e1 (V.str.inj z))]
      exact ⟨_, rfl, _, _, rfl, rfl, _, rfl, rr (if_neg fun z => e1 z.1) _ (fun _ _ h => h)⟩
end
/-! ### which line is the first that is not of its form -/
def okAt (k : Nat) (s : Str) : Bool := if k = 0 then (pairOk "people" ["1", "2"] s).isSome else if k ≤ 6 then (pairOk (pn.getD (k - 1) "") [w0.getD (k - 1) "", w1.getD (k - 1) ""] s).isSome else if k = 7 then (wordsOk s).isSome else false
def badFrom (k : Nat) : List Str → Option Nat
  | [] => if k < 8 then some (k + 1) else none
  | s :: r => if okAt k s = true then badFrom (k + 1) r else some (k + 1)
theorem pairOk_mem {a w s : Str} {ws : List Str} (h : pairOk a ws s = some w) : w ∈ ws := by
  unfold pairOk at h
  split at h
  · split at h
    · rename_i q
      cases h
      exact q.2
    · cases h
  · cases h
theorem wordsOk_k {s : Str} {r : List Str} (h : wordsOk s = some r) : allW.filter (fun w => decide (w ∈ r)) = r := by
  unfold wordsOk at h
  split at h
  · split at h
    · rename_i q
      cases h
      exact q.2
    · cases h
  · cases h
def Pre (ls : List Str) (i : Nat) : Prop := ∀ j, j < i → ∃ s, ls[j]? = some s ∧ okAt j s = true
theorem Pre.step {ls : List Str} {i : Nat} {s : Str} (h : Pre ls i) (hs : ls[i]? = some s) (ho : okAt i s = true) : Pre ls (i + 1) := fun j hj => by
  rcases Nat.lt_or_ge j i with q | q
  · exact h j q
  · obtain rfl : j = i := by omega
    exact ⟨s, hs, ho⟩
theorem Pre.len {ls : List Str} {i : Nat} (h : Pre ls i) : i ≤ ls.length := by
  rcases i with _ | i
  · exact Nat.zero_le _
  · obtain ⟨s, hs, _⟩ := h i (Nat.lt_succ_self _)
    exact (List.getElem?_eq_some_iff.mp hs).1
theorem bad_drop {ls : List Str} : ∀ i, Pre ls i → badFrom 0 ls = badFrom i (ls.drop i)
  | 0, _ => rfl
  | i + 1, h => by
    rw [bad_drop i fun j hj => h j (Nat.lt_succ_of_lt hj)]
    obtain ⟨s, hs, ho⟩ := h i (Nat.lt_succ_self _)
    have hi := (List.getElem?_eq_some_iff.mp hs).1
    rw [List.drop_eq_getElem_cons hi]
    have e : ls[i] = s := (List.getElem?_eq_some_iff.mp hs).2
    show (if okAt i ls[i] = true then _ else _) = _
    rw [e, ho, if_pos rfl]
theorem bad_stop {ls : List Str} {i : Nat} (h : Pre ls i) (hi : i < 8) (hn : ∀ s, ls[i]? = some s → okAt i s = false) : badFrom 0 ls = some (i + 1) := by
  rw [bad_drop i h]
  cases e : ls.drop i with
  | nil => show (if i < 8 then _ else _) = _; rw [if_pos hi]
  | cons s r =>
    have hs : ls[i]? = some s := by rw [← List.head?_drop, e]; rfl
    show (if okAt i s = true then _ else _) = _
    rw [hn s hs, if_neg Bool.false_ne_true]
theorem bad_more {ls : List Str} (h : Pre ls 8) (hl : 8 < ls.length) : badFrom 0 ls = some 9 := by
  rw [bad_drop 8 h, List.drop_eq_getElem_cons hl]
  rfl
theorem bad_none {ls : List Str} (h : Pre ls 8) (hl : ls.length ≤ 8) : badFrom 0 ls = none := by
  rw [bad_drop 8 h, List.drop_of_length_le hl]
  rfl
theorem kinds_of {r : List Str} (h : allW.filter (fun w => decide (w ∈ r)) = r) : ∃ k : Kinds, r = k.ws := by
  refine ⟨⟨decide (("back" : Str) ∈ r), decide (("both" : Str) ∈ r), decide (("hide" : Str) ∈ r), decide (("stage" : Str) ∈ r), decide (("throw" : Str) ∈ r)⟩, ?_⟩
  refine h.symm.trans ?_
  have go : ∀ p : Str → Bool, allW.filter p = (⟨p "back", p "both", p "hide", p "stage", p "throw"⟩ : Kinds).ws := fun p => by
    unfold allW Kinds.ws
    simp only [List.filter]
    cases p (Str.ofString "back") <;> cases p (Str.ofString "both") <;> cases p (Str.ofString "hide") <;> cases p (Str.ofString "stage") <;> cases p (Str.ofString "throw") <;> rfl
  exact go _
def peopleD : List (Str × PyData) := [("1", .int 1), ("2", .int 2)]
theorem pp_of {xs : List (Str × V)} (h1 : xs.map (·.1) = peopleD.map (·.1)) (h2 : ∀ H, DpAll K H (xs.map (·.2)) (peopleD.map (·.2))) : xs = [(("1" : Str), V.int 1), (("2" : Str), V.int 2)] := by
  match xs, h1, h2 with
  | [(a, u), (b, v)], h1, h2 =>
    have e := List.cons.inj h1
    have e1 : a = "1" := e.1
    have e2 : b = "2" := (List.cons.inj e.2).1
    subst e1 e2
    cases h2 (fun _ => none) with
    | cons h3 h4 =>
      cases h3
      cases h4 with
      | cons h5 _ =>
        cases h5
        rfl
/-- PEOPLE -/
structure PpTab (P : Program) (w : World) (K : PySem.W.Frag) (mg : Str → Option Value) (dQ : Addr) : Prop where
  mQ : mg "PEOPLE" = some (.ref dQ)
  kd : KD P w K dQ [(("1" : Str), V.int 1), (("2" : Str), V.int 2)]
def spRead (C : Addr) : Sp := fun vs H Q E => ∃ (tx : Str) (ls : List Str), vs = [.str tx] ∧ tx.length ≤ 100000 ∧ Txt.split tx nl1 = ls ∧ (∀ s ∈ ls, LineOk s) ∧
  (badFrom 0 ls = none → ∀ (a : Addr) (H' : Hp), L2.Same H H' → Q (.ref a) H') ∧ (∀ n, badFrom 0 ls = some n → RefAt E C H n)
section
variable {P : Program} {w : World} {K : PySem.W.Frag} {mg : Str → Option Value} {base : Heap}
abbrev s_read : Stmt := top 19
theorem sc_read : FnScope ["text", "lines", "rule", "index", "people", "part", "allowed", "words"] ["text"] (defScope s_read) := ⟨rfl, rfl, rfl, by decide +kernel, rfl, by decide +kernel, by decide +kernel⟩
theorem ok_read {f : Addr} {fd : FuncData} (F : Fun K "read" "read" s_read f fd) {C_InvalidLine f_InvalidLine : Addr} (T_InvalidLine : ErrTxt P K mg "InvalidLine" (some "line") C_InvalidLine f_InvalidLine) {C : Addr} (B : BkCls K mg C) {dP aW dQ : Addr} {pv : List (Str × V)} (T : BkTab P w K mg dP pv aW) (TQ : PpTab P w K mg dQ) {fI : Addr} {fdI : FuncData} (M : Mk K C fI) (GI : FnOk P w K mg base CX0 3 fI fdI ["self", "people", "rule", "words"] (spBook K C)) (bI : Binds K fdI ["self", "people", "rule", "words"] []) (n_len : mg "len" = none) (n_list : mg "list" = none)
    {f_words_at : Addr} {fd_words_at : FuncData} (G_words_at : FnOk P w K mg base (L2.CX P w) 4 f_words_at fd_words_at ["lines", "index"] (spWords K C_InvalidLine)) (D_words_at : DefIn K mg "words_at" f_words_at fd_words_at ["lines", "index"])
    {f_pair_at : Addr} {fd_pair_at : FuncData} (G_pair_at : FnOk P w K mg base (L2.CX P w) 4 f_pair_at fd_pair_at ["lines", "index", "first", "allowed"] (spPair K C_InvalidLine)) (D_pair_at : DefIn K mg "pair_at" f_pair_at fd_pair_at ["lines", "index", "first", "allowed"]) :
    FnOk P w K mg base (L2.CX P w) 6 f fd ["text"] (spRead C_InvalidLine) := by
  refine F.okX sc_read (fun vs H Q E h => ?_) (fun cdv A outer s H vs Q E hr h => ?_)
  · (repeat (obtain ⟨_, h⟩ := h)) <;> (subst_vars; rfl)
  · have hu := hu_of hr
    refine ⟨_, (pss_cons (ps_par3 (i := 1) (j := 2) (l := 3) (by rfl) sc_read.nd rfl rfl rfl (by decide) (by decide) (by decide) rfl rfl rfl (pa_cons (pe_split (L2.pv 0) pe_str) (pa_cons pe_dnewK (pa_cons pe_int pa_nil))) (by rfl))
      (pss_cons (ps_set (i := 4) sc_read.nd rfl (by first | exact .inl rfl | exact .inr rfl) (pe_ix (ix_kd TQ.kd) (pe_glob (v := .ref dQ) (by rfl) TQ.mQ rfl) (pe_call G_pair_at (hr.mono (by decide)) rfl D_pair_at.m D_pair_at.kp D_pair_at.b .nil (passes_call (takes_of rfl rfl rfl rfl) (fun _ _ _ _ h => h)) (pa_cons (L2.pv 1) (pa_cons pe_int (pa_cons pe_str (pa_cons (pe_callTy (kd_list TQ.kd rfl) (by rfl) n_list bo_list (pa_cons (pe_glob (v := .ref dQ) (by rfl) TQ.mQ rfl) pa_nil)) pa_nil))))) (fun _ _ => rfl)))
      (pss_cons (ps_for (passes_of rfl) rfl (pi_kdI T.kd (pe_glob (v := .ref dP) (by rfl) T.mP rfl)) (pg_tupK (K := K) rfl (pgs_cons (pg_name (i := 5) sc_read.nd rfl (by first | exact .inl rfl | exact .inr rfl)) (pgs_cons (pg_name (i := 6) sc_read.nd rfl (by first | exact .inl rfl | exact .inr rfl)) pgs_nil))) (pss_cons (ps_dput hu (L2.pv 2) (L2.pv 5) (pe_call G_pair_at (hr.mono (by decide)) rfl D_pair_at.m D_pair_at.kp D_pair_at.b .nil (passes_call (takes_of rfl rfl rfl rfl) (fun _ _ _ _ h => h)) (pa_cons (L2.pv 1) (pa_cons (L2.pv 3) (pa_cons (L2.pv 5) (pa_cons (L2.pv 6) pa_nil))))) rfl)
      (pss_one (ps_aug (i := 3) sc_read.nd rfl (by first | exact .inl rfl | exact .inr rfl) pe_int ip_add))))
      (pss_cons (ps_set (i := 7) sc_read.nd rfl (by first | exact .inl rfl | exact .inr rfl) (pe_call G_words_at (hr.mono (by decide)) rfl D_words_at.m D_words_at.kp D_words_at.b .nil (passes_call (takes_of rfl rfl rfl rfl) (fun _ _ _ _ h => h)) (pa_cons (L2.pv 1) (pa_cons (L2.pv 3) pa_nil))))
      (pss_cons (ps_if (pt_cmpR op_gt (pe_callB (len_seqK (K := K)) (by rfl) n_len bo_len (pa_cons (L2.pv 1) pa_nil)) (pe_op op_add (L2.pv 3) pe_int) (nomark _)) (pss_one (ps_e1 rfl T_InvalidLine hr (takes_of rfl rfl rfl rfl) (by exact (pa_cons (pe_op op_add (L2.pv 3) pe_int) pa_nil)))) pss_nil)
      (pss_one (ps_ret (pe_make M GI (hr.mono (by decide)) rfl B.mC bI .nil pass0 (pa_cons (L2.pv 4) (pa_cons (L2.pv 2) (pa_cons (L2.pv 7) pa_nil))))))))))), ?_⟩
    obtain ⟨tx, ls, rfl, hz, hsp, hL, k, r⟩ := h
    refine ⟨_, rfl, ⟨_, rfl⟩, tx, nl1, rfl, rfl, by decide +kernel, by rw [sizeLine_eq]; omega, fun l hl => ?_⟩
    rw [hsp]
    intro d hd
    have ld : d ≠ l := (ne_of_none upd_same hd).symm
    refine ⟨_, _, _, rfl, ?_⟩
    have s1 : L2.Same H (upd (upd H l (.lst (ls.map V.str))) d (.dK [])) := Same.upd' (Same.upd hl) hd
    have nd : H d = none := by rw [← hd, upd_ne ld]
    have h1 : (upd (upd H l (.lst (ls.map V.str))) d (.dK [])) l = some (.lst (ls.map V.str)) := by rw [upd_ne ld.symm, upd_same]
    have h2 : (upd (upd H l (.lst (ls.map V.str))) d (.dK [])) d = some (.dK []) := upd_same
    revert s1 h1 h2
    generalize upd (upd H l (.lst (ls.map V.str))) d (.dK []) = H1
    intro s1 h1 h2
    -- people
    refine ⟨_, rfl, rfl, fun p hp => ?_⟩
    have s2 := Same.upd (o := HO.lst ([(("1" : Str), V.int 1), (("2" : Str), V.int 2)].map fun kv => V.str kv.1)) hp
    refine ⟨l, p, 0, ls, "people", ["1", "2"], rfl, SqL.of (s2 _ _ h1), hL, Nat.zero_le _, .inl (SqL.of upd_same), fun w0' hw0 H2 s3 => ?_, fun hn => ?_⟩
    rotate_left
    · refine (r 1 (bad_stop (i := 0) (fun j hj => absurd hj (Nat.not_lt_zero _)) (by decide) fun s hs => ?_)).of (s1.trans s2)
      rw [hs] at hn
      show (pairOk "people" ["1", "2"] s).isSome = false
      rw [show pairOk "people" ["1", "2"] s = none from hn]
      rfl
    obtain ⟨s0, hs0, hp0⟩ := Option.bind_eq_some_iff.mp hw0
    have pre1 : Pre ls 1 := by
      refine Pre.step (i := 0) (fun j hj => absurd hj (Nat.not_lt_zero _)) hs0 ?_
      show (pairOk "people" ["1", "2"] s0).isSome = true
      rw [hp0]
      rfl
    obtain ⟨two, rfl⟩ : ∃ two : Bool, w0' = bif two then ("2" : Str) else ("1" : Str) := by
      have := pairOk_mem hp0
      rcases List.mem_cons.mp this with e | e
      · exact ⟨false, e⟩
      · exact ⟨true, List.mem_singleton.mp e⟩
    have s3 := s2.trans s3
    refine ⟨bif two then ("2" : Str) else ("1" : Str), .int (bif two then 2 else 1), rfl, rfl, ?_, ?_⟩
    · cases two
      · exact List.mem_cons_self
      · exact List.mem_cons_of_mem _ List.mem_cons_self
    have h1 := s3 _ _ h1
    have h2 := s3 _ _ h2
    have s1 := s1.trans s3
    refine ⟨rfl, for_it walk_kdI (fun i σ H' => ∃ v1 v2 : Option V, σ = [some (.str tx), some (.ref l), some (.ref d), some (.int ((i + 1 : Nat) : Int)), some (.int (bif two then 2 else 1)), v1, v2, none] ∧ (∀ q o, q ≠ d → H2 q = some o → H' q = some o) ∧
      ∃ ws : List Str, ws.length = i ∧ (∀ j w, ws[j]? = some w → w = w0.getD j "" ∨ w = w1.getD j "") ∧ H' d = some (.dK (kvN ws)) ∧ Pre ls (i + 1)) ⟨none, none, rfl, fun _ _ _ h => h, [], rfl, (fun j w h => by simp at h), h2, pre1⟩ (fun _ _ _ _ _ => trivial) ?_ ?_⟩
    · rintro i x σ H3 H4 hi ⟨v1, v2, rfl, f3, ws, hwl, hwc, e3, pre⟩ ⟨T0, q, hq, rfl, hT, rfl⟩
      obtain ⟨pk, px⟩ := q
      obtain ⟨e1, i6, a, ha, hw⟩ := T.at hq
      have ha : px = .ref a := ha
      subst ha
      have e1 : pn[i]? = some pk := e1
      have epk : pn.getD i "" = pk := by rw [List.getD_eq_getElem?_getD, e1]; rfl
      have sT := Same.upd (o := HO.tup [V.str pk, .ref a]) hT
      have sH3 : L2.Same H H3 := fun q o h => f3 q o (ne_of_none h nd) (s1 q o h)
      refine ⟨T0, _, rfl, SqT.of upd_same, rfl, _, _, rfl, _, _, rfl, rfl, ?_⟩
      have ok8 : ∀ s, okAt (i + 1) s = (pairOk pk [w0.getD i "", w1.getD i ""] s).isSome := fun s => by
        unfold okAt
        rw [if_neg (Nat.succ_ne_zero i), if_pos (by omega), Nat.add_sub_cancel, epk]
      refine ⟨_, rfl, _, rfl, _, rfl, _, rfl, l, a, i + 1, ls, pk, [w0.getD i "", w1.getD i ""], rfl, SqL.of (sT _ _ (f3 _ _ ld.symm h1)), hL, pre.len, .inr (hw _), fun wd hwd H5 s5 => ?_, fun hn => ?_⟩
      · have s5 := sT.trans s5
        obtain ⟨s', hs', hp'⟩ := Option.bind_eq_some_iff.mp hwd
        have hd5 : H5 d = some (.dK (kvN ws)) := s5 _ _ e3
        have hn : pn[ws.length]? = some pk := by rw [hwl]; exact e1
        have small : (kvN ws).length < sizeLine := by
          refine small1000 ?_
          unfold kvN
          rw [List.length_zipWith]
          exact Nat.le_trans (Nat.min_le_left _ _) (by decide)
        refine ⟨_, rfl, _, rfl, d, _, rfl, DPut.k (k := Sum.inr pk) hd5 small, ?_⟩
        refine ⟨_, rfl, _, _, rfl, rfl, some (.str pk), some (.ref a), rfl, fun q o n h => by rw [upd_ne n]; exact s5 _ _ (f3 q o n h), ws ++ [wd], by rw [List.length_append, hwl]; rfl, fun j w hj => ?_, ?_, pre.step hs' (by rw [ok8, hp']; rfl)⟩
        · rcases Nat.lt_or_ge j ws.length with hlt | hge
          · rw [List.getElem?_append_left hlt] at hj
            exact hwc j w hj
          · rw [List.getElem?_append_right hge] at hj
            have e0 : j - ws.length = 0 := by
              have := (List.getElem?_eq_some_iff.mp hj).1
              simp at this
              omega
            rw [e0] at hj
            obtain rfl := Option.some.inj hj
            have e1 : j = i := by omega
            rw [e1]
            have := pairOk_mem hp'
            simpa using this
        · rw [upd_same, putK_new _ (kvN_new hn), ← kvN_snoc hn]
      · refine (r (i + 1 + 1) (bad_stop pre (by omega) fun s hs => ?_)).of (sH3.trans sT)
        rw [hs] at hn
        rw [ok8, show pairOk pk _ s = none from hn]
        rfl
    · rintro σ H3 ⟨v1, v2, rfl, f3, ws, hwl, hwc, e3, pre⟩
      have hwl : ws.length = 6 := hwl.trans T.len
      obtain ⟨R, eR⟩ : ∃ R : Rule, ws = R.ws := by
        match ws, hwl with
        | [a0, a1, a2, a3, a4, a5], _ =>
          have pick : ∀ (j : Nat) (w : Str), ([a0, a1, a2, a3, a4, a5] : List Str)[j]? = some w → ∃ b : Bool, w = bif b then w1.getD j "" else w0.getD j "" := fun j w h => by
            rcases hwc j w h with e | e
            · exact ⟨false, e⟩
            · exact ⟨true, e⟩
          obtain ⟨b0, rfl⟩ := pick 0 a0 rfl
          obtain ⟨b1, rfl⟩ := pick 1 a1 rfl
          obtain ⟨b2, rfl⟩ := pick 2 a2 rfl
          obtain ⟨b3, rfl⟩ := pick 3 a3 rfl
          obtain ⟨b4, rfl⟩ := pick 4 a4 rfl
          obtain ⟨b5, rfl⟩ := pick 5 a5 rfl
          exact ⟨⟨b0, b1, b2, b3, b4, b5⟩, rfl⟩
      subst eR
      have sH3 : L2.Same H H3 := fun q o h => f3 q o (ne_of_none h nd) (s1 q o h)
      have h1 := f3 _ _ ld.symm h1
      have i7 : pv.length + 1 = 7 := by rw [T.len]
      rw [i7] at pre ⊢
      refine ⟨_, rfl, _, rfl, l, 7, ls, rfl, SqL.of h1, hL, pre.len, fun wr hwr t H4 s4 ht => ?_, fun hn => ?_⟩
      rotate_left
      · refine (r 8 (bad_stop pre (by decide) fun s hs => ?_)).of sH3
        rw [hs] at hn
        show (wordsOk s).isSome = false
        rw [show wordsOk s = none from hn]
        rfl
      obtain ⟨s7, hs7, hp7⟩ := Option.bind_eq_some_iff.mp hwr
      have pre8 : Pre ls 8 := pre.step hs7 (by show (wordsOk s7).isSome = true; rw [hp7]; rfl)
      obtain ⟨kk, rfl⟩ := kinds_of (wordsOk_k hp7)
      have h1 := s4 _ _ h1
      refine ⟨_, rfl, l, _, rfl, .inl (SqL.of h1), _, rfl, _, _, rfl, rfl, _, _, rfl, rfl, _, rfl, ?_⟩
      refine ite2 (fun hc => ?_) (fun hc => ?_)
      · have hc := of_decide_eq_true hc
        rw [List.length_map] at hc
        refine ⟨_, rfl, _, _, rfl, rfl, _, rfl, fun dd hdd => ?_⟩
        refine r 9 (bad_more pre8 (by omega)) dd _ ((sH3.trans s4).trans (Same.upd hdd)) ?_
        rw [upd_same]
        rfl
      · have hc : ¬ ((7 : Nat) : Int) + 1 < ((ls.map V.str).length : Int) := fun z => hc (decide_eq_true z)
        rw [List.length_map] at hc
        refine ⟨_, rfl, _, rfl, _, rfl, ?_⟩
        intro x dx nx ndx nex
        have s0 : L2.Same H4 (upd (upd H4 dx (.own x)) x (.ins C dx [])) := Same.upd' (Same.upd ndx) (by rw [upd_ne nex.symm]; exact nx)
        refine ⟨x, dx, d, t, ⟨two, R, kk⟩, rfl, upd_same, s0 _ _ (s4 _ _ e3), SqT.same s0 ht, fun H5 k1 hB => ⟨rfl, ?_⟩⟩
        refine k (bad_none pre8 (by omega)) x H5 fun q o h => ?_
        have q4 := s4 _ _ (sH3 q o h)
        exact k1 q o (ne_of_none q4 nx) (s0 _ _ q4)
end
end SD
namespace SD
open PySem L2 StX
/-! ### a drawn row -/
theorem kv_own (r : Rule) : putK r.kv (Sum.inr (Str.ofString "drafts") : Key) (V.str "own") = ({ r with dr := true } : Rule).kv := by
  obtain ⟨a, b, c, d, e, f⟩ := r
  cases a <;> cases b <;> cases c <;> cases d <;> cases e <;> cases f <;> decide +kernel
theorem kv_dr (r : Rule) : valV r.kv (Sum.inr (Str.ofString "drafts") : Key) = some (.str (bif r.dr then "own" else "one")) := rfl
def spDraw (K : PySem.W.Frag) : Sp := fun vs H Q _ => ∃ (p c : Addr), vs = [.ref p] ∧ Dr H p c ∧ ∀ (b : Bk) (q : Addr) (H' : Hp), Dr H' p c → Fr2 p c H H' → H q = none → RowAt K H' q b → Q (.ref q) H'
section
variable {P : Program} {w : World} {K : PySem.W.Frag} {mg : Str → Option Value} {base : Heap}
abbrev s__law_draw : Stmt := top 27
theorem sc__law_draw : FnScope ["_law_h", "_law_rule_here", "_law_some", "_law_people"] ["_law_h"] (defScope s__law_draw) := ⟨rfl, rfl, rfl, by decide +kernel, rfl, by decide +kernel, by decide +kernel⟩
theorem ok__law_draw {f : Addr} {fd : FuncData} (F : Fun K "_law_draw" "_law_draw" s__law_draw f fd)
    {f__law_pick : Addr} {fd__law_pick : FuncData} (G__law_pick : FnOk P w K mg base CX0 2 f__law_pick fd__law_pick ["_law_h", "_law_things"] (spPick K)) (D__law_pick : DefIn K mg "_law_pick" f__law_pick fd__law_pick ["_law_h", "_law_things"])
    {f__law_next : Addr} {fd__law_next : FuncData} (G__law_next : FnOk P w K mg base CX0 1 f__law_next fd__law_next ["_law_h", "_law_cap"] spNext) (D__law_next : DefIn K mg "_law_next" f__law_next fd__law_next ["_law_h", "_law_cap"])
    {f__law_rule : Addr} {fd__law_rule : FuncData} (G__law_rule : FnOk P w K mg base CX0 3 f__law_rule fd__law_rule ["_law_h"] spRule) (D__law_rule : DefIn K mg "_law_rule" f__law_rule fd__law_rule ["_law_h"]) :
    FnOk P w K mg base CX0 4 f fd ["_law_h"] (spDraw K) := by
  refine F.ok sc__law_draw (fun vs H Q E h => ?_) (fun cdv A outer s H vs Q E hr h => ?_)
  · (repeat (obtain ⟨_, h⟩ := h)) <;> (subst_vars; rfl)
  · have hu := hu_of hr
    refine ⟨_, (pss_cons (ps_set (i := 1) sc__law_draw.nd rfl (by first | exact .inl rfl | exact .inr rfl) (pe_cl G__law_rule (hr.mono (by decide)) D__law_rule (pa_cons (L2.pv 0) pa_nil)))
      (pss_cons (ps_if (pt_cmpR op_eq (pe_cl G__law_next (hr.mono (by decide)) D__law_next (pa_cons (L2.pv 0) (pa_cons pe_int pa_nil))) pe_int (nomark _)) (pss_cons (ps_dput hu (L2.pv 1) pe_str pe_str rfl)
      (pss_one (ps_ret (pe_lst (pa_cons pe_int (pa_cons (L2.pv 1) (pa_cons (pe_cl G__law_pick (hr.mono (by decide)) D__law_pick (pa_cons (L2.pv 0) (pa_cons (pe_lst (pa_cons (pe_tup pa_nil) (pa_cons (pe_tup pa_nil) (pa_cons (pe_tup (pa_cons pe_str pa_nil)) (pa_cons (pe_tup (pa_cons pe_str pa_nil)) pa_nil))))) pa_nil))) pa_nil))))))) pss_nil)
      (pss_cons (ps_set (i := 2) sc__law_draw.nd rfl (by first | exact .inl rfl | exact .inr rfl) (pe_lst (pa_cons (pe_tup pa_nil) (pa_cons (pe_tup (pa_cons pe_str pa_nil)) (pa_cons (pe_tup (pa_cons pe_str (pa_cons pe_str pa_nil))) (pa_cons (pe_tup (pa_cons pe_str (pa_cons pe_str pa_nil))) (pa_cons (pe_tup (pa_cons pe_str pa_nil)) pa_nil)))))))
      (pss_cons (ps_set (i := 2) sc__law_draw.nd rfl (by first | exact .inl rfl | exact .inr rfl) (pe_op op_cat (L2.pv 2) (pe_lst (pa_cons (pe_tup (pa_cons pe_str (pa_cons pe_str pa_nil))) (pa_cons (pe_tup (pa_cons pe_str pa_nil)) (pa_cons (pe_tup (pa_cons pe_str (pa_cons pe_str pa_nil))) pa_nil))))))
      (pss_cons (ps_set (i := 3) sc__law_draw.nd rfl (by first | exact .inl rfl | exact .inr rfl) (pe_ifExp (pt_cmpR op_eq (pe_dget hu (L2.pv 1) pe_str (fun _ _ => rfl)) pe_str (nomark _)) pe_int (pe_op op_add pe_int (pe_cl G__law_next (hr.mono (by decide)) D__law_next (pa_cons (L2.pv 0) (pa_cons pe_int pa_nil))))))
      (pss_one (ps_ret (pe_lst (pa_cons (L2.pv 3) (pa_cons (L2.pv 1) (pa_cons (pe_cl G__law_pick (hr.mono (by decide)) D__law_pick (pa_cons (L2.pv 0) (pa_cons (L2.pv 2) pa_nil))) pa_nil))))))))))), ?_⟩
    obtain ⟨p, c, rfl, dr, k⟩ := h
    refine ⟨_, rfl, p, c, rfl, dr, fun r d H1 dr1 f1 nd hd => ?_⟩
    refine ⟨_, rfl, p, c, 3, rfl, dr1, by decide, by decide, fun z H2 z0 z1 dr2 f2 => ?_⟩
    have hd2 : H2 d = some (.dK r.kv) := dr1.keep f2 hd (by intro xs e; cases e)
    refine ⟨rfl, _, rfl, ?_⟩
    refine ite2 (fun hz => ?_) (fun hz => ?_)
    · have small : r.kv.length < sizeLine := small1000 (by show 6 ≤ 1000; decide)
      refine ⟨_, rfl, d, _, rfl, DPut.k (k := Sum.inr (Str.ofString "drafts")) hd2 small, ?_⟩
      rw [kv_own]
      have dr3 := dr2.one (o := .dK (({ r with dr := true } : Rule).kv)) (dr2.ap hd2 (by intro xs e; cases e))
      have hd3 : (upd H2 d (.dK (({ r with dr := true } : Rule).kv))) d = some (.dK (({ r with dr := true } : Rule).kv)) := upd_same
      have f3 : Fr2 p c H (upd H2 d (.dK (({ r with dr := true } : Rule).kv))) := fun q o n1 n2 e => by
        rw [upd_ne (ne_of_none e nd)]
        exact f2 q o n1 n2 (f1 q o n1 n2 e)
      revert dr3 hd3 f3
      generalize upd H2 d (.dK (({ r with dr := true } : Rule).kv)) = H3
      intro dr3 hd3 f3
      refine ⟨_, rfl, _, rfl, tz 0 rfl, fun t0 n0 => ⟨tz 0 rfl, fun t1 n1 => ⟨tz 1 rfl, fun t2 n2 => ⟨tz 1 rfl, fun t3 n3 => ⟨tz 4 rfl, fun L nL => ?_⟩⟩⟩⟩⟩
      have a4 := Same.upd (o := HO.lst [V.ref t0, .ref t1, .ref t2, .ref t3]) nL
      have a3 := (Same.upd (o := HO.tup [V.str "throw"]) n3).trans a4
      have a2 := (Same.upd (o := HO.tup [V.str "both"]) n2).trans a3
      have a1 := (Same.upd (o := HO.tup []) n1).trans a2
      have a0 := (Same.upd (o := HO.tup []) n0).trans a1
      have dr4 := dr3.same a0
      have lz := (dr3.same ((((Same.upd n0).trans (Same.upd n1)).trans (Same.upd n2)).trans (Same.upd n3))).new nL
      refine ⟨p, c, L, _, rfl, dr4, .inl (SqL.of upd_same), (by intro e; cases e), (by show 4 < 1000; decide), lz.1, lz.2, fun i v H5 hv dr5 f5 => ?_⟩
      obtain ⟨kk, t, rfl, ht⟩ : ∃ (kk : Kinds) (t : Addr), v = .ref t ∧ (upd (upd (upd (upd (upd H3 t0 (.tup [])) t1 (.tup [])) t2 (.tup [V.str "both"])) t3 (.tup [V.str "throw"])) L (.lst [V.ref t0, .ref t1, .ref t2, .ref t3])) t = some (.tup (kk.ws.map V.str)) := by
        match i, hv with
        | 0, hv => cases hv; exact ⟨⟨false, false, false, false, false⟩, t0, rfl, a1 _ _ upd_same⟩
        | 1, hv => cases hv; exact ⟨⟨false, false, false, false, false⟩, t1, rfl, a2 _ _ upd_same⟩
        | 2, hv => cases hv; exact ⟨⟨false, true, false, false, false⟩, t2, rfl, a3 _ _ upd_same⟩
        | 3, hv => cases hv; exact ⟨⟨false, false, false, false, true⟩, t3, rfl, a4 _ _ upd_same⟩
        | _ + 4, hv => simp at hv
      have ht5 := dr4.keep f5 ht (by intro xs e; cases e)
      have hd5 := dr4.keep f5 (a0 _ _ hd3) (by intro xs e; cases e)
      refine ⟨tz 3 rfl, fun q nq => ?_⟩
      have sq := Same.upd (o := HO.lst [V.int 2, .ref d, .ref t]) nq
      have fF : Fr2 p c H H5 := (f3.trans (Fr2.of a0)).trans f5
      refine k ⟨true, { r with dr := true }, kk⟩ q _ (dr5.same sq) (fF.trans (Fr2.of sq)) ?_ ⟨d, t, upd_same, sq _ _ hd5, SqT.of (sq _ _ ht5)⟩
      exact fr_free dr fF nq dr5
    · have hc2 : (upd H2 0 (.lst [])) 0 = some (.lst []) := upd_same
      clear hc2
      refine ⟨tz 0 rfl, fun t0 n0 => ⟨tz 1 rfl, fun t1 n1 => ⟨tz 2 rfl, fun t2 n2 => ⟨tz 2 rfl, fun t3 n3 => ⟨tz 1 rfl, fun t4 n4 => ⟨tz 5 rfl, fun L nL => ?_⟩⟩⟩⟩⟩⟩
      have a5 := Same.upd (o := HO.lst [V.ref t0, V.ref t1, V.ref t2, V.ref t3, V.ref t4]) nL
      have a4 := (Same.upd (o := HO.tup [V.str "hide"]) n4).trans a5
      have a3 := (Same.upd (o := HO.tup [V.str "both", V.str "throw"]) n3).trans a4
      have a2 := (Same.upd (o := HO.tup [V.str "back", V.str "hide"]) n2).trans a3
      have a1 := (Same.upd (o := HO.tup [V.str "back"]) n1).trans a2
      have a0 := (Same.upd (o := HO.tup []) n0).trans a1
      have g0 := a1 _ _ (upd_same (H := H2) (a := t0) (o := HO.tup []))
      have g1 := a2 _ _ (upd_same (H := upd H2 t0 (.tup [])) (a := t1) (o := HO.tup [V.str "back"]))
      have g2 := a3 _ _ (upd_same (H := upd (upd H2 t0 (.tup [])) t1 (.tup [V.str "back"])) (a := t2) (o := HO.tup [V.str "back", V.str "hide"]))
      have g3 := a4 _ _ (upd_same (H := upd (upd (upd H2 t0 (.tup [])) t1 (.tup [V.str "back"])) t2 (.tup [V.str "back", V.str "hide"])) (a := t3) (o := HO.tup [V.str "both", V.str "throw"]))
      have g4 := a5 _ _ (upd_same (H := upd (upd (upd (upd H2 t0 (.tup [])) t1 (.tup [V.str "back"])) t2 (.tup [V.str "back", V.str "hide"])) t3 (.tup [V.str "both", V.str "throw"])) (a := t4) (o := HO.tup [V.str "hide"]))
      have gL := upd_same (H := upd (upd (upd (upd (upd H2 t0 (.tup [])) t1 (.tup [V.str "back"])) t2 (.tup [V.str "back", V.str "hide"])) t3 (.tup [V.str "both", V.str "throw"])) t4 (.tup [V.str "hide"])) (a := L) (o := HO.lst [V.ref t0, V.ref t1, V.ref t2, V.ref t3, V.ref t4])
      have H3e : ∃ H3, H3 = upd (upd (upd (upd (upd (upd H2 t0 (.tup [])) t1 (.tup [V.str "back"])) t2 (.tup [V.str "back", V.str "hide"])) t3 (.tup [V.str "both", V.str "throw"])) t4 (.tup [V.str "hide"])) L (.lst [V.ref t0, V.ref t1, V.ref t2, V.ref t3, V.ref t4]) := ⟨_, rfl⟩
      obtain ⟨H3, eH⟩ := H3e
      rw [← eH] at a0 g0 g1 g2 g3 g4 gL ⊢
      clear eH a1 a2 a3 a4 a5 n0 n1 n2 n3 n4 nL
      refine ⟨_, rfl, tz 2 rfl, fun t5 n5 => ⟨tz 1 rfl, fun t6 n6 => ⟨tz 2 rfl, fun t7 n7 => ⟨tz 3 rfl, fun L2 nL2 => ?_⟩⟩⟩⟩
      have b3 := Same.upd (o := HO.lst [V.ref t5, V.ref t6, V.ref t7]) nL2
      have b2 := (Same.upd (o := HO.tup [V.str "hide", V.str "throw"]) n7).trans b3
      have b1 := (Same.upd (o := HO.tup [V.str "stage"]) n6).trans b2
      have b0 := (Same.upd (o := HO.tup [V.str "stage", V.str "throw"]) n5).trans b1
      have g5 := b1 _ _ (upd_same (H := H3) (a := t5) (o := HO.tup [V.str "stage", V.str "throw"]))
      have g6 := b2 _ _ (upd_same (H := upd H3 t5 (.tup [V.str "stage", V.str "throw"])) (a := t6) (o := HO.tup [V.str "stage"]))
      have g7 := b3 _ _ (upd_same (H := upd (upd H3 t5 (.tup [V.str "stage", V.str "throw"])) t6 (.tup [V.str "stage"])) (a := t7) (o := HO.tup [V.str "hide", V.str "throw"]))
      refine ⟨L, L2, _, _, rfl, rfl, b0 _ _ gL, upd_same, (by show 8 ≤ sizeLine; rw [sizeLine_eq]; decide), fun M nM => ?_⟩
      have c0 := Same.upd (o := HO.lst ([V.ref t0, V.ref t1, V.ref t2, V.ref t3, V.ref t4] ++ [V.ref t5, V.ref t6, V.ref t7])) nM
      have s3 := (a0.trans b0).trans c0
      have hv4 : ∀ (i : Nat) (v : V), ([V.ref t0, V.ref t1, V.ref t2, V.ref t3, V.ref t4, V.ref t5, V.ref t6, V.ref t7] : List V)[i]? = some v → ∃ (kk : Kinds) (t : Addr), v = .ref t ∧
          (upd (upd (upd (upd (upd H3 t5 (.tup [V.str "stage", V.str "throw"])) t6 (.tup [V.str "stage"])) t7 (.tup [V.str "hide", V.str "throw"])) L2 (.lst [V.ref t5, V.ref t6, V.ref t7])) M (HO.lst ([V.ref t0, V.ref t1, V.ref t2, V.ref t3, V.ref t4] ++ [V.ref t5, V.ref t6, V.ref t7]))) t = some (.tup (kk.ws.map V.str)) := by
        intro i v hv
        match i, hv with
        | 0, hv => cases hv; exact ⟨⟨false, false, false, false, false⟩, t0, rfl, c0 _ _ (b0 _ _ g0)⟩
        | 1, hv => cases hv; exact ⟨⟨true, false, false, false, false⟩, t1, rfl, c0 _ _ (b0 _ _ g1)⟩
        | 2, hv => cases hv; exact ⟨⟨true, false, true, false, false⟩, t2, rfl, c0 _ _ (b0 _ _ g2)⟩
        | 3, hv => cases hv; exact ⟨⟨false, true, false, false, true⟩, t3, rfl, c0 _ _ (b0 _ _ g3)⟩
        | 4, hv => cases hv; exact ⟨⟨false, false, true, false, false⟩, t4, rfl, c0 _ _ (b0 _ _ g4)⟩
        | 5, hv => cases hv; exact ⟨⟨false, false, false, true, true⟩, t5, rfl, c0 _ _ g5⟩
        | 6, hv => cases hv; exact ⟨⟨false, false, false, true, false⟩, t6, rfl, c0 _ _ g6⟩
        | 7, hv => cases hv; exact ⟨⟨false, false, true, false, true⟩, t7, rfl, c0 _ _ g7⟩
        | _ + 8, hv => simp at hv
      have gM := upd_same (H := upd (upd (upd (upd H3 t5 (.tup [V.str "stage", V.str "throw"])) t6 (.tup [V.str "stage"])) t7 (.tup [V.str "hide", V.str "throw"])) L2 (.lst [V.ref t5, V.ref t6, V.ref t7])) (a := M) (o := HO.lst ([V.ref t0, V.ref t1, V.ref t2, V.ref t3, V.ref t4] ++ [V.ref t5, V.ref t6, V.ref t7]))
      have dr3 := dr2.same s3
      have mz := (dr2.same (a0.trans b0)).new nM
      have hd3 := s3 _ _ hd2
      have f3 : Fr2 p c H _ := (f1.trans f2).trans (Fr2.of s3)
      revert hv4 gM dr3 hd3 f3
      generalize upd (upd (upd (upd (upd H3 t5 (.tup [V.str "stage", V.str "throw"])) t6 (.tup [V.str "stage"])) t7 (.tup [V.str "hide", V.str "throw"])) L2 (.lst [V.ref t5, V.ref t6, V.ref t7])) M (HO.lst ([V.ref t0, V.ref t1, V.ref t2, V.ref t3, V.ref t4] ++ [V.ref t5, V.ref t6, V.ref t7])) = H4
      intro hv4 gM dr3 hd3 f3
      -- the people, the words
      have fin : ∀ (two : Bool) (H5 : Hp), Dr H5 p c → Fr2 p c H4 H5 → tRet (tLst (tCons (tVar 3) (tCons (tVar 1) (tCons (tCall (spPick K) [] E0 (tCons (tVar 0) (tCons (tVar 2) tNil))) tNil)))) { nx := fun x H' => Q V.non H', rt := Q } [some (.ref p), some (.ref d), some (.ref M), some (.int (bif two then 2 else 1))] H5 := fun two H5 dr5 f5 => by
        have gM5 := f5 _ _ mz.1 mz.2 gM
        refine ⟨_, rfl, _, rfl, _, rfl, _, rfl, p, c, M, _, rfl, dr5, .inl (SqL.of gM5), (by intro e; cases e), (by show 8 < 1000; decide), mz.1, mz.2, fun i v H6 hv dr6 f6 => ?_⟩
        obtain ⟨kk, t, rfl, ht⟩ := hv4 i v hv
        have ht6 := dr5.keep f6 (dr3.keep f5 ht (by intro xs e; cases e)) (by intro xs e; cases e)
        have hd6 := dr5.keep f6 (dr3.keep f5 hd3 (by intro xs e; cases e)) (by intro xs e; cases e)
        refine ⟨tz 3 rfl, fun q nq => ?_⟩
        have sq := Same.upd (o := HO.lst [V.int (bif two then 2 else 1), .ref d, .ref t]) nq
        have fF : Fr2 p c H H6 := (f3.trans f5).trans f6
        exact k ⟨two, r, kk⟩ q _ (dr6.same sq) (fF.trans (Fr2.of sq)) (fr_free dr fF nq dr6) ⟨d, t, upd_same, sq _ _ hd6, SqT.of (sq _ _ ht6)⟩
      refine ⟨_, rfl, d, _, rfl, DGet.k (k := Sum.inr (Str.ofString "drafts")) hd3, ?_⟩
      refine ⟨rfl, _, rfl, ?_⟩
      refine ite2 (fun _ => fin false H4 dr3 (fun _ _ _ _ e => e)) (fun _ => ?_)
      refine ⟨_, rfl, p, c, 2, rfl, dr3, by decide, by decide, fun z H5 z0 z1 dr5 f5 => ?_⟩
      refine ⟨_, _, rfl, rfl, ?_⟩
      obtain ⟨two, e2⟩ : ∃ two : Bool, 1 + z = (bif two then 2 else 1 : Int) := by
        by_cases h : z < 1
        · exact ⟨false, by show 1 + z = 1; omega⟩
        · exact ⟨true, by show 1 + z = 2; omega⟩
      have g := fin two H5 dr5 f5
      rw [← e2] at g
      exact g
end
end SD
namespace SD
open PySem L2 StX
/-! ### the lines that there can be -/
def oddL : List Str := ["", "people 3", "people", "along links ", "clash", "drafts two", "drafts own own", " leads draft", "words back back", "words hide back", "words edit", "words ", "words", "staged  now", "restores before", "people 1", "word back"]
inductive Ln where
  | pp (b : Bool)
  | pt (i : Fin 6) (b : Bool)
  | wd (k : Kinds)
  | odd (i : Fin 17)
def lineP (two : Bool) : Str := ("people " : Str) ++ (bif two then ("2" : Str) else ("1" : Str))
def lineR (i : Nat) (b : Bool) : Str := pn.getD i "" ++ sp1 ++ (bif b then w1.getD i "" else w0.getD i "")
def lineW (k : Kinds) : Str := Txt.join sp1 (("words" : Str) :: k.ws)
def Ln.s : Ln → Str
  | .pp b => lineP b
  | .pt i b => lineR i b
  | .wd k => lineW k
  | .odd i => oddL.getD i ""
/-- the law's own look at a line ahead of the words -/
def due (k : Nat) : Str × Str × Str := if k = 0 then ("people", "1", "2") else (pn.getD (k - 1) "", w0.getD (k - 1) "", w1.getD (k - 1) "")
def lookAt (k : Nat) (s : Str) : Bool := decide (s ∈ [(due k).1 ++ sp1 ++ (due k).2.1, (due k).1 ++ sp1 ++ (due k).2.2])
theorem ln_ok (l : Ln) : LineOk l.s ∧ l.s.length ≤ 100 ∧ 10 ∉ TL.tl l.s := by
  cases l with
  | pp b => revert b; decide +kernel
  | pt i b => revert i b; decide +kernel
  | wd k =>
    obtain ⟨a, b, c, d, e⟩ := k
    cases a <;> cases b <;> cases c <;> cases d <;> cases e <;> decide +kernel
  | odd i => revert i; decide +kernel
theorem ln_look (l : Ln) : ∀ k : Fin 7, okAt k l.s = lookAt k l.s := by
  cases l with
  | pp b => revert b; decide +kernel
  | pt i b => revert i b; decide +kernel
  | wd k =>
    obtain ⟨a, b, c, d, e⟩ := k
    cases a <;> cases b <;> cases c <;> cases d <;> cases e <;> decide +kernel
  | odd i => revert i; decide +kernel
def texts (ls : List Ln) : List Str := ls.map Ln.s
theorem texts_split {ls : List Ln} (h : ls ≠ []) : Txt.split (Txt.join nl1 (texts ls)) nl1 = texts ls := TL.split_join (S := []) (s := 10) (by decide +kernel) (by decide +kernel) (by intro e; exact h (List.map_eq_nil_iff.mp e)) (fun p hp => by
  obtain ⟨l, _, rfl⟩ := List.mem_map.mp hp
  exact (ln_ok l).2.2)
theorem join_len (S : List Nat) : ∀ l : List (List Nat), (TL.joinL S l).length ≤ (l.map (·.length)).sum + l.length * S.length
  | [] => Nat.zero_le _
  | [p] => by
    show p.length ≤ p.length + 0 + 1 * S.length
    omega
  | p :: q :: r => by
    have ih := join_len S (q :: r)
    have e : TL.joinL S (p :: q :: r) = p ++ (S ++ TL.joinL S (q :: r)) := rfl
    rw [e, List.length_append, List.length_append, List.map_cons, List.sum_cons, List.length_cons (a := p), Nat.succ_mul]
    omega
theorem texts_sum : ∀ ls : List Ln, ((texts ls).map (·.length)).sum ≤ 100 * ls.length
  | [] => Nat.le_refl _
  | l :: r => by
    have ih := texts_sum r
    have := (ln_ok l).2.1
    show l.s.length + ((texts r).map (·.length)).sum ≤ 100 * (r.length + 1)
    omega
theorem texts_len (ls : List Ln) : (Txt.join nl1 (texts ls)).length ≤ 101 * ls.length := by
  have h0 : (Txt.join nl1 (texts ls)).length = (TL.tl (Txt.join nl1 (texts ls))).length := rfl
  rw [h0, TL.join_eq, TL.tl_join]
  refine Nat.le_trans (join_len _ _) ?_
  have e : ((texts ls).map TL.tl).map (·.length) = (texts ls).map (·.length) := by
    rw [List.map_map]
    rfl
  have h4 : (TL.tl nl1).length = 1 := rfl
  have := texts_sum ls
  rw [e, List.length_map, h4]
  unfold texts at *
  rw [List.length_map]
  omega
/-! ### found and due -/
def scV : V → Bool
  | .non => true
  | .int _ => true
  | _ => false
def spAlike : Sp := fun vs H Q _ => ∃ x y : V, vs = [x, y] ∧ scV x = true ∧ scV y = true ∧ ∀ H', L2.Same H H' → Q (.bl (decide (x = y))) H'
def outV : Option Nat → V
  | none => .non
  | some n => .int n
theorem outV_sc (o : Option Nat) : scV (outV o) = true := by cases o <;> rfl
section
variable {P : Program} {w : World} {K : PySem.W.Frag} {mg : Str → Option Value} {base : Heap}
abbrev s__law_alike : Stmt := top 23
theorem sc__law_alike : FnScope ["_law_found", "_law_due", "_law_k"] ["_law_found", "_law_due"] (defScope s__law_alike) := ⟨rfl, rfl, rfl, by decide +kernel, rfl, by decide +kernel, by decide +kernel⟩
theorem ok__law_alike {f : Addr} {fd : FuncData} (F : Fun K "_law_alike" "_law_alike" s__law_alike f fd) (n_bool : mg "bool" = none) (n_dict : mg "dict" = none) (n_int : mg "int" = none) (n_isinstance : mg "isinstance" = none) (n_list : mg "list" = none) (n_str : mg "str" = none) (n_tuple : mg "tuple" = none) :
    FnOk P w K mg base CX0 1 f fd ["_law_found", "_law_due"] (spAlike) := by
  refine F.ok sc__law_alike (fun vs H Q E h => ?_) (fun cdv A outer s H vs Q E hr h => ?_)
  · (repeat (obtain ⟨_, h⟩ := h)) <;> (subst_vars; rfl)
  · have hu := hu_of hr
    refine ⟨_, (pss_cons (ps_if (pt_val (pe_callB (isiK (K := K)) (by rfl) n_isinstance bo_isi (pa_cons (L2.pv 1) (pa_cons (pe_bltn (v := .ty "dict") (by rfl) n_dict bo_dict rfl) pa_nil)))) pss_never pss_nil)
      (pss_cons (ps_if (pt_val (pe_callB (isiTK (K := K)) (by rfl) n_isinstance bo_isi (pa_cons (L2.pv 1) (pa_cons (pe_tup (pa_cons (pe_bltn (v := .ty "tuple") (by rfl) n_tuple bo_tuple rfl) (pa_cons (pe_bltn (v := .ty "list") (by rfl) n_list bo_list rfl) pa_nil))) pa_nil)))) pss_never pss_nil)
      (pss_cons (ps_if (PW.pt (pw_or (pt_cmpR op_isN (L2.pv 1) pe_non (nomark _)) (pw_or1 (pt_val (pe_callB (isiK (K := K)) (by rfl) n_isinstance bo_isi (pa_cons (L2.pv 1) (pa_cons (pe_bltn (v := .ty "str") (by rfl) n_str bo_str rfl) pa_nil))))))) (pss_one (ps_ret (pe_and (pe_cmpR op_eq (L2.pv 0) (L2.pv 1) (nomark _)) (pe_one (pe_cmpR op_eq (pe_callB (isiK (K := K)) (by rfl) n_isinstance bo_isi (pa_cons (L2.pv 0) (pa_cons (pe_bltn (v := .ty "str") (by rfl) n_str bo_str rfl) pa_nil))) (pe_callB (isiK (K := K)) (by rfl) n_isinstance bo_isi (pa_cons (L2.pv 1) (pa_cons (pe_bltn (v := .ty "str") (by rfl) n_str bo_str rfl) pa_nil))) (nomark _)))))) pss_nil)
      (pss_one (ps_ret (pe_and (pe_callB (isiK (K := K)) (by rfl) n_isinstance bo_isi (pa_cons (L2.pv 0) (pa_cons (pe_bltn (v := .ty "int") (by rfl) n_int bo_int rfl) pa_nil))) (pe_and (pe_cmpR op_eq (pe_callB (isiK (K := K)) (by rfl) n_isinstance bo_isi (pa_cons (L2.pv 0) (pa_cons (pe_bltn (v := .ty "bool") (by rfl) n_bool bo_bool rfl) pa_nil))) (pe_callB (isiK (K := K)) (by rfl) n_isinstance bo_isi (pa_cons (L2.pv 1) (pa_cons (pe_bltn (v := .ty "bool") (by rfl) n_bool bo_bool rfl) pa_nil))) (nomark _)) (pe_one (pe_cmpR op_eq (L2.pv 0) (L2.pv 1) (nomark _)))))))))), ?_⟩
    obtain ⟨x, y, rfl, hx, hy, k⟩ := h
    have step : ∀ z : V, scV z = true → ∃ t, TyX K H z t ∧ (∀ H', TyX K H' z t) ∧ PySem.W.kitOne K t (.type "dict") = some false ∧ PySem.W.kitAny K t [.type "tuple", .type "list"] = some false ∧ PySem.W.kitOne K t (.type "str") = some false ∧
        PySem.W.kitOne K t (.type "bool") = some false ∧ PySem.W.kitOne K t (.type "int") = some (!decide (z = .non)) := by
      intro z hz
      cases z with
      | non => exact ⟨_, .base .non, fun _ => .base .non, kit_ty (by decide +kernel), kitAny_cons (b := false) (kit_ty (by decide +kernel)) (fun _ => kitAny_cons (b := false) (kit_ty (by decide +kernel)) (fun _ => kitAny_nil) (fun z => nomatch z)) (fun z => nomatch z), kit_ty (by decide +kernel), kit_ty (by decide +kernel), kit_ty (by decide +kernel)⟩
      | int i => exact ⟨_, .base (.int i), fun _ => .base (.int i), kit_ty (by decide +kernel), kitAny_cons (b := false) (kit_ty (by decide +kernel)) (fun _ => kitAny_cons (b := false) (kit_ty (by decide +kernel)) (fun _ => kitAny_nil) (fun z => nomatch z)) (fun z => nomatch z), kit_ty (by decide +kernel), kit_ty (by decide +kernel), kit_ty (r := true) (by decide +kernel)⟩
      | _ => cases hz
    obtain ⟨tx, x1, x2, x3, x4, x5, x6, x7⟩ := step x hx
    obtain ⟨ty, y1, y2, y3, y4, y5, y6, y7⟩ := step y hy
    refine ⟨_, rfl, _, _, _, _, false, rfl, .ty "dict", y1, y3, false, rfl, iteF ?_⟩
    refine ⟨_, rfl, tz 2 rfl, fun tp ntp => ⟨_, tp, _, _, _, false, rfl, upd_same, .cons (.ty "tuple") (.cons (.ty "list") .nil), y2 _, y4, false, rfl, iteF ?_⟩⟩
    have k := k _ (Same.upd (o := HO.tup [V.ty "tuple", V.ty "list"]) ntp)
    revert k
    generalize upd H tp (.tup [V.ty "tuple", V.ty "list"]) = H1
    intro k
    cases y with
    | non =>
      refine ⟨_, rfl, rfl, _, rfl, ?_⟩
      cases x with
      | non =>
        refine ⟨_, rfl, _, rfl, rfl, _, rfl, ?_⟩
        refine ⟨_, rfl, _, _, _, _, false, rfl, .ty "str", x2 _, x5, ?_⟩
        exact ⟨_, rfl, _, _, _, _, false, rfl, .ty "str", y2 _, y5, rfl, k⟩
      | int i => exact ⟨_, rfl, _, rfl, rfl, false, rfl, k⟩
      | _ => cases hx
    | int j =>
      refine ⟨_, rfl, rfl, _, rfl, ?_⟩
      refine ⟨_, rfl, _, _, _, _, false, rfl, .ty "str", y2 _, y5, false, rfl, iteF ?_⟩
      cases x with
      | non => exact ⟨_, rfl, _, _, _, _, false, rfl, .ty "int", x2 _, x7, false, rfl, k⟩
      | int i =>
        refine ⟨_, rfl, _, _, _, _, true, rfl, .ty "int", x2 _, x7, true, rfl, ?_⟩
        refine ⟨_, rfl, _, _, _, _, false, rfl, .ty "bool", x2 _, x6, ?_⟩
        refine ⟨_, rfl, _, _, _, _, false, rfl, .ty "bool", y2 _, y6, rfl, true, rfl, ?_⟩
        exact ⟨_, rfl, _, rfl, rfl, k⟩
      | _ => cases hx
    | _ => cases hy
/-! ### the first line that is wrong -/
def dueL (k : Nat) : List Str := [(due k).1 ++ sp1 ++ (due k).2.1, (due k).1 ++ sp1 ++ (due k).2.2]
theorem due_len : ∀ k : Fin 7, (due k).1.length ≤ 100 ∧ (due k).2.1.length ≤ 100 ∧ (due k).2.2.length ≤ 100 ∧ ((due k).1 ++ sp1).length ≤ 100 := by decide +kernel
def dueRow (k : Nat) : List V := [V.str (due k).1, V.str (due k).2.1, V.str (due k).2.2]
def spFirst (K : PySem.W.Frag) : Sp := fun vs H Q _ => ∃ (l : Addr) (ls : List Ln), vs = [.ref l] ∧ SqL K H l ((texts ls).map V.str) ∧ ls.length ≤ 100 ∧ ∀ H', L2.Same H H' → Q (outV (badFrom 0 (texts ls))) H'
abbrev s__law_first_wrong : Stmt := top 28
theorem sc__law_first_wrong : FnScope ["_law_lines", "_law_due", "_law_k", "_law_word", "_law_words", "_law_every"] ["_law_lines"] (defScope s__law_first_wrong) := ⟨rfl, rfl, rfl, by decide +kernel, rfl, by decide +kernel, by decide +kernel⟩
theorem ok__law_first_wrong {f : Addr} {fd : FuncData} (F : Fun K "_law_first_wrong" "_law_first_wrong" s__law_first_wrong f fd) (n_len : mg "len" = none) (n_range : mg "range" = none)
    {f__law_parts : Addr} {fd__law_parts : FuncData} (G__law_parts : FnOk P w K mg base CX0 1 f__law_parts fd__law_parts [] spParts) (D__law_parts : DefIn K mg "_law_parts" f__law_parts fd__law_parts []) :
    FnOk P w K mg base CX0 2 f fd ["_law_lines"] (spFirst K) := by
  refine F.ok sc__law_first_wrong (fun vs H Q E h => ?_) (fun cdv A outer s H vs Q E hr h => ?_)
  · (repeat (obtain ⟨_, h⟩ := h)) <;> (subst_vars; rfl)
  · have hu := hu_of hr
    refine ⟨_, (pss_cons (ps_set (i := 1) sc__law_first_wrong.nd rfl (by first | exact .inl rfl | exact .inr rfl) (pe_op op_cat (pe_lst (pa_cons (pe_lst (pa_cons pe_str (pa_cons pe_str (pa_cons pe_str pa_nil)))) pa_nil)) (pe_cl0 G__law_parts (hr.mono (by decide)) D__law_parts)))
      (pss_cons (ps_for PassesOwn.never rfl (pi_range1 (by rfl) n_range (pa_cons (pe_callB (len_seqK (K := K)) (by rfl) n_len bo_len (pa_cons (L2.pv 0) pa_nil)) pa_nil)) (pg_name (i := 2) sc__law_first_wrong.nd rfl (by first | exact .inl rfl | exact .inr rfl)) (pss_one (ps_if (pt_cmpR op_lt (L2.pv 2) pe_int (nomark _)) (pss_one (ps_if (pt_cmpR (op_notInK (K := K)) (pe_ix (ix_listK (K := K)) (L2.pv 0) (L2.pv 2) (fun _ _ => rfl)) (pe_lc (own := [("_law_word", 3)]) (g := gName 3) (tt := tYes) rfl sc__law_first_wrong.nd (pi_listK (K := K) (pe_slice (sl_listK (K := K)) (pe_ix (ix_listK (K := K)) (L2.pv 1) (L2.pv 2) (fun _ _ => rfl)) (po_some pe_int) po_none)) (blkOk_by (N := ["_law_lines", "_law_due", "_law_k", "_law_word", "_law_words", "_law_every"]) (sc := defScope s__law_first_wrong) (by decide +kernel)) (fun _ _ _ _ _ => pg_name (i := 3) sc__law_first_wrong.nd rfl (by first | exact .inl rfl | exact .inr rfl)) (fun _ _ _ _ _ => pts_nil) (fun _ _ _ _ _ => (pe_op op_add_str (pe_op op_add_str (pe_ix (ix_listK (K := K)) (pe_ix (ix_listK (K := K)) (L2.pv 1) (L2.pv 2) (fun _ _ => rfl)) pe_int (fun _ _ => rfl)) pe_str) (L2.pv 3)))) (by rfl)) (pss_one (ps_ret (pe_op op_add (L2.pv 2) pe_int))) pss_nil)) (pss_one (ps_if (pt_cmpR op_gt (L2.pv 2) pe_int (nomark _)) (pss_one (ps_ret (pe_op op_add (L2.pv 2) pe_int))) (pss_cons (ps_set (i := 4) sc__law_first_wrong.nd rfl (by first | exact .inl rfl | exact .inr rfl) (pe_split (pe_ix (ix_listK (K := K)) (L2.pv 0) (L2.pv 2) (fun _ _ => rfl)) pe_str))
      (pss_cons (ps_setLc (i := 5) (own := [("_law_word", 3)]) (g := gName 3) (by rfl) sc__law_first_wrong.nd rfl rfl (sw_true rfl rfl rfl (by decide +kernel)) (pi_listK (K := K) (pe_lst (pa_cons pe_str (pa_cons pe_str (pa_cons pe_str (pa_cons pe_str (pa_cons pe_str pa_nil))))))) (blkOk_by (N := ["_law_lines", "_law_due", "_law_k", "_law_word", "_law_words", "_law_every"]) (sc := defScope s__law_first_wrong) (by decide +kernel)) (fun _ _ _ _ _ => pg_name (i := 3) sc__law_first_wrong.nd rfl (by first | exact .inl rfl | exact .inr rfl)) (fun _ _ _ _ _ => (pts_one (pt_cmpR (op_inK (K := K)) (L2.pv 3) (pe_slice (sl_listK (K := K)) (L2.pv 4) (po_some pe_int) po_none) (by rfl)))) (fun _ _ _ _ _ => (L2.pv 3)))
      (pss_one (ps_if (PW.pt (pw_or (pt_cmpR op_ne (pe_ix (ix_listK (K := K)) (L2.pv 4) pe_int (fun _ _ => rfl)) pe_str (nomark _)) (pw_or1 (pt_cmpR (op_neDK (K := K) hr.units) (L2.pv 5) (pe_slice (sl_listK (K := K)) (L2.pv 4) (po_some pe_int) po_none) (nomark _))))) (pss_one (ps_ret (pe_op op_add (L2.pv 2) pe_int))) pss_nil)))))))))
      (pss_one (ps_ret (pe_ifExp (pt_cmpR op_lt (pe_callB (len_seqK (K := K)) (by rfl) n_len bo_len (pa_cons (L2.pv 0) pa_nil)) pe_int (nomark _)) (pe_op op_add (pe_callB (len_seqK (K := K)) (by rfl) n_len bo_len (pa_cons (L2.pv 0) pa_nil)) pe_int) pe_non))))), ?_⟩
    obtain ⟨l, ls, rfl, hl, hz, k⟩ := h
    refine ⟨tz 3 rfl, fun q6 n6 => ⟨tz 1 rfl, fun l1 nl1' => ?_⟩⟩
    refine ⟨rfl, fun q H1 s1 nq pa => ?_⟩
    obtain ⟨q0, q1, q2, q3, q4, q5, hq, g0, g1, g2, g3, g4, g5⟩ := pa
    have s0 : L2.Same H H1 := (Same.upd' (Same.upd n6) nl1').trans s1
    have g6 : H1 q6 = some (.lst (dueRow 0)) := s1 _ _ (Same.upd nl1' _ _ upd_same)
    have hl1 : H1 l1 = some (.lst [.ref q6]) := s1 _ _ upd_same
    refine ⟨l1, q, _, _, rfl, rfl, hl1, hq, (by show 7 ≤ sizeLine; rw [sizeLine_eq]; decide), fun du ndu => ?_⟩
    have sd := Same.upd (o := HO.lst ([V.ref q6] ++ [V.ref q0, V.ref q1, V.ref q2, V.ref q3, V.ref q4, V.ref q5])) ndu
    have hdu : (upd H1 du (.lst ([V.ref q6] ++ [V.ref q0, V.ref q1, V.ref q2, V.ref q3, V.ref q4, V.ref q5]))) du = some (.lst [V.ref q6, V.ref q0, V.ref q1, V.ref q2, V.ref q3, V.ref q4, V.ref q5]) := upd_same
    have s0 := s0.trans sd
    have rows : ∀ (i : Nat), i < 7 → ∃ qi, ([V.ref q6, V.ref q0, V.ref q1, V.ref q2, V.ref q3, V.ref q4, V.ref q5] : List V)[i]? = some (V.ref qi) ∧ (upd H1 du (.lst ([V.ref q6] ++ [V.ref q0, V.ref q1, V.ref q2, V.ref q3, V.ref q4, V.ref q5]))) qi = some (.lst (dueRow i)) := by
      intro i hi
      match i, hi with
      | 0, _ => exact ⟨_, rfl, sd _ _ g6⟩
      | 1, _ => exact ⟨_, rfl, sd _ _ g0⟩
      | 2, _ => exact ⟨_, rfl, sd _ _ g1⟩
      | 3, _ => exact ⟨_, rfl, sd _ _ g2⟩
      | 4, _ => exact ⟨_, rfl, sd _ _ g3⟩
      | 5, _ => exact ⟨_, rfl, sd _ _ g4⟩
      | 6, _ => exact ⟨_, rfl, sd _ _ g5⟩
    revert hdu s0 rows
    generalize upd H1 du (.lst ([V.ref q6] ++ [V.ref q0, V.ref q1, V.ref q2, V.ref q3, V.ref q4, V.ref q5])) = H2
    intro hdu s0 rows
    have hl2 := SqL.same s0 hl
    have tl : (texts ls).length = ls.length := List.length_map _
    have zl : ((texts ls).map V.str).length ≤ 100 := by rw [List.length_map, tl]; exact hz
    refine ⟨_, rfl, l, _, rfl, .inl hl2, _, rfl, ?_, ?_, for_it walk_range (fun i σ H' => ∃ v2 v3 v4 v5 : Option V, σ = [some (.ref l), some (.ref du), v2, v3, v4, v5] ∧ L2.Same H2 H' ∧ Pre (texts ls) i) ⟨none, none, none, none, rfl, fun _ _ h => h, fun j hj => absurd hj (Nat.not_lt_zero _)⟩ (fun _ _ _ _ _ => trivial) ?_ ?_⟩
    · omega
    · omega
    · rintro i x σ H3 H3' hi ⟨v2, v3, v4, v5, rfl, s3, pre⟩ ⟨rfl, rfl⟩
      show gName 2 (V.int (0 + (i : Int))) _ _ _
      rw [Int.zero_add]
      have hi' : i < (texts ls).length := by
        have hi : i < _ := hi
        rw [List.length_map] at hi
        omega
      have hl3 := SqL.same s3 hl2
      obtain ⟨ln, hln⟩ : ∃ ln, ls[i]? = some ln := ⟨_, List.getElem?_eq_getElem (by rw [← tl]; exact hi')⟩
      have hts : (texts ls)[i]? = some ln.s := by
        unfold texts
        rw [List.getElem?_map, hln]
        rfl
      have hvs : ((texts ls).map V.str)[i]? = some (V.str ln.s) := by rw [List.getElem?_map, hts]; rfl
      have ret : okAt i ln.s = false → i < 8 → ∀ H4, L2.Same H2 H4 → Q (V.int ((i : Int) + 1)) H4 := fun h0 h8 H4 s4 => by
        have e := bad_stop pre h8 (fun s hs => by rw [hts] at hs; cases hs; exact h0)
        have kk := k H4 (s0.trans s4)
        rw [e] at kk
        exact kk
      refine ⟨_, rfl, _, _, rfl, rfl, _, rfl, ?_⟩
      refine ite2 (fun h7 => ?_) (fun h7 => ?_)
      · have h7 : i < 7 := by have := of_decide_eq_true h7; omega
        have lk := ln_look ln ⟨i, h7⟩
        obtain ⟨z1, z2, z3, z4⟩ := due_len ⟨i, h7⟩
        have z1 : (due i).1.length ≤ 100 := z1
        have z4 : ((due i).1 ++ sp1).length ≤ 100 := z4
        obtain ⟨qi, hrow, hqi⟩ := rows i h7
        refine ⟨_, rfl, _, rfl, l, _, _, _, rfl, rfl, hl3, atI_nat hvs, ?_⟩
        refine ⟨_, rfl, _, rfl, du, _, _, _, rfl, rfl, SqL.of (s3 _ _ hdu), atI_nat hrow, _, rfl, qi, _, rfl, SqL.of (s3 _ _ hqi), fun z nz => ?_⟩
        have ec : cutV (dueRow i) (some 1) none = [V.str (due i).2.1, V.str (due i).2.2] := cut1
        rw [ec]
        have s4 := Same.upd' (o := HO.lst [V.str (due i).2.1, V.str (due i).2.2]) s3 nz
        have hz4 : (upd H3' z (.lst [V.str (due i).2.1, V.str (due i).2.2])) z = some (.lst [V.str (due i).2.1, V.str (due i).2.2]) := upd_same
        revert s4 hz4
        generalize upd H3' z (.lst [V.str (due i).2.1, V.str (due i).2.2]) = H4
        intro s4 hz4
        refine ⟨z, rfl, ⟨_, SqL.of hz4⟩, fun D hD => ?_⟩
        refine lc_it walk_list (fun j H => L2.Same H4 H ∧ H D = some (.lst (((dueL i).take j).map V.str))) ⟨Same.upd hD, upd_same⟩ (fun j H _ q => SqL.of (q.1 _ _ hz4)) ?_ ?_
        · rintro j x H5 H6 hj ⟨s5, eD⟩ ⟨rfl, hx⟩
          obtain ⟨wd, rfl, hd, zw⟩ : ∃ wd : Str, x = V.str wd ∧ (dueL i)[j]? = some ((due i).1 ++ sp1 ++ wd) ∧ wd.length ≤ 100 := by
            match j, hx with
            | 0, hx => cases hx; exact ⟨_, rfl, rfl, z2⟩
            | 1, hx => cases hx; exact ⟨_, rfl, rfl, z3⟩
            | _ + 2, hx => simp at hx
          refine ⟨rfl, _, rfl, _, rfl, du, _, _, _, rfl, rfl, SqL.of (s5 _ _ (s4 _ _ hdu)), atI_nat hrow, qi, _, _, _, rfl, rfl, SqL.of (s5 _ _ (s4 _ _ hqi)), rfl, _, _, rfl, rfl, ?_, _, rfl, _, _, rfl, rfl, ?_, ?_⟩
          · have : (" " : Str).length = 1 := rfl
            rw [sizeLine_eq]
            show (due i).1.length + 1 ≤ _
            omega
          · rw [sizeLine_eq]
            show ((due i).1 ++ sp1).length + wd.length ≤ 16777216
            omega
          refine ⟨_, eD, ?_, fun b2 o2 h2 => by rw [upd_ne (ne_of_none h2 hD)]; exact s5 _ _ h2, ?_⟩
          · rw [List.length_map, List.length_take]
            exact small1000 (Nat.le_trans (Nat.min_le_right _ _) (by show 2 ≤ 1000; decide))
          · rw [upd_same, List.take_add_one, hd, List.map_append]
            rfl
        rintro H5 ⟨s5, eD⟩
        have eD : H5 D = some (.lst ((dueL i).map V.str)) := eD
        refine ⟨D, _, rfl, .inl (SqL.of eD), rfl, flat_strs _, !inV (.str ln.s) ((dueL i).map V.str), rfl, ?_⟩
        rw [inV_str]
        have lk : okAt i ln.s = decide (ln.s ∈ dueL i) := lk
        by_cases hm : ln.s ∈ dueL i
        · rw [decide_eq_true hm] at lk ⊢
          exact iteF ⟨_, _, _, _, rfl, s4.trans s5, pre.step hts lk⟩
        · rw [decide_eq_false hm] at lk ⊢
          exact ⟨_, rfl, _, _, rfl, rfl, ret lk (by omega) _ (s4.trans s5)⟩
      · have h7 : ¬ ((i : Int) < 7) := fun z => h7 (decide_eq_true z)
        refine ⟨_, rfl, _, _, rfl, rfl, _, rfl, ?_⟩
        refine ite2 (fun h8 => ?_) (fun h8 => ?_)
        · have h8 : 7 < i := by have := of_decide_eq_true h8; omega
          refine ⟨_, rfl, _, _, rfl, rfl, ?_⟩
          have e8 : i = 8 := by
            rcases Nat.lt_or_ge i 9 with q | q
            · omega
            · obtain ⟨s8, _, ho⟩ := pre 8 (by omega)
              exact absurd ho (by show ¬ (false = true); exact Bool.false_ne_true)
          subst e8
          have kk := k H3' (s0.trans s3)
          rw [bad_more pre hi'] at kk
          exact kk
        · have h8 : ¬ ((7 : Int) < i) := fun z => h8 (decide_eq_true z)
          have e7 : i = 7 := by omega
          subst e7
          obtain ⟨⟨hsl, hne, hly⟩, _, _⟩ := ln_ok ln
          refine ⟨_, rfl, _, rfl, l, _, _, _, rfl, rfl, hl3, atI_nat hvs, ⟨_, rfl⟩, ln.s, sp1, rfl, rfl, by decide +kernel, by rw [sizeLine_eq]; omega, fun p hp => ?_⟩
          have s4 := Same.upd' (o := HO.lst ((Txt.split ln.s sp1).map V.str)) s3 hp
          have h0 : (upd H3' p (.lst ((Txt.split ln.s sp1).map V.str))) p = some (.lst ((Txt.split ln.s sp1).map V.str)) := upd_same
          revert s4 h0
          generalize upd H3' p (.lst ((Txt.split ln.s sp1).map V.str)) = H4
          intro s4 h0
          have ok7 : okAt 7 ln.s = (wordsOk ln.s).isSome := rfl
          unfold wordsOk at ok7
          generalize Txt.split ln.s sp1 = sw at *
          match sw with
          | [] => exact absurd rfl hne
          | x :: ws =>
          have h0 : H4 p = some (.lst (.str x :: ws.map V.str)) := h0
          refine ⟨tz 5 rfl, fun L hL => ⟨L, rfl, ⟨_, SqL.of upd_same⟩, fun D hD => ?_⟩⟩
          have sL := Same.upd (o := HO.lst (allW.map V.str)) hL
          have eL : (upd H4 L (.lst (allW.map V.str))) L = some (.lst (allW.map V.str)) := upd_same
          have h0L := sL _ _ h0
          have s4L := s4.trans sL
          have hDe : (upd H4 L (.lst (allW.map V.str))) D = none := hD
          show ∃ W, _
          refine lc_it walk_list (fun j H => L2.Same (upd H4 L (.lst (allW.map V.str))) H ∧ H D = some (.lst (((allW.take j).filter fun w => decide (w ∈ ws)).map V.str))) ⟨Same.upd hDe, upd_same⟩ (fun j H _ q => SqL.of (q.1 _ _ eL)) ?_ ?_
          · rintro j x' H5 H6 hj ⟨s5, hL3⟩ ⟨rfl, hx⟩
            obtain ⟨w', hw', rfl⟩ := at_str (ws := allW) hx
            have tk : allW.take (j + 1) = allW.take j ++ [w'] := by
              rw [List.take_add_one, hw']
              rfl
            refine ⟨rfl, _, rfl, _, rfl, _, rfl, p, _, rfl, SqL.of (s5 _ _ h0L), fun p2 hp2 => ?_⟩
            rw [cut1]
            have s6 := Same.upd' (o := HO.lst (ws.map V.str)) s5 hp2
            have hL4 := Same.upd (o := HO.lst (ws.map V.str)) hp2 _ _ hL3
            refine ⟨p2, _, rfl, .inl (SqL.of upd_same), rfl, flat_strs _, _, rfl, ?_⟩
            revert s6 hL4
            generalize upd H6 p2 (.lst (ws.map V.str)) = H7
            intro s6 hL4
            rw [tk, List.filter_append, List.map_append]
            show if inV (.str w') (ws.map V.str) = true then _ else _
            rw [inV_str]
            by_cases hm : w' ∈ ws
            · rw [decide_eq_true hm]
              refine ⟨_, rfl, _, hL4, ?_, ?_, ?_⟩
              · rw [List.length_map]
                refine small1000 (Nat.le_trans (List.length_filter_le _ _) ?_)
                rw [List.length_take]
                exact Nat.le_trans (Nat.min_le_right _ _) (by decide)
              · exact fun b2 o2 h2 => by rw [upd_ne (ne_of_none h2 hDe)]; exact s6 _ _ h2
              · rw [upd_same, List.filter_cons_of_pos (by exact decide_eq_true hm)]
                rfl
            · rw [decide_eq_false hm]
              refine ⟨s6, ?_⟩
              rw [List.filter_cons_of_neg (by rw [decide_eq_false hm]; exact Bool.false_ne_true)]
              rw [List.filter_nil, List.map_nil, List.append_nil]
              exact hL4
          rintro H5 ⟨s5, hL5⟩
          have hL5 : H5 D = some (.lst ((allW.filter fun w => decide (w ∈ ws)).map V.str)) := hL5
          have s25 := s4L.trans s5
          refine ⟨_, rfl, p, _, _, _, rfl, rfl, SqL.of (s5 _ _ h0L), atI_nat (j := 0) (v := .str x) rfl, rfl, _, rfl, ?_⟩
          by_cases e1 : x = "words"
          · subst e1
            refine iteNS rfl ?_
            refine ⟨_, rfl, _, rfl, _, rfl, p, _, rfl, SqL.of (s5 _ _ h0L), fun p2 hp2 => ?_⟩
            rw [cut1]
            have s6 := Same.upd' (o := HO.lst (ws.map V.str)) s25 hp2
            have sh1 : SeqAt.shaped (.list ((allW.filter fun w => decide (w ∈ ws)).map PyData.str)) = true := shaped_strs _ fun w h => (List.mem_filter.mp h).1
            have sh2 : SeqAt.shaped (.list (ws.map PyData.str)) = true := shaped_lay fun w h => hly w (List.mem_cons_of_mem _ h)
            refine ⟨_, _, .lst (SqL.of ((Same.upd (o := HO.lst (ws.map V.str)) hp2) _ _ hL5)) (dp_strs _), .lst (SqL.of upd_same) (dp_strs _), sh1, sh2, _, rfl, ?_⟩
            rw [PyData.eqv, eqv_strs]
            by_cases e2 : (allW.filter fun w => decide (w ∈ ws)) = ws
            · rw [decide_eq_true e2]
              refine iteF ⟨_, _, _, _, rfl, s6, pre.step hts ?_⟩
              rw [ok7]
              show (if _ then _ else _ : Option (List Str)).isSome = true
              rw [if_pos ⟨rfl, e2⟩]
              rfl
            · rw [decide_eq_false e2]
              refine ⟨_, rfl, _, _, rfl, rfl, ret ?_ (by decide) _ s6⟩
              rw [ok7]
              show (if _ then _ else _ : Option (List Str)).isSome = false
              rw [if_neg fun z => e2 z.2]
              rfl
          · rw [decide_eq_false (fun z => e1 (V.str.inj z))]
            refine ⟨_, rfl, _, _, rfl, rfl, ret ?_ (by decide) _ s25⟩
            rw [ok7]
            show (if _ then _ else _ : Option (List Str)).isSome = false
            rw [if_neg fun z => e1 z.1]
            rfl
    · rintro σ H3 ⟨v2, v3, v4, v5, rfl, s3, pre⟩
      have pre : Pre (texts ls) (texts ls).length := by
        have en : ((texts ls).map V.str).length = (texts ls).length := List.length_map _
        rw [← en]
        exact pre
      have hl3 := SqL.same s3 hl2
      have l8 : (texts ls).length ≤ 8 := by
        rcases Nat.lt_or_ge 8 (texts ls).length with q | q
        · obtain ⟨s8, _, ho⟩ := pre 8 q
          exact absurd ho (by show ¬ (false = true); exact Bool.false_ne_true)
        · exact q
      refine ⟨_, rfl, l, _, rfl, .inl hl3, _, _, rfl, rfl, _, rfl, ?_⟩
      have kk := k H3 (s0.trans s3)
      refine ite2 (fun h8 => ?_) (fun h8 => ?_)
      · have h8 := of_decide_eq_true h8
        rw [List.length_map] at h8
        rw [bad_stop pre (by omega) (fun s hs => by rw [List.getElem?_eq_none (Nat.le_refl _)] at hs; cases hs)] at kk
        refine ⟨_, rfl, l, _, rfl, .inl hl3, _, _, rfl, rfl, ?_⟩
        rw [List.length_map]
        exact kk
      · have h8 : ¬ ((((texts ls).map V.str).length : Int) < 8) := fun z => h8 (decide_eq_true z)
        rw [List.length_map] at h8
        have e8 : (texts ls).length = 8 := by omega
        rw [bad_none (by rw [← e8]; exact pre) (by omega)] at kk
        exact kk
def spAnswer : Sp := fun vs H Q _ => ∃ (ls : List Ln), vs = [.str (Txt.join nl1 (texts ls))] ∧ ls ≠ [] ∧ ls.length ≤ 100 ∧ ∀ H', L2.Same H H' → Q (outV (badFrom 0 (texts ls))) H'
abbrev s__law_answer : Stmt := top 29
theorem sc__law_answer : FnScope ["_law_text", "_law_found", "error"] ["_law_text"] (defScope s__law_answer) := ⟨rfl, rfl, rfl, by decide +kernel, rfl, by decide +kernel, by decide +kernel⟩
theorem ok__law_answer {f : Addr} {fd : FuncData} (F : Fun K "_law_answer" "_law_answer" s__law_answer f fd) {C_InvalidLine f_InvalidLine : Addr} (T_InvalidLine : ErrTxt P K mg "InvalidLine" (some "line") C_InvalidLine f_InvalidLine) {CD : Addr} (gD : mg "DraftError" = some (.ref CD)) (hkD : PySem.W.kitOne K (.ref C_InvalidLine) (.ref CD) = some true) (eiL : ErrIs K C_InvalidLine) (n_isinstance : mg "isinstance" = none)
    {f_read : Addr} {fd_read : FuncData} (G_read : FnOk P w K mg base (L2.CX P w) 6 f_read fd_read ["text"] (spRead C_InvalidLine)) (D_read : DefIn K mg "read" f_read fd_read ["text"]) :
    FnOk P w K mg base CX0 8 f fd ["_law_text"] spAnswer := by
  refine F.ok sc__law_answer (fun vs H Q E h => ?_) (fun cdv A outer s H vs Q E hr h => ?_)
  · (repeat (obtain ⟨_, h⟩ := h)) <;> (subst_vars; rfl)
  · have hu := hu_of hr
    refine ⟨_, (pss_cons (ps_set (i := 1) sc__law_answer.nd rfl (by first | exact .inl rfl | exact .inr rfl) pe_non)
      (pss_cons (ps_try_as (i := 2) (Wout := fun _ _ _ _ => False) rfl rfl sc__law_answer.nd rfl rfl ⟨rfl, by decide, .inl T_InvalidLine.gC⟩ takes0 (fun W pn xe tk po => (pss_one (ps_expr (pe_callS G_read (hr.mono (by decide)) rfl D_read.m D_read.kp D_read.b (fun σ => passAt tk σ) (pa_cons (L2.pv 0) pa_nil))))) (fun a oe cls d pn hz hf => (pss_one (ps_set (i := 1) sc__law_answer.nd rfl (by first | exact .inl rfl | exact .inr rfl) (pe_ifExp (pt_val (pe_callB (call_isE1 hz hf) (by rfl) n_isinstance bo_isi (pa_cons (L2.pv 2) (pa_cons (pe_glob (v := .ref CD) (by rfl) gD rfl) pa_nil)))) (pe_erF T_InvalidLine hz hf (L2.pv 2)) (pe_un un_neg pe_int))))))
      (pss_one (ps_ret (L2.pv 1))))), ?_⟩
    obtain ⟨ls, rfl, hne, hz, k⟩ := h
    refine ⟨_, rfl, ?_⟩
    have hlo : ∀ s ∈ texts ls, LineOk s := fun s hs => by
      obtain ⟨l, _, rfl⟩ := List.mem_map.mp hs
      exact (ln_ok l).1
    have tl := texts_len ls
    refine ⟨_, texts ls, rfl, (by omega), texts_split hne, hlo, fun hb a H' s => ?_, fun n hb d H' s hd => ?_⟩
    · have kk := k H' s
      rw [hb] at kk
      exact ⟨_, rfl, kk⟩
    · have kk := k H' s
      rw [hb] at kk
      refine ⟨true, T_InvalidLine.te, fun _ a0 _ => ?_, fun q => Bool.noConfusion q⟩
      refine ⟨_, rfl, C_InvalidLine, .ref CD, .ref CD, true, d, _, rfl, rfl, eiL, fun u r => r, hkD, rfl, hd, true, rfl, ?_⟩
      exact ⟨_, rfl, rfl, rfl, d, _, rfl, hd, _, rfl, kk⟩
def spLaw (K : PySem.W.Frag) : Sp := fun vs H Q _ => ∃ (a : Addr) (ns : List Int), vs = [.ref a] ∧ SqL K H a (ns.map V.int) ∧ ns.length ≤ 63 ∧ ∀ H', Q (.bl true) H'
theorem ppl_log (two : Bool) : (bif two then 2 else 1 : Int).natAbs.log2 < 1920 := by cases two <;> decide
theorem ppl_len (two : Bool) : (Str.ofString "people ").length + (Str.ofString (toString (bif two then 2 else 1 : Int))).length ≤ 16777216 := by cases two <;> decide +kernel
theorem ppl_eq (two : Bool) : (Str.ofString "people ") ++ (Str.ofString (toString (bif two then 2 else 1 : Int))) = lineP two := by
  unfold lineP
  cases two <;> decide +kernel
def ptsOf (r : Rule) : List Ln := [.pt 0 r.al, .pt 1 r.cl, .pt 2 r.dr, .pt 3 r.le, .pt 4 r.re, .pt 5 r.sg]
theorem pts_at (r : Rule) : ∀ j : Nat, j < 6 → ∃ wd : Str, valV r.kv (Sum.inr (pn.getD j "") : Key) = some (.str wd) ∧ (texts (ptsOf r))[j]? = some (pn.getD j "" ++ sp1 ++ wd) ∧ (pn.getD j "").length + sp1.length ≤ sizeLine ∧ (pn.getD j "" ++ sp1).length + wd.length ≤ sizeLine
  | 0, _ => ⟨_, rfl, rfl, by rw [sizeLine_eq]; decide +kernel, by rw [sizeLine_eq]; cases r.al <;> decide +kernel⟩
  | 1, _ => ⟨_, rfl, rfl, by rw [sizeLine_eq]; decide +kernel, by rw [sizeLine_eq]; cases r.cl <;> decide +kernel⟩
  | 2, _ => ⟨_, rfl, rfl, by rw [sizeLine_eq]; decide +kernel, by rw [sizeLine_eq]; cases r.dr <;> decide +kernel⟩
  | 3, _ => ⟨_, rfl, rfl, by rw [sizeLine_eq]; decide +kernel, by rw [sizeLine_eq]; cases r.le <;> decide +kernel⟩
  | 4, _ => ⟨_, rfl, rfl, by rw [sizeLine_eq]; decide +kernel, by rw [sizeLine_eq]; cases r.re <;> decide +kernel⟩
  | 5, _ => ⟨_, rfl, rfl, by rw [sizeLine_eq]; decide +kernel, by rw [sizeLine_eq]; cases r.sg <;> decide +kernel⟩
  | _ + 6, h => absurd h (by omega)
theorem wsum (k : Kinds) : (((("words" : Str) :: k.ws).map (·.length)).sum + (("words" : Str) :: k.ws).length * sp1.length) ≤ 1000 := by
  obtain ⟨a, b, c, d, e⟩ := k
  cases a <;> cases b <;> cases c <;> cases d <;> cases e <;> decide +kernel
def oddV : List V := oddL.map V.str
abbrev oA : List V := [V.str "", V.str "people 3", V.str "people", V.str "along links ", V.str "clash", V.str "drafts two"]
abbrev oB : List V := [V.str "drafts own own", V.str " leads draft", V.str "words back back"]
abbrev oC : List V := [V.str "words hide back", V.str "words edit", V.str "words ", V.str "words", V.str "staged  now"]
abbrev oD : List V := [V.str "restores before", V.str "people 1", V.str "word back"]
theorem odd_at {i : Nat} {v : V} (h : oddV[i]? = some v) : ∃ j : Fin 17, v = V.str (Ln.odd j).s := by
  obtain ⟨w, hw, rfl⟩ := at_str (ws := oddL) h
  have hi : i < 17 := (List.getElem?_eq_some_iff.mp hw).1
  refine ⟨⟨i, hi⟩, ?_⟩
  show V.str w = V.str (oddL.getD i "")
  rw [List.getD_eq_getElem?_getD, hw]
  rfl
theorem cut_take {xs : List V} {n : Nat} : cutV xs none (some (n : Int)) = xs.take n := by
  unfold cutV
  rw [HT.sIx_none, HT.sIx_nat, List.drop_zero, Nat.sub_zero]
  rcases Nat.le_total n xs.length with h | h
  · rw [Nat.min_eq_left h]
  · rw [Nat.min_eq_right h, List.take_length, List.take_of_length_le h]
theorem cut_drop {xs : List V} {n : Nat} : cutV xs (some (n : Int)) none = xs.drop n := by
  unfold cutV
  rw [HT.sIx_none, HT.sIx_nat]
  rcases Nat.le_total n xs.length with h | h
  · rw [Nat.min_eq_left h, List.take_of_length_le (by rw [List.length_drop]; exact Nat.le_refl _)]
  · rw [Nat.min_eq_right h, Nat.sub_self, List.take_zero, List.drop_of_length_le h]
/-- the lines at l -/
def LnAt (H : Hp) (l : Addr) (ls : List Ln) : Prop := H l = some (.lst ((texts ls).map V.str))
theorem LnAt.keep {H H' : Hp} {p c l : Addr} {ls : List Ln} (h : LnAt H l ls) (hne : ls ≠ []) (d : Dr H p c) (f : Fr2 p c H H') : LnAt H' l ls := by
  match ls, hne with
  | x :: r, _ => exact d.keepS f h
abbrev s_law : Stmt := top 30
theorem sc_law : FnScope ["_law_script", "_law_h", "_law_odd", "_law_turn", "_law_row", "_law_part", "_law_lines", "_law_change", "_law_at", "_law_kind"] ["_law_script"] (defScope s_law) := ⟨rfl, rfl, rfl, by decide +kernel, rfl, by decide +kernel, by decide +kernel⟩
theorem ok_law {f : Addr} {fd : FuncData} (F : Fun K "law" "law" s_law f fd) (n_len : mg "len" = none) (n_list : mg "list" = none) (n_range : mg "range" = none) (n_str : mg "str" = none)
    {f__law_answer : Addr} {fd__law_answer : FuncData} (G__law_answer : FnOk P w K mg base CX0 8 f__law_answer fd__law_answer ["_law_text"] spAnswer) (D__law_answer : DefIn K mg "_law_answer" f__law_answer fd__law_answer ["_law_text"])
    {f__law_alike : Addr} {fd__law_alike : FuncData} (G__law_alike : FnOk P w K mg base CX0 1 f__law_alike fd__law_alike ["_law_found", "_law_due"] (spAlike)) (D__law_alike : DefIn K mg "_law_alike" f__law_alike fd__law_alike ["_law_found", "_law_due"])
    {f__law_first_wrong : Addr} {fd__law_first_wrong : FuncData} (G__law_first_wrong : FnOk P w K mg base CX0 2 f__law_first_wrong fd__law_first_wrong ["_law_lines"] (spFirst K)) (D__law_first_wrong : DefIn K mg "_law_first_wrong" f__law_first_wrong fd__law_first_wrong ["_law_lines"])
    {f__law_next : Addr} {fd__law_next : FuncData} (G__law_next : FnOk P w K mg base CX0 1 f__law_next fd__law_next ["_law_h", "_law_cap"] spNext) (D__law_next : DefIn K mg "_law_next" f__law_next fd__law_next ["_law_h", "_law_cap"])
    {f__law_pick : Addr} {fd__law_pick : FuncData} (G__law_pick : FnOk P w K mg base CX0 2 f__law_pick fd__law_pick ["_law_h", "_law_things"] (spPick K)) (D__law_pick : DefIn K mg "_law_pick" f__law_pick fd__law_pick ["_law_h", "_law_things"])
    {f__law_parts : Addr} {fd__law_parts : FuncData} (G__law_parts : FnOk P w K mg base CX0 1 f__law_parts fd__law_parts [] spParts) (D__law_parts : DefIn K mg "_law_parts" f__law_parts fd__law_parts [])
    {f__law_draw : Addr} {fd__law_draw : FuncData} (G__law_draw : FnOk P w K mg base CX0 4 f__law_draw fd__law_draw ["_law_h"] (spDraw K)) (D__law_draw : DefIn K mg "_law_draw" f__law_draw fd__law_draw ["_law_h"])
    {f__law_mix : Addr} {fd__law_mix : FuncData} (G__law_mix : FnOk P w K mg base CX0 1 f__law_mix fd__law_mix ["_law_script", "_law_seed"] (spMix K)) (D__law_mix : DefIn K mg "_law_mix" f__law_mix fd__law_mix ["_law_script", "_law_seed"]) :
    FnOk P w K mg base CX0 9 f fd ["_law_script"] (spLaw K) := by
  refine F.ok sc_law (fun vs H Q E h => ?_) (fun cdv A outer s H vs Q E hr h => ?_)
  · (repeat (obtain ⟨_, h⟩ := h)) <;> (subst_vars; rfl)
  · have hu := hu_of hr
    refine ⟨_, (pss_cons (ps_set (i := 1) sc_law.nd rfl (by first | exact .inl rfl | exact .inr rfl) (pe_cl G__law_mix (hr.mono (by decide)) D__law_mix (pa_cons (L2.pv 0) (pa_cons pe_int pa_nil))))
      (pss_cons (ps_set (i := 2) sc_law.nd rfl (by first | exact .inl rfl | exact .inr rfl) (pe_lst (pa_cons pe_str (pa_cons pe_str (pa_cons pe_str (pa_cons pe_str (pa_cons pe_str (pa_cons pe_str pa_nil))))))))
      (pss_cons (ps_set (i := 2) sc_law.nd rfl (by first | exact .inl rfl | exact .inr rfl) (pe_op op_cat (L2.pv 2) (pe_lst (pa_cons pe_str (pa_cons pe_str (pa_cons pe_str pa_nil))))))
      (pss_cons (ps_set (i := 2) sc_law.nd rfl (by first | exact .inl rfl | exact .inr rfl) (pe_op op_cat (L2.pv 2) (pe_lst (pa_cons pe_str (pa_cons pe_str (pa_cons pe_str (pa_cons pe_str (pa_cons pe_str pa_nil))))))))
      (pss_cons (ps_set (i := 2) sc_law.nd rfl (by first | exact .inl rfl | exact .inr rfl) (pe_op op_cat (L2.pv 2) (pe_lst (pa_cons pe_str (pa_cons pe_str (pa_cons pe_str pa_nil))))))
      (pss_cons (ps_for PassesOwn.never rfl (pi_range1 (by rfl) n_range (pa_cons pe_int pa_nil)) (pg_name (i := 3) sc_law.nd rfl (by first | exact .inl rfl | exact .inr rfl)) (pss_cons (ps_set (i := 4) sc_law.nd rfl (by first | exact .inl rfl | exact .inr rfl) (pe_cl G__law_draw (hr.mono (by decide)) D__law_draw (pa_cons (L2.pv 1) pa_nil)))
      (pss_cons (ps_set (i := 6) sc_law.nd rfl (by first | exact .inl rfl | exact .inr rfl) (pe_op op_cat (pe_lst (pa_cons (pe_op op_add_str pe_str (pe_callTy call_str_int (by rfl) n_str bo_str (pa_cons (pe_ix (ix_listK (K := K)) (L2.pv 4) pe_int (fun _ _ => rfl)) pa_nil))) pa_nil)) (pe_lc (own := [("_law_part", 5)]) (g := gName 5) (tt := tYes) rfl sc_law.nd (pi_listK (K := K) (pe_cl0 G__law_parts (hr.mono (by decide)) D__law_parts)) (blkOk_by (N := ["_law_script", "_law_h", "_law_odd", "_law_turn", "_law_row", "_law_part", "_law_lines", "_law_change", "_law_at", "_law_kind"]) (sc := defScope s_law) (by decide +kernel)) (fun _ _ _ _ _ => pg_name (i := 5) sc_law.nd rfl (by first | exact .inl rfl | exact .inr rfl)) (fun _ _ _ _ _ => pts_nil) (fun _ _ _ _ _ => (pe_op op_add_str (pe_op op_add_str (pe_ix (ix_listK (K := K)) (L2.pv 5) pe_int (fun _ _ => rfl)) pe_str) (pe_dget hu (pe_ix (ix_listK (K := K)) (L2.pv 4) pe_int (fun _ _ => rfl)) (pe_ix (ix_listK (K := K)) (L2.pv 5) pe_int (fun _ _ => rfl)) (fun _ _ => rfl)))))))
      (pss_cons (ps_set (i := 6) sc_law.nd rfl (by first | exact .inl rfl | exact .inr rfl) (pe_op op_cat (L2.pv 6) (pe_lst (pa_cons (pe_join pe_str (pe_op op_cat (pe_lst (pa_cons pe_str pa_nil)) (pe_callTy (list_ofK (K := K)) (by rfl) n_list bo_list (pa_cons (pe_ix (ix_listK (K := K)) (L2.pv 4) pe_int (fun _ _ => rfl)) pa_nil)))) pa_nil))))
      (pss_cons (ps_for PassesOwn.never rfl (pi_range1 (by rfl) n_range (pa_cons (pe_cl G__law_next (hr.mono (by decide)) D__law_next (pa_cons (L2.pv 1) (pa_cons pe_int pa_nil))) pa_nil)) (pg_name (i := 7) sc_law.nd rfl (by first | exact .inl rfl | exact .inr rfl)) (pss_cons (ps_par (i := 8) (j := 9) (by rfl) sc_law.nd rfl rfl (by decide) rfl rfl (pa_cons (pe_cl G__law_next (hr.mono (by decide)) D__law_next (pa_cons (L2.pv 1) (pa_cons (pe_op op_add (pe_callB (len_seqK (K := K)) (by rfl) n_len bo_len (pa_cons (L2.pv 6) pa_nil)) pe_int) pa_nil))) (pa_cons (pe_cl G__law_next (hr.mono (by decide)) D__law_next (pa_cons (L2.pv 1) (pa_cons pe_int pa_nil))) pa_nil)) (by rfl))
      (pss_one (ps_if (pt_cmpR op_eq (L2.pv 9) pe_int (nomark _)) (pss_one (ps_set (i := 6) sc_law.nd rfl (by first | exact .inl rfl | exact .inr rfl) (pe_op op_cat (pe_op op_cat (pe_slice (sl_listK (K := K)) (L2.pv 6) po_none (po_some (L2.pv 8))) (pe_lst (pa_cons (pe_cl G__law_pick (hr.mono (by decide)) D__law_pick (pa_cons (L2.pv 1) (pa_cons (L2.pv 2) pa_nil))) pa_nil))) (pe_slice (sl_listK (K := K)) (L2.pv 6) (po_some (L2.pv 8)) po_none)))) (pss_one (ps_if (pt_cmpR op_eq (L2.pv 9) pe_int (nomark _)) (pss_one (ps_set (i := 6) sc_law.nd rfl (by first | exact .inl rfl | exact .inr rfl) (pe_op op_cat (pe_op op_cat (pe_slice (sl_listK (K := K)) (L2.pv 6) po_none (po_some (L2.pv 8))) (pe_lst (pa_cons (pe_cl G__law_pick (hr.mono (by decide)) D__law_pick (pa_cons (L2.pv 1) (pa_cons (L2.pv 2) pa_nil))) pa_nil))) (pe_slice (sl_listK (K := K)) (L2.pv 6) (po_some (pe_op op_add (L2.pv 8) pe_int)) po_none)))) (pss_one (ps_set (i := 6) sc_law.nd rfl (by first | exact .inl rfl | exact .inr rfl) (pe_ifExp (PW.pt (pw_and (pt_cmpR op_eq (L2.pv 9) pe_int (nomark _)) (pw_and1 (pt_cmpR op_gt (pe_callB (len_seqK (K := K)) (by rfl) n_len bo_len (pa_cons (L2.pv 6) pa_nil)) pe_int (nomark _))))) (pe_op op_cat (pe_slice (sl_listK (K := K)) (L2.pv 6) po_none (po_some (L2.pv 8))) (pe_slice (sl_listK (K := K)) (L2.pv 6) (po_some (pe_op op_add (L2.pv 8) pe_int)) po_none)) (pe_op op_cat (pe_slice (sl_listK (K := K)) (L2.pv 6) (po_some (L2.pv 8)) po_none) (pe_slice (sl_listK (K := K)) (L2.pv 6) po_none (po_some (L2.pv 8)))))))))))))
      (pss_one (ps_if (pt_not (pt_val (pe_cl G__law_alike (hr.mono (by decide)) D__law_alike (pa_cons (pe_cl G__law_answer (hr.mono (by decide)) D__law_answer (pa_cons (pe_join pe_str (L2.pv 6)) pa_nil)) (pa_cons (pe_cl G__law_first_wrong (hr.mono (by decide)) D__law_first_wrong (pa_cons (L2.pv 6) pa_nil)) pa_nil))))) (pss_one (ps_ret pe_bl)) pss_nil)))))))
      (pss_one (ps_ret (pe_cmpR op_eq (pe_cl G__law_answer (hr.mono (by decide)) D__law_answer (pa_cons pe_str pa_nil)) pe_int (nomark _)))))))))), ?_⟩
    obtain ⟨a, ns, rfl, ha, hn, k⟩ := h
    refine ⟨_, rfl, a, 14, ns, rfl, ha, by decide, by decide, hn, fun p c H0 s0 np nc dr => ?_⟩
    refine ⟨tz 6 rfl, fun o1 no1 => ?_⟩
    have t1 := Same.upd (o := HO.lst oA) no1
    refine ⟨_, rfl, tz 3 rfl, fun o2 no2 => ?_⟩
    have t2 := Same.upd' (o := HO.lst oB) t1 no2
    refine ⟨o1, o2, oA, oB, rfl, rfl, (Same.upd no2) _ _ upd_same, upd_same, (by show 9 ≤ sizeLine; rw [sizeLine_eq]; decide), fun o3 no3 => ?_⟩
    have t3 := Same.upd' (o := HO.lst (oA ++ oB)) t2 no3
    have g3 := upd_same (H := upd (upd H0 o1 (.lst oA)) o2 (.lst oB)) (a := o3) (o := HO.lst (oA ++ oB))
    revert t3 g3
    generalize upd (upd (upd H0 o1 (.lst oA)) o2 (.lst oB)) o3 (.lst (oA ++ oB)) = H1
    intro t3 g3
    refine ⟨_, rfl, tz 5 rfl, fun o4 no4 => ?_⟩
    refine ⟨o3, o4, oA ++ oB, oC, rfl, rfl, (Same.upd no4) _ _ g3, upd_same, (by show 14 ≤ sizeLine; rw [sizeLine_eq]; decide), fun o5 no5 => ?_⟩
    have t5 := Same.upd' (o := HO.lst (oA ++ oB ++ oC)) (Same.upd' (o := HO.lst oC) t3 no4) no5
    have g5 := upd_same (H := upd H1 o4 (.lst oC)) (a := o5) (o := HO.lst (oA ++ oB ++ oC))
    revert t5 g5
    generalize upd (upd H1 o4 (.lst oC)) o5 (.lst (oA ++ oB ++ oC)) = H2
    intro t5 g5
    refine ⟨_, rfl, tz 3 rfl, fun o6 no6 => ?_⟩
    refine ⟨o5, o6, oA ++ oB ++ oC, oD, rfl, rfl, (Same.upd no6) _ _ g5, upd_same, (by show 17 ≤ sizeLine; rw [sizeLine_eq]; decide), fun od nod => ?_⟩
    have t7 := Same.upd' (o := HO.lst (oA ++ oB ++ oC ++ oD)) (Same.upd' (o := HO.lst oD) t5 no6) nod
    have god : (upd (upd H2 o6 (.lst oD)) od (.lst (oA ++ oB ++ oC ++ oD))) od = some (.lst oddV) := upd_same
    revert t7 god
    generalize upd (upd H2 o6 (.lst oD)) od (.lst (oA ++ oB ++ oC ++ oD)) = H3
    intro t7 god
    have dr3 := dr.same t7
    clear t5 g5 t3 g3 t2 t1
    refine ⟨_, rfl, by decide, by decide, for_it walk_range (fun i σ H => ∃ v3 v4 v5 v6 v7 v8 v9 : Option V, σ = [some (.ref a), some (.ref p), some (.ref od), v3, v4, v5, v6, v7, v8, v9] ∧ Dr H p c ∧ H od = some (.lst oddV)) ⟨none, none, none, none, none, none, none, rfl, dr3, god⟩ (fun _ _ _ _ _ => trivial) ?step ?last⟩
    case last =>
      rintro σ H4 ⟨v3, v4, v5, v6, v7, v8, v9, rfl, dr4, god4⟩
      refine ⟨[.odd 0], rfl, (by intro e; cases e), (by show 1 ≤ 100; decide), fun H5 s5 => ?_⟩
      exact ⟨rfl, k H5⟩
    case step =>
    rintro i x σ H4 H4' hi ⟨v3, v4, v5, v6, v7, v8, v9, rfl, dr4, god4⟩ ⟨rfl, rfl⟩
    refine ⟨_, rfl, p, c, rfl, dr4, fun b rw_ H5 dr5 f5 nrw row => ?_⟩
    have god5 := dr4.keepS f5 god4
    obtain ⟨d, t, hR, hd6, hT6⟩ := row
    obtain ⟨two, R, kk⟩ := b
    -- the lines
    refine ⟨_, rfl, rw_, _, _, _, rfl, rfl, SqL.of hR, rfl, _, rfl, ppl_log two, _, _, rfl, rfl, by rw [sizeLine_eq]; exact ppl_len two, ?_⟩
    have ep : (Str.ofString "people ") ++ (Str.ofString (toString (Bk.people ⟨two, R, kk⟩))) = lineP two := ppl_eq two
    rw [ep]
    refine ⟨tz 1 rfl, fun l1 hl1 => ⟨rfl, fun q H7 s7 nq pa => ?_⟩⟩
    have s67 : L2.Same H5 H7 := (Same.upd hl1).trans s7
    have e1' : H7 l1 = some (.lst [.str (lineP two)]) := s7 _ _ upd_same
    obtain ⟨q0, q1, q2, q3, q4, q5, hl, g0, g1, g2, g3, g4, g5⟩ := pa
    have hq : ∀ (j : Nat) (x : V), ([.ref q0, .ref q1, .ref q2, .ref q3, .ref q4, .ref q5] : List V)[j]? = some x → ∃ q, x = .ref q ∧ H7 q = some (.lst (prow j)) ∧ j < 6 := by
      intro j x hj
      match j, hj with
      | 0, hj => cases hj; exact ⟨_, rfl, g0, by decide⟩
      | 1, hj => cases hj; exact ⟨_, rfl, g1, by decide⟩
      | 2, hj => cases hj; exact ⟨_, rfl, g2, by decide⟩
      | 3, hj => cases hj; exact ⟨_, rfl, g3, by decide⟩
      | 4, hj => cases hj; exact ⟨_, rfl, g4, by decide⟩
      | 5, hj => cases hj; exact ⟨_, rfl, g5, by decide⟩
      | _ + 6, hj => simp at hj
    refine ⟨q, rfl, ⟨_, SqL.of hl⟩, fun D2 hD2 => ?_⟩
    refine lc_it walk_list (fun i H => L2.Same H7 H ∧ H D2 = some (.lst (((texts (ptsOf R)).take i).map V.str))) ⟨Same.upd hD2, upd_same⟩ (fun i H _ q => SqL.of (q.1 _ _ hl)) ?_ ?_
    · rintro j x H8 H9 hj ⟨s8, eD⟩ ⟨rfl, hx⟩
      obtain ⟨qj, rfl, hqj, hj6⟩ := hq j x hx
      obtain ⟨wd, e2', hl1', z1, z2⟩ := pts_at R j hj6
      have hqj := s8 _ _ hqj
      refine ⟨rfl, _, rfl, qj, _, _, _, rfl, rfl, SqL.of hqj, rfl, _, _, rfl, rfl, z1, ?_⟩
      refine ⟨_, rfl, rw_, _, _, _, rfl, rfl, SqL.of (s8 _ _ (s67 _ _ hR)), rfl, _, rfl, qj, _, _, _, rfl, rfl, SqL.of hqj, rfl, d, _, rfl, (by rw [← e2']; exact DGet.k (k := Sum.inr (pn.getD j "")) (s8 _ _ (s67 _ _ hd6))), _, _, rfl, rfl, z2, ?_⟩
      refine ⟨_, eD, ?_, fun b2 o2 h2 => by rw [upd_ne (ne_of_none h2 hD2)]; exact s8 _ _ h2, ?_⟩
      · rw [List.length_map, List.length_take]
        exact small1000 (Nat.le_trans (Nat.min_le_right _ _) (by show 6 ≤ 1000; decide))
      · rw [upd_same, List.take_add_one, hl1', List.map_append]
        rfl
    rintro H8 ⟨s8, eD2⟩
    have eD2 : H8 D2 = some (.lst ((texts (ptsOf R)).map V.str)) := eD2
    refine ⟨l1, D2, _, _, rfl, rfl, s8 _ _ e1', eD2, (by show 7 ≤ sizeLine; rw [sizeLine_eq]; decide), fun l3 hl3 => ?_⟩
    have s9 : L2.Same H5 (upd H8 l3 (.lst ([V.str (lineP two)] ++ (texts (ptsOf R)).map V.str))) := (s67.trans s8).trans (Same.upd hl3)
    have e3 : (upd H8 l3 (.lst ([V.str (lineP two)] ++ (texts (ptsOf R)).map V.str))) l3 = some (.lst ((texts (.pp two :: ptsOf R)).map V.str)) := upd_same
    revert s9 e3
    generalize upd H8 l3 (.lst ([V.str (lineP two)] ++ (texts (ptsOf R)).map V.str)) = H9
    intro s9 e3
    -- the words
    refine ⟨_, rfl, ⟨_, rfl⟩, ?_⟩
    refine ⟨tz 1 rfl, fun l4 hl4 => ?_⟩
    have s9' := s9.trans (Same.upd (o := HO.lst [V.str "words"]) hl4)
    refine ⟨_, rfl, rw_, _, _, _, rfl, rfl, SqL.of (s9' _ _ hR), rfl, t, _, rfl, .inr (SqT.same s9' hT6), fun l5 hl5 => ?_⟩
    have e4 := (Same.upd (o := HO.lst (kk.ws.map V.str)) hl5) _ _ (upd_same (H := H9) (a := l4) (o := HO.lst [V.str "words"]))
    have zw : [V.str "words"].length + (kk.ws.map V.str).length ≤ sizeLine := by
      have := ws_len kk
      rw [List.length_map, sizeLine_eq]
      show 1 + _ ≤ _
      omega
    refine ⟨l4, l5, _, _, rfl, rfl, e4, upd_same, zw, fun l6 hl6 => ?_⟩
    have s10 := Same.upd' (o := HO.lst ([V.str "words"] ++ kk.ws.map V.str)) (Same.upd' (o := HO.lst (kk.ws.map V.str)) (Same.upd (o := HO.lst [V.str "words"]) hl4) hl5) hl6
    refine ⟨sp1, l6, ("words" : Str) :: kk.ws, rfl, rfl, .inl (SqL.of upd_same), Nat.le_trans (wsum _) (by decide), ?_⟩
    revert s10
    generalize upd (upd (upd H9 l4 (.lst [V.str "words"])) l5 (.lst (kk.ws.map V.str))) l6 (.lst ([V.str "words"] ++ kk.ws.map V.str)) = H10
    intro s10
    refine ⟨tz 1 rfl, fun l7 hl7 => ?_⟩
    refine ⟨l3, l7, _, _, rfl, rfl, (Same.upd hl7) _ _ (s10 _ _ e3), upd_same, (by show 8 ≤ sizeLine; rw [sizeLine_eq]; decide), fun l8 hl8 => ?_⟩
    have hln : LnAt (upd (upd H10 l7 (.lst [V.str (Txt.join sp1 (("words" : Str) :: kk.ws))])) l8 (.lst ((texts (.pp two :: ptsOf R)).map V.str ++ [V.str (Txt.join sp1 (("words" : Str) :: kk.ws))]))) l8 (.pp two :: ptsOf R ++ [.wd kk]) := upd_same
    have s12 := (s9.trans s10).trans ((Same.upd (o := HO.lst [V.str (Txt.join sp1 (("words" : Str) :: kk.ws))]) hl7).trans (Same.upd (o := HO.lst ((texts (.pp two :: ptsOf R)).map V.str ++ [V.str (Txt.join sp1 (("words" : Str) :: kk.ws))])) hl8))
    have dr12 := dr5.same s12
    have god12 := s12 _ _ god5
    revert hln dr12 god12
    generalize upd (upd H10 l7 (.lst [V.str (Txt.join sp1 (("words" : Str) :: kk.ws))])) l8 (.lst ((texts (.pp two :: ptsOf R)).map V.str ++ [V.str (Txt.join sp1 (("words" : Str) :: kk.ws))])) = H12
    intro hln dr12 god12
    clear s12
    -- the changes
    refine ⟨_, rfl, p, c, 3, rfl, dr12, by decide, by decide, fun m H13 m0 m1 dr13 f13 => ?_⟩
    have hln := hln.keep (by intro e; cases e) dr12 f13
    have god13 := dr12.keepS f13 god12
    refine ⟨_, rfl, by omega, by omega, for_it walk_range (fun j σ H => ∃ (v5 v7 v8 v9 : Option V) (l : Addr) (ls : List Ln), σ = [some (.ref a), some (.ref p), some (.ref od), some (.int (0 + (i : Int))), some (.ref rw_), v5, some (.ref l), v7, v8, v9] ∧ Dr H p c ∧ H od = some (.lst oddV) ∧
      LnAt H l ls ∧ ls ≠ [] ∧ ls.length ≤ 8 + j) ⟨_, _, _, _, l8, _, rfl, dr13, god13, hln, (by intro e; cases e), (by show 8 ≤ 8 + 0; decide)⟩ (fun _ _ _ _ _ => trivial) ?step2 ?last2⟩
    case last2 =>
      rintro σ H14 ⟨v5, v7, v8, v9, l, ls, rfl, dr14, god14, hln, hne, hsz⟩
      have hsz : ls.length ≤ 12 := by omega
      refine ⟨⟨_, rfl⟩, _, rfl, nl1, l, texts ls, rfl, rfl, .inl (SqL.of hln), ?_, ?_⟩
      · have := texts_sum ls
        have e1 : nl1.length = 1 := rfl
        have e2 : (texts ls).length = ls.length := List.length_map _
        rw [e1, e2]
        omega
      refine ⟨ls, rfl, hne, by omega, fun H15 s15 => ?_⟩
      refine ⟨_, rfl, l, ls, rfl, SqL.of (s15 _ _ hln), by omega, fun H16 s16 => ?_⟩
      refine ⟨_, _, rfl, outV_sc _, outV_sc _, fun H17 s17 => ?_⟩
      rw [decide_eq_true rfl]
      refine ⟨_, rfl, ?_⟩
      have s := (s15.trans s16).trans s17
      exact ⟨_, _, _, _, _, _, _, rfl, dr14.same s, s _ _ god14⟩
    case step2 =>
    rintro j x σ H14 H14' hj ⟨v5, v7, v8, v9, l, ls, rfl, dr14, god14, hln, hne, hsz⟩ ⟨rfl, rfl⟩
    have hj3 : j < 3 := by
      have hj : j < _ := hj
      omega
    have el : ((texts ls).map V.str).length = ls.length := by
      rw [List.length_map]
      exact List.length_map _
    refine ⟨_, rfl, _, rfl, l, _, rfl, .inl (SqL.of hln), _, _, rfl, rfl, p, c, _, rfl, dr14, by omega, by omega, fun r1 H15 r10 r11 dr15 f15 => ?_⟩
    have hln := hln.keep hne dr14 f15
    have god15 := dr14.keepS f15 god14
    refine ⟨_, rfl, p, c, 4, rfl, dr15, by decide, by decide, fun r2 H16 r20 r21 dr16 f16 => ?_⟩
    have hln := hln.keep hne dr15 f16
    have god16 := dr15.keepS f16 god15
    obtain ⟨n, rfl⟩ := Int.eq_ofNat_of_zero_le r10
    refine ⟨_, _, rfl, ?_⟩
    have mt : ∀ m, ((texts ls).map V.str).take m = (texts (ls.take m)).map V.str := fun m => by unfold texts; rw [List.map_take, List.map_take]
    have md : ∀ m, ((texts ls).map V.str).drop m = (texts (ls.drop m)).map V.str := fun m => by unfold texts; rw [List.map_drop, List.map_drop]
    have lt : ∀ m, ((texts (ls.take m)).map V.str).length ≤ 12 := fun m => by rw [List.length_map]; unfold texts; rw [List.length_map, List.length_take]; omega
    have ld : ∀ m, ((texts (ls.drop m)).map V.str).length ≤ 12 := fun m => by rw [List.length_map]; unfold texts; rw [List.length_map, List.length_drop]; omega
    refine ⟨_, rfl, rfl, _, rfl, ?_⟩
    refine ite2 (fun _ => ?_) (fun _ => ?_)
    · refine ⟨_, rfl, _, rfl, _, rfl, l, _, rfl, SqL.of hln, fun z nz => ?_⟩
      rw [cut_take, mt]
      have zn := dr16.new nz
      have gz := upd_same (H := H16) (a := z) (o := HO.lst ((texts (ls.take n)).map V.str))
      have hz := Same.upd (o := HO.lst ((texts (ls.take n)).map V.str)) nz
      have dz := dr16.same hz
      have hln := hz _ _ hln
      have god16 := hz _ _ god16
      revert gz dz hln god16
      generalize upd H16 z (.lst ((texts (ls.take n)).map V.str)) = H17
      intro gz dz hln god17
      refine ⟨_, rfl, _, rfl, p, c, od, oddV, rfl, dz, .inl (SqL.of god17), (by intro e; cases e), (by show 17 < 1000; decide), (dz.apS god17).1, (dz.apS god17).2, fun i2 v H18 hv dr18 f18 => ?_⟩
      obtain ⟨o, rfl⟩ := odd_at hv
      have gz := f18 _ _ zn.1 zn.2 gz
      have hln : LnAt H18 l ls := LnAt.keep hln hne dz f18
      have god18 := dz.keepS f18 god17
      refine ⟨tz 1 rfl, fun y ny => ⟨z, y, _, _, rfl, rfl, (Same.upd ny) _ _ gz, upd_same, ?_, fun w1' nw1 => ?_⟩⟩
      · have := lt n
        rw [sizeLine_eq]
        show _ + 1 ≤ _
        omega
      have s19 := Same.upd' (o := HO.lst ((texts (ls.take n)).map V.str ++ [V.str (Ln.odd o).s])) (Same.upd (o := HO.lst [V.str (Ln.odd o).s]) ny) nw1
      have gw := upd_same (H := upd H18 y (.lst [V.str (Ln.odd o).s])) (a := w1') (o := HO.lst ((texts (ls.take n)).map V.str ++ [V.str (Ln.odd o).s]))
      revert s19 gw
      generalize upd (upd H18 y (.lst [V.str (Ln.odd o).s])) w1' (.lst ((texts (ls.take n)).map V.str ++ [V.str (Ln.odd o).s])) = H19
      intro s19 gw
      refine ⟨_, rfl, _, rfl, _, rfl, l, _, rfl, SqL.of (s19 _ _ hln), fun z2 nz2 => ?_⟩
      rw [cut_drop, md]
      refine ⟨w1', z2, _, _, rfl, rfl, (Same.upd nz2) _ _ gw, upd_same, ?_, fun L nL => ?_⟩
      · have := lt n
        have := ld (n)
        rw [List.length_append, sizeLine_eq]
        show _ + 1 + _ ≤ _
        omega
      have s20 := s19.trans (Same.upd' (o := HO.lst ((texts (ls.take n)).map V.str ++ [V.str (Ln.odd o).s] ++ (texts (ls.drop (n))).map V.str)) (Same.upd (o := HO.lst ((texts (ls.drop (n))).map V.str)) nz2) nL)
      refine ⟨_, _, _, _, L, ls.take n ++ [.odd o] ++ ls.drop (n), rfl, dr18.same s20, s20 _ _ god18, ?_, ?_, ?_⟩
      · unfold LnAt
        rw [upd_same]
        unfold texts
        rw [List.map_append, List.map_append, List.map_append, List.map_append]
        rfl
      · intro e
        have := congrArg List.length e
        rw [List.length_append, List.length_append] at this
        simp at this
      · rw [List.length_append, List.length_append, List.length_take, List.length_drop]
        show _ + 1 + _ ≤ _
        omega
    refine ⟨_, rfl, rfl, _, rfl, ?_⟩
    refine ite2 (fun _ => ?_) (fun _ => ?_)
    · refine ⟨_, rfl, _, rfl, _, rfl, l, _, rfl, SqL.of hln, fun z nz => ?_⟩
      rw [cut_take, mt]
      have zn := dr16.new nz
      have gz := upd_same (H := H16) (a := z) (o := HO.lst ((texts (ls.take n)).map V.str))
      have hz := Same.upd (o := HO.lst ((texts (ls.take n)).map V.str)) nz
      have dz := dr16.same hz
      have hln := hz _ _ hln
      have god16 := hz _ _ god16
      revert gz dz hln god16
      generalize upd H16 z (.lst ((texts (ls.take n)).map V.str)) = H17
      intro gz dz hln god17
      refine ⟨_, rfl, _, rfl, p, c, od, oddV, rfl, dz, .inl (SqL.of god17), (by intro e; cases e), (by show 17 < 1000; decide), (dz.apS god17).1, (dz.apS god17).2, fun i2 v H18 hv dr18 f18 => ?_⟩
      obtain ⟨o, rfl⟩ := odd_at hv
      have gz := f18 _ _ zn.1 zn.2 gz
      have hln : LnAt H18 l ls := LnAt.keep hln hne dz f18
      have god18 := dz.keepS f18 god17
      refine ⟨tz 1 rfl, fun y ny => ⟨z, y, _, _, rfl, rfl, (Same.upd ny) _ _ gz, upd_same, ?_, fun w1' nw1 => ?_⟩⟩
      · have := lt n
        rw [sizeLine_eq]
        show _ + 1 ≤ _
        omega
      have s19 := Same.upd' (o := HO.lst ((texts (ls.take n)).map V.str ++ [V.str (Ln.odd o).s])) (Same.upd (o := HO.lst [V.str (Ln.odd o).s]) ny) nw1
      have gw := upd_same (H := upd H18 y (.lst [V.str (Ln.odd o).s])) (a := w1') (o := HO.lst ((texts (ls.take n)).map V.str ++ [V.str (Ln.odd o).s]))
      revert s19 gw
      generalize upd (upd H18 y (.lst [V.str (Ln.odd o).s])) w1' (.lst ((texts (ls.take n)).map V.str ++ [V.str (Ln.odd o).s])) = H19
      intro s19 gw
      refine ⟨_, rfl, _, rfl, _, _, rfl, rfl, _, rfl, l, _, rfl, SqL.of (s19 _ _ hln), fun z2 nz2 => ?_⟩
      have en1 : (n : Int) + 1 = ((n + 1 : Nat) : Int) := rfl
      rw [en1, cut_drop, md]
      refine ⟨w1', z2, _, _, rfl, rfl, (Same.upd nz2) _ _ gw, upd_same, ?_, fun L nL => ?_⟩
      · have := lt n
        have := ld (n + 1)
        rw [List.length_append, sizeLine_eq]
        show _ + 1 + _ ≤ _
        omega
      have s20 := s19.trans (Same.upd' (o := HO.lst ((texts (ls.take n)).map V.str ++ [V.str (Ln.odd o).s] ++ (texts (ls.drop (n + 1))).map V.str)) (Same.upd (o := HO.lst ((texts (ls.drop (n + 1))).map V.str)) nz2) nL)
      refine ⟨_, _, _, _, L, ls.take n ++ [.odd o] ++ ls.drop (n + 1), rfl, dr18.same s20, s20 _ _ god18, ?_, ?_, ?_⟩
      · unfold LnAt
        rw [upd_same]
        unfold texts
        rw [List.map_append, List.map_append, List.map_append, List.map_append]
        rfl
      · intro e
        have := congrArg List.length e
        rw [List.length_append, List.length_append] at this
        simp at this
      · rw [List.length_append, List.length_append, List.length_take, List.length_drop]
        show _ + 1 + _ ≤ _
        omega
    refine ⟨_, rfl, rfl, _, rfl, ?_⟩
    refine ite2 (fun _ => ?_) (fun _ => ?_)
    · refine ⟨_, rfl, l, _, rfl, .inl (SqL.of hln), _, _, rfl, rfl, _, rfl, ?_⟩
      refine ite2 (fun h1 => ?_) (fun _ => ?_)
      · have h1 := of_decide_eq_true h1
        rw [el] at h1
        refine ⟨_, rfl, _, rfl, _, rfl, l, _, rfl, SqL.of hln, fun z nz => ?_⟩
        rw [cut_take, mt]
        have hz := Same.upd (o := HO.lst ((texts (ls.take n)).map V.str)) nz
        have gz := upd_same (H := H16) (a := z) (o := HO.lst ((texts (ls.take n)).map V.str))
        refine ⟨_, rfl, _, rfl, _, _, rfl, rfl, _, rfl, l, _, rfl, SqL.of (hz _ _ hln), fun z2 nz2 => ?_⟩
        have en1 : (n : Int) + 1 = ((n + 1 : Nat) : Int) := rfl
        rw [en1, cut_drop, md]
        refine ⟨z, z2, _, _, rfl, rfl, (Same.upd nz2) _ _ gz, upd_same, ?_, fun L nL => ?_⟩
        · have := lt n
          have := ld (n + 1)
          rw [sizeLine_eq]
          omega
        have s20 := Same.upd' (o := HO.lst (((texts (ls.take n)).map V.str) ++ ((texts (ls.drop (n + 1))).map V.str))) (Same.upd' (o := HO.lst ((texts (ls.drop (n + 1))).map V.str)) hz nz2) nL
        refine ⟨_, _, _, _, L, ls.take n ++ ls.drop (n + 1), rfl, dr16.same s20, s20 _ _ god16, ?_, ?_, ?_⟩
        · unfold LnAt
          rw [upd_same]
          unfold texts
          rw [List.map_append, List.map_append]
        · intro e
          have := congrArg List.length e
          rw [List.length_append, List.length_take, List.length_drop] at this
          have : 0 < ls.length := List.length_pos_iff.mpr hne
          simp only [List.length_nil] at *; omega
        · rw [List.length_append, List.length_take, List.length_drop]
          omega
      · refine ⟨_, rfl, _, rfl, _, rfl, l, _, rfl, SqL.of hln, fun z nz => ?_⟩
        rw [cut_drop, md]
        have hz := Same.upd (o := HO.lst ((texts (ls.drop n)).map V.str)) nz
        have gz := upd_same (H := H16) (a := z) (o := HO.lst ((texts (ls.drop n)).map V.str))
        refine ⟨_, rfl, _, rfl, _, rfl, l, _, rfl, SqL.of (hz _ _ hln), fun z2 nz2 => ?_⟩
        rw [cut_take, mt]
        refine ⟨z, z2, _, _, rfl, rfl, (Same.upd nz2) _ _ gz, upd_same, ?_, fun L nL => ?_⟩
        · have := ld n
          have := lt n
          rw [sizeLine_eq]
          omega
        have s20 := Same.upd' (o := HO.lst (((texts (ls.drop n)).map V.str) ++ ((texts (ls.take n)).map V.str))) (Same.upd' (o := HO.lst ((texts (ls.take n)).map V.str)) hz nz2) nL
        refine ⟨_, _, _, _, L, ls.drop n ++ ls.take n, rfl, dr16.same s20, s20 _ _ god16, ?_, ?_, ?_⟩
        · unfold LnAt
          rw [upd_same]
          unfold texts
          rw [List.map_append, List.map_append]
        · intro e
          have := congrArg List.length e
          rw [List.length_append, List.length_drop, List.length_take] at this
          have : 0 < ls.length := List.length_pos_iff.mpr hne
          simp only [List.length_nil] at *; omega
        · rw [List.length_append, List.length_drop, List.length_take]
          omega
    · refine ⟨_, rfl, _, rfl, _, rfl, l, _, rfl, SqL.of hln, fun z nz => ?_⟩
      rw [cut_drop, md]
      have hz := Same.upd (o := HO.lst ((texts (ls.drop n)).map V.str)) nz
      have gz := upd_same (H := H16) (a := z) (o := HO.lst ((texts (ls.drop n)).map V.str))
      refine ⟨_, rfl, _, rfl, _, rfl, l, _, rfl, SqL.of (hz _ _ hln), fun z2 nz2 => ?_⟩
      rw [cut_take, mt]
      refine ⟨z, z2, _, _, rfl, rfl, (Same.upd nz2) _ _ gz, upd_same, ?_, fun L nL => ?_⟩
      · have := ld n
        have := lt n
        rw [sizeLine_eq]
        omega
      have s20 := Same.upd' (o := HO.lst (((texts (ls.drop n)).map V.str) ++ ((texts (ls.take n)).map V.str))) (Same.upd' (o := HO.lst ((texts (ls.take n)).map V.str)) hz nz2) nL
      refine ⟨_, _, _, _, L, ls.drop n ++ ls.take n, rfl, dr16.same s20, s20 _ _ god16, ?_, ?_, ?_⟩
      · unfold LnAt
        rw [upd_same]
        unfold texts
        rw [List.map_append, List.map_append]
      · intro e
        have := congrArg List.length e
        rw [List.length_append, List.length_drop, List.length_take] at this
        have : 0 < ls.length := List.length_pos_iff.mpr hne
        simp only [List.length_nil] at *; omega
      · rw [List.length_append, List.length_drop, List.length_take]
        omega
end
end SD
namespace SD
open PySem PySem.Spec PyProof.Rows L2
/-! ### what the head looks at -/
def fnL : List He.DefD := [dG "_law_mix" (top 21), dG "_law_next" (top 22), dG "_law_pick" (top 24), dG "_law_parts" (top 25), dG "_law_rule" (top 26), dG "is_word" (top 11), dG "is_integer" (top 10), dG "check_rule" (top 12), dM "Book" "__init__" "Book.__init__" (inClass (top 13) 0), dM "Book" "__eq__" "Book.__eq__" (inClass (top 13) 5), dG "line_at" (top 16), dG "pair_at" (top 17), dG "words_at" (top 18), dG "read" (top 19), dG "_law_draw" (top 27), dG "_law_alike" (top 23), dG "_law_first_wrong" (top 28), dG "_law_answer" (top 29), dG "law" (top 30)]
def csL : List Chk := [cG "_law_mix", cG "_law_next", cG "_law_pick", cG "_law_parts", cG "_law_rule", cG "is_word", cG "is_integer", cG "check_rule", cG "line_at", cG "pair_at", cG "words_at", cG "read", cG "_law_draw", cG "_law_alike", cG "_law_first_wrong", cG "_law_answer", cG "law", cF "all", cF "bool", cF "dict", cF "int", cF "isinstance", cF "len", cF "list", cF "max", cF "range", cF "str", cF "tuple", cErr "InvalidLine" "/claim/cut.py" (some "line"), cIsi "InvalidLine", cG "DraftError", cKit "InvalidLine" "DraftError", cC "Book", cN "Book" "many", cN "Book" "terms", cN "Book" "kinds", cG "Book", cIsi "Book", cK "Book", cM "Book" "__eq__", cT "PARTS" partsD, cD "WORDS" wordsD, cG "PARTS", cT "PEOPLE" peopleD, cG "PEOPLE"]
def tsL : List He.Tab := [(fun K => He.ga K "PARTS", partsD.map (·.1)), (fun K => He.ga K "PEOPLE", peopleD.map (·.1))]
def esL : List ErrD := [⟨"InvalidLine", inClass (top 6) 0⟩]
abbrev LK : Look := ⟨csL, fnL, tsL, esL⟩
def looseL : List Str := (["_wall", "__name__", "DraftError", "InvalidPeople", "InvalidRule", "InvalidWords", "InvalidLine", "PARTS", "WORDS", "is_integer", "is_word", "check_rule", "Book", "PEOPLE", "line_at", "pair_at", "words_at", "read", "_law_mix", "_law_next", "_law_alike", "_law_pick", "_law_parts", "_law_rule", "_law_draw", "_law_first_wrong", "_law_answer"] : List Str)
abbrev R : PySem.W.OpenRow := PySem.W.OpenLaw.row PySem.Challenge.rw_showndrafts_k14_texts_refused
abbrev hk : PySem.W.Hook := hookX 5 LK
def ob (s : PySem.W.SharedT) : AlX := obsXG 5 LK (HandSHeadRun.getT s)
theorem ob_eq (s : PySem.W.SharedT) : ob s = hk.obs s.abs := obsXG_eq (HandSHeadRun.getT_eq s)
theorem run_f (w : World) : HandSHeadRun.RunEq R (PySem.W.view R.prog [30]) hk ob 3000 looseL (w.withFollow "special-get-raises" false) := by
  intro os
  kernel_rfl
theorem run_t (w : World) : HandSHeadRun.RunEq R (PySem.W.view R.prog [30]) hk ob 3000 looseL (w.withFollow "special-get-raises" true) := by
  intro os
  kernel_rfl
theorem run (w : World) : HandSHeadRun.RunEq R (PySem.W.view R.prog [30]) hk ob 3000 looseL w :=
  PySem.W.byRow2 "special-get-raises" (P := HandSHeadRun.RunEq R (PySem.W.view R.prog [30]) hk ob 3000 looseL) run_f run_t w
end SD
namespace SD
open PySem PySem.Spec PyProof.Rows L2
theorem iniOf_InvalidLine : IniOf ("InvalidLine" ++ ".__init__") (inClass (top 6) 0) (some "line") := ⟨_, _, _, _, _, _, _, _, _, _, _, _, _, rfl, ⟨fun _ _ _ _ => rfl, fun _ _ _ _ => ⟨_, rfl⟩, rfl, by decide +kernel, by decide +kernel, by decide +kernel, by decide +kernel, rfl, rfl⟩, rfl, by decide +kernel, fun _ _ => ⟨by decide +kernel, by decide +kernel, by decide +kernel, fun _ _ _ _ _ _ _ => rfl⟩⟩
theorem facts {P : Program} {w : World} {K : PySem.W.Frag} {h : Heap} {mg : Str → Option Value} {f : Addr} (X : K.In h) (G : h.Ns mainGlobals mg) (hfa : mg ("law" : Str) = some (.ref f)) (c : SaysX LK w K) (hPt : (P.main.scope.names.lookup ("super" : Str)).isSome = false) (hPf : ((P.main.file : Str) == "/claim/cut.py") = true) :
    ∃ fd : FuncData, (∀ (s : Shared) (v : Value), BindsTo s fd ⟨[v], []⟩ [("_law_script", v)]) ∧ ∀ base : Heap, FnOk P w K mg base CX0 9 f fd ["_law_script"] (spLaw K) := by
  have ef := hfa.symm.trans (He.glo_ok X G (c.chk 16))
  cases ef
  obtain ⟨fd__law_mix, F0__law_mix⟩ := c.def_ 0
  have F__law_mix : Fun K "_law_mix" "_law_mix" (top 21) (He.fAd K ("_law_mix", none)) fd__law_mix := fun_of (st := top 21) F0__law_mix
  have b__law_mix : Binds K fd__law_mix ["_law_script", "_law_seed"] [] := Fun.binds F__law_mix fun _ _ _ _ _ _ us hl => match us, hl with | [_, _], _ => rfl
  have D__law_mix : DefIn K mg "_law_mix" (He.fAd K ("_law_mix", none)) fd__law_mix ["_law_script", "_law_seed"] := ⟨He.glo_ok X G (c.chk 0), F__law_mix.kp, b__law_mix⟩
  obtain ⟨fd__law_next, F0__law_next⟩ := c.def_ 1
  have F__law_next : Fun K "_law_next" "_law_next" (top 22) (He.fAd K ("_law_next", none)) fd__law_next := fun_of (st := top 22) F0__law_next
  have b__law_next : Binds K fd__law_next ["_law_h", "_law_cap"] [] := Fun.binds F__law_next fun _ _ _ _ _ _ us hl => match us, hl with | [_, _], _ => rfl
  have D__law_next : DefIn K mg "_law_next" (He.fAd K ("_law_next", none)) fd__law_next ["_law_h", "_law_cap"] := ⟨He.glo_ok X G (c.chk 1), F__law_next.kp, b__law_next⟩
  obtain ⟨fd__law_pick, F0__law_pick⟩ := c.def_ 2
  have F__law_pick : Fun K "_law_pick" "_law_pick" (top 24) (He.fAd K ("_law_pick", none)) fd__law_pick := fun_of (st := top 24) F0__law_pick
  have b__law_pick : Binds K fd__law_pick ["_law_h", "_law_things"] [] := Fun.binds F__law_pick fun _ _ _ _ _ _ us hl => match us, hl with | [_, _], _ => rfl
  have D__law_pick : DefIn K mg "_law_pick" (He.fAd K ("_law_pick", none)) fd__law_pick ["_law_h", "_law_things"] := ⟨He.glo_ok X G (c.chk 2), F__law_pick.kp, b__law_pick⟩
  obtain ⟨fd__law_parts, F0__law_parts⟩ := c.def_ 3
  have F__law_parts : Fun K "_law_parts" "_law_parts" (top 25) (He.fAd K ("_law_parts", none)) fd__law_parts := fun_of (st := top 25) F0__law_parts
  have b__law_parts : Binds K fd__law_parts [] [] := Fun.binds F__law_parts fun _ _ _ _ _ _ us hl => match us, hl with | [], _ => rfl
  have D__law_parts : DefIn K mg "_law_parts" (He.fAd K ("_law_parts", none)) fd__law_parts [] := ⟨He.glo_ok X G (c.chk 3), F__law_parts.kp, b__law_parts⟩
  obtain ⟨fd__law_rule, F0__law_rule⟩ := c.def_ 4
  have F__law_rule : Fun K "_law_rule" "_law_rule" (top 26) (He.fAd K ("_law_rule", none)) fd__law_rule := fun_of (st := top 26) F0__law_rule
  have b__law_rule : Binds K fd__law_rule ["_law_h"] [] := Fun.binds F__law_rule fun _ _ _ _ _ _ us hl => match us, hl with | [_], _ => rfl
  have D__law_rule : DefIn K mg "_law_rule" (He.fAd K ("_law_rule", none)) fd__law_rule ["_law_h"] := ⟨He.glo_ok X G (c.chk 4), F__law_rule.kp, b__law_rule⟩
  obtain ⟨fd_is_word, F0_is_word⟩ := c.def_ 5
  have F_is_word : Fun K "is_word" "is_word" (top 11) (He.fAd K ("is_word", none)) fd_is_word := fun_of (st := top 11) F0_is_word
  have b_is_word : Binds K fd_is_word ["thing", "words"] [] := Fun.binds F_is_word fun _ _ _ _ _ _ us hl => match us, hl with | [_, _], _ => rfl
  have D_is_word : DefIn K mg "is_word" (He.fAd K ("is_word", none)) fd_is_word ["thing", "words"] := ⟨He.glo_ok X G (c.chk 5), F_is_word.kp, b_is_word⟩
  obtain ⟨fd_is_integer, F0_is_integer⟩ := c.def_ 6
  have F_is_integer : Fun K "is_integer" "is_integer" (top 10) (He.fAd K ("is_integer", none)) fd_is_integer := fun_of (st := top 10) F0_is_integer
  have b_is_integer : Binds K fd_is_integer ["thing", "low", "high"] [] := Fun.binds F_is_integer fun _ _ _ _ _ _ us hl => match us, hl with | [_, _, _], _ => rfl
  have D_is_integer : DefIn K mg "is_integer" (He.fAd K ("is_integer", none)) fd_is_integer ["thing", "low", "high"] := ⟨He.glo_ok X G (c.chk 6), F_is_integer.kp, b_is_integer⟩
  obtain ⟨fd_check_rule, F0_check_rule⟩ := c.def_ 7
  have F_check_rule : Fun K "check_rule" "check_rule" (top 12) (He.fAd K ("check_rule", none)) fd_check_rule := fun_of (st := top 12) F0_check_rule
  have b_check_rule : Binds K fd_check_rule ["rule"] [] := Fun.binds F_check_rule fun _ _ _ _ _ _ us hl => match us, hl with | [_], _ => rfl
  have D_check_rule : DefIn K mg "check_rule" (He.fAd K ("check_rule", none)) fd_check_rule ["rule"] := ⟨He.glo_ok X G (c.chk 7), F_check_rule.kp, b_check_rule⟩
  obtain ⟨fd_Book___init__, F0_Book___init__⟩ := c.def_ 8
  have F_Book___init__ : Fun K "__init__" "Book.__init__" (inClass (top 13) 0) (He.fAd K ("Book", some "__init__")) fd_Book___init__ := fun_of (st := inClass (top 13) 0) F0_Book___init__
  have b_Book___init__ : Binds K fd_Book___init__ ["self", "people", "rule", "words"] [] := Fun.binds F_Book___init__ fun _ _ _ _ _ _ us hl => match us, hl with | [_, _, _, _], _ => rfl
  obtain ⟨fd_Book___eq__, F0_Book___eq__⟩ := c.def_ 9
  have F_Book___eq__ : Fun K "__eq__" "Book.__eq__" (inClass (top 13) 5) (He.fAd K ("Book", some "__eq__")) fd_Book___eq__ := fun_of (st := inClass (top 13) 5) F0_Book___eq__
  have b_Book___eq__ : Binds K fd_Book___eq__ ["self", "other"] [] := Fun.binds F_Book___eq__ fun _ _ _ _ _ _ us hl => match us, hl with | [_, _], _ => rfl
  obtain ⟨fd_line_at, F0_line_at⟩ := c.def_ 10
  have F_line_at : Fun K "line_at" "line_at" (top 16) (He.fAd K ("line_at", none)) fd_line_at := fun_of (st := top 16) F0_line_at
  have b_line_at : Binds K fd_line_at ["lines", "index"] [] := Fun.binds F_line_at fun _ _ _ _ _ _ us hl => match us, hl with | [_, _], _ => rfl
  have D_line_at : DefIn K mg "line_at" (He.fAd K ("line_at", none)) fd_line_at ["lines", "index"] := ⟨He.glo_ok X G (c.chk 8), F_line_at.kp, b_line_at⟩
  obtain ⟨fd_pair_at, F0_pair_at⟩ := c.def_ 11
  have F_pair_at : Fun K "pair_at" "pair_at" (top 17) (He.fAd K ("pair_at", none)) fd_pair_at := fun_of (st := top 17) F0_pair_at
  have b_pair_at : Binds K fd_pair_at ["lines", "index", "first", "allowed"] [] := Fun.binds F_pair_at fun _ _ _ _ _ _ us hl => match us, hl with | [_, _, _, _], _ => rfl
  have D_pair_at : DefIn K mg "pair_at" (He.fAd K ("pair_at", none)) fd_pair_at ["lines", "index", "first", "allowed"] := ⟨He.glo_ok X G (c.chk 9), F_pair_at.kp, b_pair_at⟩
  obtain ⟨fd_words_at, F0_words_at⟩ := c.def_ 12
  have F_words_at : Fun K "words_at" "words_at" (top 18) (He.fAd K ("words_at", none)) fd_words_at := fun_of (st := top 18) F0_words_at
  have b_words_at : Binds K fd_words_at ["lines", "index"] [] := Fun.binds F_words_at fun _ _ _ _ _ _ us hl => match us, hl with | [_, _], _ => rfl
  have D_words_at : DefIn K mg "words_at" (He.fAd K ("words_at", none)) fd_words_at ["lines", "index"] := ⟨He.glo_ok X G (c.chk 10), F_words_at.kp, b_words_at⟩
  obtain ⟨fd_read, F0_read⟩ := c.def_ 13
  have F_read : Fun K "read" "read" (top 19) (He.fAd K ("read", none)) fd_read := fun_of (st := top 19) F0_read
  have b_read : Binds K fd_read ["text"] [] := Fun.binds F_read fun _ _ _ _ _ _ us hl => match us, hl with | [_], _ => rfl
  have D_read : DefIn K mg "read" (He.fAd K ("read", none)) fd_read ["text"] := ⟨He.glo_ok X G (c.chk 11), F_read.kp, b_read⟩
  obtain ⟨fd__law_draw, F0__law_draw⟩ := c.def_ 14
  have F__law_draw : Fun K "_law_draw" "_law_draw" (top 27) (He.fAd K ("_law_draw", none)) fd__law_draw := fun_of (st := top 27) F0__law_draw
  have b__law_draw : Binds K fd__law_draw ["_law_h"] [] := Fun.binds F__law_draw fun _ _ _ _ _ _ us hl => match us, hl with | [_], _ => rfl
  have D__law_draw : DefIn K mg "_law_draw" (He.fAd K ("_law_draw", none)) fd__law_draw ["_law_h"] := ⟨He.glo_ok X G (c.chk 12), F__law_draw.kp, b__law_draw⟩
  obtain ⟨fd__law_alike, F0__law_alike⟩ := c.def_ 15
  have F__law_alike : Fun K "_law_alike" "_law_alike" (top 23) (He.fAd K ("_law_alike", none)) fd__law_alike := fun_of (st := top 23) F0__law_alike
  have b__law_alike : Binds K fd__law_alike ["_law_found", "_law_due"] [] := Fun.binds F__law_alike fun _ _ _ _ _ _ us hl => match us, hl with | [_, _], _ => rfl
  have D__law_alike : DefIn K mg "_law_alike" (He.fAd K ("_law_alike", none)) fd__law_alike ["_law_found", "_law_due"] := ⟨He.glo_ok X G (c.chk 13), F__law_alike.kp, b__law_alike⟩
  obtain ⟨fd__law_first_wrong, F0__law_first_wrong⟩ := c.def_ 16
  have F__law_first_wrong : Fun K "_law_first_wrong" "_law_first_wrong" (top 28) (He.fAd K ("_law_first_wrong", none)) fd__law_first_wrong := fun_of (st := top 28) F0__law_first_wrong
  have b__law_first_wrong : Binds K fd__law_first_wrong ["_law_lines"] [] := Fun.binds F__law_first_wrong fun _ _ _ _ _ _ us hl => match us, hl with | [_], _ => rfl
  have D__law_first_wrong : DefIn K mg "_law_first_wrong" (He.fAd K ("_law_first_wrong", none)) fd__law_first_wrong ["_law_lines"] := ⟨He.glo_ok X G (c.chk 14), F__law_first_wrong.kp, b__law_first_wrong⟩
  obtain ⟨fd__law_answer, F0__law_answer⟩ := c.def_ 17
  have F__law_answer : Fun K "_law_answer" "_law_answer" (top 29) (He.fAd K ("_law_answer", none)) fd__law_answer := fun_of (st := top 29) F0__law_answer
  have b__law_answer : Binds K fd__law_answer ["_law_text"] [] := Fun.binds F__law_answer fun _ _ _ _ _ _ us hl => match us, hl with | [_], _ => rfl
  have D__law_answer : DefIn K mg "_law_answer" (He.fAd K ("_law_answer", none)) fd__law_answer ["_law_text"] := ⟨He.glo_ok X G (c.chk 15), F__law_answer.kp, b__law_answer⟩
  obtain ⟨fd_law, F0_law⟩ := c.def_ 18
  have F_law : Fun K "law" "law" (top 30) (He.fAd K ("law", none)) fd_law := fun_of (st := top 30) F0_law
  have b_law : Binds K fd_law ["_law_script"] [] := Fun.binds F_law fun _ _ _ _ _ _ us hl => match us, hl with | [_], _ => rfl
  have D_law : DefIn K mg "law" (He.fAd K ("law", none)) fd_law ["_law_script"] := ⟨He.glo_ok X G (c.chk 16), F_law.kp, b_law⟩
  have n_all : mg "all" = none := He.free_ok X G (c.chk 17)
  have n_bool : mg "bool" = none := He.free_ok X G (c.chk 18)
  have n_dict : mg "dict" = none := He.free_ok X G (c.chk 19)
  have n_int : mg "int" = none := He.free_ok X G (c.chk 20)
  have n_isinstance : mg "isinstance" = none := He.free_ok X G (c.chk 21)
  have n_len : mg "len" = none := He.free_ok X G (c.chk 22)
  have n_list : mg "list" = none := He.free_ok X G (c.chk 23)
  have n_max : mg "max" = none := He.free_ok X G (c.chk 24)
  have n_range : mg "range" = none := He.free_ok X G (c.chk 25)
  have n_str : mg "str" = none := He.free_ok X G (c.chk 26)
  have n_tuple : mg "tuple" = none := He.free_ok X G (c.chk 27)
  have T_InvalidLine : ErrTxt P K mg "InvalidLine" (some "line") (He.ga K "InvalidLine") (He.ma K (He.ga K "InvalidLine") "__init__") := err_ok (st := inClass (top 6) 0) X G (c.chk 28) (c.err 0) iniOf_InvalidLine hPt hPf
  have ei_InvalidLine : ErrIs K (He.ga K "InvalidLine") := errIs_ok T_InvalidLine (isi_ok (c.chk 29))
  have gD : mg "DraftError" = some (.ref (He.ga K "DraftError")) := He.glo_ok X G (c.chk 30)
  have hk_InvalidLine : PySem.W.kitOne K (.ref (He.ga K "InvalidLine")) (.ref (He.ga K "DraftError")) = some true := of_decide_eq_true (c.chk 31 (f := cKit "InvalidLine" "DraftError"))
  have B : BkCls K mg (He.ga K "Book") := ⟨He.cls_ok (c.chk 32), He.noat_ok (c.chk 33), He.noat_ok (c.chk 34), He.noat_ok (c.chk 35), He.glo_ok X G (c.chk 36)⟩
  have S : BkIsi K (He.ga K "Book") := isi_ok (c.chk 37)
  have M := He.mkr_ok (c.chk 38)
  have hE := (He.meth_ok (c.chk 39)).at_
  have hF := (He.meth_ok (c.chk 39)).fn
  obtain ⟨pv, kdP, keP, vaP⟩ := KD.of (P := P) (c.tab 0) (c.chk 40) (by decide) (by decide +kernel)
  obtain ⟨v0, u0, mW, rW, wd0⟩ := cD_ok X G (c.chk 41)
  obtain ⟨aW, rfl, wd⟩ := dp_strT (ws := allW) wd0
  cases rW
  have T : BkTab P w K mg (He.ga K "PARTS") pv aW := ⟨He.glo_ok X G (c.chk 42), kdP, keP, vaP, mW, wd⟩
  obtain ⟨pq, kdQ, keQ, vaQ⟩ := KD.of (P := P) (c.tab 1) (c.chk 43) (by decide) (by decide +kernel)
  have TQ : PpTab P w K mg (He.ga K "PEOPLE") := ⟨He.glo_ok X G (c.chk 44), by rw [← pp_of keQ vaQ]; exact kdQ⟩
  refine ⟨fd_law, fun s v => FunD.bindsA (ps := ["_law_script"]) F0_law (fun _ _ _ _ _ _ us hl => match us, hl with | [_], _ => rfl) s [v] rfl, fun base => ?_⟩
  have G__law_mix : FnOk P w K mg base CX0 1 (He.fAd K ("_law_mix", none)) fd__law_mix ["_law_script", "_law_seed"] (spMix K) := ok_mix F__law_mix n_int n_list
  have G__law_next : FnOk P w K mg base CX0 1 (He.fAd K ("_law_next", none)) fd__law_next ["_law_h", "_law_cap"] spNext := ok_next F__law_next n_int n_len n_max
  have G__law_pick : FnOk P w K mg base CX0 2 (He.fAd K ("_law_pick", none)) fd__law_pick ["_law_h", "_law_things"] (spPick K) := ok_pick F__law_pick n_len G__law_next D__law_next.m D__law_next.kp D__law_next.b
  have G__law_parts : FnOk P w K mg base CX0 1 (He.fAd K ("_law_parts", none)) fd__law_parts [] spParts := ok_parts F__law_parts
  have G__law_rule : FnOk P w K mg base CX0 3 (He.fAd K ("_law_rule", none)) fd__law_rule ["_law_h"] spRule := ok_rule F__law_rule G__law_pick D__law_pick.m D__law_pick.kp D__law_pick.b G__law_parts D__law_parts.m D__law_parts.kp D__law_parts.b
  have G_is_word := ok_is_word (P := P) (w := w) (base := base) (mg := mg) (F := F_is_word) (n_isinstance := n_isinstance) (n_str := n_str)
  have G_is_integer := ok_is_integer (P := P) (w := w) (base := base) (mg := mg) (F := F_is_integer) (n_bool := n_bool) (n_int := n_int) (n_isinstance := n_isinstance)
  have G_check_rule := ok_check_rule (P := P) (w := w) (base := base) (mg := mg) (F := F_check_rule) (T := T) (n_all := n_all) (n_dict := n_dict) (n_isinstance := n_isinstance) (n_len := n_len) (n_list := n_list) (G_is_word := G_is_word) (D_is_word := D_is_word)
  have G_Book___init__ := ok_Book___init__ (P := P) (w := w) (base := base) (mg := mg) (F := F_Book___init__) (B := B) (T := T) (n_all := n_all) (n_isinstance := n_isinstance) (n_list := n_list) (n_tuple := n_tuple) (G_is_word := G_is_word) (D_is_word := D_is_word) (G_check_rule := G_check_rule) (D_check_rule := D_check_rule) (G_is_integer := G_is_integer) (D_is_integer := D_is_integer)
  have GI := G_Book___init__
  have bI := b_Book___init__
  have G_Book___eq__ := ok_Book___eq__ (P := P) (w := w) (base := base) (mg := mg) (F := F_Book___eq__) (B := B) (S := S) (n_isinstance := n_isinstance)
  have GE := G_Book___eq__
  have bE := b_Book___eq__
  have G_line_at := ok_line_at (P := P) (w := w) (base := base) (mg := mg) (F := F_line_at) (T_InvalidLine := T_InvalidLine) (n_len := n_len)
  have G_pair_at := ok_pair_at (P := P) (w := w) (base := base) (mg := mg) (F := F_pair_at) (T_InvalidLine := T_InvalidLine) (n_len := n_len) (G_line_at := G_line_at) (D_line_at := D_line_at)
  have G_words_at := ok_words_at (P := P) (w := w) (base := base) (mg := mg) (F := F_words_at) (T := T) (T_InvalidLine := T_InvalidLine) (n_tuple := n_tuple) (G_line_at := G_line_at) (D_line_at := D_line_at)
  have G_read := ok_read (P := P) (w := w) (base := base) (mg := mg) (F := F_read) (B := B) (T := T) (TQ := TQ) (M := M) (GI := GI) (bI := bI) (T_InvalidLine := T_InvalidLine) (n_len := n_len) (n_list := n_list) (G_words_at := G_words_at) (D_words_at := D_words_at) (G_pair_at := G_pair_at) (D_pair_at := D_pair_at)
  have G__law_draw := ok__law_draw (P := P) (w := w) (base := base) (mg := mg) (F := F__law_draw) (G__law_pick := G__law_pick) (D__law_pick := D__law_pick) (G__law_next := G__law_next) (D__law_next := D__law_next) (G__law_rule := G__law_rule) (D__law_rule := D__law_rule)
  have G__law_alike := ok__law_alike (P := P) (w := w) (base := base) (mg := mg) (F := F__law_alike) (n_bool := n_bool) (n_dict := n_dict) (n_int := n_int) (n_isinstance := n_isinstance) (n_list := n_list) (n_str := n_str) (n_tuple := n_tuple)
  have G__law_first_wrong := ok__law_first_wrong (P := P) (w := w) (base := base) (mg := mg) (F := F__law_first_wrong) (n_len := n_len) (n_range := n_range) (G__law_parts := G__law_parts) (D__law_parts := D__law_parts)
  have G__law_answer := ok__law_answer (P := P) (w := w) (base := base) (mg := mg) (F := F__law_answer) (gD := gD) (hkD := hk_InvalidLine) (eiL := ei_InvalidLine) (T_InvalidLine := T_InvalidLine) (n_isinstance := n_isinstance) (G_read := G_read) (D_read := D_read)
  have G_law := ok_law (P := P) (w := w) (base := base) (mg := mg) (F := F_law) (n_len := n_len) (n_list := n_list) (n_range := n_range) (n_str := n_str) (G__law_answer := G__law_answer) (D__law_answer := D__law_answer) (G__law_alike := G__law_alike) (D__law_alike := D__law_alike) (G__law_first_wrong := G__law_first_wrong) (D__law_first_wrong := D__law_first_wrong) (G__law_next := G__law_next) (D__law_next := D__law_next) (G__law_pick := G__law_pick) (D__law_pick := D__law_pick) (G__law_parts := G__law_parts) (D__law_parts := D__law_parts) (G__law_draw := G__law_draw) (D__law_draw := D__law_draw) (G__law_mix := G__law_mix) (D__law_mix := D__law_mix)
  exact G_law
end SD
open PySem PySem.W PySem.Calls PyProof.Rows
theorem PySem.Challenge.cw_showndrafts_k14_texts_refused_holds : PySem.Challenge.rw_showndrafts_k14_texts_refused.Holds := by
  w_on; o_law
  refine HandSHeadRun.head_any (r := SD.R) (q := view SD.R.prog [30]) (H := SD.hk) (ob := SD.ob) (M := 3000) (loose := SD.looseL) (d := HandSHeadRun.topDef SD.R.prog 30) (kwd := []) SD.ob_eq
    (by kernel_rfl) (fun s => by kernel_rfl) SD.run (by kernel_rfl) (by kernel_rfl) (by kernel_rfl) (by rfl) (by first | assumption | decide +kernel) (by decide +kernel) ⟨rfl, rfl, rfl, rfl, rfl, by decide +kernel⟩ ?hw ?hc
  case hw => w_witness2
  case hc =>
    refine L2.walk_ofE (l := PySem.Challenge.rw_showndrafts_k14_texts_refused) (n := 63) (k := 9) (x := "_law_script") (CX := L2.CX0) rfl (by decide) (by kernel_rfl) ⟨rfl, by decide, by decide⟩ ?F (fun _ _ _ _ z => z)
    intro w mg fa h Y G hmg0
    obtain ⟨K, KX, c⟩ := Y
    have hmg : mg ("law" : PySem.Str) = some (.ref fa) := by
      have e : (HandSHeadRun.topDef SD.R.prog 30).name = ("law" : PySem.Str) := by kernel_rfl
      rw [← e]
      exact hmg0
    obtain ⟨fd, hb, hF⟩ := SD.facts (P := (PySem.Challenge.rw_showndrafts_k14_texts_refused).prog) (w := w) KX G hmg  c (by decide +kernel) (by decide +kernel)
    exact ⟨K, fd, SD.spLaw K, KX, hb, fun H a ns hl _ hS => ⟨a, ns, rfl, hS, hl, fun _ => rfl⟩, fun base _ _ => hF base⟩
