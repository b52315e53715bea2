import PyProof.Rows.All
import Wide.All
import OpenK.AllK
import Wide.FinOn
import KE.KStateDown
import HandS.ForMost
import HandS.Defaults
import HandS.Head0
import HandS.Head1
import HandS.Head2
import HandS.HeadEnd
import HandS.HeadHook1
import HandS.HeadHook2
import HandS.HeadHook3
import HandS.IsInst
import HandS.More
import KE.KDictLaw
import HandS.DictComp
import HandS.Walk
import KE.KEqNest
import HandS.Star
import HandS.Style
import PySem.Challenge.RW_showndrafts_k13_whole_texts
set_option Elab.async false
set_option linter.all false
set_option maxRecDepth 100000
set_option maxHeartbeats 0
/-! the head by facts: a Hook of one's own, defs by He.DefD, other facts as tests over the written part -/
namespace SD
open PySem PySem.Spec PyProof.Rows L2
abbrev Chk : Type := PySem.W.Frag → Bool
abbrev AlX : Type := He.AlD × List (Option (List (Option (Str × Int))))
/-- facts, defs, tables (dicts of the top with text keys) -/
structure Look where
  cs : List Chk
  fn : List He.DefD
  ts : List He.Tab
def obsX (L : Look) (K : PySem.W.Frag) : AlX := (((L.cs.all fun f => f K) && L.fn.all fun d => d.ok K, L.fn.map fun d => He.fnW K d.at_), L.ts.map fun t => He.dicW K (t.1 K))
def valX (L : Look) (w : World) : AlX := (He.valD L.fn, L.ts.map fun t => some (He.keysIn w.params t.2))
def SaysX (L : Look) (w : World) (K : PySem.W.Frag) : Prop := obsX L K = valX L w
def obsXG (n : Nat) (L : Look) (g : Addr → Option Obj) : AlX := obsX L (He.frG g (He.asD g n))
def hookX (n : Nat) (L : Look) : PySem.W.Hook where
  α := AlX
  obs := fun s => obsXG n L s.heap.get?
  val := fun w => valX L w
  says := fun w h => ∃ K : PySem.W.Frag, K.In h ∧ SaysX L w K
  of := fun _ _ e => ⟨_, He.frG_in, e⟩
  keeps := fun _ _ _ ⟨K, hK, c⟩ k => ⟨K, PySem.W.Frag.In.keeps hK k, c⟩
theorem obsXG_eq {n : Nat} {L : Look} {g : Addr → Option Obj} {s : Shared} (h : ∀ a, g a = s.heap.get? a) : obsXG n L g = (hookX n L).obs s := by
  have e : g = s.heap.get? := funext h
  rw [e] <;> rfl
section
variable {L : Look} {w : World} {K : PySem.W.Frag}
theorem SaysX.chk (c : SaysX L w K) (i : Nat) {f : Chk} (h : L.cs[i]? = some f := by rfl) : f K = true := by
  have c0 : ((L.cs.all fun f => f K) && L.fn.all fun d => d.ok K) = true := congrArg (fun z : AlX => z.1.1) c
  exact List.all_eq_true.mp (He.ba c0).1 f (List.mem_of_getElem? h)
theorem SaysX.def_ (c : SaysX L w K) (i : Nat) {d : He.DefD} (h : L.fn[i]? = some d := by rfl) : ∃ fd, FunD K d.name d.qual d.params d.body d.scope (d.dvs K) (d.kws K) (He.fAd K d.at_) fd := by
  have c0 : ((L.cs.all fun f => f K) && L.fn.all fun d => d.ok K) = true := congrArg (fun z : AlX => z.1.1) c
  have e : L.fn.map (fun d => He.fnW K d.at_) = L.fn.map He.DefD.val := congrArg (fun z : AlX => z.1.2) c
  have e2 : (L.fn.map fun d => He.fnW K d.at_)[i]? = (L.fn.map He.DefD.val)[i]? := by rw [e]
  rw [List.getElem?_map, List.getElem?_map, h] at e2
  exact He.DefD.funD (Option.some.inj e2) (List.all_eq_true.mp (He.ba c0).2 d (List.mem_of_getElem? h))
theorem SaysX.tab (c : SaysX L w K) (i : Nat) {t : He.Tab} (h : L.ts[i]? = some t := by rfl) : He.dicW K (t.1 K) = some (He.keysIn w.params t.2) := by
  have e : L.ts.map (fun t => He.dicW K (t.1 K)) = L.ts.map fun t => some (He.keysIn w.params t.2) := congrArg (fun z : AlX => z.2) c
  have e2 : (L.ts.map fun t => He.dicW K (t.1 K))[i]? = (L.ts.map fun t => some (He.keysIn w.params t.2))[i]? := by rw [e]
  rw [List.getElem?_map, List.getElem?_map, h] at e2
  exact Option.some.inj e2
end
/-! ### data of the top -/
mutual
def kdat (K : PySem.W.Frag) : PyData → Value → Bool
  | .none, .none => true
  | .bool b, .bool c => b == c
  | .int i, .int j _ => decide (i = j)
  | .str x, .str y _ => decide (x = y)
  | .tuple ds, .ref a => (match K.lookup a with
    | some ⟨.type c, _, .seq its _, _⟩ => decide (c = "tuple") && (decide (its.size ≤ sizeLine) && kdatL K ds its.toList)
    | _ => false)
  | _, _ => false
def kdatL (K : PySem.W.Frag) : List PyData → List Value → Bool
  | [], [] => true
  | d :: ds, v :: vs => kdat K d v && kdatL K ds vs
  | _, _ => false
end
mutual
theorem kdat_ok {K : PySem.W.Frag} : ∀ (d : PyData) (v : Value), kdat K d v = true → ∃ x, RelV x v ∧ ∀ H, Dp K H x d
  | .none, v, h => by
    cases v with
    | none => exact ⟨.non, rfl, fun _ => .non⟩
    | _ => simp [kdat] at h
  | .bool b, v, h => by
    cases v with
    | bool c =>
      simp [kdat] at h
      subst h
      exact ⟨.bl b, rfl, fun _ => .bl b⟩
    | _ => simp [kdat] at h
  | .int i, v, h => by
    cases v with
    | int j t =>
      simp [kdat] at h
      subst h
      exact ⟨.int i, ⟨t, rfl⟩, fun _ => .int i⟩
    | _ => simp [kdat] at h
  | .str x, v, h => by
    cases v with
    | str y t =>
      simp [kdat] at h
      subst h
      exact ⟨.str x, ⟨t, rfl⟩, fun _ => .str x⟩
    | _ => simp [kdat] at h
  | .list _, v, h => by cases v <;> simp [kdat] at h
  | .dict _, v, h => by cases v <;> simp [kdat] at h
  | .tuple ds, v, h => by
    cases v with
    | ref a =>
      unfold kdat at h
      cases q : K.lookup a with
      | none => rw [q] at h; cases h
      | some o =>
        obtain ⟨oc, od, dt, osl⟩ := o
        rw [q] at h
        cases oc with
        | type c =>
          cases dt with
          | seq its n =>
            obtain ⟨h1, h2⟩ := He.ba (show (decide (c = "tuple") && (decide (its.size ≤ sizeLine) && kdatL K ds its.toList)) = true from h)
            obtain ⟨h3, h4⟩ := He.ba h2
            obtain ⟨xs, r, hx⟩ := kdatL_ok ds its.toList h4
            exact ⟨.ref a, rfl, fun H => .tup (.inr ⟨_, its, n, q, congrArg Value.type (of_decide_eq_true h1), rfl, of_decide_eq_true h3, r⟩) (hx H)⟩
          | _ => cases h
        | _ => cases dt <;> cases h
    | _ => simp [kdat] at h
theorem kdatL_ok {K : PySem.W.Frag} : ∀ (ds : List PyData) (vs : List Value), kdatL K ds vs = true → ∃ xs, Vals xs vs ∧ ∀ H, DpAll K H xs ds
  | [], [], _ => ⟨[], .nil, fun _ => .nil⟩
  | [], _ :: _, h => by simp [kdatL] at h
  | _ :: _, [], h => by simp [kdatL] at h
  | d :: ds, v :: vs, h => by
    obtain ⟨h1, h2⟩ := He.ba (show (kdat K d v && kdatL K ds vs) = true from h)
    obtain ⟨x, r, hx⟩ := kdat_ok d v h1
    obtain ⟨xs, rs, hxs⟩ := kdatL_ok ds vs h2
    exact ⟨x :: xs, .cons r rs, fun H => .cons (hx H) (hxs H)⟩
end
/-- the module's name x stands for these data -/
def cD (x : Str) (d : PyData) : Chk := fun K => match PySem.W.nsIn K mainGlobals x with
  | some (some v) => kdat K d v
  | _ => false
theorem cD_ok {K : PySem.W.Frag} {h : Heap} {mg : Str → Option Value} {x : Str} {d : PyData} (X : K.In h) (G : h.Ns mainGlobals mg) (c : cD x d K = true) : ∃ (v : V) (u : Value), mg x = some u ∧ RelV v u ∧ ∀ H, Dp K H v d := by
  unfold cD at c
  cases e : PySem.W.nsIn K mainGlobals x with
  | none => rw [e] at c; cases c
  | some r =>
    rw [e] at c
    cases r with
    | none => cases c
    | some v =>
      obtain ⟨y, r, hy⟩ := kdat_ok d v c
      exact ⟨y, v, PySem.W.mg_of X G e, r, hy⟩
/-- the dict at the module's name x holds these, in order -/
def cT (x : Str) (kvs : List (Str × PyData)) : Chk := fun K => match K.lookup (He.ga K x) with
  | some ⟨_, _, .dict es _, _⟩ => kdatL K (kvs.map (·.2)) (es.toList.map (·.val))
  | _ => false
/-- a def of the text without defaults -/
def dG (x : Str) (st : Stmt) : He.DefD := ⟨(x, none), x, x, defArgs st, defBody st, defScope st, [], []⟩
/-- a method of a class of the text -/
def dM (C m q : Str) (st : Stmt) : He.DefD := ⟨(C, some m), m, q, defArgs st, defBody st, defScope st, [], []⟩
def cG (x : Str) : Chk := fun K => (He.Fa.glo x).ok K
def cF (x : Str) : Chk := fun K => (He.Fa.free x).ok K
def cC (x : Str) : Chk := fun K => (He.Fa.cls x).ok K
def cN (x f : Str) : Chk := fun K => (He.Fa.noat x f).ok K
def cM (x m : Str) : Chk := fun K => (He.Fa.meth x m).ok K
def cK (x : Str) : Chk := fun K => (He.Fa.mkr x).ok K
/-- FunD without defaults is Fun -/
theorem fun_of {K : PySem.W.Frag} {x q : Str} {st : Stmt} {f : Addr} {fd : FuncData} (F : FunD K x q (defArgs st) (defBody st) (defScope st) [] [] f fd) : Fun K x q st f fd := by
  obtain ⟨⟨oc, od, dV, kV, doc, pm, an, cdv, ct, osl, e, lk, hc, hd, hk⟩, kp⟩ := F
  rcases hd with ⟨_, e2⟩ | ⟨ne, _⟩
  · subst e2
    exact ⟨⟨oc, od, kV, doc, pm, an, cdv, ct, osl, e, lk, hc⟩, kp⟩
  · exact absurd rfl ne
end SD
/-! draws: the source of draws as the laws hold it; what each of its defs promises -/
namespace SD
open PySem L2
theorem bo_int : bootBuiltins "int" = some (.type "int") := by decide +kernel
theorem bo_str : bootBuiltins "str" = some (.type "str") := by decide +kernel
theorem bo_len : bootBuiltins "len" = some (.builtin "len") := by decide +kernel
theorem bo_max : bootBuiltins "max" = some (.builtin "max") := by decide +kernel
theorem bo_list : bootBuiltins "list" = some (.type "list") := by decide +kernel
theorem bo_tuple : bootBuiltins "tuple" = some (.type "tuple") := by decide +kernel
theorem bo_isi : bootBuiltins "isinstance" = some (.builtin "isinstance") := by decide +kernel
theorem bo_all : bootBuiltins "all" = some (.builtin "all") := by decide +kernel
theorem bo_any : bootBuiltins "any" = some (.builtin "any") := by decide +kernel
theorem bo_dict : bootBuiltins "dict" = some (.type "dict") := by decide +kernel
theorem bo_bool : bootBuiltins "bool" = some (.type "bool") := by decide +kernel
theorem bo_sorted : bootBuiltins "sorted" = some (.builtin "sorted") := by decide +kernel
theorem bo_set : bootBuiltins "set" = some (.type "set") := by decide +kernel
theorem bo_repr : bootBuiltins "repr" = some (.builtin "repr") := by decide +kernel
/-- how a def of the module stands in the written part, for a call by its name -/
structure DefIn (K : PySem.W.Frag) (mg : Str → Option Value) (x : Str) (f : Addr) (fd : FuncData) (ps : List Str) : Prop where
  m : mg x = some (.ref f)
  kp : PySem.W.keepIn K (.ref f) = true
  b : Binds K fd ps []
section
variable {X : Cx} {CX : CXT} {k : Nat} {f : Addr} {fd : FuncData} {ps : List Str} {sp : Sp} {x : Str} {p pos : Pos} {e : Expr} {es : List Expr} {t : TA}
theorem pe_cl (G : FnOk X.prog X.w X.K X.mg X.base CX0 k f fd ps sp) (hr : Room k X.A) (D : DefIn X.K X.mg x f fd ps) (ha : PA X (e :: es) t) (hg : Gl X x := by rfl) (hdb : (x == ("__debug__" : Str)) = false := by decide)
    (he : starEach (e :: es) X.env = (false, eval e X.env) :: starEach es X.env := by rfl) (hpl : (backTo pos (starEach es X.env)).any (·.1) = false := by rfl) :
    PE X (.Call (.Name x p) (e :: es) [] pos) (tCall sp [] E0 t) := pe_call G hr hg D.m D.kp D.b .nil pass0 ha hdb he hpl
theorem pe_cl0 (G : FnOk X.prog X.w X.K X.mg X.base CX0 k f fd ps sp) (hr : Room k X.A) (D : DefIn X.K X.mg x f fd ps) (hg : Gl X x := by rfl) (hdb : (x == ("__debug__" : Str)) = false := by decide) :
    PE X (.Call (.Name x p) [] [] pos) (tCall sp [] E0 tNil) := pe_call0 G hr hg D.m D.kp D.b .nil pass0 hdb
end
/-! ### the rules that name the written part, the part told (within a comprehension's block it must be) -/
section
variable {X : Cx} {K : PySem.W.Frag} {e o l : Expr} {te tl ta : TE} {tg : Expr} {f : Str} {pos : Pos}
theorem ix_listK (h : X.K = K := by rfl) : IxR X (rIxL K) := h ▸ ix_list
theorem ix_tupK (h : X.K = K := by rfl) : IxR X (rIxT K) := h ▸ ix_tup
theorem ix_seqK (h : X.K = K := by rfl) : IxR X (rIx K) := h ▸ ix_seq
theorem op_inK (h : X.K = K := by rfl) : OpR X (compareOp .In) (rIn K false) := h ▸ op_in_seq
theorem op_notInK (h : X.K = K := by rfl) : OpR X (compareOp .NotIn) (rIn K true) := h ▸ op_notIn_seq
theorem op_eqDK (hu : X.A.units + 64 < cLine) (h : X.K = K := by rfl) : OpR X (compareOp .Eq) (rEqD K) := h ▸ op_eqD hu
theorem op_neDK (hu : X.A.units + 64 < cLine) (h : X.K = K := by rfl) : OpR X (compareOp .NotEq) (rNeD K) := h ▸ op_neD hu
theorem sl_listK (h : X.K = K := by rfl) : SlR X (rSlL K) := h ▸ sl_list
theorem sl_tupK (h : X.K = K := by rfl) : SlR X (rSlT K) := h ▸ sl_tup
theorem len_seqK (h : X.K = K := by rfl) : CallR X (.builtin "len") (fun xs H Q => ∃ p ys, xs = [.ref p] ∧ (SqL K H p ys ∨ SqT K H p ys) ∧ Q (.int ys.length) H) := h ▸ call_len_seq
theorem list_ofK (h : X.K = K := by rfl) : CallR X (.type "list") (fun xs H Q => ∃ p ys, xs = [.ref p] ∧ (SqL K H p ys ∨ SqT K H p ys) ∧ ∀ l, H l = none → Q (.ref l) (upd H l (.lst ys))) := h ▸ call_list_of
theorem tuple_ofK (h : X.K = K := by rfl) : CallR X (.type "tuple") (fun xs H Q => ∃ p ys, xs = [.ref p] ∧ ((SqL K H p ys ∧ ∀ l, H l = none → Q (.ref l) (upd H l (.tup ys))) ∨ (SqT K H p ys ∧ Q (.ref p) H))) := h ▸ call_tuple_of
theorem isiK (h : X.K = K := by rfl) : CallR X (.builtin "isinstance") (rIsi K) := h ▸ call_isi
theorem isiTK (h : X.K = K := by rfl) : CallR X (.builtin "isinstance") (rIsiT K) := h ▸ call_isiT
theorem allK (hc : X.calm = true) (h : X.K = K := by rfl) : CallR X (.builtin "all") (rAll K) := h ▸ cr_all hc
theorem anyK (hc : X.calm = true) (h : X.K = K := by rfl) : CallR X (.builtin "any") (rAny K) := h ▸ cr_any hc
theorem pi_listK (hl : PE X l tl) (h : X.K = K := by rfl) : PI X tg l (iList K tl) := h ▸ pi_list hl
theorem pi_tupK (hl : PE X l tl) (h : X.K = K := by rfl) : PI X tg l (iTup K tl) := h ▸ pi_tup hl
theorem pg_tupK {es : List Expr} {k : Nat} {t : TGs} {n : Nat} (hc : X.calm = true) (h : PGs X es t) (hn : (assignEach es X.env).length = n := by rfl) (hst : (assignEach es X.env).findIdx? (·.1) = none := by rfl) (hK : X.K = K := by rfl) : PG X (.Tuple es k pos) (gTup K n t) := hK ▸ pg_tup hc h hn hst
theorem pe_fldK (he : PE X e ta) (hb : attributeBase e f X.env (eval e X.env) = eval e X.env := by rfl) (h : X.K = K := by rfl) : PE X (.Attribute e f pos) (tFld K ta f) := h ▸ pe_fld he hb
end
/-- all but what stands at p and at c is as it was -/
def Fr2 (p c : Addr) (H H' : Hp) : Prop := ∀ b o, b ≠ p → b ≠ c → H b = some o → H' b = some o
theorem Fr2.of {p c : Addr} {H H' : Hp} (s : Same H H') : Fr2 p c H H' := fun b o _ _ h => s b o h
theorem Fr2.trans {p c : Addr} {H H1 H2 : Hp} (a : Fr2 p c H H1) (b : Fr2 p c H1 H2) : Fr2 p c H H2 := fun x o h1 h2 h => b x o h1 h2 (a x o h1 h2 h)
theorem Fr2.refl (p c : Addr) (H : Hp) : Fr2 p c H H := fun _ _ _ _ h => h
end SD
namespace L2
open PySem
theorem Same.upd {H : Hp} {p : Addr} {o : HO} (h : H p = none) : Same H (L2.upd H p o) := fun b u e => by
  rw [upd_ne (ne_of_none e h)]; exact e
theorem Same.upd' {H H1 : Hp} {p : Addr} {o : HO} (s : Same H H1) (h : H1 p = none) : Same H (L2.upd H1 p o) := s.trans (Same.upd h)
end L2
namespace SD
open PySem L2
theorem Fr2.updp {p c : Addr} {H H1 : Hp} {o : HO} (s : Fr2 p c H H1) : Fr2 p c H (L2.upd H1 p o) := fun b u h1 h2 e => by
  rw [upd_ne h1]; exact s b u h1 h2 e
theorem Fr2.updc {p c : Addr} {H H1 : Hp} {o : HO} (s : Fr2 p c H H1) : Fr2 p c H (L2.upd H1 c o) := fun b u h1 h2 e => by
  rw [upd_ne h2]; exact s b u h1 h2 e
/-- the source of draws stands at p, its cells at c -/
structure DrS (H : Hp) (p c : Addr) (st ix : Int) (cs : List Int) : Prop where
  hp : H p = some (.lst [.int st, .ref c, .int ix])
  hc : H c = some (.lst (cs.map V.int))
  s1 : 0 ≤ st
  s2 : st < 2147483647
  i0 : 0 ≤ ix
  len : cs.length ≤ 63
def Dr (H : Hp) (p c : Addr) : Prop := ∃ st ix cs, DrS H p c st ix cs
theorem lst_ne {cs : List Int} {a b : Int} {c : Addr} : HO.lst [.int a, .ref c, .int b] ≠ HO.lst (cs.map V.int) := by
  intro e
  injection e with e
  match cs with
  | [] => simp at e
  | [_] => simp at e
  | _ :: _ :: _ => simp at e
theorem DrS.ne {H : Hp} {p c : Addr} {st ix : Int} {cs : List Int} (d : DrS H p c st ix cs) : p ≠ c := ne_of d.hp d.hc lst_ne
theorem DrS.same {H H' : Hp} {p c : Addr} {st ix : Int} {cs : List Int} (d : DrS H p c st ix cs) (s : L2.Same H H') : DrS H' p c st ix cs :=
  ⟨s _ _ d.hp, s _ _ d.hc, d.s1, d.s2, d.i0, d.len⟩
theorem Dr.same {H H' : Hp} {p c : Addr} (d : Dr H p c) (s : Same H H') : Dr H' p c := let ⟨st, ix, cs, d⟩ := d; ⟨st, ix, cs, d.same s⟩
/-! ### the promises -/
def spMix (K : PySem.W.Frag) : Sp := fun vs H Q _ => ∃ (a : Addr) (seed : Int) (ns : List Int), vs = [.ref a, .int seed] ∧ SqL K H a (ns.map V.int) ∧ 0 ≤ seed ∧ seed < 2147483647 ∧ ns.length ≤ 63 ∧
  ∀ (p c : Addr) (H' : Hp), Same H H' → H p = none → H c = none → Dr H' p c → Q (.ref p) H'
def spNext : Sp := fun vs H Q _ => ∃ (p c : Addr) (cap : Int), vs = [.ref p, .int cap] ∧ Dr H p c ∧ 1 ≤ cap ∧ cap < 1073741824 ∧
  ∀ (r : Int) (H' : Hp), 0 ≤ r → r < cap → Dr H' p c → Fr2 p c H H' → Q (.int r) H'
def spPick (K : PySem.W.Frag) : Sp := fun vs H Q _ => ∃ (p c a : Addr) (xs : List V), vs = [.ref p, .ref a] ∧ Dr H p c ∧ (SqL K H a xs ∨ SqT K H a xs) ∧ xs ≠ [] ∧ xs.length < 1000 ∧ a ≠ p ∧ a ≠ c ∧
  ∀ (i : Nat) (v : V) (H' : Hp), xs[i]? = some v → Dr H' p c → Fr2 p c H H' → Q v H'
/-! ### the arithmetic -/
theorem at_cell {cs : List Int} {ix : Int} (h : 0 ≤ ix) : ∃ z, atI (cs.map V.int ++ [V.int 0]) (ix % (if ((cs.map V.int).length : Int) > 1 then ((cs.map V.int).length : Int) else 1)) = some (V.int z) ∧ (cs = [] → z = 0) := by
  have hl : (cs.map V.int).length = cs.length := List.length_map _
  rw [hl]
  have hm : (0 : Int) < (if (cs.length : Int) > 1 then (cs.length : Int) else 1) := by split <;> omega
  have h1 := Int.emod_nonneg ix (Int.ne_of_gt hm)
  have h2 := Int.emod_lt_of_pos ix hm
  generalize ix % (if (cs.length : Int) > 1 then (cs.length : Int) else 1) = k at h1 h2
  obtain ⟨j, rfl⟩ := Int.eq_ofNat_of_zero_le h1
  have hb : j ≤ cs.length ∧ (cs ≠ [] → j < cs.length) := by
    constructor
    · split at h2 <;> omega
    · intro hne
      have : 0 < cs.length := List.length_pos_iff.mpr hne
      split at h2 <;> omega
  have hj : j < (cs.map V.int ++ [V.int 0]).length := by rw [List.length_append, List.length_map]; show j < cs.length + 1; omega
  cases cs with
  | nil =>
    have : j = 0 := by have := hb.1; simp at this; omega
    subst this
    exact ⟨0, rfl, fun _ => rfl⟩
  | cons a r =>
    have hjl := hb.2 (by simp)
    refine ⟨(a :: r)[j], ?_, fun q => nomatch q⟩
    refine atI_nat ?_
    rw [List.getElem?_append_left (by rw [List.length_map]; exact hjl), List.getElem?_map]
    simp [hjl]
theorem ix_cell {n : Nat} {ix : Int} (hn : 0 < n) (h : 0 ≤ ix) : ∃ j, ixN n (ix % (n : Int)) = some j ∧ j < n := by
  have h1 := Int.emod_nonneg ix (b := (n : Int)) (by omega)
  have h2 := Int.emod_lt_of_pos ix (b := (n : Int)) (by omega)
  refine ⟨(ix % (n : Int)).toNat, ?_, by omega⟩
  unfold ixN
  rw [if_pos h1, if_pos h2]
theorem set_int {cs : List Int} {j : Nat} {z : Int} : (cs.map V.int).set j (V.int z) = (cs.set j z).map V.int := by
  rw [List.map_set]
end SD
/-! dicts of the module's top with text keys: len, list, walks of keys and of items, what stands at a key -/
namespace SD
open PySem PySem.Spec PyProof.Rows L2
/-- at d in the written part: a dict with these text keys and values, in order -/
def KD (P : Program) (w : World) (K : PySem.W.Frag) (d : Addr) (kvs : List (Str × V)) : Prop :=
  (d == sysModules) = false ∧ kvs.length ≤ 1000 ∧ ∃ (es : Array DictEntry) (ep : Nat) (vs : List (Str × Value)),
    K.lookup d = some ⟨.type "dict", none, .dict es ep, #[]⟩ ∧ KV kvs vs ∧ es.size = kvs.length ∧ (∀ h : Heap, K.In h → h.DictAt (PySem.strKind P w) d vs ep) ∧ PySem.W.KeysLit w.params es.toList
theorem small_line {n : Nat} (h : n ≤ 1000) : n ≤ sizeLine := Nat.le_trans h (by rw [sizeLine_eq]; decide)
section
variable {X : Cx} {pins : List (Addr × Obj)} {σ : L2.St} {H : Hp} {s : Shared} {d : Addr} {kvs : List (Str × V)}
theorem kd_len (D : KD X.prog X.w X.K d kvs) : CallR X (.builtin "len") (fun xs H Q => xs = [V.ref d] ∧ Q (.int kvs.length) H) := by
  intro pins s σ H xs us Q I r h
  obtain ⟨rfl, q⟩ := h
  obtain ⟨u, rfl, ru⟩ := vals1 r
  cases ru
  obtain ⟨lo, hz, es, ep, vs, hl, kv, sz, hd, _⟩ := D
  have e : kvs.length = vs.length := Paired.length kv
  refine call_len_dict lo (hd _ I.kIn).dictOf (by rw [← e]; omega) ?_
  rw [← e]
  exact ⟨.int kvs.length, H, I.tok _, ⟨_, rfl⟩, q⟩
theorem kd_list (D : KD X.prog X.w X.K d kvs) (hcalm : X.calm = true) : CallR X (.type "list") (fun xs H Q => xs = [V.ref d] ∧ ∀ p, H p = none → Q (.ref p) (upd H p (.lst (kvs.map fun kv => V.str kv.1)))) := by
  intro pins s σ H xs us Q I r h
  obtain ⟨rfl, q⟩ := h
  obtain ⟨u, rfl, ru⟩ := vals1 r
  cases ru
  obtain ⟨lo, hz, es, ep, vs, hl, kv, sz, hd, _⟩ := D
  have e : kvs.length = vs.length := Paired.length kv
  refine PySem.W.kdl_call (PySem.W.kdl_dict (knd := PySem.strKind X.prog X.w) (kvs := vs) (ep := ep) lo) (I.ok.hd hcalm) (hd _ I.kIn) (by rw [← e]; exact small_line hz) fun h' tk acc c' hk hD hacc => ?_
  have hv : Vals (kvs.map fun kv => V.str kv.1) acc.toList := by
    have hsz : acc.toList.length = kvs.length := by rw [Array.length_toList, e]; exact hacc.1
    have step : ∀ (l : List (Str × V)) (l2 : List (Str × Value)) (us : List Value), KV l l2 → us.length = l.length → (∀ (j : Nat) (v : Value), us[j]? = some v → ∃ k x, l2[j]? = some (k, x) ∧ Value.isStrOf k v = true) → Vals (l.map fun kv => V.str kv.1) us := by
      intro l
      induction l with
      | nil => intro l2 us _ hu _; cases us with
        | nil => exact .nil
        | cons a b => cases hu
      | cons a l ih =>
        intro l2 us hkv hu hj
        cases hkv with
        | @cons _ b _ r1 hab hr =>
          cases us with
          | nil => cases hu
          | cons u us =>
            obtain ⟨k, x, e1, e2⟩ := hj 0 u rfl
            have e1' : b = (k, x) := Option.some.inj e1
            obtain ⟨t, rfl⟩ := Value.isStrOf_shape e2
            refine .cons ⟨t, ?_⟩ (ih r1 us hr (by simpa using hu) fun j v hv => hj (j + 1) v hv)
            rw [hab.1, e1']
    exact step kvs vs acc.toList kv hsz fun j v hv => hacc.2 j v (by rw [← Array.getElem?_toList]; exact hv)
  refine ⟨.ref s.heap.objs.size, upd H s.heap.objs.size (.lst (kvs.map fun kv => V.str kv.1)), I.laid (t' := tk) hk (Nat.le_refl _) ?_, rfl, q _ (I.hok.fresh (Nat.le_refl _))⟩
  exact ⟨by rw [List.length_map]; exact small_line hz, acc.toList, c', hv, by rw [Array.toArray_toList]; exact hD⟩
/-- the walk of keys -/
def ItkD (kvs : List (Str × V)) : It := ⟨fun i _ => i < kvs.length, fun i H x H' => H' = H ∧ ∃ p, kvs[i]? = some p ∧ x = V.str p.1, fun i _ => kvs.length ≤ i⟩
theorem turn_kd {P : Program} {w : World} {K : PySem.W.Frag} {tg : Expr} {es : Array DictEntry} {ep : Nat} {vs : List (Str × Value)} (it : Addr) (hl : K.lookup d = some ⟨.type "dict", none, .dict es ep, #[]⟩)
    (kv : KV kvs vs) (sz : es.size = kvs.length) (hd : ∀ h : Heap, K.In h → h.DictAt (PySem.strKind P w) d vs ep) : Turn P w K tg (ItkD kvs) [it] it (fun i h => h.IsKeyIter it d i kvs.length ep) where
  mem := by simp
  obj := fun i h st b hb => by
    obtain rfl : b = it := by simpa using hb
    obtain ⟨oi, e, c, dd⟩ := st
    exact ⟨oi, e, fun v z => by rw [dd] at z; cases z⟩
  keep := fun i h h' st k => st.at fun oi e => k it (by simp) oi e
  item := by
    intro Y hP hw hK hc i pins s σ H E I hf st hg
    subst hP hw hK
    have hi : i < kvs.length := hg
    obtain ⟨f0, f1, f2, f3, f4, f5⟩ := hf it (by simp)
    have hkv : kvs[i]? = some kvs[i] := List.getElem?_eq_getElem hi
    obtain ⟨u, hu, ru⟩ := kv_get (k := kvs[i].1) (v := kvs[i].2) kv hkv
    have e : kvs.length = vs.length := Paired.length kv
    rw [e] at st
    refine wpAny_pyNext_dict_item st (hd _ I.kIn) hu fun key h' hkey st' sb => ?_
    have J := I.turned (t' := s.toks) (fun b ob hb e => (sb.2 b hb).trans e) f0 f1 f3 f4 f5
    obtain ⟨oi, e1, c, dd⟩ := id st'
    obtain ⟨t, rfl⟩ := Value.isStrOf_shape (show Value.isStrOf kvs[i].1 key = true from hkey)
    refine ⟨_, rfl, go_of (s := { s with heap := h' }) e1 c dd (by decide) ⟨V.str kvs[i].1, H, J, ⟨t, rfl⟩, ⟨rfl, _, hkv, rfl⟩, ?_, fun b hb => (hf b hb).1⟩⟩
    rw [e]
    exact st'
  done := by
    intro Y hP hw hK hc i pins s σ H E I hf st hg
    subst hP hw hK
    obtain ⟨f0, f1, f2, f3, f4, f5⟩ := hf it (by simp)
    exact next_key_end (I.ok.hd hc) st (I.kIn _ _ hl) rfl sz hg fun h' eb => ⟨rfl, I.turned (t' := s.toks) (fun b ob hb e => eb b ob hb e) f0 f1 f3 f4 f5⟩
  self := fun A i s Q E st h => wpAny_pyIter_keyiter st h
def iKD (d : Addr) (kvs : List (Str × V)) (te : TE) : TI := fun σ H R => te σ H fun x H1 => x = .ref d ∧ R (ItkD kvs) H1
theorem pi_kd {tg e : Expr} {te : TE} (D : KD X.prog X.w X.K d kvs) (he : PE X e te) : PI X tg e (iKD d kvs te) := by
  refine ⟨fun pins s σ H R I h => ?_⟩
  refine thn (he.run pins s σ H _ I h) fun v s1 ⟨x, H1, I1, r1, ex, q⟩ => ?_
  subst ex
  cases r1
  obtain ⟨lo, hz, es, ep, vs, hl, kv, sz, hd, _⟩ := D
  refine iter_keys lo (I1.kIn _ _ hl) ⟨rfl, rfl, rfl⟩ rfl (pi_one (tk := s1.toks) I1 _ (turn_kd _ hl kv sz hd) ⟨_, Heap.get?_push_size _ rfl, rfl, ?_⟩ q)
  show Data.fields #[Value.ref d, .int 0 0, .int (es.size : Nat) 0, .int ep 0] = _
  rw [sz]
  rfl
/-- the walk of items: each a new pair -/
def ItiD (kvs : List (Str × V)) : It := ⟨fun i _ => i < kvs.length, fun i H x H' => ∃ T p, kvs[i]? = some p ∧ x = .ref T ∧ H T = none ∧ H' = upd H T (.tup [V.str p.1, p.2]), fun i _ => kvs.length ≤ i⟩
theorem turn_kdI {P : Program} {w : World} {K : PySem.W.Frag} {elts : List Expr} {kk : Nat} {tpos : Pos} {ep : Nat} {vs : List (Str × Value)} (it : Addr) (kv : KV kvs vs)
    (hd : ∀ h : Heap, K.In h → h.DictAt (PySem.strKind P w) d vs ep) : Turn P w K (.Tuple elts kk tpos) (ItiD kvs) [it] it (fun i h => ∃ ok ov, IsItemIter h it d i kvs.length ep ok ov) where
  mem := by simp
  obj := fun i h st b hb => by
    obtain rfl : b = it := by simpa using hb
    obtain ⟨ok, ov, e⟩ := st
    exact ⟨_, e, fun v z => nomatch z⟩
  keep := fun i h h' st k => by
    obtain ⟨ok, ov, e⟩ := st
    exact ⟨ok, ov, k it (by simp) _ e⟩
  item := by
    intro Y hP hw hK hc i pins s σ H E I hf st hg
    subst hP hw hK
    have hi : i < kvs.length := hg
    have hkv : kvs[i]? = some kvs[i] := List.getElem?_eq_getElem hi
    obtain ⟨u, hu, ru⟩ := kv_get (k := kvs[i].1) (v := kvs[i].2) kv hkv
    have el : kvs.length = vs.length := Paired.length kv
    obtain ⟨ok, ov, he⟩ := st
    rw [el] at he
    have hlt : it < s.heap.objs.size := Heap.lt_size he
    refine wpAny_pyNext_items_item he (hd _ I.kIn) hu fun key h' hkey ho hT hz hk => ?_
    obtain ⟨t, rfl⟩ := Value.isStrOf_shape (show Value.isStrOf kvs[i].1 key = true from hkey)
    refine ⟨_, rfl, wpAny_letOwnedTupleGo_items (s := { s with heap := h' }) ho fun h2 he' sb => ?_⟩
    have hT2 := (sb.2 _ (Nat.ne_of_gt hlt)).trans hT
    have new : ObjOk Y.prog Y.w (upd H s.heap.objs.size (.tup [V.str kvs[i].1, kvs[i].2])) h2 s.heap.objs.size (.tup [V.str kvs[i].1, kvs[i].2]) :=
      ⟨small_line (show 2 ≤ 1000 by decide), [_, u], .cons ⟨t, rfl⟩ (.cons ru .nil), ⟨_, hT2, rfl, _, rfl⟩⟩
    have J : Inv Y pins σ (upd H s.heap.objs.size (.tup [V.str kvs[i].1, kvs[i].2])) { s with heap := h2 } :=
      I.turnedNew (t' := s.toks) (ch := [it]) (fun b ob hb e => (sb.2 b (by simpa using hb)).trans (hk b ob (by simpa using hb) e)) hf (Nat.le_refl _) new
    refine ⟨.ref s.heap.objs.size, _, J, rfl, ⟨_, _, hkv, rfl, I.hok.fresh (Nat.le_refl _), rfl⟩, ⟨.str kvs[i].1 t, u, ?_⟩, fun b hb => ?_⟩
    · rw [el]; exact he'
    · obtain rfl : b = it := by simpa using hb
      rw [upd_ne (Nat.ne_of_lt hlt)]
      exact (hf b (by simp)).1
  done := by
    intro Y hP hw hK hc i pins s σ H E I hf st hg
    subst hP hw hK
    have hi : kvs.length ≤ i := hg
    obtain ⟨f0, f1, f2, f3, f4, f5⟩ := hf it (by simp)
    have el : kvs.length = vs.length := Paired.length kv
    obtain ⟨ok, ov, he⟩ := st
    rw [el] at he
    exact wpAny_pyNext_items_end (I.ok.hd hc) he (hd _ I.kIn) (List.getElem?_eq_none (by omega)) fun h' eb => ⟨rfl, I.turned (t' := s.toks) (fun b ob hb q => eb b ob hb q) f0 f1 f3 f4 f5⟩
  self := fun A i s Q E st h => by
    obtain ⟨_, _, e⟩ := st
    exact PySem.W.kcp_self e h
def iKDI (d : Addr) (kvs : List (Str × V)) (te : TE) : TI := fun σ H R => te σ H fun x H1 => x = .ref d ∧ R (ItiD kvs) H1
theorem pi_kdI {elts : List Expr} {kk : Nat} {tpos apos cpos : Pos} {e : Expr} {te : TE} (D : KD X.prog X.w X.K d kvs) (he : PE X e te)
    (hbase : attributeBase e "items" X.env (eval e X.env) = eval e X.env := by rfl) (hline : (apos.endLine == cpos.line) = true := by rfl) :
    PI X (.Tuple elts kk tpos) (.Call (.Attribute e "items" apos) [] [] cpos) (iKDI d kvs te) := by
  refine ⟨fun pins s σ H R I h => ?_⟩
  refine wpAny_Call_method (T := "dict") (id := "dict.items") hbase rfl hline F.plainAttrs_dict F.slot_dict_items F.type_dict_items (thn (he.run pins s σ H _ I h) fun u s1 hq => ?_)
  obtain ⟨x, H1, I1, rx, ex, q⟩ := hq
  subst ex
  obtain rfl : u = Value.ref d := rx
  obtain ⟨lo, hz, es, ep, vs, hl, kv, sz, hd, _⟩ := D
  have hm := hd _ I1.kIn
  have el : kvs.length = vs.length := Paired.length kv
  refine ⟨hm.dictOf.typeIs, hm.dictOf.mapOf.noDict, ?_⟩
  have I2 : Inv X pins σ H1 { s1 with heap := s1.heap.push { cls := .type "dict_items", data := .fields #[.ref d] } } := I1.kept (t' := s1.toks) fun b ob z => Heap.get?_push_of_some _ z
  have fin : wpAny (model X.prog X.w) X.A (pyIter (.ref s1.heap.objs.size)) (PIE X pins σ (.Tuple elts kk tpos) R) X.xe { s1 with heap := s1.heap.push { cls := .type "dict_items", data := .fields #[.ref d] } } := by
    refine wpAny_pyIter_items (d := d) (knd := PySem.strKind X.prog X.w) ⟨_, Heap.get?_push_size _ rfl, rfl, rfl⟩ (hm.push _) (pi_one (tk := s1.toks) I2 _ (turn_kdI _ kv hd) ⟨.none, .none, ?_⟩ q)
    rw [el]
    exact Heap.get?_push_size _ rfl
  show wpAny _ _ (callWith cpos (.builtin "dict.items") [.ref d] [] []) _ X.xe s1
  exact method_meetsIn F.slot_dict_items F.entry_dict_items rfl (PySem.evalArgs_none ⟨rfl, hm.dictOf.typeIs, F.args_dict_items_1 _, _, meets_dict_items (PySem.strKind X.prog X.w) d lo, ⟨vs, hm.dictOf⟩, fin⟩)
end
/-! ### from the looks at the top -/
theorem tab_walk {P : Program} {w : World} {K : PySem.W.Frag} : ∀ (l : List DictEntry) (kvs : List (Str × PyData)), l.map He.keyOf = He.keysIn w.params (kvs.map (·.1)) → kdatL K (kvs.map (·.2)) (l.map (·.val)) = true →
    ∃ (xs : List (Str × V)) (vs : List (Str × Value)), Pairs (PySem.strKind P w) l vs ∧ KV xs vs ∧ xs.map (·.1) = kvs.map (·.1) ∧ vs.map (·.1) = kvs.map (·.1) ∧ ∀ H, DpAll K H (xs.map (·.2)) (kvs.map (·.2))
  | [], [], _, _ => ⟨[], [], .nil, .nil, rfl, rfl, fun _ => .nil⟩
  | [], _ :: _, h, _ => by cases h
  | _ :: _, [], h, _ => by cases h
  | e :: l, (k, d) :: kvs, h1, h2 => by
    obtain ⟨q1, q2⟩ := He.ba (show (kdat K d e.val && kdatL K (kvs.map (·.2)) (l.map (·.val))) = true from h2)
    injection h1 with h3 h4
    obtain ⟨xs, vs, p, kv, e1, e2, hd⟩ := tab_walk l kvs h4 q2
    obtain ⟨x, r, hx⟩ := kdat_ok d e.val q1
    have hk : Value.isStrOf k e.key = true := by
      unfold He.keyOf at h3
      split at h3
      · rename_i y t q
        have h5 := (Prod.mk.inj (Option.some.inj h3)).1
        rw [q, show k = y from h5.symm]
        exact PySem.strKind_is P w y t
      · cases h3
    exact ⟨(k, x) :: xs, (k, e.val) :: vs, .cons hk rfl p, .cons ⟨rfl, r⟩ kv, by simp [e1], by simp [e2], fun H => .cons (hx H) (hd H)⟩
theorem KD.of {P : Program} {w : World} {K : PySem.W.Frag} {x : Str} {kvs : List (Str × PyData)} (h1 : He.dicW K (He.ga K x) = some (He.keysIn w.params (kvs.map (·.1)))) (h2 : cT x kvs K = true) (hl : kvs.length ≤ 1000) (nd : (kvs.map (·.1)).Nodup) :
    ∃ xs : List (Str × V), KD P w K (He.ga K x) xs ∧ xs.map (·.1) = kvs.map (·.1) ∧ ∀ H, DpAll K H (xs.map (·.2)) (kvs.map (·.2)) := by
  obtain ⟨es, n, D⟩ := He.dicW_ok h1
  have hes : es.toList.map He.keyOf = He.keysIn w.params (kvs.map (·.1)) := by
    unfold He.dicW at h1
    rw [D.at_] at h1
    have h3 : (match decide (("dict" : String) = "dict") && ((#[] : Array (Option Value)).isEmpty && !(He.ga K x == sysModules)) with
      | true => some (es.toList.map He.keyOf)
      | false => none) = some (He.keysIn w.params (kvs.map (·.1))) := h1
    rw [D.low] at h3
    exact Option.some.inj h3
  have h4 : kdatL K (kvs.map (·.2)) (es.toList.map (·.val)) = true := by
    unfold cT at h2
    rw [D.at_] at h2
    exact h2
  obtain ⟨xs, vs, p, kv, e1, e2, hd⟩ := tab_walk (P := P) es.toList kvs hes h4
  have el : xs.length = kvs.length := by
    have := congrArg List.length e1
    simpa using this
  refine ⟨xs, ⟨D.low, by omega, es, n, vs, D.at_, kv, ?_, fun h hK => ⟨_, es, hK _ _ D.at_, ⟨rfl, rfl, rfl⟩, rfl, fun e he => ?_, p, by rw [e2]; exact nd⟩, D.lit⟩, e1, hd⟩
  · rw [← Array.length_toList, p.length, ← Paired.length kv]
  · obtain ⟨y, t, q1, q2⟩ := D.lit.all e (Array.mem_toList_iff.mpr he)
    exact ⟨y, by rw [q1]; exact PySem.strKind_is P w y t, q2⟩
theorem kv_mem {kvs : List (Str × V)} {vs : List (Str × Value)} (h : KV kvs vs) {k : Str} {v : V} (hk : (k, v) ∈ kvs) : ∃ u, (k, u) ∈ vs ∧ L2.RelV v u := by
  obtain ⟨i, hi⟩ := List.mem_iff_getElem?.mp hk
  obtain ⟨u, hu, r⟩ := kv_get h hi
  exact ⟨u, List.mem_iff_getElem?.mpr ⟨i, hu⟩, r⟩
/-- d[k] -/
theorem ix_kd {X : Cx} {d : Addr} {kvs : List (Str × V)} (D : KD X.prog X.w X.K d kvs) : IxR X (fun x y H Q => ∃ z v, x = .ref d ∧ y = .str z ∧ (z, v) ∈ kvs ∧ Q v H) := by
  intro value slice pins s σ H x y v u Q I rx ry h hs
  obtain ⟨z, r, rfl, rfl, hm, q⟩ := h
  obtain rfl : v = Value.ref d := rx
  obtain ⟨t, rfl⟩ := ry
  obtain ⟨lo, hz, es, ep, vs, hl, kv, sz, hd, lit⟩ := D
  obtain ⟨u0, hu0, r0⟩ := kv_mem kv hm
  have da := hd _ I.kIn
  have nd : (vs.map (·.1)).Nodup := by
    obtain ⟨_, _, _, _, _, _, _, n⟩ := da
    exact n
  have mo := da.dictOf.mapOf
  exact tail_any mo.typeIs slot_dict_getitem.lookup (wpAny_getItem_of (PySem.strKind_is X.prog X.w z t) mo (valueAt_of_mem nd hu0) ⟨r, H, I.tok _, r0, q⟩) hs
/-! ### a loop over what is written down -/
theorem for_keys {kvs : List (Str × V)} {g : TG} {tb : TS} {D : Ends} {σ : L2.St} {H : Hp} (Pv : Nat → L2.St → Hp → Prop) (h0 : Pv 0 σ H)
    (hs : ∀ i p σ H, kvs[i]? = some p → Pv i σ H → g (.str p.1) σ H fun σ2 H2 => tb { D with nx := Pv (i + 1), ct := Pv (i + 1), bk := D.nx } σ2 H2) (he : ∀ σ H, Pv kvs.length σ H → D.nx σ H) :
    ∃ W : Nat → Nat → L2.St → Hp → Prop, (∃ m, W 0 m σ H) ∧ ∀ i m σ H, W i m σ H →
      ((ItkD kvs).stop i H ∧ D.nx σ H) ∨ ((ItkD kvs).go i H ∧ ∃ N : L2.St → Hp → Prop, (∀ σ' H', N σ' H' → ∃ m', m' < m ∧ W (i + 1) m' σ' H') ∧ ∀ x H', (ItkD kvs).yld i H x H' → g x σ H' fun σ2 H2 => tb { D with nx := N, ct := N, bk := D.nx } σ2 H2) := by
  refine ⟨fun i m σ H => m = kvs.length - i ∧ i ≤ kvs.length ∧ Pv i σ H, ⟨_, rfl, Nat.zero_le _, h0⟩, ?_⟩
  rintro i m σ H ⟨rfl, hi, p⟩
  rcases Nat.lt_or_ge i kvs.length with hlt | hge
  · refine .inr ⟨hlt, Pv (i + 1), fun σ' H' p' => ⟨kvs.length - (i + 1), by omega, rfl, hlt, p'⟩, fun x H' y => ?_⟩
    obtain ⟨rfl, q, hq, rfl⟩ := y
    exact hs i q σ _ hq p
  · obtain rfl : i = kvs.length := by omega
    exact .inl ⟨Nat.le_refl _, he σ H p⟩
theorem for_items {kvs : List (Str × V)} {g : TG} {tb : TS} {D : Ends} {σ : L2.St} {H : Hp} (Pv : Nat → L2.St → Hp → Prop) (h0 : Pv 0 σ H)
    (hs : ∀ i p T σ H, kvs[i]? = some p → Pv i σ H → H T = none → g (.ref T) σ (upd H T (.tup [.str p.1, p.2])) fun σ2 H2 => tb { D with nx := Pv (i + 1), ct := Pv (i + 1), bk := D.nx } σ2 H2) (he : ∀ σ H, Pv kvs.length σ H → D.nx σ H) :
    ∃ W : Nat → Nat → L2.St → Hp → Prop, (∃ m, W 0 m σ H) ∧ ∀ i m σ H, W i m σ H →
      ((ItiD kvs).stop i H ∧ D.nx σ H) ∨ ((ItiD kvs).go i H ∧ ∃ N : L2.St → Hp → Prop, (∀ σ' H', N σ' H' → ∃ m', m' < m ∧ W (i + 1) m' σ' H') ∧ ∀ x H', (ItiD kvs).yld i H x H' → g x σ H' fun σ2 H2 => tb { D with nx := N, ct := N, bk := D.nx } σ2 H2) := by
  refine ⟨fun i m σ H => m = kvs.length - i ∧ i ≤ kvs.length ∧ Pv i σ H, ⟨_, rfl, Nat.zero_le _, h0⟩, ?_⟩
  rintro i m σ H ⟨rfl, hi, p⟩
  rcases Nat.lt_or_ge i kvs.length with hlt | hge
  · refine .inr ⟨hlt, Pv (i + 1), fun σ' H' p' => ⟨kvs.length - (i + 1), by omega, rfl, hlt, p'⟩, fun x H' y => ?_⟩
    obtain ⟨T, q, hq, rfl, hT, rfl⟩ := y
    exact hs i q T σ H hq p hT
  · obtain rfl : i = kvs.length := by omega
    exact .inl ⟨Nat.le_refl _, he σ H p⟩
end SD
/-! rules and books as data; the parts as the laws write them -/
namespace SD
open PySem L2
def pn : List Str := ["along", "clash", "drafts", "leads", "restores", "staged"]
def w0 : List Str := ["alone", "last", "one", "draft", "before", "now"]
def w1 : List Str := ["links", "refuse", "own", "nothing", "nothing", "then"]
structure Rule where
  al : Bool
  cl : Bool
  dr : Bool
  le : Bool
  re : Bool
  sg : Bool
  deriving DecidableEq
def Rule.ws (r : Rule) : List Str := [bif r.al then "links" else "alone", bif r.cl then "refuse" else "last", bif r.dr then "own" else "one", bif r.le then "nothing" else "draft", bif r.re then "nothing" else "before", bif r.sg then "then" else "now"]
/-- parts and words, as far as there are words -/
def kvN (ws : List Str) : List (Key × V) := List.zipWith (fun k w => (Sum.inr k, V.str w)) pn ws
def Rule.kv (r : Rule) : List (Key × V) := kvN r.ws
def prow (j : Nat) : List V := [V.str (pn.getD j ""), V.str (w0.getD j ""), V.str (w1.getD j "")]
/-- what _law_parts hands back -/
def PartsAt (H : Hp) (p : Addr) : Prop := ∃ q0 q1 q2 q3 q4 q5 : Addr, H p = some (.lst [.ref q0, .ref q1, .ref q2, .ref q3, .ref q4, .ref q5]) ∧
  H q0 = some (.lst (prow 0)) ∧ H q1 = some (.lst (prow 1)) ∧ H q2 = some (.lst (prow 2)) ∧ H q3 = some (.lst (prow 3)) ∧ H q4 = some (.lst (prow 4)) ∧ H q5 = some (.lst (prow 5))
theorem PartsAt.same {H H' : Hp} {p : Addr} (a : PartsAt H p) (s : L2.Same H H') : PartsAt H' p := by
  obtain ⟨q0, q1, q2, q3, q4, q5, h, h0, h1, h2, h3, h4, h5⟩ := a
  exact ⟨q0, q1, q2, q3, q4, q5, s _ _ h, s _ _ h0, s _ _ h1, s _ _ h2, s _ _ h3, s _ _ h4, s _ _ h5⟩
theorem prow_ne {j : Nat} {cs : List Int} {st ix : Int} {c : Addr} : HO.lst (prow j) ≠ HO.lst [.int st, .ref c, .int ix] ∧ HO.lst (prow j) ≠ HO.lst (cs.map V.int) := by
  constructor
  · intro e
    injection e with e
    cases e
  · intro e
    injection e with e
    cases cs with
    | nil => cases e
    | cons a r => cases e
theorem refs_ne {q : Addr} {qs : List V} {cs : List Int} {st ix : Int} {c : Addr} : HO.lst (.ref q :: qs) ≠ HO.lst [.int st, .ref c, .int ix] ∧ HO.lst (.ref q :: qs) ≠ HO.lst (cs.map V.int) := by
  constructor
  · intro e
    injection e with e
    cases e
  · intro e
    injection e with e
    cases cs with
    | nil => cases e
    | cons a r => cases e
/-- what stands in the source of draws is no list but of its own make -/
theorem DrS.apart {H : Hp} {p c b : Addr} {st ix : Int} {cs : List Int} {o : HO} (d : DrS H p c st ix cs) (h : H b = some o) (n : o ≠ .lst [.int st, .ref c, .int ix] ∧ o ≠ .lst (cs.map V.int)) : b ≠ p ∧ b ≠ c :=
  ⟨ne_of h d.hp n.1, ne_of h d.hc n.2⟩
theorem PartsAt.fr {H H' : Hp} {p c q : Addr} (a : PartsAt H q) (d : Dr H p c) (f : Fr2 p c H H') : PartsAt H' q := by
  obtain ⟨st, ix, cs, d⟩ := d
  obtain ⟨q0, q1, q2, q3, q4, q5, h, h0, h1, h2, h3, h4, h5⟩ := a
  have go : ∀ {b : Addr} {o : HO}, H b = some o → (o ≠ .lst [.int st, .ref c, .int ix] ∧ o ≠ .lst (cs.map V.int)) → H' b = some o := fun h n => f _ _ (d.apart h n).1 (d.apart h n).2 h
  exact ⟨q0, q1, q2, q3, q4, q5, go h refs_ne, go h0 prow_ne, go h1 prow_ne, go h2 prow_ne, go h3 prow_ne, go h4 prow_ne, go h5 prow_ne⟩
theorem dK_ne {kvs : List (Key × V)} {cs : List Int} {st ix : Int} {c : Addr} : HO.dK kvs ≠ HO.lst [.int st, .ref c, .int ix] ∧ HO.dK kvs ≠ HO.lst (cs.map V.int) := by
  constructor <;> intro e <;> cases e
theorem kvN_snoc : ∀ {ws : List Str} {w k : Str}, pn[ws.length]? = some k → kvN (ws ++ [w]) = kvN ws ++ [(Sum.inr k, V.str w)]
  | [], _, _, h => by cases h; rfl
  | [_], _, _, h => by cases h; rfl
  | [_, _], _, _, h => by cases h; rfl
  | [_, _, _], _, _, h => by cases h; rfl
  | [_, _, _, _], _, _, h => by cases h; rfl
  | [_, _, _, _, _], _, _, h => by cases h; rfl
  | _ :: _ :: _ :: _ :: _ :: _ :: r, _, _, h => by
    have e := (List.getElem?_eq_some_iff.mp h).1
    simp only [List.length_cons] at e
    have e2 : pn.length = 6 := rfl
    omega
theorem kvN_new : ∀ {ws : List Str} {k : Str}, pn[ws.length]? = some k → valV (kvN ws) (Sum.inr k : Key) = none
  | [], _, h => by cases h; rfl
  | [_], _, h => by cases h; rfl
  | [_, _], _, h => by cases h; rfl
  | [_, _, _], _, h => by cases h; rfl
  | [_, _, _, _], _, h => by cases h; rfl
  | [_, _, _, _, _], _, h => by cases h; rfl
  | _ :: _ :: _ :: _ :: _ :: _ :: r, _, h => by
    have e := (List.getElem?_eq_some_iff.mp h).1
    simp only [List.length_cons] at e
    have e2 : pn.length = 6 := rfl
    omega
def spParts : Sp := fun vs H Q _ => vs = [] ∧ ∀ (p : Addr) (H' : Hp), L2.Same H H' → H p = none → PartsAt H' p → Q (.ref p) H'
def spRule : Sp := fun vs H Q _ => ∃ (p c : Addr), vs = [.ref p] ∧ Dr H p c ∧ ∀ (r : Rule) (d : Addr) (H' : Hp), Dr H' p c → Fr2 p c H H' → H d = none → H' d = some (.dK r.kv) → Q (.ref d) H'
end SD
/-! books as data, and how they stand in the heap; == of what they hold -/
namespace SD
open PySem L2
structure Kinds where
  ba : Bool
  bo : Bool
  hi : Bool
  st : Bool
  th : Bool
  deriving DecidableEq
def Kinds.ws (k : Kinds) : List Str := (bif k.ba then ([Str.ofString "back"] : List Str) else []) ++ (bif k.bo then ([Str.ofString "both"] : List Str) else []) ++ (bif k.hi then ([Str.ofString "hide"] : List Str) else []) ++ (bif k.st then ([Str.ofString "stage"] : List Str) else []) ++ (bif k.th then ([Str.ofString "throw"] : List Str) else [])
def allW : List Str := ["back", "both", "hide", "stage", "throw"]
structure Bk where
  two : Bool
  r : Rule
  k : Kinds
  deriving DecidableEq
def Bk.people (b : Bk) : Int := bif b.two then 2 else 1
structure BookIs (K : PySem.W.Frag) (C : Addr) (H : Hp) (a : Addr) (b : Bk) (dx d t : Addr) : Prop where
  ob : H a = some (.ins C dx [("many", .int b.people), ("terms", .ref d), ("kinds", .ref t)])
  te : H d = some (.dK b.r.kv)
  ki : SqT K H t (b.k.ws.map V.str)
def BookAt (K : PySem.W.Frag) (C : Addr) (H : Hp) (a : Addr) (b : Bk) : Prop := ∃ dx d t, BookIs K C H a b dx d t
theorem SqT.same {K : PySem.W.Frag} {H H' : Hp} {a : Addr} {xs : List V} (s : L2.Same H H') (h : SqT K H a xs) : SqT K H' a xs := by
  rcases h with (h | ⟨o, h⟩) | h
  · exact .inl (.inl (s _ _ h))
  · exact .inl (.inr ⟨o, s _ _ h⟩)
  · exact .inr h
theorem SqL.same {K : PySem.W.Frag} {H H' : Hp} {a : Addr} {xs : List V} (s : L2.Same H H') (h : SqL K H a xs) : SqL K H' a xs := by
  rcases h with (h | ⟨o, h⟩) | h
  · exact .inl (.inl (s _ _ h))
  · exact .inl (.inr ⟨o, s _ _ h⟩)
  · exact .inr h
theorem BookIs.same {K : PySem.W.Frag} {C : Addr} {H H' : Hp} {a dx d t : Addr} {b : Bk} (h : BookIs K C H a b dx d t) (s : L2.Same H H') : BookIs K C H' a b dx d t := ⟨s _ _ h.ob, s _ _ h.te, SqT.same s h.ki⟩
theorem BookAt.same {K : PySem.W.Frag} {C : Addr} {H H' : Hp} {a : Addr} {b : Bk} (h : BookAt K C H a b) (s : L2.Same H H') : BookAt K C H' a b := by
  obtain ⟨dx, d, t, h⟩ := h
  exact ⟨dx, d, t, h.same s⟩
theorem ws_len (k : Kinds) : k.ws.length ≤ 5 := by
  obtain ⟨a, b, c, d, e⟩ := k
  cases a <;> cases b <;> cases c <;> cases d <;> cases e <;> decide
theorem ws_filter (k : Kinds) : allW.filter (fun w => decide (w ∈ k.ws)) = k.ws := by
  obtain ⟨a, b, c, d, e⟩ := k
  cases a <;> cases b <;> cases c <;> cases d <;> cases e <;> decide +kernel
theorem ws_sub (k : Kinds) : ∀ w ∈ k.ws, w ∈ allW := by
  obtain ⟨a, b, c, d, e⟩ := k
  cases a <;> cases b <;> cases c <;> cases d <;> cases e <;> decide +kernel
theorem ws_inj {k l : Kinds} : k.ws = l.ws ↔ k = l := by
  constructor
  · intro h
    obtain ⟨a, b, c, d, e⟩ := k
    obtain ⟨a', b', c', d', e'⟩ := l
    have f : ∀ w : Str, decide (w ∈ (⟨a, b, c, d, e⟩ : Kinds).ws) = decide (w ∈ (⟨a', b', c', d', e'⟩ : Kinds).ws) := fun w => by rw [h]
    have g : ∀ k : Kinds, decide (("back" : Str) ∈ k.ws) = k.ba ∧ decide (("both" : Str) ∈ k.ws) = k.bo ∧ decide (("hide" : Str) ∈ k.ws) = k.hi ∧ decide (("stage" : Str) ∈ k.ws) = k.st ∧ decide (("throw" : Str) ∈ k.ws) = k.th := fun k => by
      obtain ⟨a, b, c, d, e⟩ := k
      cases a <;> cases b <;> cases c <;> cases d <;> cases e <;> decide +kernel
    obtain ⟨p1, p2, p3, p4, p5⟩ := g ⟨a, b, c, d, e⟩
    obtain ⟨q1, q2, q3, q4, q5⟩ := g ⟨a', b', c', d', e'⟩
    rw [f] at p1 p2 p3 p4 p5
    have e1 : a' = a := q1.symm.trans p1
    have e2 : b' = b := q2.symm.trans p2
    have e3 : c' = c := q3.symm.trans p3
    have e4 : d' = d := q4.symm.trans p4
    have e5 : e' = e := q5.symm.trans p5
    rw [e1, e2, e3, e4, e5]
  · intro h
    rw [h]
/-! ### a dict comprehension over what is walked -/
theorem dc_it {J : It} {n : Nat} {G : Hp → Prop} {Y : Nat → Hp → V → Hp → Prop} (wk : Walk J n G Y) {g : TG} {tt : TT} {tk tv : TE} {vs : List Nat} {σ : L2.St} {H1 : Hp} {D : Addr} {Qd : Hp → Prop} (Pv : Nat → Hp → Prop) (h0 : Pv 0 (upd H1 D (.dK []))) (hG : ∀ i H, i ≤ n → Pv i H → G H)
    (hs : ∀ i x H H', i < n → Pv i H → Y i H x H' → g x (wipe σ vs) H' fun σ2 H2 => wipe σ2 vs = wipe σ vs ∧ tt σ2 H2 fun b H3 =>
      if b = true then tk σ2 H3 fun y H4 => tv σ2 H4 fun z H5 => ∃ kvs k, y = kV k ∧ H5 D = some (.dK kvs) ∧ kvs.length < sizeLine ∧ Pv (i + 1) (upd H5 D (.dK (putK kvs k z))) else Pv (i + 1) H3) (hd : ∀ H, Pv n H → Qd H) :
    ∃ W : Nat → Nat → Hp → Prop, (∃ m, W 0 m (upd H1 D (.dK []))) ∧ ∀ i m H, W i m H →
      (J.stop i H ∧ Qd H) ∨ (J.go i H ∧ ∃ Nx : Hp → Prop, (∀ H', Nx H' → ∃ m', m' < m ∧ W (i + 1) m' H') ∧ ∀ x H', J.yld i H x H' → g x (wipe σ vs) H' fun σ2 H2 => wipe σ2 vs = wipe σ vs ∧ tt σ2 H2 fun b H3 =>
        if b = true then tk σ2 H3 fun y H4 => tv σ2 H4 fun z H5 => ∃ kvs k, y = kV k ∧ H5 D = some (.dK kvs) ∧ kvs.length < sizeLine ∧ Nx (upd H5 D (.dK (putK kvs k z))) else Nx H3) := by
  refine ⟨fun i m H => m = n - i ∧ i ≤ n ∧ Pv i H, ⟨n, rfl, Nat.zero_le _, h0⟩, ?_⟩
  rintro i m H ⟨rfl, hi, p⟩
  have q := hG i H hi p
  rcases Nat.lt_or_ge i n with hlt | hge
  · exact .inr ⟨wk.goes i H hlt q, Pv (i + 1), fun H' p' => ⟨n - (i + 1), by omega, rfl, hlt, p'⟩, fun x H' y => hs i x H H' hlt p (wk.yields i H x H' hlt q y)⟩
  · obtain rfl : i = n := by omega
    exact .inl ⟨wk.stops H q, hd H p⟩
/-! ### == of what two books hold -/
theorem shaped_strs : ∀ ws : List Str, (∀ w ∈ ws, w ∈ allW) → SeqAt.shaped (.tuple (ws.map PyData.str)) = true := by
  have h1 : ∀ ws : List Str, (∀ w ∈ ws, w ∈ allW) → PyData.canLayAll0 (ws.map PyData.str) = true ∧ PyData.depthAll (ws.map PyData.str) = 0 := by
    intro ws
    induction ws with
    | nil => intro _; exact ⟨rfl, rfl⟩
    | cons w r ih =>
      intro h
      obtain ⟨i1, i2⟩ := ih fun x hx => h x (List.mem_cons_of_mem _ hx)
      have hw := h w List.mem_cons_self
      have ok : PyData.canLay0 (.str w) = true := by
        simp only [allW, List.mem_cons, List.not_mem_nil, or_false] at hw
        rcases hw with e | e | e | e | e <;> (rw [e]; decide +kernel)
      exact ⟨by rw [List.map_cons, PyData.canLayAll0, ok, i1]; rfl, by rw [List.map_cons, PyData.depthAll, i2]; rfl⟩
  intro ws h
  obtain ⟨i1, i2⟩ := h1 ws h
  unfold SeqAt.shaped
  rw [PyData.canLay0, i1, PyData.depth, i2]
  rfl
theorem eqv_strs : ∀ ws us : List Str, PyData.eqvAll (ws.map PyData.str) (us.map PyData.str) = decide (ws = us)
  | [], [] => rfl
  | [], _ :: _ => rfl
  | _ :: _, [] => rfl
  | w :: ws, u :: us => by
    rw [List.map_cons, List.map_cons, PyData.eqvAll, eqv_strs ws us, PyData.eqv]
    by_cases e : w = u
    · subst e
      simp
    · have e2 : (w == u) = false := by simpa using e
      rw [e2, Bool.false_and]
      exact (decide_eq_false fun q => e (List.cons.inj q).1).symm
theorem dp_strs {K : PySem.W.Frag} {H : Hp} : ∀ ws : List Str, DpAll K H (ws.map V.str) (ws.map PyData.str)
  | [] => .nil
  | w :: r => .cons (.str w) (dp_strs r)
theorem val_kv (r : Rule) (k : Str) (v : V) (h : (Sum.inr k, v) ∈ r.kv) (r' : Rule) : ∃ x x', v = .str x ∧ valV r'.kv (Sum.inr k : Key) = some (.str x') := by
  have h' : (Sum.inr k, v) ∈ ([(Sum.inr (Str.ofString "along"), .str (bif r.al then "links" else "alone")), (Sum.inr (Str.ofString "clash"), .str (bif r.cl then "refuse" else "last")), (Sum.inr (Str.ofString "drafts"), .str (bif r.dr then "own" else "one")), (Sum.inr (Str.ofString "leads"), .str (bif r.le then "nothing" else "draft")), (Sum.inr (Str.ofString "restores"), .str (bif r.re then "nothing" else "before")), (Sum.inr (Str.ofString "staged"), .str (bif r.sg then "then" else "now"))] : List (Key × V)) := h
  simp only [List.mem_cons, List.not_mem_nil, or_false, Prod.mk.injEq, Sum.inr.injEq] at h'
  rcases h' with ⟨rfl, rfl⟩ | ⟨rfl, rfl⟩ | ⟨rfl, rfl⟩ | ⟨rfl, rfl⟩ | ⟨rfl, rfl⟩ | ⟨rfl, rfl⟩ <;> exact ⟨_, _, rfl, rfl⟩
theorem bw {x y : Str} {a b : Bool} (h : (V.str (bif a then x else y)) = V.str (bif b then x else y)) (n : x ≠ y) : a = b := by
  cases a <;> cases b
  · rfl
  · injection h with h
    exact absurd h.symm n
  · injection h with h
    exact absurd h n
  · rfl
theorem kv_val (r : Rule) : valV r.kv (Sum.inr (Str.ofString "along") : Key) = some (.str (bif r.al then "links" else "alone")) ∧ valV r.kv (Sum.inr (Str.ofString "clash") : Key) = some (.str (bif r.cl then "refuse" else "last")) ∧
    valV r.kv (Sum.inr (Str.ofString "drafts") : Key) = some (.str (bif r.dr then "own" else "one")) ∧ valV r.kv (Sum.inr (Str.ofString "leads") : Key) = some (.str (bif r.le then "nothing" else "draft")) ∧
    valV r.kv (Sum.inr (Str.ofString "restores") : Key) = some (.str (bif r.re then "nothing" else "before")) ∧ valV r.kv (Sum.inr (Str.ofString "staged") : Key) = some (.str (bif r.sg then "then" else "now")) := ⟨rfl, rfl, rfl, rfl, rfl, rfl⟩
theorem rule_ext {r s : Rule} (h : ∀ k ∈ pn, valV r.kv (Sum.inr k : Key) = valV s.kv (Sum.inr k : Key)) : r = s := by
  obtain ⟨a1, a2, a3, a4, a5, a6⟩ := kv_val r
  obtain ⟨b1, b2, b3, b4, b5, b6⟩ := kv_val s
  have go : ∀ {k : Str}, k ∈ pn → ∀ {x y : V}, valV r.kv (Sum.inr k : Key) = some x → valV s.kv (Sum.inr k : Key) = some y → x = y := fun hk x y h1 h2 => by
    rw [h _ hk, h2] at h1
    exact (Option.some.inj h1).symm
  have e1 := bw (go (by decide +kernel) a1 b1) (by decide +kernel)
  have e2 := bw (go (by decide +kernel) a2 b2) (by decide +kernel)
  have e3 := bw (go (by decide +kernel) a3 b3) (by decide +kernel)
  have e4 := bw (go (by decide +kernel) a4 b4) (by decide +kernel)
  have e5 := bw (go (by decide +kernel) a5 b5) (by decide +kernel)
  have e6 := bw (go (by decide +kernel) a6 b6) (by decide +kernel)
  obtain ⟨x1, x2, x3, x4, x5, x6⟩ := r
  obtain ⟨y1, y2, y3, y4, y5, y6⟩ := s
  exact (Rule.mk.injEq ..).mpr ⟨e1, e2, e3, e4, e5, e6⟩
theorem kv_keys (r : Rule) : r.kv.map (·.1) = pn.map Sum.inr := rfl
section
variable {X : Cx}
def rEqBk (K : PySem.W.Frag) : R2 := fun x y H Q => ∃ (t1 t2 d1 d2 k1 k2 : Addr) (b1 b2 : Bk), x = .ref t1 ∧ y = .ref t2 ∧ SqT K H t1 [.int b1.people, .ref d1, .ref k1] ∧ SqT K H t2 [.int b2.people, .ref d2, .ref k2] ∧
  H d1 = some (.dK b1.r.kv) ∧ H d2 = some (.dK b2.r.kv) ∧ SqT K H k1 (b1.k.ws.map V.str) ∧ SqT K H k2 (b2.k.ws.map V.str) ∧ Q (.bl (decide (b1 = b2))) H
theorem op_eqBk (hu : X.A.units + 200 < cLine) : OpR X (compareOp .Eq) (rEqBk X.K) := by
  intro pins s σ H x y v u Q I rx ry h
  obtain ⟨t1, t2, d1, d2, k1, k2, b1, b2, rfl, rfl, h1, h2, e1, e2, s1, s2, q⟩ := h
  cases rx
  cases ry
  obtain ⟨i1, r1, T1, _⟩ := I.tuple h1
  obtain ⟨i2, r2, T2, _⟩ := I.tuple h2
  obtain ⟨z1, l1, vs1, kv1, D1⟩ := (show ObjOk X.prog X.w H s.heap d1 (.dK b1.r.kv) from I.hok d1 _ e1)
  obtain ⟨z2, l2, vs2, kv2, D2⟩ := (show ObjOk X.prog X.w H s.heap d2 (.dK b2.r.kv) from I.hok d2 _ e2)
  cases r1 with
  | @cons _ p1 _ _ rp1 r1 =>
  cases r1 with
  | @cons _ q1 _ _ rq1 r1 =>
  cases r1 with
  | @cons _ w1' _ _ rw1 r1 =>
  cases r1
  cases r2 with
  | @cons _ p2 _ _ rp2 r2 =>
  cases r2 with
  | @cons _ q2 _ _ rq2 r2 =>
  cases r2 with
  | @cons _ w2' _ _ rw2 r2 =>
  cases r2
  obtain ⟨tk1, rfl⟩ := rp1
  obtain ⟨tk2, rfl⟩ := rp2
  obtain rfl : q1 = Value.ref d1 := rq1
  obtain rfl : q2 = Value.ref d2 := rq2
  obtain rfl : w1' = Value.ref k1 := rw1
  obtain rfl : w2' = Value.ref k2 := rw2
  have f0 : PySem.W.EqTree X.prog X.w s 100 (.int b1.people tk1) (.int b2.people tk2) (b1.people == b2.people) := .leaf fun A _ => SeqAt.EqAt.int_int _ _ _ _
  have f2 : PySem.W.EqTree X.prog X.w s 100 (.ref k1) (.ref k2) (PyData.eqv (.tuple (b1.k.ws.map PyData.str)) (.tuple (b2.k.ws.map PyData.str))) := .leaf fun A hA => by
    obtain ⟨as, ra⟩ := Dp.reads I _ _ _ (.tup s1 (dp_strs _)) (show RelV (.ref k1) (.ref k1) from rfl)
    obtain ⟨bs, rb⟩ := Dp.reads I _ _ _ (.tup s2 (dp_strs _)) (show RelV (.ref k2) (.ref k2) from rfl)
    have g1 := shaped_strs b1.k.ws (ws_sub _)
    have g2 := shaped_strs b2.k.ws (ws_sub _)
    unfold SeqAt.shaped at g1 g2
    rw [Bool.and_eq_true] at g1 g2
    have d64 := of_decide_eq_true g1.2
    exact SeqAt.eqAt_reads _ _ A s _ _ as bs ra rb g1.1 g2.1 (by omega)
  have f1 : ∃ bb, PySem.W.EqTree X.prog X.w s 100 (.ref d1) (.ref d2) bb ∧ bb = decide (b1.r = b2.r) := by
    by_cases hd : d1 = d2
    · subst hd
      rw [e1] at e2
      have er : b1.r = b2.r := by
        have e3 := Option.some.inj e2
        injection e3 with e3
        exact rule_ext fun k _ => by rw [e3]
      exact ⟨true, .same, by rw [er]; simp⟩
    · refine ⟨_, .dicts (n := 99) (knd := mixKind X.prog X.w) (e := fun k => decide (valV b1.r.kv k = valV b2.r.kv k)) hd l1 l2 D1 D2 (fun k v y hm hy => ?_), ?_⟩
      · obtain ⟨i, hi⟩ := List.mem_iff_getElem?.mp hm
        have hl : vs1.length = b1.r.kv.length := (KV.length kv1).symm
        have hi1 : i < b1.r.kv.length := by rw [← hl]; exact (List.getElem?_eq_some_iff.mp hi).1
        obtain ⟨u, hu, ru⟩ := kv_get (k := (b1.r.kv[i]).1) (v := (b1.r.kv[i]).2) kv1 (List.getElem?_eq_getElem hi1)
        rw [hi] at hu
        have hu2 := Prod.mk.inj (Option.some.inj hu)
        obtain ⟨z1, z2⟩ := hu2
        have hmem : (k, (b1.r.kv[i]).2) ∈ b1.r.kv := by
          rw [z1]
          exact List.getElem_mem hi1
        have hkp : k ∈ pn.map Sum.inr := by
          rw [← kv_keys b1.r]
          exact List.mem_map.mpr ⟨_, hmem, rfl⟩
        obtain ⟨kk, hkk, rfl⟩ := List.mem_map.mp hkp
        obtain ⟨x, x', ex, ex'⟩ := val_kv _ _ _ hmem b2.r
        obtain ⟨x2, xx, ex2, ex2'⟩ := val_kv _ _ _ hmem b1.r
        have q1 := KV.val kv1 (Sum.inr kk : Key)
        have q2 := KV.val kv2 (Sum.inr kk : Key)
        rw [ex2', valueAt_of_mem (by rw [← KV.keys kv1, kv_keys]; decide +kernel) hm] at q1
        rw [ex', hy] at q2
        obtain ⟨ta, rfl⟩ := q1
        obtain ⟨tb, rfl⟩ := q2
        refine .leaf fun A _ => ?_
        have e := SeqAt.EqAt.str_str (A := A) (s := s) xx ta x' tb
        rw [ex2', ex']
        have e5 : decide (some (V.str xx) = some (V.str x')) = (xx == x') := by
          by_cases q : xx = x'
          · subst q; simp
          · have : (xx == x') = false := by simpa using q
            rw [this]
            exact decide_eq_false fun z => q (V.str.inj (Option.some.inj z))
        rw [e5]
        exact e
      · have hl : vs1.length = vs2.length := by rw [← KV.length kv1, ← KV.length kv2]; rfl
        rw [hl, BEq.rfl, Bool.true_and, Bool.eq_iff_iff, List.all_eq_true, decide_eq_true_iff]
        constructor
        · intro h
          refine rule_ext fun k hk => ?_
          have : (Sum.inr k : Key) ∈ vs1.map (·.1) := by
            rw [← KV.keys kv1, kv_keys]
            exact List.mem_map.mpr ⟨k, hk, rfl⟩
          obtain ⟨p, hp, ep⟩ := List.mem_map.mp this
          have := (Bool.and_eq_true_iff.mp (h p hp)).2
          rw [ep] at this
          exact of_decide_eq_true this
        · intro er p hp
          have hk : p.1 ∈ vs2.map (·.1) := by
            rw [← KV.keys kv2, kv_keys, ← kv_keys b1.r, KV.keys kv1]
            exact List.mem_map.mpr ⟨p, hp, rfl⟩
          obtain ⟨p2, hp2, ep2⟩ := List.mem_map.mp hk
          have nd : (vs2.map (·.1)).Nodup := by rw [← KV.keys kv2, kv_keys]; decide +kernel
          rw [er, valueAt_of_mem nd (show (p.1, p2.2) ∈ vs2 by rw [← ep2]; exact hp2)]
          simp
  obtain ⟨bb, f1, eb⟩ := f1
  refine PySem.W.eq_tuplesT (n := 100) (e := fun j => match j with | 0 => (b1.people == b2.people) | 1 => bb | _ => PyData.eqv (.tuple (b1.k.ws.map PyData.str)) (.tuple (b2.k.ws.map PyData.str))) T1 T2 (fun j g1 g2 => ?_) (by omega) ⟨.bl (decide (b1 = b2)), H, I, ?_, q⟩
  · match j, g1, g2 with
    | 0, _, _ => exact f0
    | 1, _, _ => exact f1
    | 2, _, _ => exact f2
    | j + 3, g, _ => exact absurd g (by simp)
  · show Value.bool _ = Value.bool _
    congr 1
    have e3 : PyData.eqv (.tuple (b1.k.ws.map PyData.str)) (.tuple (b2.k.ws.map PyData.str)) = decide (b1.k = b2.k) := by
      rw [PyData.eqv, eqv_strs]
      exact decide_eq_decide.mpr ws_inj
    have e1 : (b1.people == b2.people) = decide (b1.two = b2.two) := by
      unfold Bk.people
      cases b1.two <;> cases b2.two <;> rfl
    show (((b1.people == b2.people) && (bb && (PyData.eqv (.tuple (b1.k.ws.map PyData.str)) (.tuple (b2.k.ws.map PyData.str)) && true))) && true) = _
    rw [e1, e3, eb]
    obtain ⟨a1, a2, a3⟩ := b1
    obtain ⟨c1, c2, c3⟩ := b2
    simp only [Bk.mk.injEq, Bool.and_true, Bool.decide_and]
/-- == by the left one's own __eq__ -/
def rEqOwn (K : PySem.W.Frag) (C : Addr) (sp : Sp) : R2 := fun x y H Q => ∃ (a dx : Addr) (fs : List (Str × V)) (t : Value), x = .ref a ∧ H a = some (.ins C dx fs) ∧ TyX K H y t ∧ PySem.W.notFirst K C t = true ∧ sp [x, y] H (fun v H' => ∃ b, v = .bl b ∧ Q (.bl b) H') E0
theorem op_eqOwn {n : Nat} {C f : Addr} {fd : FuncData} {ps : List Str} {sp : Sp} {K : PySem.W.Frag} (F : FnOk X.prog X.w X.K X.mg X.base CX0 n f fd ps sp) (hr : Room n X.A) (hs : PySem.W.findIn X.K (.ref C) "__eq__" = some (some (.ref f))) (hf : PySem.W.isFn X.K (.ref f) = true)
    (hb : Binds X.K fd ps []) (hK : X.K = K := by rfl) : OpR X (compareOp .Eq) (rEqOwn K C sp) := by
  subst hK
  intro pins s σ H x y v u Q I rx ry h
  obtain ⟨a, dx, fs, t, rfl, ha, ty, nf, hsp⟩ := h
  cases rx
  obtain ⟨mA, J, _⟩ := ins_get I.hok ha
  obtain ⟨od, J, _⟩ := J.look
  obtain ⟨m, hF⟩ := I.fr
  obtain ⟨Pk, kx, hp, _⟩ := kit_of I ry ty
  show wpAny (model X.prog X.w) X.A (richCompare .Eq (.ref a) u) (EP X pins σ Q) X.xe s
  refine PySem.W.cmp_K (op := .Eq) (tb := t) hr.units0 hF I.ok.mod.kin J (kx.ty _ _ I.kIn hp) nf hs hf ?_
  have hl := F.len _ _ _ _ hsp
  refine wpAny_call (codeAny_mono (F.run X.A X.stack s H ⟨[.ref a, u], []⟩ [.ref a, u] [.ref a, y] _ E0 hr I.env0 (by
    have := hb s [.ref a, u] I.kIn (by simpa using hl)
    simpa using this) (.cons rfl (.cons ry .nil)) hsp) fun r s' hq => ?_)
  cases r with
  | error e => exact False.elim hq
  | ok fl =>
    cases fl with
    | ret w' =>
      obtain ⟨z, H', I', rz, b, ez, q⟩ := I.after hq
      subst ez
      cases rz
      exact ⟨.bl b, H', I', rfl, q⟩
    | next => exact False.elim hq
    | brk => exact False.elim hq
    | cont => exact False.elim hq
end
end SD
/-! drawn choices -/
namespace SD
open PySem L2
def pickB {α : Type} (ws : List α) (bs : List Bool) : List α := (ws.zip bs).filterMap fun p => bif p.2 then some p.1 else none
theorem pickB_snoc {α : Type} {w : α} {b : Bool} : ∀ {ws : List α} {bs : List Bool}, ws[bs.length]? = some w → pickB ws (bs ++ [b]) = pickB ws bs ++ (bif b then [w] else [])
  | [], _, h => by cases h
  | x :: ws, [], h => by
    obtain rfl : x = w := Option.some.inj h
    cases b <;> cases ws <;> rfl
  | x :: ws, c :: bs, h => by
    have ih := pickB_snoc (b := b) (ws := ws) (bs := bs) h
    cases c
    · exact ih
    · exact congrArg (x :: ·) ih
theorem pickB_len {α : Type} : ∀ (ws : List α) (bs : List Bool), (pickB ws bs).length ≤ bs.length
  | [], _ => Nat.zero_le _
  | _ :: _, [] => Nat.zero_le _
  | x :: ws, c :: bs => by
    have ih := pickB_len ws bs
    cases c
    · exact Nat.le_succ_of_le ih
    · exact Nat.succ_le_succ ih
theorem pickB_ws {bs : List Bool} (h : bs.length = 5) : ∃ k : Kinds, pickB allW bs = k.ws := by
  match bs, h with
  | [a, b, c, d, e], _ => exact ⟨⟨a, b, c, d, e⟩, by cases a <;> cases b <;> cases c <;> cases d <;> cases e <;> rfl⟩
def cIsi (x : Str) : Chk := fun K => He.eqO (PySem.W.findIn K (.ref (He.ga K x)) "__class__") (some (some (.builtin "object.__class__"))) && (He.eqO (PySem.W.specialIn K (.builtin "object.__class__") "__get__") (some (some (.builtin "getset_descriptor.__get__"))) &&
  (decide (PySem.W.takesIn K (.builtin "object.__class__") = some true) && decide (PySem.W.mroIn K (He.ga K x) (.type "object") = some true)))
theorem dp_strT {K : PySem.W.Frag} {v : V} {ws : List Str} (h : ∀ H, Dp K H v (.tuple (ws.map PyData.str))) : ∃ a, v = .ref a ∧ ∀ H, SqT K H a (ws.map V.str) := by
  have go : ∀ (ws : List Str) (xs : List V) (H : Hp), DpAll K H xs (ws.map PyData.str) → xs = ws.map V.str := by
    intro ws
    induction ws with
    | nil => intro xs H h; cases h; rfl
    | cons w r ih =>
      intro xs H h
      cases h with
      | cons h1 h2 =>
        cases h1
        rw [ih _ H h2]
        rfl
  obtain ⟨a, rfl⟩ : ∃ a, v = .ref a := by
    cases h (fun _ => none) with
    | tup _ _ => exact ⟨_, rfl⟩
  refine ⟨a, rfl, fun H => ?_⟩
  cases h H with
  | tup hs ha =>
    rw [← go _ _ H ha]
    exact hs
theorem Dr.ats {H : Hp} {p c : Addr} (d : Dr H p c) : (∃ o, H p = some o) ∧ ∃ o, H c = some o := by
  obtain ⟨_, _, _, d⟩ := d
  exact ⟨⟨_, d.hp⟩, ⟨_, d.hc⟩⟩
/-- what is new stands apart from the source of draws -/
theorem Dr.new {H : Hp} {p c q : Addr} (d : Dr H p c) (h : H q = none) : q ≠ p ∧ q ≠ c := by
  obtain ⟨⟨_, hp⟩, ⟨_, hc⟩⟩ := d.ats
  exact ⟨(ne_of_none hp h).symm, (ne_of_none hc h).symm⟩
theorem Dr.keep {H H' : Hp} {p c q : Addr} {o : HO} (d : Dr H p c) (f : Fr2 p c H H') (h : H q = some o) (n : ∀ xs, o ≠ .lst xs) : H' q = some o := by
  obtain ⟨_, _, _, d⟩ := d
  have a := d.apart h ⟨n _, n _⟩
  exact f _ _ a.1 a.2 h
theorem Dr.one {H : Hp} {p c q : Addr} {o : HO} (d : Dr H p c) (n : q ≠ p ∧ q ≠ c) : Dr (upd H q o) p c := by
  obtain ⟨st, ix, cs, d⟩ := d
  exact ⟨st, ix, cs, by rw [upd_ne n.1.symm]; exact d.hp, by rw [upd_ne n.2.symm]; exact d.hc, d.s1, d.s2, d.i0, d.len⟩
end SD
namespace SD
open PySem L2
def top (i : Nat) : Stmt := PySem.Challenge.pw_showndrafts_k13_whole_texts.main.body.getD i (.Pass ⟨0, 0, 0, 0⟩)
abbrev sMix : Stmt := top 22
abbrev sNext : Stmt := top 23
abbrev sPick : Stmt := top 24
section
variable {P : Program} {w : World} {K : PySem.W.Frag} {mg : Str → Option Value} {base : Heap}
theorem scMix : FnScope ["_law_script", "_law_seed", "_law_state", "_law_cell"] ["_law_script", "_law_seed"] (defScope sMix) := ⟨rfl, rfl, rfl, by decide +kernel, rfl, by decide +kernel, by decide +kernel⟩
theorem ok_mix {f : Addr} {fd : FuncData} (F : Fun K "_law_mix" "_law_mix" sMix f fd) (mInt : mg "int" = none) (mList : mg "list" = none) : FnOk P w K mg base CX0 1 f fd ["_law_script", "_law_seed"] (spMix K) := by
  refine F.ok scMix (fun vs H Q E h => ?_) (fun cdv A outer s H vs Q E hr h => ?_)
  · obtain ⟨a, z, ns, rfl, _⟩ := h
    rfl
  · obtain ⟨a, z, ns, rfl, hS, h0, h1, hl, k⟩ := h
    refine ⟨_, pss_cons (ps_set (i := 2) scMix.nd rfl (.inl rfl) (pv 1))
      (pss_cons (ps_for PassesOwn.never rfl (pi_list (pv 0)) (pg_name (i := 3) scMix.nd rfl (.inl rfl))
        (pss_one (ps_set (i := 2) scMix.nd rfl (.inl rfl) (pe_op op_mod (pe_callTy call_int1 (by rfl) mInt bo_int (pa_cons (pe_op op_add (pe_op op_add (pe_op op_mul (pv 2) pe_int) (pe_op op_mod (pe_callTy call_int1 (by rfl) mInt bo_int (pa_cons (pv 3) pa_nil)) pe_int)) pe_int) pa_nil)) pe_int))))
      (pss_one (ps_ret (pe_lst (pa_cons (pv 2) (pa_cons (pe_callTy call_list_of (by rfl) mList bo_list (pa_cons (pv 0) pa_nil)) (pa_cons pe_int pa_nil))))))), ?_⟩
    refine ⟨_, rfl, ?_⟩
    refine ⟨_, rfl, a, rfl, ⟨_, hS⟩, for_list (K := K) (a := a) (xs := ns.map V.int) (fun i σ H' => ∃ (st : Int) (v : Option V), σ = [some (.ref a), some (.int z), some (.int st), v] ∧ H' = H ∧ 0 ≤ st ∧ st < 2147483647)
      ⟨z, none, rfl, rfl, h0, h1⟩ (fun i σ H' _ ⟨_, _, _, e, _⟩ => by rw [e]; exact hS) ?_ ?_⟩
    · rintro i y σ H' hi ⟨st, v, rfl, rfl, b0, b1⟩
      obtain ⟨n, rfl⟩ : ∃ n, y = V.int n := by
        rw [List.getElem?_map] at hi
        cases e : ns[i]? with
        | none => rw [e] at hi; cases hi
        | some n => rw [e] at hi; exact ⟨n, (Option.some.inj hi).symm⟩
      refine ⟨_, rfl, _, _, rfl, rfl, .inr ⟨by decide, by decide⟩, ?_⟩
      refine ⟨_, rfl, .inl ⟨_, rfl, ?_⟩⟩
      refine ⟨_, _, rfl, rfl, (by show (0 : Int) < 2147483629; decide), ?_⟩
      refine ⟨_, _, rfl, rfl, ?_⟩
      refine ⟨_, _, rfl, rfl, ?_⟩
      refine .inl ⟨_, rfl, ?_⟩
      refine ⟨_, _, rfl, rfl, (by show (0 : Int) < 2147483647; decide), ?_⟩
      refine ⟨_, _, rfl, rfl, Int.emod_nonneg _ (by decide), Int.emod_lt_of_pos _ (by decide)⟩
    · rintro σ H' ⟨st, v, rfl, rfl, b0, b1⟩
      refine ⟨_, rfl, _, rfl, a, _, rfl, .inl hS, fun c hc => ?_⟩
      refine ⟨(by show 3 ≤ sizeLine; decide), fun p hp => ?_⟩
      have s1 : Same H' (upd H' c (.lst (ns.map V.int))) := Same.upd hc
      have hcp : c ≠ p := ne_of_none upd_same hp
      refine k p c _ (Same.upd' s1 hp) (Same.free s1 hp) hc ⟨st, 0, ns, upd_same, by rw [upd_ne hcp]; exact upd_same, b0, b1, by decide, hl⟩
theorem scNext : FnScope ["_law_h", "_law_cap", "_law_cell"] ["_law_h", "_law_cap"] (defScope sNext) := ⟨rfl, rfl, rfl, by decide +kernel, rfl, by decide +kernel, by decide +kernel⟩
theorem ok_next {f : Addr} {fd : FuncData} (F : Fun K "_law_next" "_law_next" sNext f fd) (mInt : mg "int" = none) (mLen : mg "len" = none) (mMax : mg "max" = none) : FnOk P w K mg base CX0 1 f fd ["_law_h", "_law_cap"] spNext := by
  refine F.ok scNext (fun vs H Q E h => ?_) (fun cdv A outer s H vs Q E hr h => ?_)
  · obtain ⟨p, c, cap, rfl, _⟩ := h
    rfl
  · obtain ⟨p, c, cap, rfl, ⟨st, ix, cs, d⟩, c1, c2, k⟩ := h
    refine ⟨_, pss_cons (ps_set (i := 2) scNext.nd rfl (.inl rfl) (pe_ix ix_list (pe_op op_cat (pe_ix ix_list (pv 0) pe_int (fun _ _ => rfl)) (pe_lst (pa_cons pe_int pa_nil)))
          (pe_op op_mod (pe_callTy call_int1 (by rfl) mInt bo_int (pa_cons (pe_ix ix_list (pv 0) pe_int (fun _ _ => rfl)) pa_nil))
            (pe_callB (call_max2 rfl) (by rfl) mMax bo_max (pa_cons pe_int (pa_cons (pe_callB call_len_seq (by rfl) mLen bo_len (pa_cons (pe_ix ix_list (pv 0) pe_int (fun _ _ => rfl)) pa_nil)) pa_nil)))) (fun _ _ => rfl)))
      (pss_cons (ps_if (pt_cmpR op_ge (pv 2) (pe_op op_pow pe_int pe_int) (nomark _))
        (pss_cons (ps_asg (pe_op op_fdiv (pv 2) (pv 1)) (pg_sub (pe_ix ix_list (pv 0) pe_int (fun _ _ => rfl)) (pe_op op_mod (pe_callTy call_int1 (by rfl) mInt bo_int (pa_cons (pe_ix ix_list (pv 0) pe_int (fun _ _ => rfl)) pa_nil)) (pe_callB call_len_seq (by rfl) mLen bo_len (pa_cons (pe_ix ix_list (pv 0) pe_int (fun _ _ => rfl)) pa_nil))) set_list))
          (pss_one (ps_ret (pe_op op_mod (pe_callTy call_int1 (by rfl) mInt bo_int (pa_cons (pv 2) pa_nil)) (pv 1)))))
        pss_nil)
      (pss_cons (ps_asg (pe_op op_mod (pe_callTy call_int1 (by rfl) mInt bo_int (pa_cons (pe_op op_add (pe_op op_add (pe_op op_mul (pe_ix ix_list (pv 0) pe_int (fun _ _ => rfl)) pe_int) (pe_op op_mul (pv 2) pe_int)) pe_int) pa_nil)) pe_int) (pg_sub (pv 0) pe_int set_list))
      (pss_cons (ps_asg (pe_op op_add (pe_ix ix_list (pv 0) pe_int (fun _ _ => rfl)) pe_int) (pg_sub (pv 0) pe_int set_list))
      (pss_one (ps_ret (pe_op op_mod (pe_callTy call_int1 (by rfl) mInt bo_int (pa_cons (pe_op op_fdiv (pe_ix ix_list (pv 0) pe_int (fun _ _ => rfl)) pe_int) pa_nil)) (pv 1))))))), ?_⟩
    obtain ⟨z, hz, hz0⟩ := at_cell (cs := cs) d.i0
    -- _law_cell
    refine ⟨_, rfl, p, _, _, _, rfl, rfl, SqL.of d.hp, rfl, ?_⟩
    refine ⟨(by show 1 ≤ sizeLine; decide), fun q hq => ?_⟩
    have s1 := Same.upd (o := HO.lst [V.int 0]) hq
    have d1 := d.same s1
    refine ⟨_, _, _, _, rfl, rfl, d1.hc, upd_same, (by rw [List.length_map]; have := d.len; rw [sizeLine_eq]; show cs.length + 1 ≤ _; omega), fun q2 hq2 => ?_⟩
    have s2 := Same.upd' (s := s1) (o := HO.lst (cs.map V.int ++ [V.int 0])) hq2
    have d2 := d.same s2
    refine ⟨_, rfl, p, _, _, _, rfl, rfl, SqL.of d2.hp, rfl, ?_⟩
    refine .inl ⟨_, rfl, ?_⟩
    refine ⟨_, rfl, p, _, _, _, rfl, rfl, SqL.of d2.hp, rfl, ?_⟩
    refine ⟨_, _, rfl, .inl (SqL.of d2.hc), ?_⟩
    refine ⟨_, _, rfl, ?_⟩
    refine ⟨_, _, rfl, rfl, (by show (0 : Int) < (if _ then _ else _); split <;> omega), ?_⟩
    refine ⟨q2, _, _, _, rfl, rfl, SqL.of upd_same, hz, ?_⟩
    -- if _law_cell >= 10 ** 18
    refine ⟨_, rfl, _, _, rfl, rfl, ⟨by decide, by decide, by decide⟩, ?_⟩
    refine ⟨_, _, rfl, rfl, _, rfl, ?_⟩
    have fr2 : Fr2 p c H _ := Fr2.of s2
    refine ite2 (fun hz1 => ?_) (fun _ => ?_)
    · have hz1 : (10 : Int) ^ 18 ≤ z := of_decide_eq_true hz1
      have hn : 0 < cs.length := by
        refine List.length_pos_iff.mpr fun e => ?_
        rw [hz0 e] at hz1
        exact absurd hz1 (by decide)
      obtain ⟨j, hj, hjl⟩ := ix_cell (n := cs.length) hn d.i0
      refine ⟨_, rfl, _, rfl, _, _, rfl, rfl, ⟨by omega, by omega⟩, ?_⟩
      refine ⟨_, rfl, p, _, _, _, rfl, rfl, SqL.of d2.hp, rfl, ?_⟩
      refine ⟨_, rfl, p, _, _, _, rfl, rfl, SqL.of d2.hp, rfl, ?_⟩
      refine .inl ⟨_, rfl, ?_⟩
      refine ⟨_, rfl, p, _, _, _, rfl, rfl, SqL.of d2.hp, rfl, ?_⟩
      refine ⟨_, _, rfl, .inl (SqL.of d2.hc), ?_⟩
      refine ⟨_, _, rfl, rfl, (by rw [List.length_map]; show (0 : Int) < _; omega), ?_⟩
      refine ⟨c, _, _, j, rfl, rfl, d2.hc, (by rw [List.length_map]; exact hj), ?_⟩
      refine ⟨_, rfl, .inl ⟨_, rfl, ?_⟩⟩
      refine ⟨_, rfl, _, _, rfl, rfl, (by show (0 : Int) < _; omega), ?_⟩
      refine k _ _ (Int.emod_nonneg _ (by omega)) (Int.emod_lt_of_pos _ (by omega)) ⟨st, ix, cs.set j (z / cap), ?_, ?_, d.s1, d.s2, d.i0, ?_⟩ fr2.updc
      · rw [upd_ne d.ne]; exact d2.hp
      · rw [upd_same, set_int]
      · rw [List.length_set]; exact d.len
    · -- _law_h[0] = ..
      refine ⟨_, rfl, p, _, _, _, rfl, rfl, SqL.of d2.hp, rfl, ?_⟩
      refine ⟨_, _, rfl, rfl, .inr ⟨by decide, by decide⟩, ?_⟩
      refine ⟨_, rfl, _, _, rfl, rfl, .inr ⟨by decide, by decide⟩, ?_⟩
      refine ⟨_, _, rfl, rfl, ?_⟩
      refine ⟨_, _, rfl, rfl, ?_⟩
      refine .inl ⟨_, rfl, ?_⟩
      refine ⟨_, _, rfl, rfl, (by show (0 : Int) < 2147483647; decide), ?_⟩
      refine ⟨_, rfl, p, _, _, 0, rfl, rfl, d2.hp, rfl, ?_⟩
      -- _law_h[2] = ..
      refine ⟨_, rfl, p, _, _, _, rfl, rfl, SqL.of upd_same, rfl, ?_⟩
      refine ⟨_, _, rfl, rfl, ?_⟩
      refine ⟨_, rfl, p, _, _, 2, rfl, rfl, upd_same, rfl, ?_⟩
      refine ⟨_, rfl, p, _, _, _, rfl, rfl, SqL.of upd_same, rfl, ?_⟩
      refine ⟨_, _, rfl, rfl, ⟨by decide, by decide⟩, ?_⟩
      refine .inl ⟨_, rfl, ?_⟩
      refine ⟨_, rfl, _, _, rfl, rfl, (by show (0 : Int) < _; omega), ?_⟩
      refine k _ _ (Int.emod_nonneg _ (by omega)) (Int.emod_lt_of_pos _ (by omega)) ⟨_, ix + 1, cs, upd_same, ?_, Int.emod_nonneg _ (by decide), Int.emod_lt_of_pos _ (by decide), by have := d.i0; omega, d.len⟩ fr2.updp.updp
      rw [upd_ne d.ne.symm, upd_ne d.ne.symm]; exact d2.hc
theorem scPick : FnScope ["_law_h", "_law_things"] ["_law_h", "_law_things"] (defScope sPick) := ⟨rfl, rfl, rfl, by decide +kernel, rfl, by decide +kernel, by decide +kernel⟩
theorem ok_pick {f fN : Addr} {fd fdN : FuncData} (F : Fun K "_law_pick" "_law_pick" sPick f fd) (mLen : mg "len" = none)
    (GN : FnOk P w K mg base CX0 1 fN fdN ["_law_h", "_law_cap"] spNext) (mN : mg "_law_next" = some (.ref fN)) (kN : PySem.W.keepIn K (.ref fN) = true) (bN : Binds K fdN ["_law_h", "_law_cap"] []) :
    FnOk P w K mg base CX0 2 f fd ["_law_h", "_law_things"] (spPick K) := by
  refine F.ok scPick (fun vs H Q E h => ?_) (fun cdv A outer s H vs Q E hr h => ?_)
  · obtain ⟨p, c, a, xs, rfl, _⟩ := h
    rfl
  · obtain ⟨p, c, a, xs, rfl, d, hx, hne, hl, ap, ac, k⟩ := h
    have hpos : 0 < xs.length := List.length_pos_iff.mpr hne
    refine ⟨_, pss_one (ps_ret (pe_ix (ix_list.or ix_tup) (pv 1) (pe_call GN hr rfl mN kN bN .nil pass0 (pa_cons (pv 0) (pa_cons (pe_callB call_len_seq (by rfl) mLen bo_len (pa_cons (pv 1) pa_nil)) pa_nil))) (fun _ _ => rfl))), ?_⟩
    refine ⟨_, rfl, _, rfl, _, rfl, _, _, rfl, hx, ?_⟩
    refine ⟨p, c, _, rfl, d, by omega, by omega, fun r H' r0 r1 d' fr => ?_⟩
    obtain ⟨j, rfl⟩ := Int.eq_ofNat_of_zero_le r0
    have hj : j < xs.length := by omega
    have hv : xs[j]? = some xs[j] := by simp [hj]
    rcases hx with hx | hx
    · refine .inl ⟨_, _, _, _, rfl, rfl, ?_, atI_nat hv, k j _ H' hv d' fr⟩
      rcases hx with (hx | ⟨o, hx⟩) | hx
      · exact .inl (.inl (fr _ _ ap ac hx))
      · exact .inl (.inr ⟨o, fr _ _ ap ac hx⟩)
      · exact .inr hx
    · refine .inr ⟨_, _, _, _, rfl, rfl, ?_, atI_nat hv, k j _ H' hv d' fr⟩
      rcases hx with (hx | ⟨o, hx⟩) | hx
      · exact .inl (.inl (fr _ _ ap ac hx))
      · exact .inl (.inr ⟨o, fr _ _ ap ac hx⟩)
      · exact .inr hx
abbrev sParts : Stmt := top 25
theorem scParts : FnScope ["_law_found"] [] (defScope sParts) := ⟨rfl, rfl, rfl, by decide +kernel, rfl, by decide +kernel, by decide +kernel⟩
theorem ok_parts {f : Addr} {fd : FuncData} (F : Fun K "_law_parts" "_law_parts" sParts f fd) : FnOk P w K mg base CX0 1 f fd [] spParts := by
  refine F.ok scParts (fun vs H Q E h => ?_) (fun cdv A outer s H vs Q E hr h => ?_)
  · obtain ⟨rfl, _⟩ := h
    rfl
  · obtain ⟨rfl, k⟩ := h
    refine ⟨_, pss_cons (ps_set (i := 0) scParts.nd rfl (.inl rfl) (pe_lst (pa_cons (pe_lst (pa_cons pe_str (pa_cons pe_str (pa_cons pe_str pa_nil)))) (pa_cons (pe_lst (pa_cons pe_str (pa_cons pe_str (pa_cons pe_str pa_nil)))) (pa_cons (pe_lst (pa_cons pe_str (pa_cons pe_str (pa_cons pe_str pa_nil)))) pa_nil)))))
      (pss_one (ps_ret (pe_op op_cat (pv 0) (pe_lst (pa_cons (pe_lst (pa_cons pe_str (pa_cons pe_str (pa_cons pe_str pa_nil)))) (pa_cons (pe_lst (pa_cons pe_str (pa_cons pe_str (pa_cons pe_str pa_nil)))) (pa_cons (pe_lst (pa_cons pe_str (pa_cons pe_str (pa_cons pe_str pa_nil)))) pa_nil))))))), ?_⟩
    have z3 : 3 ≤ sizeLine := by rw [sizeLine_eq]; decide
    refine ⟨z3, fun q0 n0 => ⟨z3, fun q1 n1 => ⟨z3, fun q2 n2 => ⟨z3, fun l n3 => ?_⟩⟩⟩⟩
    refine ⟨_, rfl, z3, fun q3 n4 => ⟨z3, fun q4 n5 => ⟨z3, fun q5 n6 => ⟨z3, fun l2 n7 => ?_⟩⟩⟩⟩
    have a7 := Same.upd (o := HO.lst [V.ref q3, V.ref q4, V.ref q5]) n7
    have a6 := (Same.upd (o := HO.lst (prow 5)) n6).trans a7
    have a5 := (Same.upd (o := HO.lst (prow 4)) n5).trans a6
    have a4 := (Same.upd (o := HO.lst (prow 3)) n4).trans a5
    have a3 := (Same.upd (o := HO.lst [V.ref q0, V.ref q1, V.ref q2]) n3).trans a4
    have a2 := (Same.upd (o := HO.lst (prow 2)) n2).trans a3
    have a1 := (Same.upd (o := HO.lst (prow 1)) n1).trans a2
    have a0 := (Same.upd (o := HO.lst (prow 0)) n0).trans a1
    refine ⟨l, l2, _, _, rfl, rfl, a4 _ _ upd_same, upd_same, (by show 6 ≤ sizeLine; rw [sizeLine_eq]; decide), fun p np => ?_⟩
    have b := Same.upd (o := HO.lst [V.ref q0, V.ref q1, V.ref q2, V.ref q3, V.ref q4, V.ref q5]) np
    exact k p _ (a0.trans b) (Same.free a0 np) ⟨q0, q1, q2, q3, q4, q5, upd_same, b _ _ (a1 _ _ upd_same), b _ _ (a2 _ _ upd_same), b _ _ (a3 _ _ upd_same), b _ _ (a5 _ _ upd_same), b _ _ (a6 _ _ upd_same), b _ _ (a7 _ _ upd_same)⟩
abbrev sRule : Stmt := top 26
theorem scRule : FnScope ["_law_h", "_law_rule_here", "_law_row"] ["_law_h"] (defScope sRule) := ⟨rfl, rfl, rfl, by decide +kernel, rfl, by decide +kernel, by decide +kernel⟩
theorem ok_rule {f fP fQ : Addr} {fd fdP fdQ : FuncData} (F : Fun K "_law_rule" "_law_rule" sRule f fd)
    (GP : FnOk P w K mg base CX0 2 fP fdP ["_law_h", "_law_things"] (spPick K)) (mP : mg "_law_pick" = some (.ref fP)) (kP : PySem.W.keepIn K (.ref fP) = true) (bP : Binds K fdP ["_law_h", "_law_things"] [])
    (GQ : FnOk P w K mg base CX0 1 fQ fdQ [] spParts) (mQ : mg "_law_parts" = some (.ref fQ)) (kQ : PySem.W.keepIn K (.ref fQ) = true) (bQ : Binds K fdQ [] []) :
    FnOk P w K mg base CX0 3 f fd ["_law_h"] spRule := by
  refine F.ok scRule (fun vs H Q E h => ?_) (fun cdv A outer s H vs Q E hr h => ?_)
  · obtain ⟨p, c, rfl, _⟩ := h
    rfl
  · obtain ⟨p, c, rfl, dr, k⟩ := h
    have hu := hu_of hr
    refine ⟨_, pss_cons (ps_set (i := 1) scRule.nd rfl (.inl rfl) pe_dnewK)
      (pss_cons (ps_for PassesOwn.never rfl (pi_list (pe_call0 GQ (hr.mono (by decide)) rfl mQ kQ bQ .nil pass0)) (pg_name (i := 2) scRule.nd rfl (.inl rfl))
        (pss_one (ps_dput hu (pv 1) (pe_ix ix_list (pv 2) pe_int (fun _ _ => rfl)) (pe_call GP hr rfl mP kP bP .nil pass0 (pa_cons (pv 0) (pa_cons (pe_slice sl_list (pv 2) (po_some pe_int) po_none) pa_nil))) rfl)))
      (pss_one (ps_ret (pv 1)))), ?_⟩
    intro d hd
    have s0 := Same.upd (o := HO.dK []) hd
    refine ⟨rfl, fun l H1 s1 nl pa => ?_⟩
    obtain ⟨q0, q1, q2, q3, q4, q5, hl, e0, e1, e2, e3, e4, e5⟩ := id pa
    have d1 := dr.same (s0.trans s1)
    have hd1 : H1 d = some (.dK (kvN [])) := s1 _ _ upd_same
    have f1 : Fr2 p c H H1 := Fr2.of (s0.trans s1)
    refine ⟨l, rfl, ⟨_, SqL.of hl⟩, for_list (K := K) (a := l) (xs := [.ref q0, .ref q1, .ref q2, .ref q3, .ref q4, .ref q5]) (fun i σ H' => ∃ (ws : List Str) (v : Option V), σ = [some (.ref p), some (.ref d), v] ∧ ws.length = i ∧
        (∀ j w, ws[j]? = some w → w = w0.getD j "" ∨ w = w1.getD j "") ∧ H' d = some (.dK (kvN ws)) ∧ Dr H' p c ∧ Fr2 p c H H' ∧ PartsAt H' l ∧ H' l = some (.lst [.ref q0, .ref q1, .ref q2, .ref q3, .ref q4, .ref q5]) ∧
        ∀ j q, ([q0, q1, q2, q3, q4, q5] : List Addr)[j]? = some q → H' q = some (.lst (prow j)))
      ⟨[], none, rfl, rfl, (fun j w h => by simp at h), hd1, d1, f1, pa, hl, ?_⟩ (fun i σ H' _ ⟨_, _, _, _, _, _, _, _, _, h, _⟩ => SqL.of h) ?_ ?_⟩
    · intro j q hj
      match j, hj with
      | 0, hj => cases hj; exact e0
      | 1, hj => cases hj; exact e1
      | 2, hj => cases hj; exact e2
      | 3, hj => cases hj; exact e3
      | 4, hj => cases hj; exact e4
      | 5, hj => cases hj; exact e5
      | _ + 6, hj => simp at hj
    · rintro i y σ H' hi ⟨ws, v, rfl, hw, hc, hD, dD, fr, pp, hL, hq⟩
      obtain ⟨q, hqi, rfl⟩ : ∃ q, ([q0, q1, q2, q3, q4, q5] : List Addr)[i]? = some q ∧ y = .ref q := by
        match i, hi with
        | 0, hj => cases hj; exact ⟨_, rfl, rfl⟩
        | 1, hj => cases hj; exact ⟨_, rfl, rfl⟩
        | 2, hj => cases hj; exact ⟨_, rfl, rfl⟩
        | 3, hj => cases hj; exact ⟨_, rfl, rfl⟩
        | 4, hj => cases hj; exact ⟨_, rfl, rfl⟩
        | 5, hj => cases hj; exact ⟨_, rfl, rfl⟩
        | _ + 6, hj => simp at hj
      have hqr := hq i q hqi
      have hi6 : i < 6 := (List.getElem?_eq_some_iff.mp hqi).1
      have hpk : pn[ws.length]? = some (pn.getD i "") := by
        rw [hw]
        match i, hi6 with
        | 0, _ => rfl
        | 1, _ => rfl
        | 2, _ => rfl
        | 3, _ => rfl
        | 4, _ => rfl
        | 5, _ => rfl
      -- the value: a word drawn of the row's second and third
      refine ⟨_, rfl, _, rfl, _, rfl, q, _, rfl, SqL.of hqr, fun z nz => ?_⟩
      have sz := Same.upd (o := HO.lst (cutV (prow i) (some 1) none)) nz
      have dz := dD.same sz
      obtain ⟨st, ix, cs, dS⟩ := id dz
      have zap := dS.apart (b := z) upd_same (by constructor <;> (intro e; injection e with e; first | cases e | (cases cs <;> cases e)))
      refine ⟨p, c, z, _, rfl, dz, .inl (SqL.of upd_same), (by intro e; cases e), (by show 2 < 1000; decide), zap.1, zap.2, fun j w H2 hj d2 fr2 => ?_⟩
      have hwj : ∃ w', w = V.str w' ∧ (w' = w0.getD i "" ∨ w' = w1.getD i "") := by
        have hj' : ([V.str (w0.getD i ""), V.str (w1.getD i "")] : List V)[j]? = some w := hj
        match j, hj' with
        | 0, hj => cases hj; exact ⟨_, rfl, .inl rfl⟩
        | 1, hj => cases hj; exact ⟨_, rfl, .inr rfl⟩
        | _ + 2, hj => simp at hj
      obtain ⟨w', rfl, hw'⟩ := hwj
      have go : ∀ {b : Addr} {o : HO}, H' b = some o → (o ≠ .lst [.int st, .ref c, .int ix] ∧ o ≠ .lst (cs.map V.int)) → H2 b = some o := fun h n => fr2 _ _ (dS.apart (sz _ _ h) n).1 (dS.apart (sz _ _ h) n).2 (sz _ _ h)
      have hD2 := go hD dK_ne
      have hq2 := go hqr prow_ne
      have ek : prow i = V.str (pn.getD i "") :: [V.str (w0.getD i ""), V.str (w1.getD i "")] := rfl
      refine ⟨_, rfl, _, rfl, q, _, _, _, rfl, rfl, SqL.of hq2, rfl, d, _, rfl, DPut.k (k := Sum.inr (pn.getD i "")) hD2 ?_, ?_⟩
      · refine small1000 ?_
        have : (kvN ws).length ≤ 6 := by
          unfold kvN
          rw [List.length_zipWith]
          exact Nat.min_le_left _ _
        omega
      have ne : ∀ {b : Addr} {o : HO}, H2 b = some o → (∀ kvs, o ≠ .dK kvs) → upd H2 d (.dK (putK (kvN ws) (Sum.inr (pn.getD i "")) (V.str w'))) b = some o := fun h n => by
        rw [upd_ne (ne_of h hD2 (n _))]; exact h
      obtain ⟨st2, ix2, cs2, dS2⟩ := id d2
      refine ⟨ws ++ [w'], _, rfl, by rw [List.length_append, hw]; rfl, fun j' w2 h2 => ?_, ?_, ⟨st2, ix2, cs2, ne dS2.hp (by intro kvs e; cases e), ne dS2.hc (by intro kvs e; cases e), dS2.s1, dS2.s2, dS2.i0, dS2.len⟩, ?_, ?_, ?_, ?_⟩
      · rcases Nat.lt_or_ge j' ws.length with hlt | hge
        · rw [List.getElem?_append_left hlt] at h2
          exact hc j' w2 h2
        · rw [List.getElem?_append_right hge] at h2
          have e0 : j' - ws.length = 0 := by
            have := (List.getElem?_eq_some_iff.mp h2).1
            simp at this
            omega
          rw [e0] at h2
          obtain rfl := Option.some.inj h2
          have e1 : j' = i := by omega
          rw [e1]
          exact hw'
      · rw [upd_same, kvN_snoc hpk, putK_new _ (kvN_new hpk)]
      · intro b o h1 h2 h
        have nb : b ≠ d := ne_of_none h hd
        rw [upd_ne nb]
        exact fr2 _ _ h1 h2 (sz _ _ (fr _ _ h1 h2 h))
      · have p2 : PartsAt H2 l := (pp.same sz).fr dz fr2
        obtain ⟨r0, r1, r2, r3, r4, r5, g, g0, g1, g2, g3, g4, g5⟩ := p2
        exact ⟨r0, r1, r2, r3, r4, r5, ne g (by intro kvs e; cases e), ne g0 (by intro kvs e; cases e), ne g1 (by intro kvs e; cases e), ne g2 (by intro kvs e; cases e), ne g3 (by intro kvs e; cases e), ne g4 (by intro kvs e; cases e), ne g5 (by intro kvs e; cases e)⟩
      · exact ne (go hL refs_ne) (by intro kvs e; cases e)
      · exact fun j' q' h' => ne (go (hq j' q' h') prow_ne) (by intro kvs e; cases e)
    · rintro σ H' ⟨ws, v, rfl, hw, hc, hD, dD, fr, pp, hL, hq⟩
      match ws, hw with
      | [a0, a1, a2, a3, a4, a5], _ =>
        have pick : ∀ (j : Nat) (w : Str), ([a0, a1, a2, a3, a4, a5] : List Str)[j]? = some w → ∃ b : Bool, w = bif b then w1.getD j "" else w0.getD j "" := fun j w h => by
          rcases hc j w h with e | e
          · exact ⟨false, e⟩
          · exact ⟨true, e⟩
        obtain ⟨b0, rfl⟩ := pick 0 a0 rfl
        obtain ⟨b1, rfl⟩ := pick 1 a1 rfl
        obtain ⟨b2, rfl⟩ := pick 2 a2 rfl
        obtain ⟨b3, rfl⟩ := pick 3 a3 rfl
        obtain ⟨b4, rfl⟩ := pick 4 a4 rfl
        obtain ⟨b5, rfl⟩ := pick 5 a5 rfl
        exact ⟨_, rfl, k ⟨b0, b1, b2, b3, b4, b5⟩ d H' dD fr hd hD⟩
end
end SD
namespace SD
open PySem L2
/-! ### walks of the top's dicts -/
theorem walk_kd {kvs : List (Str × V)} : Walk (ItkD kvs) kvs.length (fun _ => True) (fun i H x H' => H' = H ∧ ∃ p, kvs[i]? = some p ∧ x = V.str p.1) :=
  ⟨fun _ _ hi _ => hi, fun _ _ => Nat.le_refl _, fun _ _ _ _ _ _ y => y⟩
theorem walk_kdI {kvs : List (Str × V)} : Walk (ItiD kvs) kvs.length (fun _ => True) (fun i H x H' => ∃ T p, kvs[i]? = some p ∧ x = .ref T ∧ H T = none ∧ H' = upd H T (.tup [V.str p.1, p.2])) :=
  ⟨fun _ _ hi _ => hi, fun _ _ => Nat.le_refl _, fun _ _ _ _ _ _ y => y⟩
theorem inV_str {z : Str} : ∀ ws : List Str, inV (.str z) (ws.map V.str) = decide (z ∈ ws)
  | [] => by simp [inV]
  | a :: r => by
    have ih := inV_str (z := z) r
    unfold inV at ih ⊢
    rw [List.map_cons, List.any_cons, ih]
    have e : eqV (V.str a) (V.str z) = decide (a = z) := by
      show (a == z) = _
      by_cases h : a = z
      · subst h; simp
      · rw [decide_eq_false h]; simpa using h
    rw [e]
    by_cases h : a = z
    · subst h
      rw [decide_eq_true rfl, Bool.true_or, decide_eq_true List.mem_cons_self]
    · rw [decide_eq_false h, Bool.false_or]
      exact decide_eq_decide.mpr ⟨List.mem_cons_of_mem _, fun q => (List.mem_cons.mp q).resolve_left fun e => h e.symm⟩
theorem flat_strs : ∀ ws : List Str, (ws.map V.str).all flatV = true
  | [] => rfl
  | _ :: r => by rw [List.map_cons, List.all_cons, flat_strs r]; rfl
/-! ### is_word, is_integer -/
def spWord (K : PySem.W.Frag) : Sp := fun vs H Q _ => ∃ (x : V) (a : Addr) (ws : List Str) (b : Bool), vs = [x, .ref a] ∧ (SqL K H a (ws.map V.str) ∨ SqT K H a (ws.map V.str)) ∧
  ((∃ z, x = .str z ∧ b = decide (z ∈ ws)) ∨ (b = false ∧ ∃ t, TyX K H x t ∧ PySem.W.kitOne K t (.type "str") = some false)) ∧ Q (.bl b) H
section
variable {P : Program} {w : World} {K : PySem.W.Frag} {mg : Str → Option Value} {base : Heap}
abbrev s_is_word : Stmt := top 11
theorem sc_is_word : FnScope ["thing", "words"] ["thing", "words"] (defScope s_is_word) := ⟨rfl, rfl, rfl, by decide +kernel, rfl, by decide +kernel, by decide +kernel⟩
theorem ok_is_word {f : Addr} {fd : FuncData} (F : Fun K "is_word" "is_word" s_is_word f fd) (n_isinstance : mg "isinstance" = none) (n_str : mg "str" = none) :
    FnOk P w K mg base CX0 1 f fd ["thing", "words"] (spWord K) := by
  refine F.ok sc_is_word (fun vs H Q E h => ?_) (fun cdv A outer s H vs Q E hr h => ?_)
  · (repeat (obtain ⟨_, h⟩ := h)) <;> (subst_vars; rfl)
  · have hu := hu_of hr
    refine ⟨_, (pss_one (ps_ret (pe_and (pe_callB (isiK (K := K)) (by rfl) n_isinstance bo_isi (pa_cons (L2.pv 0) (pa_cons (pe_bltn (v := .ty "str") (by rfl) n_str bo_str rfl) pa_nil))) (pe_one (pe_cmpR (op_inK (K := K)) (L2.pv 0) (L2.pv 1) (by rfl)))))), ?_⟩
    obtain ⟨x, a, ws, b, rfl, hq, hb, k⟩ := h
    rcases hb with ⟨z, rfl, rfl⟩ | ⟨rfl, t, ht, kt⟩
    · refine ⟨_, rfl, _, _, _, _, true, rfl, .ty "str", .base (.str z), kit_ty (by decide +kernel), true, rfl, ?_⟩
      refine iteT ⟨_, rfl, _, rfl, a, _, rfl, hq, rfl, flat_strs ws, ?_⟩
      show Q (.bl (inV _ _)) H
      rw [inV_str]
      exact k
    · exact ⟨_, rfl, _, _, _, _, false, rfl, .ty "str", ht, kt, false, rfl, iteF k⟩
def spInt (K : PySem.W.Frag) : Sp := fun vs H Q _ => ∃ (x : V) (lo hi : Int) (b : Bool), vs = [x, .int lo, .int hi] ∧
  ((∃ i, x = .int i ∧ b = decide (lo ≤ i ∧ i ≤ hi)) ∨ (b = false ∧ ((∃ c, x = .bl c) ∨ ∃ t, TyX K H x t ∧ PySem.W.kitOne K t (.type "int") = some false))) ∧ Q (.bl b) H
abbrev s_is_integer : Stmt := top 10
theorem sc_is_integer : FnScope ["thing", "low", "high"] ["thing", "low", "high"] (defScope s_is_integer) := ⟨rfl, rfl, rfl, by decide +kernel, rfl, by decide +kernel, by decide +kernel⟩
theorem ok_is_integer {f : Addr} {fd : FuncData} (F : Fun K "is_integer" "is_integer" s_is_integer f fd) (n_bool : mg "bool" = none) (n_int : mg "int" = none) (n_isinstance : mg "isinstance" = none) :
    FnOk P w K mg base CX0 1 f fd ["thing", "low", "high"] (spInt K) := by
  refine F.ok sc_is_integer (fun vs H Q E h => ?_) (fun cdv A outer s H vs Q E hr h => ?_)
  · (repeat (obtain ⟨_, h⟩ := h)) <;> (subst_vars; rfl)
  · have hu := hu_of hr
    refine ⟨_, (pss_one (ps_ret (pe_and (pe_callB (isiK (K := K)) (by rfl) n_isinstance bo_isi (pa_cons (L2.pv 0) (pa_cons (pe_bltn (v := .ty "int") (by rfl) n_int bo_int rfl) pa_nil))) (pe_and (pe_not (pe_callB (isiK (K := K)) (by rfl) n_isinstance bo_isi (pa_cons (L2.pv 0) (pa_cons (pe_bltn (v := .ty "bool") (by rfl) n_bool bo_bool rfl) pa_nil)))) (pe_one (pe_chain op_le op_le (L2.pv 1) (L2.pv 0) (L2.pv 2))))))), ?_⟩
    obtain ⟨x, lo, hi, b, rfl, hb, k⟩ := h
    rcases hb with ⟨i, rfl, rfl⟩ | ⟨rfl, ⟨c, rfl⟩ | ⟨t, ht, kt⟩⟩
    · refine ⟨_, rfl, _, _, _, _, true, rfl, .ty "int", .base (.int i), kit_ty (by decide +kernel), true, rfl, iteT ?_⟩
      refine ⟨_, rfl, _, _, _, _, false, rfl, .ty "bool", .base (.int i), kit_ty (by decide +kernel), false, rfl, true, rfl, iteT ?_⟩
      refine ⟨_, rfl, _, rfl, _, _, rfl, rfl, _, rfl, ?_⟩
      by_cases h1 : lo ≤ i
      · rw [decide_eq_true h1]
        refine iteT ⟨_, rfl, _, _, rfl, rfl, ?_⟩
        have e : decide (i ≤ hi) = decide (lo ≤ i ∧ i ≤ hi) := by simp [h1]
        show Q (.bl (decide (i ≤ hi))) H
        rw [e]
        exact k
      · rw [decide_eq_false h1]
        refine iteF ?_
        have e : decide (lo ≤ i ∧ i ≤ hi) = false := by simp [h1]
        rw [e] at k
        exact k
    · refine ⟨_, rfl, _, _, _, _, true, rfl, .ty "int", .base (.bl c), kit_ty (by decide +kernel), true, rfl, iteT ?_⟩
      exact ⟨_, rfl, _, _, _, _, true, rfl, .ty "bool", .base (.bl c), kit_ty (by decide +kernel), true, rfl, false, rfl, iteF k⟩
    · exact ⟨_, rfl, _, _, _, _, false, rfl, .ty "int", ht, kt, false, rfl, iteF k⟩
/-! ### check_rule, of a rule that is one -/
def spCheck : Sp := fun vs H Q _ => ∃ (d : Addr) (r : Rule), vs = [.ref d] ∧ H d = some (.dK r.kv) ∧ ∀ H', L2.Same H H' → Q .non H'
/-- PARTS -/
def partsD : List (Str × PyData) := [("along", .tuple [.str "alone", .str "links"]), ("clash", .tuple [.str "last", .str "refuse"]), ("drafts", .tuple [.str "one", .str "own"]), ("leads", .tuple [.str "draft", .str "nothing"]),
  ("restores", .tuple [.str "before", .str "nothing"]), ("staged", .tuple [.str "now", .str "then"])]
def wordsD : PyData := .tuple [.str "back", .str "both", .str "hide", .str "stage", .str "throw"]
/-- what is known of the tables of books.py -/
structure BkTab (P : Program) (w : World) (K : PySem.W.Frag) (mg : Str → Option Value) (dP : Addr) (pv : List (Str × V)) (aW : Addr) : Prop where
  mP : mg "PARTS" = some (.ref dP)
  kd : KD P w K dP pv
  keys : pv.map (·.1) = pn
  vals : ∀ H, DpAll K H (pv.map (·.2)) (partsD.map (·.2))
  mW : mg "WORDS" = some (.ref aW)
  wd : ∀ H, SqT K H aW [.str "back", .str "both", .str "hide", .str "stage", .str "throw"]
theorem dp_two {v : V} {x y : Str} (h : ∀ H, Dp K H v (.tuple [.str x, .str y])) : ∃ a, v = .ref a ∧ ∀ H, SqT K H a [.str x, .str y] := by
  obtain ⟨a, rfl⟩ : ∃ a, v = .ref a := by
    cases h (fun _ => none) with
    | tup _ _ => exact ⟨_, rfl⟩
  refine ⟨a, rfl, fun H => ?_⟩
  cases h H with
  | tup hs ha =>
    cases ha with
    | cons h1 h2 =>
      cases h1
      cases h2 with
      | cons h3 h4 =>
        cases h3
        cases h4
        exact hs
theorem BkTab.at {P : Program} {w : World} {dP aW : Addr} {pv : List (Str × V)} (T : BkTab P w K mg dP pv aW) {i : Nat} {p : Str × V} (h : pv[i]? = some p) : pn[i]? = some p.1 ∧ i < 6 ∧ ∃ a, p.2 = .ref a ∧ ∀ H, SqT K H a [.str (w0.getD i ""), .str (w1.getD i "")] := by
  have e1 : pn[i]? = some p.1 := by
    rw [← T.keys, List.getElem?_map, h]
    rfl
  have hi : i < 6 := (List.getElem?_eq_some_iff.mp e1).1
  refine ⟨e1, hi, ?_⟩
  have get : ∀ (xs : List V) (ds : List PyData) (H : Hp) (i : Nat) (x : V), DpAll K H xs ds → xs[i]? = some x → ∃ d, ds[i]? = some d ∧ Dp K H x d := by
    intro xs
    induction xs with
    | nil => intro ds H i x _ hx; simp at hx
    | cons a r ih =>
      intro ds H i x hd hx
      cases hd with
      | cons h1 h2 =>
        match i, hx with
        | 0, hx => exact ⟨_, rfl, by cases hx; exact h1⟩
        | i + 1, hx => exact ih _ H i x h2 hx
  have hv : (pv.map (·.2))[i]? = some p.2 := by
    rw [List.getElem?_map, h]
    rfl
  have dd : ∀ H, Dp K H p.2 (.tuple [.str (w0.getD i ""), .str (w1.getD i "")]) := fun H => by
    obtain ⟨d, e, q⟩ := get _ _ H i _ (T.vals H) hv
    match i, hi, e with
    | 0, _, e => cases e; exact q
    | 1, _, e => cases e; exact q
    | 2, _, e => cases e; exact q
    | 3, _, e => cases e; exact q
    | 4, _, e => cases e; exact q
    | 5, _, e => cases e; exact q
  exact dp_two dd
theorem BkTab.len {P : Program} {w : World} {dP aW : Addr} {pv : List (Str × V)} (T : BkTab P w K mg dP pv aW) : pv.length = 6 := by
  have e := congrArg List.length T.keys
  rw [List.length_map] at e
  exact e
theorem kv_at {r : Rule} {i : Nat} {k : Str} (h : pn[i]? = some k) : ∃ b : Bool, valV r.kv (Sum.inr k : Key) = some (.str (bif b then w1.getD i "" else w0.getD i "")) ∧ r.kv[i]? = some (Sum.inr k, .str (bif b then w1.getD i "" else w0.getD i "")) := by
  have hi : i < 6 := (List.getElem?_eq_some_iff.mp h).1
  match i, hi, h with
  | 0, _, h => cases h; exact ⟨r.al, rfl, rfl⟩
  | 1, _, h => cases h; exact ⟨r.cl, rfl, rfl⟩
  | 2, _, h => cases h; exact ⟨r.dr, rfl, rfl⟩
  | 3, _, h => cases h; exact ⟨r.le, rfl, rfl⟩
  | 4, _, h => cases h; exact ⟨r.re, rfl, rfl⟩
  | 5, _, h => cases h; exact ⟨r.sg, rfl, rfl⟩
abbrev s_check_rule : Stmt := top 12
theorem sc_check_rule : FnScope ["rule", "part", "words"] ["rule"] (defScope s_check_rule) := ⟨rfl, rfl, rfl, by decide +kernel, rfl, by decide +kernel, by decide +kernel⟩
theorem ok_check_rule {f : Addr} {fd : FuncData} (F : Fun K "check_rule" "check_rule" s_check_rule f fd) {dP aW : Addr} {pv : List (Str × V)} (T : BkTab P w K mg dP pv aW) (n_all : mg "all" = none) (n_dict : mg "dict" = none) (n_isinstance : mg "isinstance" = none) (n_len : mg "len" = none) (n_list : mg "list" = none)
    {f_is_word : Addr} {fd_is_word : FuncData} (G_is_word : FnOk P w K mg base CX0 1 f_is_word fd_is_word ["thing", "words"] (spWord K)) (D_is_word : DefIn K mg "is_word" f_is_word fd_is_word ["thing", "words"]) :
    FnOk P w K mg base CX0 2 f fd ["rule"] spCheck := by
  refine F.ok sc_check_rule (fun vs H Q E h => ?_) (fun cdv A outer s H vs Q E hr h => ?_)
  · (repeat (obtain ⟨_, h⟩ := h)) <;> (subst_vars; rfl)
  · have hu := hu_of hr
    refine ⟨_, (pss_cons (ps_if (PW.pt (pw_or (pt_not (pt_val (pe_callB (isiK (K := K)) (by rfl) n_isinstance bo_isi (pa_cons (L2.pv 0) (pa_cons (pe_bltn (v := .ty "dict") (by rfl) n_dict bo_dict rfl) pa_nil))))) (pw_or (pt_cmpR op_ne (pe_callB call_lenD (by rfl) n_len bo_len (pa_cons (L2.pv 0) pa_nil)) (pe_callB (kd_len T.kd) (by rfl) n_len bo_len (pa_cons (pe_glob (v := .ref dP) (by rfl) T.mP rfl) pa_nil)) (nomark _)) (pw_or1 (pt_not (pt_val (pe_callB (allK (K := K) rfl) (by rfl) n_all bo_all (pa_cons (pe_lock (pe_lc (own := [("part", 1)]) (g := gName 1) (tt := tYes) rfl sc_check_rule.nd (pi_keys (L2.pv 0)) (blkOk_by (N := ["rule", "part", "words"]) (sc := defScope s_check_rule) (by decide +kernel)) (fun _ _ _ _ _ => pg_name (i := 1) sc_check_rule.nd rfl (by first | exact .inl rfl | exact .inr rfl)) (fun _ _ _ _ _ => pts_nil) (fun _ _ _ _ _ => (pe_cl G_is_word (hr.mono (by decide)) D_is_word (pa_cons (L2.pv 1) (pa_cons (pe_callTy (kd_list T.kd rfl) (by rfl) n_list bo_list (pa_cons (pe_glob (v := .ref dP) (by rfl) T.mP rfl) pa_nil)) pa_nil)))))) pa_nil)))))))) (pss_one ps_never) pss_nil)
      (pss_one (ps_for PassesOwn.never rfl (pi_kdI T.kd (pe_glob (v := .ref dP) (by rfl) T.mP rfl)) (pg_tupK (K := K) rfl (pgs_cons (pg_name (i := 1) sc_check_rule.nd rfl (by first | exact .inl rfl | exact .inr rfl)) (pgs_cons (pg_name (i := 2) sc_check_rule.nd rfl (by first | exact .inl rfl | exact .inr rfl)) pgs_nil))) (pss_one (ps_if (pt_not (pt_val (pe_cl G_is_word (hr.mono (by decide)) D_is_word (pa_cons (pe_dget hu (L2.pv 0) (L2.pv 1) (fun _ _ => rfl)) (pa_cons (L2.pv 2) pa_nil))))) (pss_one ps_never) pss_nil))))), ?_⟩
    obtain ⟨d, r, rfl, hd, k⟩ := h
    refine ⟨_, rfl, _, _, _, _, true, rfl, .ty "dict", .base (.dK hd), kit_ty (by decide +kernel), true, rfl, iteF ?_⟩
    refine ⟨_, rfl, d, _, rfl, hd, ⟨rfl, rfl, _, rfl, iteNS (show V.int (r.kv.length : Int) = V.int (pv.length : Int) by rw [T.len]; rfl) ?_⟩⟩
    have ep : pv.map (fun kv => V.str kv.1) = pn.map V.str := by rw [← T.keys, List.map_map]; rfl
    refine ⟨d, _, hd, trivial, fun od => ⟨_, rfl, d, od, rfl, .inl ⟨r.kv, upd_same, fun D hD => ?_⟩⟩⟩
    have sD : L2.Same (upd H d (.frz od (.dK r.kv))) (upd (upd H d (.frz od (.dK r.kv))) D (.lst [])) := Same.upd hD
    refine lc_it walk_keys (fun i H' => L2.Same (upd H d (.frz od (.dK r.kv))) H' ∧ H' D = some (.lst ((List.replicate i true).map V.bl))) ⟨sD, upd_same⟩ (fun i H' _ p => p.1 _ _ upd_same) ?_ ?_
    · rintro i x H1 H2 hi ⟨s1, hL⟩ ⟨rfl, kk, v, hkv, rfl⟩
      have e1 : pn[i]? = some (pn.getD i "") := by
        match i, hi with
        | 0, _ => rfl
        | 1, _ => rfl
        | 2, _ => rfl
        | 3, _ => rfl
        | 4, _ => rfl
        | 5, _ => rfl
      obtain ⟨b, _, e2⟩ := kv_at (r := r) e1
      rw [hkv] at e2
      cases e2
      refine ⟨rfl, _, rfl, rfl, fun q hq => ?_⟩
      have s2 := Same.upd (o := HO.lst (pv.map fun kv => V.str kv.1)) hq
      refine ⟨_, q, pn, true, rfl, .inl (SqL.of (by rw [upd_same, ep])), .inl ⟨_, rfl, (decide_eq_true (List.mem_of_getElem? e1)).symm⟩, ?_⟩
      refine ⟨_, s2 _ _ hL, ?_, ?_, ?_⟩
      · rw [List.length_map, List.length_replicate]
        have h6 : r.kv.length = 6 := rfl
        exact small1000 (by omega)
      · intro b2 o2 h2
        have nb : b2 ≠ D := ne_of_none h2 hD
        rw [upd_ne nb]
        exact s2 _ _ (s1 _ _ h2)
      · rw [upd_same, List.replicate_succ', List.map_append]
        rfl
    · rintro H1 ⟨s1, hL⟩
      refine ⟨s1 _ _ upd_same, D, List.replicate 6 true, rfl, SqL.of ?_, true, rfl, iteF ?_⟩
      · have nD : D ≠ d := (ne_of_none (upd_same (H := H) (a := d)) hD).symm
        rw [upd_ne nD]
        exact hL
      have s2 : L2.Same H (upd H1 d (.dK r.kv)) := fun b o hb => by
        by_cases e : b = d
        · subst e
          rw [hd] at hb
          cases hb
          exact upd_same
        · rw [upd_ne e]
          exact s1 _ _ (by rw [upd_ne e]; exact hb)
      -- for part, words in PARTS.items()
      refine ⟨rfl, for_it walk_kdI (fun i σ H' => ∃ v1 v2 : Option V, σ = [some (.ref d), v1, v2] ∧ L2.Same H H') ⟨none, none, rfl, s2⟩ (fun _ _ _ _ _ => trivial) ?_ ?_⟩
      · rintro i x σ H2 H3 hi ⟨v1, v2, rfl, s3⟩ ⟨T0, p, hp, rfl, hT, rfl⟩
        obtain ⟨pk, px⟩ := p
        obtain ⟨e1, _, a, ha, hw⟩ := T.at hp
        have ha : px = .ref a := ha
        subst ha
        have s4 := Same.upd' (o := HO.tup [V.str pk, .ref a]) s3 hT
        obtain ⟨b, e2, _⟩ := kv_at (r := r) e1
        refine ⟨T0, _, rfl, SqT.of upd_same, rfl, _, _, rfl, _, _, rfl, rfl, ?_⟩
        refine ⟨_, rfl, _, rfl, d, _, rfl, (by rw [← e2]; exact DGet.k (k := Sum.inr pk) (s4 _ _ hd)), ?_⟩
        refine ⟨_, rfl, _, a, [w0.getD i "", w1.getD i ""], true, rfl, .inr (hw _), .inl ⟨_, rfl, ?_⟩, true, rfl, _, _, rfl, s4⟩
        cases b
        · exact (decide_eq_true List.mem_cons_self).symm
        · exact (decide_eq_true (List.mem_cons_of_mem _ List.mem_cons_self)).symm
      · rintro σ H2 ⟨v1, v2, rfl, s3⟩
        exact k H2 s3
theorem tyX_tup {H : Hp} {a : Addr} {xs : List V} (h : SqT K H a xs) : TyX K H (.ref a) (.type "tuple") := by
  rcases h with (h | ⟨o, h⟩) | ⟨o, its, n, h1, h2, _⟩
  · exact .base (.tup h)
  · exact .fTuple h
  · exact .kTuple h1 h2
theorem at_str {ws : List Str} {i : Nat} {x : V} (h : (ws.map V.str)[i]? = some x) : ∃ w, ws[i]? = some w ∧ x = .str w := by
  rw [List.getElem?_map] at h
  cases e : ws[i]? with
  | none => rw [e] at h; cases h
  | some w => rw [e] at h; exact ⟨w, rfl, (Option.some.inj h).symm⟩
/-! ### Book(..), of what makes a book -/
structure BkCls (K : PySem.W.Frag) (mg : Str → Option Value) (C : Addr) : Prop where
  cl : Cls K C
  nM : NoAttr K C "many"
  nT : NoAttr K C "terms"
  nK : NoAttr K C "kinds"
  mC : mg "Book" = some (.ref C)
def spBook (K : PySem.W.Frag) (C : Addr) : Sp := fun vs H Q _ => ∃ (p dx d t : Addr) (b : Bk), vs = [.ref p, .int b.people, .ref d, .ref t] ∧ H p = some (.ins C dx []) ∧ H d = some (.dK b.r.kv) ∧ SqT K H t (b.k.ws.map V.str) ∧
  ∀ H', (∀ q o, q ≠ p → H q = some o → H' q = some o) → BookAt K C H' p b → Q .non H'
abbrev s_Book___init__ : Stmt := inClass (top 13) 0
theorem sc_Book___init__ : FnScope ["self", "people", "rule", "words", "word", "part"] ["self", "people", "rule", "words"] (defScope s_Book___init__) := ⟨rfl, rfl, rfl, by decide +kernel, rfl, by decide +kernel, by decide +kernel⟩
theorem ok_Book___init__ {f : Addr} {fd : FuncData} (F : Fun K "__init__" "Book.__init__" s_Book___init__ f fd) {C : Addr} (B : BkCls K mg C) {dP aW : Addr} {pv : List (Str × V)} (T : BkTab P w K mg dP pv aW) (n_all : mg "all" = none) (n_isinstance : mg "isinstance" = none) (n_list : mg "list" = none) (n_tuple : mg "tuple" = none)
    {f_is_word : Addr} {fd_is_word : FuncData} (G_is_word : FnOk P w K mg base CX0 1 f_is_word fd_is_word ["thing", "words"] (spWord K)) (D_is_word : DefIn K mg "is_word" f_is_word fd_is_word ["thing", "words"])
    {f_check_rule : Addr} {fd_check_rule : FuncData} (G_check_rule : FnOk P w K mg base CX0 2 f_check_rule fd_check_rule ["rule"] spCheck) (D_check_rule : DefIn K mg "check_rule" f_check_rule fd_check_rule ["rule"])
    {f_is_integer : Addr} {fd_is_integer : FuncData} (G_is_integer : FnOk P w K mg base CX0 1 f_is_integer fd_is_integer ["thing", "low", "high"] (spInt K)) (D_is_integer : DefIn K mg "is_integer" f_is_integer fd_is_integer ["thing", "low", "high"]) :
    FnOk P w K mg base CX0 3 f fd ["self", "people", "rule", "words"] (spBook K C) := by
  refine F.ok sc_Book___init__ (fun vs H Q E h => ?_) (fun cdv A outer s H vs Q E hr h => ?_)
  · (repeat (obtain ⟨_, h⟩ := h)) <;> (subst_vars; rfl)
  · have hu := hu_of hr
    refine ⟨_, (pss_cons (ps_if (pt_not (pt_val (pe_cl G_is_integer (hr.mono (by decide)) D_is_integer (pa_cons (L2.pv 1) (pa_cons pe_int (pa_cons pe_int pa_nil)))))) (pss_one ps_never) pss_nil)
      (pss_cons (ps_expr (pe_cl G_check_rule (hr.mono (by decide)) D_check_rule (pa_cons (L2.pv 2) pa_nil)))
      (pss_cons (ps_if (PW.pt (pw_or (pt_not (pt_val (pe_callB (isiK (K := K)) (by rfl) n_isinstance bo_isi (pa_cons (L2.pv 3) (pa_cons (pe_bltn (v := .ty "tuple") (by rfl) n_tuple bo_tuple rfl) pa_nil))))) (pw_or1 (pt_not (pt_val (pe_callB (allK (K := K) rfl) (by rfl) n_all bo_all (pa_cons (pe_lc (own := [("word", 4)]) (g := gName 4) (tt := tYes) rfl sc_Book___init__.nd (pi_tupK (K := K) (L2.pv 3)) (blkOk_by (N := ["self", "people", "rule", "words", "word", "part"]) (sc := defScope s_Book___init__) (by decide +kernel)) (fun _ _ _ _ _ => pg_name (i := 4) sc_Book___init__.nd rfl (by first | exact .inl rfl | exact .inr rfl)) (fun _ _ _ _ _ => pts_nil) (fun _ _ _ _ _ => (pe_cl G_is_word (hr.mono (by decide)) D_is_word (pa_cons (L2.pv 4) (pa_cons (pe_glob (v := .ref aW) (by rfl) T.mW rfl) pa_nil))))) pa_nil))))))) (pss_one ps_never) pss_nil)
      (pss_cons (ps_if (pt_cmpR (op_neDK (K := K) hr.units) (pe_lc (own := [("word", 4)]) (g := gName 4) rfl sc_Book___init__.nd (pi_tupK (K := K) (pe_glob (v := .ref aW) (by rfl) T.mW rfl)) (blkOk_by (N := ["self", "people", "rule", "words", "word", "part"]) (sc := defScope s_Book___init__) (by decide +kernel)) (fun _ _ _ _ _ => pg_name (i := 4) sc_Book___init__.nd rfl (by first | exact .inl rfl | exact .inr rfl)) (fun _ _ _ _ _ => (pts_one (pt_cmpR (op_inK (K := K)) (L2.pv 4) (L2.pv 3) (by rfl)))) (fun _ _ _ _ _ => (L2.pv 4))) (pe_callTy (list_ofK (K := K)) (by rfl) n_list bo_list (pa_cons (L2.pv 3) pa_nil)) (nomark _)) (pss_one ps_never) pss_nil)
      (pss_cons (ps_fld (L2.pv 0) (L2.pv 1) rfl)
      (pss_cons (ps_fld (L2.pv 0) (pe_dc (own := [("part", 5)]) (g := gName 5) (tt := tYes) rfl sc_Book___init__.nd (pi_kd T.kd (pe_glob (v := .ref dP) (by rfl) T.mP rfl)) (blkOk_by (N := ["self", "people", "rule", "words", "word", "part"]) (sc := defScope s_Book___init__) (by decide +kernel)) (fun _ _ _ _ _ => pg_name (i := 5) sc_Book___init__.nd rfl (by first | exact .inl rfl | exact .inr rfl)) (fun _ _ _ _ _ => pts_nil) (fun _ _ _ _ _ => (L2.pv 5)) (fun _ _ _ _ _ => (pe_dget hu (L2.pv 2) (L2.pv 5) (fun _ _ => rfl)))) rfl)
      (pss_one (ps_fld (L2.pv 0) (L2.pv 3) rfl)))))))), ?_⟩
    obtain ⟨p, dx, d, t, b, rfl, hp, hd, ht, k⟩ := h
    have hb : (1 : Int) ≤ b.people ∧ b.people ≤ 2 := by
      unfold Bk.people
      cases b.two <;> decide
    refine ⟨_, rfl, _, 1, 2, true, rfl, .inl ⟨_, rfl, (decide_eq_true hb).symm⟩, true, rfl, ?_⟩
    refine ⟨_, rfl, d, b.r, rfl, hd, fun H1 s1 => ?_⟩
    have ht1 := SqT.same s1 ht
    -- if not isinstance(words, tuple) or not all(..)
    refine ⟨_, rfl, _, _, _, _, true, rfl, .ty "tuple", tyX_tup ht1, kit_ty (by decide +kernel), true, rfl, ?_⟩
    refine ⟨_, rfl, t, rfl, ⟨_, ht1⟩, fun D hD => ?_⟩
    refine lc_it walk_tup (fun i H' => L2.Same H1 H' ∧ H' D = some (.lst ((List.replicate i true).map V.bl))) ⟨Same.upd hD, upd_same⟩ (fun i H' _ p => SqT.same p.1 ht1) ?_ ?_
    · rintro i x H2 H3 hi ⟨s2, hL⟩ ⟨rfl, hx⟩
      obtain ⟨w', hw', rfl⟩ := at_str hx
      refine ⟨rfl, _, rfl, _, aW, allW, true, rfl, .inr (T.wd _), .inl ⟨w', rfl, (decide_eq_true (ws_sub _ _ (List.mem_of_getElem? hw'))).symm⟩, _, hL, ?_, ?_, ?_⟩
      · have := ws_len b.k
        rw [List.length_map] at hi
        rw [List.length_map, List.length_replicate]
        exact small1000 (by omega)
      · exact fun b2 o2 h2 => by rw [upd_ne (ne_of_none h2 hD)]; exact s2 _ _ h2
      · rw [upd_same, List.replicate_succ', List.map_append]
        rfl
    rintro H2 ⟨s2, hL⟩
    refine ⟨D, List.replicate _ true, rfl, SqL.of hL, true, ?_, ?_⟩
    · show V.bl ((List.replicate _ true).all id) = V.bl true
      congr 1
      rw [List.all_eq_true]
      intro z hz
      exact (List.mem_replicate.mp hz).2
    have s2 := s1.trans s2
    -- if [..] != list(words)
    refine ⟨aW, rfl, ⟨_, T.wd _⟩, fun D2 hD2 => ?_⟩
    have ht2 := SqT.same s2 ht
    refine lc_it walk_tup (fun i H' => L2.Same H2 H' ∧ H' D2 = some (.lst (((allW.take i).filter fun w => decide (w ∈ b.k.ws)).map V.str))) ⟨Same.upd hD2, upd_same⟩ (fun i H' _ p => T.wd _) ?_ ?_
    · rintro i x H3 H4 hi ⟨s3, hL3⟩ ⟨rfl, hx⟩
      obtain ⟨w', hw', rfl⟩ := at_str (ws := allW) hx
      have tk : allW.take (i + 1) = allW.take i ++ [w'] := by
        rw [List.take_add_one, hw']
        rfl
      refine ⟨rfl, _, rfl, _, rfl, t, _, rfl, .inr (SqT.same s3 ht2), rfl, flat_strs _, _, rfl, ?_⟩
      rw [tk, List.filter_append, List.map_append]
      show if inV (.str w') (b.k.ws.map V.str) = true then _ else _
      rw [inV_str]
      by_cases hm : w' ∈ b.k.ws
      · rw [decide_eq_true hm]
        refine ⟨_, rfl, _, hL3, ?_, ?_, ?_⟩
        · rw [List.length_map]
          refine small1000 (Nat.le_trans (List.length_filter_le _ _) ?_)
          rw [List.length_take]
          exact Nat.le_trans (Nat.min_le_right _ _) (by decide)
        · exact fun b2 o2 h2 => by rw [upd_ne (ne_of_none h2 hD2)]; exact s3 _ _ h2
        · rw [upd_same, List.filter_cons_of_pos (by exact decide_eq_true hm)]
          rfl
      · rw [decide_eq_false hm]
        refine ⟨s3, ?_⟩
        rw [List.filter_cons_of_neg (by rw [decide_eq_false hm]; exact Bool.false_ne_true)]
        rw [List.filter_nil, List.map_nil, List.append_nil]
        exact hL3
    rintro H3 ⟨s3, hL3⟩
    have hL3 : H3 D2 = some (.lst (b.k.ws.map V.str)) := by
      have e : ((allW.take ([.str "back", .str "both", .str "hide", .str "stage", .str "throw"] : List V).length).filter fun w => decide (w ∈ b.k.ws)) = b.k.ws := ws_filter b.k
      rw [e] at hL3
      exact hL3
    have s3 := s2.trans s3
    refine ⟨_, rfl, t, _, rfl, .inr (SqT.same s3 ht), fun l hl => ?_⟩
    have s4 := Same.upd' (o := HO.lst (b.k.ws.map V.str)) s3 hl
    have eqD : PyData.eqv (.list (b.k.ws.map PyData.str)) (.list (b.k.ws.map PyData.str)) = true := by
      rw [PyData.eqv, eqv_strs]
      exact decide_eq_true rfl
    have sh : SeqAt.shaped (.list (b.k.ws.map PyData.str)) = true := shaped_strs b.k.ws (ws_sub _)
    refine ⟨_, _, .lst (SqL.of ((Same.upd (o := HO.lst (b.k.ws.map V.str)) hl) _ _ hL3)) (dp_strs _), .lst (SqL.of upd_same) (dp_strs _), sh, sh, _, rfl, ?_⟩
    rw [eqD]
    show if (!true) = true then _ else _
    refine iteF ?_
    -- the fields
    have hp4 := s4 _ _ hp
    refine ⟨_, rfl, _, rfl, p, C, dx, [], rfl, hp4, B.cl, B.nM, (by show 0 < 1000; decide), ?_⟩
    have k5 : ∀ q o, q ≠ p → H q = some o → (upd (upd H3 l (.lst (b.k.ws.map V.str))) p (.ins C dx (putF "many" (.int b.people) []))) q = some o := fun q o hq h => by
      rw [upd_ne hq]; exact s4 _ _ h
    have hp5 : (upd (upd H3 l (.lst (b.k.ws.map V.str))) p (.ins C dx (putF "many" (.int b.people) []))) p = some (.ins C dx (putF "many" (.int b.people) [])) := upd_same
    revert k5 hp5
    generalize upd (upd H3 l (.lst (b.k.ws.map V.str))) p (.ins C dx (putF "many" (.int b.people) [])) = H5
    intro k5 hp5
    have dp : d ≠ p := ne_of hd hp (by intro e; cases e)
    refine ⟨rfl, fun D3 hD3 => ?_⟩
    refine dc_it walk_kd (fun i H' => L2.Same H5 H' ∧ H' D3 = some (.dK (kvN (b.r.ws.take i)))) ⟨Same.upd hD3, upd_same⟩ (fun _ _ _ _ => trivial) ?_ ?_
    · rintro i x H6 H7 hi ⟨s6, hL6⟩ ⟨rfl, q, hq, rfl⟩
      obtain ⟨e1, i6, _⟩ := T.at hq
      obtain ⟨bb, e2, e3⟩ := kv_at (r := b.r) e1
      have hw : b.r.ws[i]? = some (bif bb then w1.getD i "" else w0.getD i "") := by
        have e4 : (b.r.kv)[i]? = ((pn.zip b.r.ws).map fun z => ((Sum.inr z.1 : Key), V.str z.2))[i]? := by
          rw [show b.r.kv = (pn.zip b.r.ws).map fun z => ((Sum.inr z.1 : Key), V.str z.2) from rfl]
        rw [e3, List.getElem?_map] at e4
        cases e5 : (pn.zip b.r.ws)[i]? with
        | none => rw [e5] at e4; cases e4
        | some z =>
          rw [e5] at e4
          have e6 := Option.some.inj e4
          have e7 := V.str.inj (Prod.mk.inj e6).2
          rw [e7]
          exact (List.getElem?_zip_eq_some.mp e5).2
      have tl : (b.r.ws.take i).length = i := by
        rw [List.length_take]
        exact Nat.min_eq_left (Nat.le_of_lt i6)
      have hn : pn[(b.r.ws.take i).length]? = some q.1 := by rw [tl]; exact e1
      refine ⟨rfl, _, rfl, _, rfl, _, rfl, d, _, rfl, (by rw [← e2]; exact DGet.k (k := Sum.inr q.1) (s6 _ _ (k5 _ _ dp hd))), _, Sum.inr q.1, rfl, hL6, ?_, ?_, ?_⟩
      · refine small1000 ?_
        unfold kvN
        rw [List.length_zipWith]
        exact Nat.le_trans (Nat.min_le_left _ _) (by decide)
      · exact fun b2 o2 h2 => by rw [upd_ne (ne_of_none h2 hD3)]; exact s6 _ _ h2
      · rw [upd_same, putK_new _ (kvN_new hn), ← kvN_snoc hn, List.take_add_one, hw]
        rfl
    rintro H6 ⟨s6, hL6⟩
    have hL6 : H6 D3 = some (.dK b.r.kv) := by
      rw [T.len] at hL6
      exact hL6
    have n63 : D3 ≠ p := (ne_of_none hp5 hD3).symm
    refine ⟨_, rfl, p, C, dx, _, rfl, s6 _ _ hp5, B.cl, B.nT, (by show 1 < 1000; decide), ?_⟩
    refine ⟨_, rfl, _, rfl, p, C, dx, _, rfl, upd_same, B.cl, B.nK, (by show 2 < 1000; decide), ?_⟩
    refine k _ (fun q o hq h => ?_) ⟨dx, D3, t, ?_, ?_, ?_⟩
    · rw [upd_ne hq, upd_ne hq]
      exact s6 _ _ (k5 _ _ hq h)
    · rw [upd_same]
      rfl
    · rw [upd_ne n63, upd_ne n63]
      exact hL6
    · have tp : ∀ o, H t = some o → (∀ C dx fs, o ≠ .ins C dx fs) → t ≠ p := fun o h1 h2 => ne_of h1 hp (h2 _ _ _)
      rcases ht with (h | ⟨o, h⟩) | h
      · refine .inl (.inl ?_)
        have ne := tp _ h (by intro _ _ _ e; cases e)
        rw [upd_ne ne, upd_ne ne]
        exact s6 _ _ (k5 _ _ ne h)
      · refine .inl (.inr ⟨o, ?_⟩)
        have ne := tp _ h (by intro _ _ _ e; cases e)
        rw [upd_ne ne, upd_ne ne]
        exact s6 _ _ (k5 _ _ ne h)
      · exact .inr h
/-! ### == of books; a book of a row -/
structure BkIsi (K : PySem.W.Frag) (C : Addr) : Prop where
  ha : PySem.W.findIn K (.ref C) "__class__" = some (some (.builtin "object.__class__"))
  hn : PySem.W.specialIn K (.builtin "object.__class__") "__get__" = some (some (.builtin "getset_descriptor.__get__"))
  ht : PySem.W.takesIn K (.builtin "object.__class__") = some true
  hm : PySem.W.mroIn K C (.type "object") = some true
theorem isi_ok {K : PySem.W.Frag} {x : Str} (h : cIsi x K = true) : BkIsi K (He.ga K x) := by
  obtain ⟨h1, h⟩ := He.ba h
  obtain ⟨h2, h⟩ := He.ba h
  obtain ⟨h3, h4⟩ := He.ba h
  exact ⟨He.eqO_ok h1, He.eqO_ok h2, of_decide_eq_true h3, of_decide_eq_true h4⟩
theorem tyX_ins {K : PySem.W.Frag} {mg : Str → Option Value} {C a dx : Addr} {H : Hp} {fs : List (Str × V)} (B : BkCls K mg C) (S : BkIsi K C) (h : H a = some (.ins C dx fs)) : TyX K H (.ref a) (.ref C) := .base (.ins h B.cl S.ha S.hn S.ht S.hm)
theorem kit_self {K : PySem.W.Frag} {C : Addr} : PySem.W.kitOne K (.ref C) (.ref C) = some true := by
  unfold PySem.W.kitOne
  rw [if_pos (by simp)]
theorem r200 {k : Nat} {A : Around} (r : Room k A) : A.units + 200 < cLine := by
  have := r.un
  omega
def spEq (K : PySem.W.Frag) (C : Addr) : Sp := fun vs H Q _ => ∃ (a : Addr) (b1 : Bk) (x : V), vs = [.ref a, x] ∧ BookAt K C H a b1 ∧
  ((∃ c b2, x = .ref c ∧ BookAt K C H c b2 ∧ ∀ H', L2.Same H H' → Q (.bl (decide (b1 = b2))) H') ∨ ((∃ t, TyX K H x t ∧ PySem.W.kitOne K t (.ref C) = some false) ∧ Q (.bl false) H))
abbrev s_Book___eq__ : Stmt := inClass (top 13) 5
theorem sc_Book___eq__ : FnScope ["self", "other"] ["self", "other"] (defScope s_Book___eq__) := ⟨rfl, rfl, rfl, by decide +kernel, rfl, by decide +kernel, by decide +kernel⟩
theorem ok_Book___eq__ {f : Addr} {fd : FuncData} (F : Fun K "__eq__" "Book.__eq__" s_Book___eq__ f fd) {C : Addr} (B : BkCls K mg C) (S : BkIsi K C) (n_isinstance : mg "isinstance" = none) :
    FnOk P w K mg base CX0 1 f fd ["self", "other"] (spEq K C) := by
  refine F.ok sc_Book___eq__ (fun vs H Q E h => ?_) (fun cdv A outer s H vs Q E hr h => ?_)
  · (repeat (obtain ⟨_, h⟩ := h)) <;> (subst_vars; rfl)
  · have hu := hu_of hr
    refine ⟨_, (pss_cons (ps_if (pt_not (pt_val (pe_callB (isiK (K := K)) (by rfl) n_isinstance bo_isi (pa_cons (L2.pv 1) (pa_cons (pe_glob (v := .ref C) (by rfl) B.mC rfl) pa_nil))))) (pss_one (ps_ret pe_bl)) pss_nil)
      (pss_one (ps_ret (pe_cmpR (op_eqBk (r200 hr)) (pe_tup (pa_cons (pe_fldK (K := K) (L2.pv 0)) (pa_cons (pe_fldK (K := K) (L2.pv 0)) (pa_cons (pe_fldK (K := K) (L2.pv 0)) pa_nil)))) (pe_tup (pa_cons (pe_fldK (K := K) (L2.pv 1)) (pa_cons (pe_fldK (K := K) (L2.pv 1)) (pa_cons (pe_fldK (K := K) (L2.pv 1)) pa_nil)))) (nomark _))))), ?_⟩
    obtain ⟨a, b1, x, rfl, ⟨dx, d, t, h1⟩, hx⟩ := h
    rcases hx with ⟨c, b2, rfl, ⟨dx2, d2, t2, h2⟩, k⟩ | ⟨⟨ty, hty, kt⟩, k⟩
    · refine ⟨_, rfl, _, _, _, _, true, rfl, .own C, tyX_ins B S h2.ob, kit_self, true, rfl, ?_⟩
      refine ⟨_, rfl, a, C, dx, _, _, rfl, h1.ob, B.cl, B.nM, rfl, ?_⟩
      refine ⟨_, rfl, a, C, dx, _, _, rfl, h1.ob, B.cl, B.nT, rfl, ?_⟩
      refine ⟨_, rfl, a, C, dx, _, _, rfl, h1.ob, B.cl, B.nK, rfl, ?_⟩
      refine ⟨(by show 3 ≤ sizeLine; rw [sizeLine_eq]; decide), fun p np => ?_⟩
      have s1 := Same.upd (o := HO.tup [.int b1.people, .ref d, .ref t]) np
      have g2 := h2.same s1
      refine ⟨_, rfl, c, C, dx2, _, _, rfl, g2.ob, B.cl, B.nM, rfl, ?_⟩
      refine ⟨_, rfl, c, C, dx2, _, _, rfl, g2.ob, B.cl, B.nT, rfl, ?_⟩
      refine ⟨_, rfl, c, C, dx2, _, _, rfl, g2.ob, B.cl, B.nK, rfl, ?_⟩
      refine ⟨(by show 3 ≤ sizeLine; rw [sizeLine_eq]; decide), fun q nq => ?_⟩
      have s2 := Same.upd' (o := HO.tup [.int b2.people, .ref d2, .ref t2]) s1 nq
      have s3 := Same.upd (o := HO.tup [.int b2.people, .ref d2, .ref t2]) nq
      exact ⟨p, q, d, d2, t, t2, b1, b2, rfl, rfl, SqT.of (s3 _ _ upd_same), SqT.of upd_same, s2 _ _ h1.te, s2 _ _ h2.te, SqT.same s2 h1.ki, SqT.same s2 h2.ki, k _ s2⟩
    · exact ⟨_, rfl, _, _, _, _, false, rfl, .own C, hty, kt, false, rfl, k⟩
/-- people, rule, words at p -/
def RowAt (K : PySem.W.Frag) (H : Hp) (p : Addr) (b : Bk) : Prop := ∃ d t, H p = some (.lst [.int b.people, .ref d, .ref t]) ∧ H d = some (.dK b.r.kv) ∧ SqT K H t (b.k.ws.map V.str)
theorem RowAt.same {K : PySem.W.Frag} {H H' : Hp} {p : Addr} {b : Bk} (h : RowAt K H p b) (s : L2.Same H H') : RowAt K H' p b := by
  obtain ⟨d, t, h1, h2, h3⟩ := h
  exact ⟨d, t, s _ _ h1, s _ _ h2, SqT.same s h3⟩
def spBuilt (K : PySem.W.Frag) (C : Addr) : Sp := fun vs H Q _ => ∃ (p : Addr) (b : Bk), vs = [.ref p] ∧ RowAt K H p b ∧ ∀ (a : Addr) (H' : Hp), L2.Same H H' → H a = none → BookAt K C H' a b → Q (.ref a) H'
abbrev s__law_built : Stmt := top 27
theorem sc__law_built : FnScope ["_law_row"] ["_law_row"] (defScope s__law_built) := ⟨rfl, rfl, rfl, by decide +kernel, rfl, by decide +kernel, by decide +kernel⟩
theorem ok__law_built {f : Addr} {fd : FuncData} (F : Fun K "_law_built" "_law_built" s__law_built f fd) {C : Addr} (B : BkCls K mg C) {fI : Addr} {fdI : FuncData} (M : Mk K C fI) (GI : FnOk P w K mg base CX0 3 fI fdI ["self", "people", "rule", "words"] (spBook K C)) (bI : Binds K fdI ["self", "people", "rule", "words"] []) :
    FnOk P w K mg base CX0 5 f fd ["_law_row"] (spBuilt K C) := by
  refine F.ok sc__law_built (fun vs H Q E h => ?_) (fun cdv A outer s H vs Q E hr h => ?_)
  · (repeat (obtain ⟨_, h⟩ := h)) <;> (subst_vars; rfl)
  · have hu := hu_of hr
    refine ⟨_, (pss_one (ps_ret (pe_make M GI (hr.mono (by decide)) rfl B.mC bI .nil pass0 (pa_cons (pe_ix (ix_listK (K := K)) (L2.pv 0) pe_int (fun _ _ => rfl)) (pa_cons (pe_ix (ix_listK (K := K)) (L2.pv 0) pe_int (fun _ _ => rfl)) (pa_cons (pe_ix (ix_listK (K := K)) (L2.pv 0) pe_int (fun _ _ => rfl)) pa_nil)))))), ?_⟩
    obtain ⟨p, b, rfl, ⟨d, t, hp, hd, ht⟩, k⟩ := h
    refine ⟨_, rfl, p, _, _, _, rfl, rfl, SqL.of hp, rfl, ?_⟩
    refine ⟨_, rfl, p, _, _, _, rfl, rfl, SqL.of hp, rfl, ?_⟩
    refine ⟨_, rfl, p, _, _, _, rfl, rfl, SqL.of hp, rfl, ?_⟩
    intro x dx nx ndx nex
    have s0 : L2.Same H (upd (upd H dx (.own x)) x (.ins C dx [])) := Same.upd' (Same.upd ndx) (by rw [upd_ne nex.symm]; exact nx)
    refine ⟨x, dx, d, t, b, rfl, upd_same, s0 _ _ hd, SqT.same s0 ht, fun H1 k1 hB => ⟨rfl, k x H1 (fun c o h => k1 c o (ne_of_none h nx) (s0 _ _ h)) nx hB⟩⟩
end
end SD
namespace SD
open PySem L2 StX
/-! ### the text of a book -/
def sp1 : Str := " "
def nl1 : Str := "\n"
def lineP (two : Bool) : Str := ("people " : Str) ++ (bif two then ("2" : Str) else ("1" : Str))
def lineR (i : Nat) (w : Str) : Str := pn.getD i "" ++ sp1 ++ w
def lineW (k : Kinds) : Str := Txt.join sp1 (("words" : Str) :: k.ws)
def rlines (r : Rule) : List Str := List.zipWith (fun k w => k ++ sp1 ++ w) pn r.ws
def linesOf (b : Bk) : List Str := lineP b.two :: (rlines b.r ++ [lineW b.k])
def textOf (b : Bk) : Str := Txt.join nl1 (linesOf b)
theorem rl_at {r : Rule} {i : Nat} {k : Key} {v : V} (h : r.kv[i]? = some (k, v)) : ∃ kk w : Str, k = Sum.inr kk ∧ v = .str w ∧ (rlines r)[i]? = some (kk ++ sp1 ++ w) ∧ kk.length + sp1.length ≤ sizeLine ∧ (kk ++ sp1).length + w.length ≤ sizeLine := by
  have hi : i < 6 := (List.getElem?_eq_some_iff.mp h).1
  rw [sizeLine_eq]
  match i, hi, h with
  | 0, _, h => cases h; exact ⟨_, _, rfl, rfl, rfl, by decide +kernel, by cases r.al <;> decide +kernel⟩
  | 1, _, h => cases h; exact ⟨_, _, rfl, rfl, rfl, by decide +kernel, by cases r.cl <;> decide +kernel⟩
  | 2, _, h => cases h; exact ⟨_, _, rfl, rfl, rfl, by decide +kernel, by cases r.dr <;> decide +kernel⟩
  | 3, _, h => cases h; exact ⟨_, _, rfl, rfl, rfl, by decide +kernel, by cases r.le <;> decide +kernel⟩
  | 4, _, h => cases h; exact ⟨_, _, rfl, rfl, rfl, by decide +kernel, by cases r.re <;> decide +kernel⟩
  | 5, _, h => cases h; exact ⟨_, _, rfl, rfl, rfl, by decide +kernel, by cases r.sg <;> decide +kernel⟩
theorem rl_len (r : Rule) : (rlines r).length = 6 := rfl
theorem ws_sum (k : Kinds) : (((("words" : Str) :: k.ws).map (·.length)).sum + (("words" : Str) :: k.ws).length * sp1.length) ≤ 1000 := by
  obtain ⟨a, b, c, d, e⟩ := k
  cases a <;> cases b <;> cases c <;> cases d <;> cases e <;> decide +kernel
theorem lw_len (k : Kinds) : (lineW k).length ≤ 100 := by
  obtain ⟨a, b, c, d, e⟩ := k
  cases a <;> cases b <;> cases c <;> cases d <;> cases e <;> decide +kernel
theorem lp_len (b : Bool) : (lineP b).length ≤ 100 := by cases b <;> decide +kernel
theorem rl_sum (r : Rule) : ((rlines r).map (·.length)).sum ≤ 600 := by
  obtain ⟨a, b, c, d, e, f⟩ := r
  cases a <;> cases b <;> cases c <;> cases d <;> cases e <;> cases f <;> decide +kernel
theorem tx_sum (b : Bk) : ((linesOf b).map (·.length)).sum + (linesOf b).length * nl1.length ≤ 16777216 := by
  have h1 := lp_len b.two
  have h2 := rl_sum b.r
  have h3 := lw_len b.k
  have h4 : nl1.length = 1 := rfl
  have h5 : (linesOf b).length = 8 := by
    unfold linesOf
    rw [List.length_cons, List.length_append, rl_len]
    rfl
  rw [h4, h5]
  unfold linesOf
  rw [List.map_cons, List.sum_cons, List.map_append, List.sum_append]
  show _ + (_ + ((lineW b.k).length + 0)) + 8 * 1 ≤ _
  omega
def spWrite (K : PySem.W.Frag) (C : Addr) : Sp := fun vs H Q _ => ∃ (a : Addr) (b : Bk), vs = [.ref a] ∧ BookAt K C H a b ∧ ∀ H', L2.Same H H' → Q (.str (textOf b)) H'
section
variable {P : Program} {w : World} {K : PySem.W.Frag} {mg : Str → Option Value} {base : Heap}
abbrev s_write : Stmt := top 16
theorem sc_write : FnScope ["book", "part", "word", "lines"] ["book"] (defScope s_write) := ⟨rfl, rfl, rfl, by decide +kernel, rfl, by decide +kernel, by decide +kernel⟩
theorem ok_write {f : Addr} {fd : FuncData} (F : Fun K "write" "write" s_write f fd) {C : Addr} (B : BkCls K mg C) (n_str : mg "str" = none) :
    FnOk P w K mg base CX0 1 f fd ["book"] (spWrite K C) := by
  refine F.ok sc_write (fun vs H Q E h => ?_) (fun cdv A outer s H vs Q E hr h => ?_)
  · (repeat (obtain ⟨_, h⟩ := h)) <;> (subst_vars; rfl)
  · have hu := hu_of hr
    refine ⟨_, (pss_cons (ps_set (i := 3) sc_write.nd rfl (by first | exact .inl rfl | exact .inr rfl) (pe_lst (pa_cons (pe_op op_add_str pe_str (pe_callTy call_str_int (by rfl) n_str bo_str (pa_cons (pe_fldK (K := K) (L2.pv 0)) pa_nil))) (pa_star (pe_lock (pe_lc (own := [("part", 1), ("word", 2)]) (tt := tYes) rfl sc_write.nd (pi_items (pe_fldK (K := K) (L2.pv 0))) (blkOk_by (N := ["book", "part", "word", "lines"]) (sc := defScope s_write) (by decide +kernel)) (fun _ _ _ _ _ => pg_tupK (K := K) (n := 2) rfl (pgs_cons (pg_name (i := 1) sc_write.nd rfl (by first | exact .inl rfl | exact .inr rfl)) (pgs_cons (pg_name (i := 2) sc_write.nd rfl (by first | exact .inl rfl | exact .inr rfl)) pgs_nil))) (fun _ _ _ _ _ => pts_nil) (fun _ _ _ _ _ => (pe_op op_add_str (pe_op op_add_str (L2.pv 1) pe_str) (L2.pv 2))))) pa_nil))))
      (pss_one (ps_ret (pe_join pe_str (pe_lst (pa_star (L2.pv 3) (pa_cons (pe_join pe_str (pe_lst (pa_cons pe_str (pa_star (pe_fldK (K := K) (L2.pv 0)) pa_nil)))) pa_nil))))))), ?_⟩
    obtain ⟨a, b, rfl, ⟨dx, d, t, h1⟩, k⟩ := h
    have ad : a ≠ d := ne_of h1.ob h1.te (by intro e; cases e)
    have lb : b.people.natAbs.log2 < 1920 := by
      unfold Bk.people
      cases b.two <;> decide
    have lp : (Str.ofString "people ").length + (Str.ofString (toString b.people)).length ≤ sizeLine := by
      rw [sizeLine_eq]
      unfold Bk.people
      cases b.two <;> decide +kernel
    have ep : (Str.ofString "people ") ++ (Str.ofString (toString b.people)) = lineP b.two := by
      unfold Bk.people lineP
      cases b.two <;> decide +kernel
    refine ⟨_, rfl, a, C, dx, _, _, rfl, h1.ob, B.cl, B.nM, rfl, _, rfl, lb, _, _, rfl, rfl, lp, ?_⟩
    rw [ep]
    refine ⟨d, _, h1.te, trivial, fun od => ?_⟩
    have s0 : ∀ q o, q ≠ d → H q = some o → (upd H d (.frz od (.dK b.r.kv))) q = some o := fun q o hq h => by rw [upd_ne hq]; exact h
    refine ⟨_, rfl, a, C, dx, _, _, rfl, s0 _ _ ad h1.ob, B.cl, B.nT, rfl, d, od, _, rfl, upd_same, fun D hD => ?_⟩
    refine lc_it walk_items (fun i H' => L2.Same (upd H d (.frz od (.dK b.r.kv))) H' ∧ H' D = some (.lst (((rlines b.r).take i).map V.str))) ⟨Same.upd hD, upd_same⟩ (fun _ _ _ p => p.1 _ _ upd_same) ?_ ?_
    · rintro i x H1 H2 hi ⟨s1, hL⟩ ⟨T0, x1, y1, rfl, hT, rfl, e1, e2⟩
      obtain ⟨⟨kk, v⟩, hkv⟩ : ∃ p, b.r.kv[i]? = some p := ⟨b.r.kv[i], List.getElem?_eq_getElem hi⟩
      obtain ⟨k1, w1, rfl, rfl, hl, z1, z2⟩ := rl_at hkv
      simp only [hkv, Option.map_some, Option.some.injEq] at e1 e2
      subst e1 e2
      have hkk : kV (Sum.inr k1) = V.str k1 := rfl
      rw [hkk] at *
      refine ⟨T0, _, rfl, SqT.of upd_same, rfl, _, _, rfl, _, _, rfl, rfl, rfl, _, rfl, _, _, rfl, rfl, z1, _, rfl, _, _, rfl, rfl, z2, ?_⟩
      have s2 := Same.upd (o := HO.tup [V.str k1, V.str w1]) hT
      refine ⟨_, s2 _ _ hL, ?_, fun b2 o2 h2 => by rw [upd_ne (ne_of_none h2 hD)]; exact s2 _ _ (s1 _ _ h2), ?_⟩
      · rw [List.length_map, List.length_take]
        exact small1000 (Nat.le_trans (Nat.min_le_right _ _) (by rw [rl_len]; decide))
      · rw [upd_same, List.take_add_one, hl, List.map_append]
        rfl
    · rintro H1 ⟨s1, hL⟩
      refine ⟨s1 _ _ upd_same, ?_⟩
      have nD : D ≠ d := (ne_of_none (upd_same (H := H) (a := d)) hD).symm
      have s2 : L2.Same H (upd H1 d (.dK b.r.kv)) := fun q o hq => by
        by_cases e : q = d
        · subst e
          rw [h1.te] at hq
          cases hq
          exact upd_same
        · rw [upd_ne e]
          exact s1 _ _ (s0 _ _ e hq)
      have hL : (upd H1 d (.dK b.r.kv)) D = some (.lst ((rlines b.r).map V.str)) := by
        rw [upd_ne nD, hL]
        rfl
      revert s2 hL
      generalize upd H1 d (.dK b.r.kv) = H2
      intro s2 hL
      refine ⟨D, _, rfl, .inr (SqL.of hL), ?_⟩
      have z6 : (V.str (lineP b.two) :: ((rlines b.r).map V.str ++ [])).length ≤ sizeLine := by
        rw [List.length_cons, List.length_append, List.length_map, rl_len, sizeLine_eq]
        decide
      refine ⟨z6, fun l hl => ?_⟩
      have s3 := Same.upd' (o := HO.lst (V.str (lineP b.two) :: ((rlines b.r).map V.str ++ []))) s2 hl
      refine ⟨⟨_, rfl⟩, _, rfl, l, _, rfl, .inr (SqL.of upd_same), ⟨_, rfl⟩, ?_⟩
      refine ⟨_, rfl, a, C, dx, _, _, rfl, s3 _ _ h1.ob, B.cl, B.nK, rfl, t, _, rfl, .inl (SqT.same s3 h1.ki), ?_⟩
      have zw : (V.str "words" :: (b.k.ws.map V.str ++ [])).length ≤ sizeLine := by
        have := ws_len b.k
        rw [List.length_cons, List.length_append, List.length_map, sizeLine_eq]
        show _ + 0 + 1 ≤ _
        omega
      refine ⟨zw, fun l2 hl2 => ?_⟩
      have ew : V.str "words" :: (b.k.ws.map V.str ++ []) = (("words" : Str) :: b.k.ws).map V.str := by
        rw [List.append_nil, List.map_cons]
      have s4 := Same.upd' (o := HO.lst (V.str "words" :: (b.k.ws.map V.str ++ []))) s3 hl2
      refine ⟨sp1, l2, ("words" : Str) :: b.k.ws, rfl, rfl, .inl (SqL.of (by rw [upd_same, ew])), Nat.le_trans (ws_sum _) (by decide), ?_⟩
      have el : V.str (lineP b.two) :: ((rlines b.r).map V.str ++ []) ++ [V.str (lineW b.k)] = (linesOf b).map V.str := by
        unfold linesOf
        rw [List.append_nil, List.map_cons, List.map_append]
        rfl
      have z8 : ((linesOf b).map V.str).length ≤ sizeLine := by
        rw [← el, List.length_append, List.length_cons, List.length_append, List.length_map, rl_len, sizeLine_eq]
        show 6 + 0 + 1 + 1 ≤ 16777216
        decide
      show (V.str (lineP b.two) :: ((rlines b.r).map V.str ++ []) ++ [V.str (lineW b.k)]).length ≤ sizeLine ∧ _
      rw [el]
      refine ⟨z8, fun l3 hl3 => ?_⟩
      exact ⟨nl1, l3, linesOf b, rfl, rfl, .inl (SqL.of upd_same), tx_sum b, k _ (Same.upd' s4 hl3)⟩
end
end SD
namespace SD
open PySem L2 StX
/-! ### a text read back -/
theorem split_line {r : Rule} {i : Nat} {k : Str} (h : pn[i]? = some k) : ∃ w, w ∈ ([w0.getD i "", w1.getD i ""] : List Str) ∧ r.ws[i]? = some w ∧ (rlines r)[i]? = some (k ++ sp1 ++ w) ∧ Txt.split (k ++ sp1 ++ w) sp1 = [k, w] ∧ (k ++ sp1 ++ w).length ≤ 100 := by
  have hi : i < 6 := (List.getElem?_eq_some_iff.mp h).1
  match i, hi, h with
  | 0, _, h => cases h; exact ⟨_, by cases r.al <;> decide +kernel, rfl, rfl, by cases r.al <;> decide +kernel, by cases r.al <;> decide +kernel⟩
  | 1, _, h => cases h; exact ⟨_, by cases r.cl <;> decide +kernel, rfl, rfl, by cases r.cl <;> decide +kernel, by cases r.cl <;> decide +kernel⟩
  | 2, _, h => cases h; exact ⟨_, by cases r.dr <;> decide +kernel, rfl, rfl, by cases r.dr <;> decide +kernel, by cases r.dr <;> decide +kernel⟩
  | 3, _, h => cases h; exact ⟨_, by cases r.le <;> decide +kernel, rfl, rfl, by cases r.le <;> decide +kernel, by cases r.le <;> decide +kernel⟩
  | 4, _, h => cases h; exact ⟨_, by cases r.re <;> decide +kernel, rfl, rfl, by cases r.re <;> decide +kernel, by cases r.re <;> decide +kernel⟩
  | 5, _, h => cases h; exact ⟨_, by cases r.sg <;> decide +kernel, rfl, rfl, by cases r.sg <;> decide +kernel, by cases r.sg <;> decide +kernel⟩
theorem split_words (k : Kinds) : Txt.split (lineW k) sp1 = ("words" : Str) :: k.ws := by
  obtain ⟨a, b, c, d, e⟩ := k
  cases a <;> cases b <;> cases c <;> cases d <;> cases e <;> decide +kernel
theorem split_people (b : Bool) : Txt.split (lineP b) sp1 = [("people" : Str), bif b then ("2" : Str) else ("1" : Str)] := by cases b <;> decide +kernel
theorem nonl_r (r : Rule) : ∀ p ∈ rlines r, 10 ∉ TL.tl p := by
  obtain ⟨a, b, c, d, e, f⟩ := r
  cases a <;> cases b <;> cases c <;> cases d <;> cases e <;> cases f <;> decide +kernel
theorem nonl_w (k : Kinds) : 10 ∉ TL.tl (lineW k) := by
  obtain ⟨a, b, c, d, e⟩ := k
  cases a <;> cases b <;> cases c <;> cases d <;> cases e <;> decide +kernel
theorem nonl_p (b : Bool) : 10 ∉ TL.tl (lineP b) := by cases b <;> decide +kernel
theorem nonl (b : Bk) : ∀ p ∈ linesOf b, 10 ∉ TL.tl p := by
  intro p h
  rcases List.mem_cons.mp h with rfl | h
  · exact nonl_p _
  rcases List.mem_append.mp h with h | h
  · exact nonl_r _ _ h
  · obtain rfl := List.mem_singleton.mp h
    exact nonl_w _
theorem split_text (b : Bk) : Txt.split (textOf b) nl1 = linesOf b := TL.split_join (S := []) (s := 10) (by decide +kernel) (by decide +kernel) (by intro e; cases e) (nonl b)
theorem join_len (S : List Nat) : ∀ l : List (List Nat), (TL.joinL S l).length ≤ (l.map (·.length)).sum + l.length * S.length
  | [] => Nat.zero_le _
  | [p] => by
    show p.length ≤ p.length + 0 + 1 * S.length
    omega
  | p :: q :: r => by
    have ih := join_len S (q :: r)
    have e : TL.joinL S (p :: q :: r) = p ++ (S ++ TL.joinL S (q :: r)) := rfl
    rw [e, List.length_append, List.length_append, List.map_cons, List.sum_cons, List.length_cons (a := p), Nat.succ_mul]
    omega
theorem len_tl (p : Str) : (TL.tl p).length = p.length := rfl
theorem text_len (b : Bk) : (textOf b).length ≤ 1000 := by
  have h0 : (textOf b).length = (TL.tl (textOf b)).length := rfl
  have h1 := lp_len b.two
  have h2 := rl_sum b.r
  have h3 := lw_len b.k
  unfold textOf at h0 ⊢
  rw [TL.join_eq] at h0 ⊢
  rw [h0, TL.tl_join]
  refine Nat.le_trans (join_len _ _) ?_
  have e : ((linesOf b).map TL.tl).map (·.length) = (linesOf b).map (·.length) := by
    rw [List.map_map]
    rfl
  have h5 : (linesOf b).length = 8 := by
    unfold linesOf
    rw [List.length_cons, List.length_append, rl_len]
    rfl
  have h4 : (TL.tl nl1).length = 1 := rfl
  rw [e, List.length_map, h5, h4]
  unfold linesOf
  rw [List.map_cons, List.sum_cons, List.map_append, List.sum_append]
  show _ + (_ + ((lineW b.k).length + 0)) + 8 * 1 ≤ _
  omega
theorem cut1 {x : V} {xs : List V} : cutV (x :: xs) (some 1) none = xs := by
  unfold cutV
  have e : HT.sIx (x :: xs).length 0 (some 1) = 1 := by
    show min 1 (xs.length + 1) = 1
    omega
  have e2 : HT.sIx (x :: xs).length (x :: xs).length none = xs.length + 1 := rfl
  rw [e, e2]
  show xs.take (xs.length + 1 - 1) = xs
  rw [Nat.add_sub_cancel, List.take_length]
def spLine (K : PySem.W.Frag) : Sp := fun vs H Q _ => ∃ (l : Addr) (i : Nat) (ls : List Str) (s : Str), vs = [.ref l, .int i] ∧ SqL K H l (ls.map V.str) ∧ ls[i]? = some s ∧ s.length ≤ 1000 ∧
  ∀ p, H p = none → Q (.ref p) (upd H p (.lst ((Txt.split s sp1).map V.str)))
def spPair (K : PySem.W.Frag) : Sp := fun vs H Q _ => ∃ (l al : Addr) (i : Nat) (ls : List Str) (s a w : Str) (ws : List Str), vs = [.ref l, .int i, .str a, .ref al] ∧ SqL K H l (ls.map V.str) ∧ ls[i]? = some s ∧ s.length ≤ 1000 ∧
  Txt.split s sp1 = [a, w] ∧ (SqL K H al (ws.map V.str) ∨ SqT K H al (ws.map V.str)) ∧ w ∈ ws ∧ ∀ H', L2.Same H H' → Q (.str w) H'
def spWords (K : PySem.W.Frag) : Sp := fun vs H Q _ => ∃ (l : Addr) (i : Nat) (ls : List Str) (s : Str) (k : Kinds), vs = [.ref l, .int i] ∧ SqL K H l (ls.map V.str) ∧ ls[i]? = some s ∧ s.length ≤ 1000 ∧
  Txt.split s sp1 = ("words" : Str) :: k.ws ∧ ∀ t H', L2.Same H H' → SqT K H' t (k.ws.map V.str) → Q (.ref t) H'
section
variable {P : Program} {w : World} {K : PySem.W.Frag} {mg : Str → Option Value} {base : Heap}
abbrev s_line_at : Stmt := top 17
theorem sc_line_at : FnScope ["lines", "index"] ["lines", "index"] (defScope s_line_at) := ⟨rfl, rfl, rfl, by decide +kernel, rfl, by decide +kernel, by decide +kernel⟩
theorem ok_line_at {f : Addr} {fd : FuncData} (F : Fun K "line_at" "line_at" s_line_at f fd) (n_len : mg "len" = none) :
    FnOk P w K mg base CX0 1 f fd ["lines", "index"] (spLine K) := by
  refine F.ok sc_line_at (fun vs H Q E h => ?_) (fun cdv A outer s H vs Q E hr h => ?_)
  · (repeat (obtain ⟨_, h⟩ := h)) <;> (subst_vars; rfl)
  · have hu := hu_of hr
    refine ⟨_, (pss_cons (ps_if (pt_cmpR op_ge (L2.pv 1) (pe_callB (len_seqK (K := K)) (by rfl) n_len bo_len (pa_cons (L2.pv 0) pa_nil)) (nomark _)) (pss_one ps_never) pss_nil)
      (pss_one (ps_ret (pe_split (pe_ix (ix_listK (K := K)) (L2.pv 0) (L2.pv 1) (fun _ _ => rfl)) pe_str)))), ?_⟩
    obtain ⟨l, i, ls, s, rfl, hl, hi, hz, k⟩ := h
    have hlt : i < ls.length := (List.getElem?_eq_some_iff.mp hi).1
    refine ⟨_, rfl, _, rfl, l, _, rfl, .inl hl, _, _, rfl, rfl, false, congrArg V.bl (decide_eq_false (by rw [List.length_map]; omega)), iteF ?_⟩
    refine ⟨_, rfl, _, rfl, l, _, _, _, rfl, rfl, hl, atI_nat (by rw [List.getElem?_map, hi]; rfl), ?_⟩
    refine ⟨⟨s, rfl⟩, s, sp1, rfl, rfl, by decide +kernel, ?_, k⟩
    rw [sizeLine_eq]
    omega
abbrev s_pair_at : Stmt := top 18
theorem sc_pair_at : FnScope ["lines", "index", "first", "allowed", "words"] ["lines", "index", "first", "allowed"] (defScope s_pair_at) := ⟨rfl, rfl, rfl, by decide +kernel, rfl, by decide +kernel, by decide +kernel⟩
theorem ok_pair_at {f : Addr} {fd : FuncData} (F : Fun K "pair_at" "pair_at" s_pair_at f fd) (n_len : mg "len" = none)
    {f_line_at : Addr} {fd_line_at : FuncData} (G_line_at : FnOk P w K mg base CX0 1 f_line_at fd_line_at ["lines", "index"] (spLine K)) (D_line_at : DefIn K mg "line_at" f_line_at fd_line_at ["lines", "index"]) :
    FnOk P w K mg base CX0 2 f fd ["lines", "index", "first", "allowed"] (spPair K) := by
  refine F.ok sc_pair_at (fun vs H Q E h => ?_) (fun cdv A outer s H vs Q E hr h => ?_)
  · (repeat (obtain ⟨_, h⟩ := h)) <;> (subst_vars; rfl)
  · have hu := hu_of hr
    refine ⟨_, (pss_cons (ps_set (i := 4) sc_pair_at.nd rfl (by first | exact .inl rfl | exact .inr rfl) (pe_cl G_line_at (hr.mono (by decide)) D_line_at (pa_cons (L2.pv 0) (pa_cons (L2.pv 1) pa_nil))))
      (pss_cons (ps_if (PW.pt (pw_or (pt_cmpR op_ne (pe_callB (len_seqK (K := K)) (by rfl) n_len bo_len (pa_cons (L2.pv 4) pa_nil)) pe_int (nomark _)) (pw_or (pt_cmpR op_ne (pe_ix (ix_listK (K := K)) (L2.pv 4) pe_int (fun _ _ => rfl)) (L2.pv 2) (nomark _)) (pw_or1 (pt_cmpR (op_notInK (K := K)) (pe_ix (ix_listK (K := K)) (L2.pv 4) pe_int (fun _ _ => rfl)) (L2.pv 3) (by rfl)))))) (pss_one ps_never) pss_nil)
      (pss_one (ps_ret (pe_ix (ix_listK (K := K)) (L2.pv 4) pe_int (fun _ _ => rfl)))))), ?_⟩
    obtain ⟨l, al, i, ls, s, a, z, ws, rfl, hl, hi, hz, hs, ha, hw, k⟩ := h
    refine ⟨_, rfl, _, rfl, l, i, ls, s, rfl, hl, hi, hz, fun p hp => ?_⟩
    rw [hs]
    have h0 : upd H p (.lst (([a, z] : List Str).map V.str)) p = some (.lst [.str a, .str z]) := upd_same
    have hp1 := SqL.of (K := K) h0
    have s1 : L2.Same H (upd H p (.lst (([a, z] : List Str).map V.str))) := Same.upd hp
    have ha1 : SqL K (upd H p (.lst (([a, z] : List Str).map V.str))) al (ws.map V.str) ∨ SqT K (upd H p (.lst (([a, z] : List Str).map V.str))) al (ws.map V.str) := ha.imp (fun h => SqL.same s1 h) (fun h => SqT.same s1 h)
    refine ⟨_, rfl, p, _, rfl, .inl hp1, rfl, _, rfl, iteNS rfl ?_⟩
    refine ⟨_, rfl, p, _, _, _, rfl, rfl, hp1, rfl, _, rfl, rfl, _, rfl, iteNS rfl ?_⟩
    refine ⟨_, rfl, p, _, _, _, rfl, rfl, hp1, rfl, _, rfl, al, _, rfl, ha1, rfl, flat_strs ws, false, ?_, iteF ?_⟩
    · show V.bl (!inV (.str z) (ws.map V.str)) = V.bl false
      rw [inV_str, decide_eq_true hw]
      rfl
    exact ⟨_, rfl, p, _, _, _, rfl, rfl, hp1, rfl, k _ s1⟩
abbrev s_words_at : Stmt := top 19
theorem sc_words_at : FnScope ["lines", "index", "words", "word"] ["lines", "index"] (defScope s_words_at) := ⟨rfl, rfl, rfl, by decide +kernel, rfl, by decide +kernel, by decide +kernel⟩
theorem ok_words_at {f : Addr} {fd : FuncData} (F : Fun K "words_at" "words_at" s_words_at f fd) {dP aW : Addr} {pv : List (Str × V)} (T : BkTab P w K mg dP pv aW) (n_tuple : mg "tuple" = none)
    {f_line_at : Addr} {fd_line_at : FuncData} (G_line_at : FnOk P w K mg base CX0 1 f_line_at fd_line_at ["lines", "index"] (spLine K)) (D_line_at : DefIn K mg "line_at" f_line_at fd_line_at ["lines", "index"]) :
    FnOk P w K mg base CX0 2 f fd ["lines", "index"] (spWords K) := by
  refine F.ok sc_words_at (fun vs H Q E h => ?_) (fun cdv A outer s H vs Q E hr h => ?_)
  · (repeat (obtain ⟨_, h⟩ := h)) <;> (subst_vars; rfl)
  · have hu := hu_of hr
    refine ⟨_, (pss_cons (ps_set (i := 2) sc_words_at.nd rfl (by first | exact .inl rfl | exact .inr rfl) (pe_cl G_line_at (hr.mono (by decide)) D_line_at (pa_cons (L2.pv 0) (pa_cons (L2.pv 1) pa_nil))))
      (pss_cons (ps_if (PW.pt (pw_or (pt_cmpR op_ne (pe_ix (ix_listK (K := K)) (L2.pv 2) pe_int (fun _ _ => rfl)) pe_str (nomark _)) (pw_or1 (pt_cmpR (op_neDK (K := K) hr.units) (pe_lc (own := [("word", 3)]) (g := gName 3) rfl sc_words_at.nd (pi_tupK (K := K) (pe_glob (v := .ref aW) (by rfl) T.mW rfl)) (blkOk_by (N := ["lines", "index", "words", "word"]) (sc := defScope s_words_at) (by decide +kernel)) (fun _ _ _ _ _ => pg_name (i := 3) sc_words_at.nd rfl (by first | exact .inl rfl | exact .inr rfl)) (fun _ _ _ _ _ => (pts_one (pt_cmpR (op_inK (K := K)) (L2.pv 3) (pe_slice (sl_listK (K := K)) (L2.pv 2) (po_some pe_int) po_none) (by rfl)))) (fun _ _ _ _ _ => (L2.pv 3))) (pe_slice (sl_listK (K := K)) (L2.pv 2) (po_some pe_int) po_none) (nomark _))))) (pss_one ps_never) pss_nil)
      (pss_one (ps_ret (pe_callTy (tuple_ofK (K := K)) (by rfl) n_tuple bo_tuple (pa_cons (pe_slice (sl_listK (K := K)) (L2.pv 2) (po_some pe_int) po_none) pa_nil)))))), ?_⟩
    obtain ⟨l, i, ls, s, kk, rfl, hl, hi, hz, hs, k⟩ := h
    refine ⟨_, rfl, _, rfl, l, i, ls, s, rfl, hl, hi, hz, fun p hp => ?_⟩
    rw [hs]
    have h0 : upd H p (.lst ((("words" : Str) :: kk.ws).map V.str)) p = some (.lst (.str ("words" : Str) :: kk.ws.map V.str)) := upd_same
    have s1 : L2.Same H (upd H p (.lst ((("words" : Str) :: kk.ws).map V.str))) := Same.upd hp
    revert s1 h0
    generalize upd H p (.lst ((("words" : Str) :: kk.ws).map V.str)) = H1
    intro h0 s1
    refine ⟨_, rfl, p, _, _, _, rfl, rfl, SqL.of h0, atI_nat (j := 0) (v := .str ("words" : Str)) rfl, rfl, _, rfl, iteNS rfl ?_⟩
    refine ⟨aW, rfl, ⟨_, T.wd _⟩, fun D hD => ?_⟩
    refine lc_it walk_tup (fun i H' => L2.Same H1 H' ∧ H' D = some (.lst (((allW.take i).filter fun w => decide (w ∈ kk.ws)).map V.str))) ⟨Same.upd hD, upd_same⟩ (fun i H' _ p => T.wd _) ?_ ?_
    · rintro i x H3 H4 hi ⟨s3, hL3⟩ ⟨rfl, hx⟩
      obtain ⟨w', hw', rfl⟩ := at_str (ws := allW) hx
      have tk : allW.take (i + 1) = allW.take i ++ [w'] := by
        rw [List.take_add_one, hw']
        rfl
      refine ⟨rfl, _, rfl, _, rfl, _, rfl, p, _, rfl, SqL.of (s3 _ _ h0), fun p2 hp2 => ?_⟩
      rw [cut1]
      have s4 := Same.upd' (o := HO.lst (kk.ws.map V.str)) s3 hp2
      have hL4 := Same.upd (o := HO.lst (kk.ws.map V.str)) hp2 _ _ hL3
      have n2 : p2 ≠ D := (ne_of_none hL3 hp2).symm
      refine ⟨p2, _, rfl, .inl (SqL.of upd_same), rfl, flat_strs _, _, rfl, ?_⟩
      revert s4 hL4
      generalize upd H4 p2 (.lst (kk.ws.map V.str)) = H5
      intro s4 hL4
      rw [tk, List.filter_append, List.map_append]
      show if inV (.str w') (kk.ws.map V.str) = true then _ else _
      rw [inV_str]
      by_cases hm : w' ∈ kk.ws
      · rw [decide_eq_true hm]
        refine ⟨_, rfl, _, hL4, ?_, ?_, ?_⟩
        · rw [List.length_map]
          refine small1000 (Nat.le_trans (List.length_filter_le _ _) ?_)
          rw [List.length_take]
          exact Nat.le_trans (Nat.min_le_right _ _) (by decide)
        · exact fun b2 o2 h2 => by rw [upd_ne (ne_of_none h2 hD)]; exact s4 _ _ h2
        · rw [upd_same, List.filter_cons_of_pos (by exact decide_eq_true hm)]
          rfl
      · rw [decide_eq_false hm]
        refine ⟨s4, ?_⟩
        rw [List.filter_cons_of_neg (by rw [decide_eq_false hm]; exact Bool.false_ne_true)]
        rw [List.filter_nil, List.map_nil, List.append_nil]
        exact hL4
    rintro H3 ⟨s3, hL3⟩
    have hL3 : H3 D = some (.lst (kk.ws.map V.str)) := by
      have e : ((allW.take ([.str "back", .str "both", .str "hide", .str "stage", .str "throw"] : List V).length).filter fun w => decide (w ∈ kk.ws)) = kk.ws := ws_filter kk
      rw [e] at hL3
      exact hL3
    refine ⟨_, rfl, _, rfl, p, _, rfl, SqL.of (s3 _ _ h0), fun p2 hp2 => ?_⟩
    rw [cut1]
    have s4 := Same.upd' (o := HO.lst (kk.ws.map V.str)) s3 hp2
    have eqD : PyData.eqv (.list (kk.ws.map PyData.str)) (.list (kk.ws.map PyData.str)) = true := by
      rw [PyData.eqv, eqv_strs]
      exact decide_eq_true rfl
    have sh : SeqAt.shaped (.list (kk.ws.map PyData.str)) = true := shaped_strs kk.ws (ws_sub _)
    refine ⟨_, _, .lst (SqL.of ((Same.upd (o := HO.lst (kk.ws.map V.str)) hp2) _ _ hL3)) (dp_strs _), .lst (SqL.of upd_same) (dp_strs _), sh, sh, false, ?_, iteF ?_⟩
    · rw [eqD]
      rfl
    refine ⟨_, rfl, _, rfl, p, _, rfl, SqL.of (s4 _ _ h0), fun p3 hp3 => ?_⟩
    rw [cut1]
    have s5 := Same.upd' (o := HO.lst (kk.ws.map V.str)) s4 hp3
    refine ⟨p3, _, rfl, .inl ⟨SqL.of upd_same, fun t ht => ?_⟩⟩
    exact k t _ (s1.trans (Same.upd' s5 ht)) (SqT.of upd_same)
def peopleD : List (Str × PyData) := [("1", .int 1), ("2", .int 2)]
theorem pp_of {xs : List (Str × V)} (h1 : xs.map (·.1) = peopleD.map (·.1)) (h2 : ∀ H, DpAll K H (xs.map (·.2)) (peopleD.map (·.2))) : xs = [(("1" : Str), V.int 1), (("2" : Str), V.int 2)] := by
  match xs, h1, h2 with
  | [(a, u), (b, v)], h1, h2 =>
    have e := List.cons.inj h1
    have e1 : a = "1" := e.1
    have e2 : b = "2" := (List.cons.inj e.2).1
    subst e1 e2
    cases h2 (fun _ => none) with
    | cons h3 h4 =>
      cases h3
      cases h4 with
      | cons h5 _ =>
        cases h5
        rfl
/-- PEOPLE -/
structure PpTab (P : Program) (w : World) (K : PySem.W.Frag) (mg : Str → Option Value) (dQ : Addr) : Prop where
  mQ : mg "PEOPLE" = some (.ref dQ)
  kd : KD P w K dQ [(("1" : Str), V.int 1), (("2" : Str), V.int 2)]
def spRead (K : PySem.W.Frag) (C : Addr) : Sp := fun vs H Q _ => ∃ b : Bk, vs = [.str (textOf b)] ∧ ∀ (a : Addr) (H' : Hp), L2.Same H H' → H a = none → BookAt K C H' a b → Q (.ref a) H'
abbrev s_read : Stmt := top 20
theorem sc_read : FnScope ["text", "lines", "rule", "index", "people", "part", "allowed", "words"] ["text"] (defScope s_read) := ⟨rfl, rfl, rfl, by decide +kernel, rfl, by decide +kernel, by decide +kernel⟩
theorem ok_read {f : Addr} {fd : FuncData} (F : Fun K "read" "read" s_read f fd) {C : Addr} (B : BkCls K mg C) {dP aW dQ : Addr} {pv : List (Str × V)} (T : BkTab P w K mg dP pv aW) (TQ : PpTab P w K mg dQ) {fI : Addr} {fdI : FuncData} (M : Mk K C fI) (GI : FnOk P w K mg base CX0 3 fI fdI ["self", "people", "rule", "words"] (spBook K C)) (bI : Binds K fdI ["self", "people", "rule", "words"] []) (n_len : mg "len" = none) (n_list : mg "list" = none)
    {f_words_at : Addr} {fd_words_at : FuncData} (G_words_at : FnOk P w K mg base CX0 2 f_words_at fd_words_at ["lines", "index"] (spWords K)) (D_words_at : DefIn K mg "words_at" f_words_at fd_words_at ["lines", "index"])
    {f_pair_at : Addr} {fd_pair_at : FuncData} (G_pair_at : FnOk P w K mg base CX0 2 f_pair_at fd_pair_at ["lines", "index", "first", "allowed"] (spPair K)) (D_pair_at : DefIn K mg "pair_at" f_pair_at fd_pair_at ["lines", "index", "first", "allowed"]) :
    FnOk P w K mg base CX0 5 f fd ["text"] (spRead K C) := by
  refine F.ok sc_read (fun vs H Q E h => ?_) (fun cdv A outer s H vs Q E hr h => ?_)
  · (repeat (obtain ⟨_, h⟩ := h)) <;> (subst_vars; rfl)
  · have hu := hu_of hr
    refine ⟨_, (pss_cons (ps_par3 (i := 1) (j := 2) (l := 3) (by rfl) sc_read.nd rfl rfl rfl (by decide) (by decide) (by decide) rfl rfl rfl (pa_cons (pe_split (L2.pv 0) pe_str) (pa_cons pe_dnewK (pa_cons pe_int pa_nil))) (by rfl))
      (pss_cons (ps_set (i := 4) sc_read.nd rfl (by first | exact .inl rfl | exact .inr rfl) (pe_ix (ix_kd TQ.kd) (pe_glob (v := .ref dQ) (by rfl) TQ.mQ rfl) (pe_cl G_pair_at (hr.mono (by decide)) D_pair_at (pa_cons (L2.pv 1) (pa_cons pe_int (pa_cons pe_str (pa_cons (pe_callTy (kd_list TQ.kd rfl) (by rfl) n_list bo_list (pa_cons (pe_glob (v := .ref dQ) (by rfl) TQ.mQ rfl) pa_nil)) pa_nil))))) (fun _ _ => rfl)))
      (pss_cons (ps_for PassesOwn.never rfl (pi_kdI T.kd (pe_glob (v := .ref dP) (by rfl) T.mP rfl)) (pg_tupK (K := K) rfl (pgs_cons (pg_name (i := 5) sc_read.nd rfl (by first | exact .inl rfl | exact .inr rfl)) (pgs_cons (pg_name (i := 6) sc_read.nd rfl (by first | exact .inl rfl | exact .inr rfl)) pgs_nil))) (pss_cons (ps_dput hu (L2.pv 2) (L2.pv 5) (pe_cl G_pair_at (hr.mono (by decide)) D_pair_at (pa_cons (L2.pv 1) (pa_cons (L2.pv 3) (pa_cons (L2.pv 5) (pa_cons (L2.pv 6) pa_nil))))) rfl)
      (pss_one (ps_aug (i := 3) sc_read.nd rfl (by first | exact .inl rfl | exact .inr rfl) pe_int ip_add))))
      (pss_cons (ps_set (i := 7) sc_read.nd rfl (by first | exact .inl rfl | exact .inr rfl) (pe_cl G_words_at (hr.mono (by decide)) D_words_at (pa_cons (L2.pv 1) (pa_cons (L2.pv 3) pa_nil))))
      (pss_cons (ps_if (pt_cmpR op_gt (pe_callB (len_seqK (K := K)) (by rfl) n_len bo_len (pa_cons (L2.pv 1) pa_nil)) (pe_op op_add (L2.pv 3) pe_int) (nomark _)) (pss_one ps_never) pss_nil)
      (pss_one (ps_ret (pe_make M GI (hr.mono (by decide)) rfl B.mC bI .nil pass0 (pa_cons (L2.pv 4) (pa_cons (L2.pv 2) (pa_cons (L2.pv 7) pa_nil))))))))))), ?_⟩
    obtain ⟨b, rfl, k⟩ := h
    refine ⟨_, rfl, ⟨_, rfl⟩, textOf b, nl1, rfl, rfl, by decide +kernel, by have := text_len b; rw [sizeLine_eq]; omega, fun l hl => ?_⟩
    rw [split_text]
    intro d hd
    have ld : d ≠ l := (ne_of_none upd_same hd).symm
    refine ⟨_, _, _, rfl, ?_⟩
    have s1 : L2.Same H (upd (upd H l (.lst ((linesOf b).map V.str))) d (.dK [])) := Same.upd' (Same.upd hl) hd
    have nl : H l = none := hl
    have nd : H d = none := by rw [← hd, upd_ne ld]
    have h1 : (upd (upd H l (.lst ((linesOf b).map V.str))) d (.dK [])) l = some (.lst ((linesOf b).map V.str)) := by rw [upd_ne ld.symm, upd_same]
    have h2 : (upd (upd H l (.lst ((linesOf b).map V.str))) d (.dK [])) d = some (.dK []) := upd_same
    revert s1 h1 h2
    generalize upd (upd H l (.lst ((linesOf b).map V.str))) d (.dK []) = H1
    intro s1 h1 h2
    -- people
    refine ⟨_, rfl, rfl, fun p hp => ?_⟩
    have s2 := Same.upd (o := HO.lst ([(("1" : Str), V.int 1), (("2" : Str), V.int 2)].map fun kv => V.str kv.1)) hp
    refine ⟨l, p, 0, linesOf b, lineP b.two, "people", bif b.two then ("2" : Str) else ("1" : Str), ["1", "2"], rfl, SqL.of (s2 _ _ h1), rfl, Nat.le_trans (lp_len _) (by decide), split_people _, .inl (SqL.of upd_same), ?_, fun H2 s3 => ?_⟩
    · cases b.two <;> decide +kernel
    have s3 := s2.trans s3
    refine ⟨bif b.two then ("2" : Str) else ("1" : Str), .int b.people, rfl, rfl, ?_, ?_⟩
    · unfold Bk.people
      cases b.two
      · exact List.mem_cons_self
      · exact List.mem_cons_of_mem _ List.mem_cons_self
    have h1' := h1
    have h1 := s3 _ _ h1
    have h2 := s3 _ _ h2
    have s1' := s1
    have s1 := s1.trans s3
    have fr2 : ∀ q o, q ≠ d → H q = some o → H2 q = some o := fun q o _ h => s1 q o h
    refine ⟨rfl, for_it walk_kdI (fun i σ H' => ∃ v1 v2 : Option V, σ = [some (.str (textOf b)), some (.ref l), some (.ref d), some (.int ((i + 1 : Nat) : Int)), some (.int b.people), v1, v2, none] ∧ (∀ q o, q ≠ d → H2 q = some o → H' q = some o) ∧ H' d = some (.dK (kvN (b.r.ws.take i)))) ⟨none, none, rfl, fun _ _ _ h => h, h2⟩ (fun _ _ _ _ _ => trivial) ?_ ?_⟩
    · rintro i x σ H3 H4 hi ⟨v1, v2, rfl, f3, e3⟩ ⟨T0, q, hq, rfl, hT, rfl⟩
      obtain ⟨pk, px⟩ := q
      obtain ⟨e1, i6, a, ha, hw⟩ := T.at hq
      have ha : px = .ref a := ha
      subst ha
      obtain ⟨wd, hwd, er, hl6, hsp, hz⟩ := split_line (r := b.r) e1
      have sT := Same.upd (o := HO.tup [V.str pk, .ref a]) hT
      refine ⟨T0, _, rfl, SqT.of upd_same, rfl, _, _, rfl, _, _, rfl, rfl, ?_⟩
      have hl : (linesOf b)[i + 1]? = some (pk ++ sp1 ++ wd) := by
        unfold linesOf
        rw [List.getElem?_cons_succ, List.getElem?_append_left (by rw [rl_len]; exact i6)]
        exact hl6
      refine ⟨_, rfl, _, rfl, _, rfl, _, rfl, l, a, i + 1, linesOf b, _, pk, wd, _, rfl, SqL.of (sT _ _ (f3 _ _ ld.symm h1)), hl, Nat.le_trans hz (by decide), hsp, .inr (hw _), hwd, fun H5 s5 => ?_⟩
      have s5 := sT.trans s5
      have hd5 : H5 d = some (.dK (kvN (b.r.ws.take i))) := s5 _ _ e3
      have tl : (b.r.ws.take i).length = i := by
        rw [List.length_take]
        exact Nat.min_eq_left (Nat.le_of_lt i6)
      have hn : pn[(b.r.ws.take i).length]? = some pk := by rw [tl]; exact e1
      have small : (kvN (b.r.ws.take i)).length < sizeLine := by
        refine small1000 ?_
        unfold kvN
        rw [List.length_zipWith]
        exact Nat.le_trans (Nat.min_le_left _ _) (by decide)
      refine ⟨_, rfl, _, rfl, d, _, rfl, DPut.k (k := Sum.inr pk) hd5 small, ?_⟩
      refine ⟨_, rfl, _, _, rfl, rfl, some (.str pk), some (.ref a), rfl, fun q o n h => by rw [upd_ne n]; exact s5 _ _ (f3 q o n h), ?_⟩
      rw [upd_same, putK_new _ (kvN_new hn), ← kvN_snoc hn, List.take_add_one, er]
      rfl
    · rintro σ H3 ⟨v1, v2, rfl, f3, e3⟩
      have e3 : H3 d = some (.dK b.r.kv) := by
        rw [T.len] at e3
        exact e3
      have f3 : ∀ q o, q ≠ d → H1 q = some o → H3 q = some o := fun q o n h => f3 q o n (s3 q o h)
      have h1 := f3 _ _ ld.symm h1'
      have i7 : pv.length + 1 = 7 := by rw [T.len]
      rw [i7]
      have hl : (linesOf b)[7]? = some (lineW b.k) := rfl
      refine ⟨_, rfl, _, rfl, l, 7, linesOf b, lineW b.k, b.k, rfl, SqL.of h1, hl, Nat.le_trans (lw_len _) (by decide), split_words _, fun t H4 s4 ht => ?_⟩
      have h1 := s4 _ _ h1
      have ll : ((linesOf b).map V.str).length = 8 := by
        rw [List.length_map]
        unfold linesOf
        rw [List.length_cons, List.length_append, rl_len]
        rfl
      refine ⟨_, rfl, l, _, rfl, .inl (SqL.of h1), _, rfl, _, _, rfl, rfl, _, _, rfl, rfl, false, ?_, iteF ?_⟩
      · rw [ll]
        rfl
      refine ⟨_, rfl, _, rfl, _, rfl, ?_⟩
      intro x dx nx ndx nex
      have s0 : L2.Same H4 (upd (upd H4 dx (.own x)) x (.ins C dx [])) := Same.upd' (Same.upd ndx) (by rw [upd_ne nex.symm]; exact nx)
      refine ⟨x, dx, d, t, b, rfl, upd_same, s0 _ _ (s4 _ _ e3), SqT.same s0 ht, fun H5 k1 hB => ⟨rfl, ?_⟩⟩
      have xl : x ≠ d := (ne_of_none (s4 _ _ e3) nx).symm
      have go : L2.Same H H5 := fun q o h => by
        have qd : q ≠ d := ne_of_none h nd
        have q4 := s4 _ _ (f3 q o qd (s1' q o h))
        exact k1 q o (ne_of_none q4 nx) (s0 _ _ q4)
      refine k x H5 go ?_ hB
      cases e : H x with
      | none => rfl
      | some o =>
        have q4 := s4 _ _ (f3 x o xl (s1' x o e))
        rw [nx] at q4
        cases q4
end
end SD
namespace SD
open PySem L2 StX
def spLaw (K : PySem.W.Frag) : Sp := fun vs H Q _ => ∃ (a : Addr) (ns : List Int), vs = [.ref a] ∧ SqL K H a (ns.map V.int) ∧ ns.length ≤ 63 ∧ ∀ H', Q (.bl true) H'
theorem ppl_log (two : Bool) : (bif two then 2 else 1 : Int).natAbs.log2 < 1920 := by cases two <;> decide
theorem ppl_len (two : Bool) : (Str.ofString "people ").length + (Str.ofString (toString (bif two then 2 else 1 : Int))).length ≤ 16777216 := by cases two <;> decide +kernel
theorem ppl_eq (two : Bool) : (Str.ofString "people ") ++ (Str.ofString (toString (bif two then 2 else 1 : Int))) = lineP two := by
  unfold lineP
  cases two <;> decide +kernel
section
variable {P : Program} {w : World} {K : PySem.W.Frag} {mg : Str → Option Value} {base : Heap}
abbrev s_law : Stmt := top 28
theorem sc_law : FnScope ["_law_script", "_law_h", "_law_turn", "_law_word", "_law_words", "_law_row", "_law_part", "_law_lines", "_law_text"] ["_law_script"] (defScope s_law) := ⟨rfl, rfl, rfl, by decide +kernel, rfl, by decide +kernel, by decide +kernel⟩
theorem ok_law {f : Addr} {fd : FuncData} (F : Fun K "law" "law" s_law f fd) {C : Addr} (B : BkCls K mg C) (S : BkIsi K C) {fE : Addr} {fdE : FuncData} (GE : FnOk P w K mg base CX0 1 fE fdE ["self", "other"] (spEq K C)) (bE : Binds K fdE ["self", "other"] []) (hE : PySem.W.findIn K (.ref C) "__eq__" = some (some (.ref fE))) (hF : PySem.W.isFn K (.ref fE) = true) (n_list : mg "list" = none) (n_range : mg "range" = none) (n_str : mg "str" = none) (n_tuple : mg "tuple" = none)
    {f_write : Addr} {fd_write : FuncData} (G_write : FnOk P w K mg base CX0 1 f_write fd_write ["book"] (spWrite K C)) (D_write : DefIn K mg "write" f_write fd_write ["book"])
    {f_read : Addr} {fd_read : FuncData} (G_read : FnOk P w K mg base CX0 5 f_read fd_read ["text"] (spRead K C)) (D_read : DefIn K mg "read" f_read fd_read ["text"])
    {f__law_built : Addr} {fd__law_built : FuncData} (G__law_built : FnOk P w K mg base CX0 5 f__law_built fd__law_built ["_law_row"] (spBuilt K C)) (D__law_built : DefIn K mg "_law_built" f__law_built fd__law_built ["_law_row"])
    {f__law_parts : Addr} {fd__law_parts : FuncData} (G__law_parts : FnOk P w K mg base CX0 1 f__law_parts fd__law_parts [] spParts) (D__law_parts : DefIn K mg "_law_parts" f__law_parts fd__law_parts [])
    {f__law_rule : Addr} {fd__law_rule : FuncData} (G__law_rule : FnOk P w K mg base CX0 3 f__law_rule fd__law_rule ["_law_h"] spRule) (D__law_rule : DefIn K mg "_law_rule" f__law_rule fd__law_rule ["_law_h"])
    {f__law_next : Addr} {fd__law_next : FuncData} (G__law_next : FnOk P w K mg base CX0 1 f__law_next fd__law_next ["_law_h", "_law_cap"] spNext) (D__law_next : DefIn K mg "_law_next" f__law_next fd__law_next ["_law_h", "_law_cap"])
    {f__law_mix : Addr} {fd__law_mix : FuncData} (G__law_mix : FnOk P w K mg base CX0 1 f__law_mix fd__law_mix ["_law_script", "_law_seed"] (spMix K)) (D__law_mix : DefIn K mg "_law_mix" f__law_mix fd__law_mix ["_law_script", "_law_seed"]) :
    FnOk P w K mg base CX0 6 f fd ["_law_script"] (spLaw K) := by
  refine F.ok sc_law (fun vs H Q E h => ?_) (fun cdv A outer s H vs Q E hr h => ?_)
  · (repeat (obtain ⟨_, h⟩ := h)) <;> (subst_vars; rfl)
  · have hu := hu_of hr
    refine ⟨_, (pss_cons (ps_set (i := 1) sc_law.nd rfl (by first | exact .inl rfl | exact .inr rfl) (pe_cl G__law_mix (hr.mono (by decide)) D__law_mix (pa_cons (L2.pv 0) (pa_cons pe_int pa_nil))))
      (pss_cons (ps_for PassesOwn.never rfl (pi_range1 (by rfl) n_range (pa_cons pe_int pa_nil)) (pg_name (i := 2) sc_law.nd rfl (by first | exact .inl rfl | exact .inr rfl)) (pss_cons (ps_set (i := 4) sc_law.nd rfl (by first | exact .inl rfl | exact .inr rfl) (pe_callTy (tuple_ofK (K := K)) (by rfl) n_tuple bo_tuple (pa_cons (pe_lc (own := [("_law_word", 3)]) (g := gName 3) rfl sc_law.nd (pi_listK (K := K) (pe_lst (pa_cons pe_str (pa_cons pe_str (pa_cons pe_str (pa_cons pe_str (pa_cons pe_str pa_nil))))))) (blkOk_by (N := ["_law_script", "_law_h", "_law_turn", "_law_word", "_law_words", "_law_row", "_law_part", "_law_lines", "_law_text"]) (sc := defScope s_law) (by decide +kernel)) (fun _ _ _ _ _ => pg_name (i := 3) sc_law.nd rfl (by first | exact .inl rfl | exact .inr rfl)) (fun _ _ _ _ _ => (pts_one (pt_cmpR op_eq (pe_cl G__law_next (hr.mono (by decide)) D__law_next (pa_cons (L2.pv 1) (pa_cons pe_int pa_nil))) pe_int (nomark _)))) (fun _ _ _ _ _ => (L2.pv 3))) pa_nil)))
      (pss_cons (ps_set (i := 5) sc_law.nd rfl (by first | exact .inl rfl | exact .inr rfl) (pe_lst (pa_cons (pe_op op_add pe_int (pe_cl G__law_next (hr.mono (by decide)) D__law_next (pa_cons (L2.pv 1) (pa_cons pe_int pa_nil)))) (pa_cons (pe_cl G__law_rule (hr.mono (by decide)) D__law_rule (pa_cons (L2.pv 1) pa_nil)) (pa_cons (L2.pv 4) pa_nil)))))
      (pss_cons (ps_set (i := 7) sc_law.nd rfl (by first | exact .inl rfl | exact .inr rfl) (pe_op op_cat (pe_lst (pa_cons (pe_op op_add_str pe_str (pe_callTy call_str_int (by rfl) n_str bo_str (pa_cons (pe_ix (ix_listK (K := K)) (L2.pv 5) pe_int (fun _ _ => rfl)) pa_nil))) pa_nil)) (pe_lc (own := [("_law_part", 6)]) (g := gName 6) (tt := tYes) rfl sc_law.nd (pi_listK (K := K) (pe_cl0 G__law_parts (hr.mono (by decide)) D__law_parts)) (blkOk_by (N := ["_law_script", "_law_h", "_law_turn", "_law_word", "_law_words", "_law_row", "_law_part", "_law_lines", "_law_text"]) (sc := defScope s_law) (by decide +kernel)) (fun _ _ _ _ _ => pg_name (i := 6) sc_law.nd rfl (by first | exact .inl rfl | exact .inr rfl)) (fun _ _ _ _ _ => pts_nil) (fun _ _ _ _ _ => (pe_op op_add_str (pe_op op_add_str (pe_ix (ix_listK (K := K)) (L2.pv 6) pe_int (fun _ _ => rfl)) pe_str) (pe_dget hu (pe_ix (ix_listK (K := K)) (L2.pv 5) pe_int (fun _ _ => rfl)) (pe_ix (ix_listK (K := K)) (L2.pv 6) pe_int (fun _ _ => rfl)) (fun _ _ => rfl)))))))
      (pss_cons (ps_set (i := 8) sc_law.nd rfl (by first | exact .inl rfl | exact .inr rfl) (pe_join pe_str (pe_op op_cat (L2.pv 7) (pe_lst (pa_cons (pe_join pe_str (pe_op op_cat (pe_lst (pa_cons pe_str pa_nil)) (pe_callTy (list_ofK (K := K)) (by rfl) n_list bo_list (pa_cons (L2.pv 4) pa_nil)))) pa_nil)))))
      (pss_one (ps_if (PW.pt (pw_or (pt_cmpR op_ne (pe_cl G_write (hr.mono (by decide)) D_write (pa_cons (pe_cl G__law_built (hr.mono (by decide)) D__law_built (pa_cons (L2.pv 5) pa_nil)) pa_nil)) (L2.pv 8) (nomark _)) (pw_or (pt_not (pt_cmpR (op_eqOwn GE (hr.mono (by decide)) hE hF bE) (pe_cl G_read (hr.mono (by decide)) D_read (pa_cons (L2.pv 8) pa_nil)) (pe_cl G__law_built (hr.mono (by decide)) D__law_built (pa_cons (L2.pv 5) pa_nil)) (nomark _))) (pw_or1 (pt_cmpR op_ne (pe_cl G_write (hr.mono (by decide)) D_write (pa_cons (pe_cl G_read (hr.mono (by decide)) D_read (pa_cons (L2.pv 8) pa_nil)) pa_nil)) (L2.pv 8) (nomark _)))))) (pss_one (ps_ret pe_bl)) pss_nil)))))))
      (pss_one (ps_ret pe_bl)))), ?_⟩
    obtain ⟨a, ns, rfl, ha, hn, k⟩ := h
    refine ⟨_, rfl, a, 13, ns, rfl, ha, by decide, by decide, hn, fun p c H0 s0 np nc dr => ?_⟩
    refine ⟨_, rfl, by decide, by decide, for_it walk_range (fun i σ H => ∃ v2 v3 v4 v5 v6 v7 v8 : Option V, σ = [some (.ref a), some (.ref p), v2, v3, v4, v5, v6, v7, v8] ∧ Dr H p c) ⟨none, none, none, none, none, none, none, rfl, dr⟩ (fun _ _ _ _ _ => trivial) ?step ?last⟩
    case last =>
      rintro σ H1 _
      exact k H1
    case step =>
    rintro i x σ H1 H1' hi ⟨v2, v3, v4, v5, v6, v7, v8, rfl, dr⟩ ⟨rfl, rfl⟩
    -- the words
    refine ⟨by show 5 ≤ sizeLine; rw [sizeLine_eq]; decide, fun L hL => ⟨L, rfl, ⟨_, SqL.of upd_same⟩, fun D hD => ?_⟩⟩
    have drL := dr.same (Same.upd (o := HO.lst (allW.map V.str)) hL)
    have e0 : (upd H1' L (.lst (allW.map V.str))) L = some (.lst (allW.map V.str)) := upd_same
    have nD := drL.new hD
    have nL := dr.new hL
    have nLD : L ≠ D := ne_of_none e0 hD
    refine lc_it walk_list (fun i H => Dr H p c ∧ H L = some (.lst (allW.map V.str)) ∧ ∃ bs : List Bool, bs.length = i ∧ H D = some (.lst ((pickB allW bs).map V.str))) ⟨drL.same (Same.upd hD), (Same.upd hD) _ _ e0, [], rfl, upd_same⟩ (fun i H _ q => SqL.of q.2.1) ?_ ?_
    · rintro j x H2 H3 hj ⟨d2, eL, bs, hb, eD⟩ ⟨rfl, hx⟩
      obtain ⟨w', hw', rfl⟩ := at_str (ws := allW) hx
      refine ⟨rfl, _, rfl, p, c, 2, rfl, d2, by decide, by decide, fun r H4 r0 r1 d4 f4 => ?_⟩
      have eL4 := f4 _ _ nL.1 nL.2 eL
      have eD4 := f4 _ _ nD.1 nD.2 eD
      refine ⟨rfl, _, rfl, ?_⟩
      have sn := fun b => pickB_snoc (b := b) (bs := bs) (ws := allW) (by rw [hb]; exact hw')
      refine ite2 (fun h0 => ?_) (fun h0 => ?_)
      · refine ⟨_, rfl, _, eD4, ?_, ?_⟩
        · rw [List.length_map]
          have := pickB_len allW bs
          have hj5 : j < 5 := hj
          exact small1000 (by omega)
        have go : ∀ q o, q ≠ D → H4 q = some o → (upd H4 D (.lst ((pickB allW bs).map V.str ++ [.str w']))) q = some o := fun q o n h => by rw [upd_ne n]; exact h
        obtain ⟨st, ix, cs, d4⟩ := d4
        refine ⟨⟨st, ix, cs, go _ _ nD.1.symm d4.hp, go _ _ nD.2.symm d4.hc, d4.s1, d4.s2, d4.i0, d4.len⟩, go _ _ nLD eL4, bs ++ [true], by rw [List.length_append, hb]; rfl, ?_⟩
        rw [upd_same, sn true, List.map_append]
        rfl
      · refine ⟨d4, eL4, bs ++ [false], by rw [List.length_append, hb]; rfl, ?_⟩
        rw [eD4, sn false]
        show _ = some (HO.lst ((pickB allW bs ++ []).map V.str))
        rw [List.append_nil]
    rintro H2 ⟨dr2, eL2, bs, hb, eD2⟩
    obtain ⟨kk, ek⟩ := pickB_ws hb
    rw [ek] at eD2
    refine ⟨D, _, rfl, .inl ⟨SqL.of eD2, fun t ht => ?_⟩⟩
    have dr3 := dr2.same (Same.upd (o := HO.tup (kk.ws.map V.str)) ht)
    have hT : (upd H2 t (.tup (kk.ws.map V.str))) t = some (.tup (kk.ws.map V.str)) := upd_same
    revert dr3 hT
    generalize upd H2 t (.tup (kk.ws.map V.str)) = H3
    intro dr3 hT
    -- the row
    refine ⟨_, rfl, p, c, 2, rfl, dr3, by decide, by decide, fun r H4 r0 r1 dr4 f4 => ?_⟩
    have hT4 : H4 t = some (.tup (kk.ws.map V.str)) := dr3.keep f4 hT (by intro xs e; cases e)
    refine ⟨_, _, rfl, rfl, ?_⟩
    refine ⟨_, rfl, p, c, rfl, dr4, fun R d H5 dr5 f5 nd hd => ?_⟩
    have hT5 : H5 t = some (.tup (kk.ws.map V.str)) := dr4.keep f5 hT4 (by intro xs e; cases e)
    obtain ⟨two, e2⟩ : ∃ two : Bool, 1 + r = (⟨two, R, kk⟩ : Bk).people := by
      by_cases h : r < 1
      · exact ⟨false, by show 1 + r = 1; omega⟩
      · exact ⟨true, by show 1 + r = 2; omega⟩
    refine ⟨_, rfl, by show 3 ≤ sizeLine; rw [sizeLine_eq]; decide, fun rw_ hrw => ?_⟩
    have s6 := Same.upd (o := HO.lst [V.int (1 + r), .ref d, .ref t]) hrw
    have hR : (upd H5 rw_ (.lst [V.int (1 + r), .ref d, .ref t])) rw_ = some (.lst [V.int (1 + r), .ref d, .ref t]) := upd_same
    have dr6 := dr5.same s6
    have hT6 := s6 _ _ hT5
    have hd6 := s6 _ _ hd
    revert dr6 hT6 hd6 hR
    generalize upd H5 rw_ (.lst [V.int (1 + r), .ref d, .ref t]) = H6
    intro hR dr6 hT6 hd6
    -- the lines
    have lb : (1 + r).natAbs.log2 < 1920 := by
      rw [e2]
      exact ppl_log two
    have lp : (Str.ofString "people ").length + (Str.ofString (toString (1 + r))).length ≤ sizeLine := by
      rw [e2, sizeLine_eq]
      exact ppl_len two
    have ep : (Str.ofString "people ") ++ (Str.ofString (toString (1 + r))) = lineP two := by
      rw [e2]
      exact ppl_eq two
    refine ⟨_, rfl, rw_, _, _, _, rfl, rfl, SqL.of hR, rfl, _, rfl, lb, _, _, rfl, rfl, lp, ?_⟩
    rw [ep]
    refine ⟨by show 1 ≤ sizeLine; rw [sizeLine_eq]; decide, fun l1 hl1 => ⟨rfl, fun q H7 s7 nq pa => ?_⟩⟩
    have s67 : L2.Same H6 H7 := (Same.upd hl1).trans s7
    have e1' : H7 l1 = some (.lst [.str (lineP two)]) := s7 _ _ upd_same
    have pa0 := pa
    obtain ⟨q0, q1, q2, q3, q4, q5, hl, g0, g1, g2, g3, g4, g5⟩ := pa
    have hq : ∀ j x, ([.ref q0, .ref q1, .ref q2, .ref q3, .ref q4, .ref q5] : List V)[j]? = some x → ∃ q, x = .ref q ∧ H7 q = some (.lst (prow j)) ∧ pn[j]? = some (pn.getD j "") := by
      intro j x hj
      match j, hj with
      | 0, hj => cases hj; exact ⟨_, rfl, g0, rfl⟩
      | 1, hj => cases hj; exact ⟨_, rfl, g1, rfl⟩
      | 2, hj => cases hj; exact ⟨_, rfl, g2, rfl⟩
      | 3, hj => cases hj; exact ⟨_, rfl, g3, rfl⟩
      | 4, hj => cases hj; exact ⟨_, rfl, g4, rfl⟩
      | 5, hj => cases hj; exact ⟨_, rfl, g5, rfl⟩
      | _ + 6, hj => simp at hj
    refine ⟨q, rfl, ⟨_, SqL.of hl⟩, fun D2 hD2 => ?_⟩
    refine lc_it walk_list (fun i H => L2.Same H7 H ∧ H D2 = some (.lst (((rlines R).take i).map V.str))) ⟨Same.upd hD2, upd_same⟩ (fun i H _ q => SqL.of (q.1 _ _ hl)) ?_ ?_
    · rintro j x H8 H9 hj ⟨s8, eD⟩ ⟨rfl, hx⟩
      obtain ⟨qj, rfl, hqj, e1⟩ := hq j x hx
      obtain ⟨b, e2', e3⟩ := kv_at (r := R) e1
      obtain ⟨k1, w1', ek1, ev1, hl1', z1, z2⟩ := rl_at e3
      cases ek1
      cases ev1
      have hqj := s8 _ _ hqj
      refine ⟨rfl, _, rfl, qj, _, _, _, rfl, rfl, SqL.of hqj, rfl, _, _, rfl, rfl, z1, ?_⟩
      refine ⟨_, rfl, rw_, _, _, _, rfl, rfl, SqL.of (s8 _ _ (s67 _ _ hR)), rfl, _, rfl, qj, _, _, _, rfl, rfl, SqL.of hqj, rfl, d, _, rfl, (by rw [← e2']; exact DGet.k (k := Sum.inr (pn.getD j "")) (s8 _ _ (s67 _ _ hd6))), _, _, rfl, rfl, z2, ?_⟩
      refine ⟨_, eD, ?_, fun b2 o2 h2 => by rw [upd_ne (ne_of_none h2 hD2)]; exact s8 _ _ h2, ?_⟩
      · rw [List.length_map, List.length_take]
        exact small1000 (Nat.le_trans (Nat.min_le_right _ _) (by rw [rl_len]; decide))
      · rw [upd_same, List.take_add_one, hl1', List.map_append]
        rfl
    rintro H8 ⟨s8, eD2⟩
    have eD2 : H8 D2 = some (.lst ((rlines R).map V.str)) := eD2
    have z9 : ([V.str (lineP two)] ++ (rlines R).map V.str).length ≤ sizeLine := by
      rw [List.length_append, List.length_map, rl_len, sizeLine_eq]
      show 1 + 6 ≤ 16777216
      decide
    refine ⟨l1, D2, _, _, rfl, rfl, s8 _ _ e1', eD2, z9, fun l3 hl3 => ?_⟩
    have s9 : L2.Same H6 (upd H8 l3 (.lst ([V.str (lineP two)] ++ (rlines R).map V.str))) := (s67.trans s8).trans (Same.upd hl3)
    have e3 : (upd H8 l3 (.lst ([V.str (lineP two)] ++ (rlines R).map V.str))) l3 = some (.lst ([V.str (lineP two)] ++ (rlines R).map V.str)) := upd_same
    revert s9 e3
    generalize upd H8 l3 (.lst ([V.str (lineP two)] ++ (rlines R).map V.str)) = H9
    intro s9 e3
    -- the text
    refine ⟨⟨_, rfl⟩, _, rfl, ⟨_, rfl⟩, ?_⟩
    refine ⟨by show 1 ≤ sizeLine; rw [sizeLine_eq]; decide, fun l4 hl4 => ?_⟩
    have hT9 := s9 _ _ hT6
    have hb1 := (Same.upd (o := HO.lst [V.str "words"]) hl4) _ _ hT9
    refine ⟨_, rfl, t, _, rfl, .inr (SqT.of hb1), fun l5 hl5 => ?_⟩
    have e4 := (Same.upd (o := HO.lst (kk.ws.map V.str)) hl5) _ _ (upd_same (H := H9) (a := l4) (o := HO.lst [V.str "words"]))
    have zw : [V.str "words"].length + (kk.ws.map V.str).length ≤ sizeLine := by
      have := ws_len kk
      rw [List.length_map, sizeLine_eq]
      show 1 + _ ≤ _
      omega
    refine ⟨l4, l5, _, _, rfl, rfl, e4, upd_same, zw, fun l6 hl6 => ?_⟩
    have s10 := Same.upd' (o := HO.lst ([V.str "words"] ++ kk.ws.map V.str)) (Same.upd' (o := HO.lst (kk.ws.map V.str)) (Same.upd (o := HO.lst [V.str "words"]) hl4) hl5) hl6
    refine ⟨sp1, l6, ("words" : Str) :: kk.ws, rfl, rfl, .inl (SqL.of upd_same), Nat.le_trans (ws_sum _) (by decide), ?_⟩
    revert s10
    generalize upd (upd (upd H9 l4 (.lst [V.str "words"])) l5 (.lst (kk.ws.map V.str))) l6 (.lst ([V.str "words"] ++ kk.ws.map V.str)) = H10
    intro s10
    refine ⟨by show 1 ≤ sizeLine; rw [sizeLine_eq]; decide, fun l7 hl7 => ?_⟩
    have e3' := (Same.upd (o := HO.lst [V.str (lineW kk)]) hl7) _ _ (s10 _ _ e3)
    have el : ([V.str (lineP two)] ++ (rlines R).map V.str) ++ [V.str (lineW kk)] = (linesOf ⟨two, R, kk⟩).map V.str := by
      show _ = V.str (lineP two) :: ((rlines R ++ [lineW kk]).map V.str)
      rw [List.map_append]
      rfl
    have z11 : ([V.str (lineP two)] ++ (rlines R).map V.str).length + [V.str (lineW kk)].length ≤ sizeLine := by
      rw [List.length_append, List.length_map, rl_len, sizeLine_eq]
      show 1 + 6 + 1 ≤ 16777216
      decide
    refine ⟨l3, l7, _, _, rfl, rfl, e3', upd_same, z11, fun l8 hl8 => ?_⟩
    have el' : ([V.str (lineP two)] ++ (rlines R).map V.str) ++ [V.str (Txt.join sp1 (("words" : Str) :: kk.ws))] = (linesOf ⟨two, R, kk⟩).map V.str := el
    rw [el']
    have s11 : L2.Same H6 _ := s9.trans (Same.upd' (o := HO.lst ((linesOf ⟨two, R, kk⟩).map V.str)) (Same.upd' (o := HO.lst [V.str (Txt.join sp1 (("words" : Str) :: kk.ws))]) s10 hl7) hl8)
    refine ⟨nl1, l8, linesOf ⟨two, R, kk⟩, rfl, rfl, .inl (SqL.of upd_same), tx_sum _, ?_⟩
    revert s11
    generalize upd (upd H10 l7 (.lst [V.str (Txt.join sp1 (("words" : Str) :: kk.ws))])) l8 (.lst ((linesOf ⟨two, R, kk⟩).map V.str)) = H11
    intro s11
    -- the questions
    have row : RowAt K H11 rw_ ⟨two, R, kk⟩ := ⟨d, t, s11 _ _ (by rw [hR, e2]), s11 _ _ hd6, SqT.of (s11 _ _ hT6)⟩
    have dr11 := dr6.same s11
    refine ⟨_, rfl, rw_, ⟨two, R, kk⟩, rfl, row, fun b1 H12 s12 n12 hb => ?_⟩
    refine ⟨b1, ⟨two, R, kk⟩, rfl, hb, fun H13 s13 => ?_⟩
    refine ⟨_, rfl, rfl, _, rfl, iteNS rfl ?_⟩
    have s13 := s12.trans s13
    refine ⟨_, rfl, ⟨two, R, kk⟩, rfl, fun b2 H14 s14 n14 hb2 => ?_⟩
    have s14 := s13.trans s14
    obtain ⟨row1, row2, row3, row4⟩ := row
    have row : RowAt K H11 rw_ ⟨two, R, kk⟩ := ⟨row1, row2, row3, row4⟩
    refine ⟨_, rfl, rw_, ⟨two, R, kk⟩, rfl, row.same s14, fun b3 H15 s15 n15 hb3 => ?_⟩
    have hb2' := hb2.same s15
    obtain ⟨dx, d2, t2, hi⟩ := id hb2'
    obtain ⟨dx3, d3, t3, hi3⟩ := id hb3
    refine ⟨b2, dx, _, .ref C, rfl, hi.ob, tyX_ins B S hi3.ob, by unfold PySem.W.notFirst; simp, b2, ⟨two, R, kk⟩, _, rfl, hb2', .inl ⟨b3, ⟨two, R, kk⟩, rfl, hb3, fun H16 s16 => ⟨_, rfl, ?_⟩⟩⟩
    have s16 := (s14.trans s15).trans s16
    rw [decide_eq_true rfl]
    refine ⟨_, rfl, ?_⟩
    refine iteF ?_
    refine ⟨_, rfl, ⟨two, R, kk⟩, rfl, fun b4 H17 s17 n17 hb4 => ?_⟩
    refine ⟨b4, ⟨two, R, kk⟩, rfl, hb4, fun H18 s18 => ?_⟩
    refine ⟨_, rfl, rfl, _, rfl, iteNS rfl ?_⟩
    exact ⟨_, _, _, _, _, _, _, rfl, dr11.same ((s16.trans s17).trans s18)⟩
end
end SD
namespace SD
open PySem PySem.Spec PyProof.Rows L2
/-! ### what the head looks at -/
def fnL : List He.DefD := [dG "_law_mix" (top 22), dG "_law_next" (top 23), dG "_law_pick" (top 24), dG "_law_parts" (top 25), dG "_law_rule" (top 26), dG "is_word" (top 11), dG "is_integer" (top 10), dG "check_rule" (top 12), dM "Book" "__init__" "Book.__init__" (inClass (top 13) 0), dM "Book" "__eq__" "Book.__eq__" (inClass (top 13) 5), dG "_law_built" (top 27), dG "write" (top 16), dG "line_at" (top 17), dG "pair_at" (top 18), dG "words_at" (top 19), dG "read" (top 20), dG "law" (top 28)]
def csL : List Chk := [cG "_law_mix", cG "_law_next", cG "_law_pick", cG "_law_parts", cG "_law_rule", cG "is_word", cG "is_integer", cG "check_rule", cG "_law_built", cG "write", cG "line_at", cG "pair_at", cG "words_at", cG "read", cG "law", cF "all", cF "bool", cF "dict", cF "int", cF "isinstance", cF "len", cF "list", cF "max", cF "range", cF "str", cF "tuple", cC "Book", cN "Book" "many", cN "Book" "terms", cN "Book" "kinds", cG "Book", cIsi "Book", cK "Book", cM "Book" "__eq__", cT "PARTS" partsD, cD "WORDS" wordsD, cG "PARTS", cT "PEOPLE" peopleD, cG "PEOPLE"]
def tsL : List He.Tab := [(fun K => He.ga K "PARTS", partsD.map (·.1)), (fun K => He.ga K "PEOPLE", peopleD.map (·.1))]
abbrev LK : Look := ⟨csL, fnL, tsL⟩
def looseL : List Str := (["_wall", "__name__", "DraftError", "InvalidPeople", "InvalidRule", "InvalidWords", "InvalidLine", "PARTS", "WORDS", "is_integer", "is_word", "check_rule", "Book", "PEOPLE", "write", "line_at", "pair_at", "words_at", "read", "_law_mix", "_law_next", "_law_pick", "_law_parts", "_law_rule", "_law_built"] : List Str)
abbrev R : PySem.W.OpenRow := PySem.W.OpenLaw.row PySem.Challenge.rw_showndrafts_k13_whole_texts
abbrev hk : PySem.W.Hook := hookX 5 LK
def ob (s : PySem.W.SharedT) : AlX := obsXG 5 LK (HandSHeadRun.getT s)
theorem ob_eq (s : PySem.W.SharedT) : ob s = hk.obs s.abs := obsXG_eq (HandSHeadRun.getT_eq s)
theorem run_f (w : World) : HandSHeadRun.RunEq R (PySem.W.view R.prog [28]) hk ob 3000 looseL (w.withFollow "special-get-raises" false) := by
  intro os
  kernel_rfl
theorem run_t (w : World) : HandSHeadRun.RunEq R (PySem.W.view R.prog [28]) hk ob 3000 looseL (w.withFollow "special-get-raises" true) := by
  intro os
  kernel_rfl
theorem run (w : World) : HandSHeadRun.RunEq R (PySem.W.view R.prog [28]) hk ob 3000 looseL w :=
  PySem.W.byRow2 "special-get-raises" (P := HandSHeadRun.RunEq R (PySem.W.view R.prog [28]) hk ob 3000 looseL) run_f run_t w
end SD
namespace SD
open PySem PySem.Spec PyProof.Rows L2
theorem facts {P : Program} {w : World} {K : PySem.W.Frag} {h : Heap} {mg : Str → Option Value} {f : Addr} (X : K.In h) (G : h.Ns mainGlobals mg) (hfa : mg ("law" : Str) = some (.ref f)) (c : SaysX LK w K) :
    ∃ fd : FuncData, (∀ (s : Shared) (v : Value), BindsTo s fd ⟨[v], []⟩ [("_law_script", v)]) ∧ ∀ base : Heap, FnOk P w K mg base CX0 6 f fd ["_law_script"] (spLaw K) := by
  have ef := hfa.symm.trans (He.glo_ok X G (c.chk 14))
  cases ef
  obtain ⟨fd__law_mix, F0__law_mix⟩ := c.def_ 0
  have F__law_mix : Fun K "_law_mix" "_law_mix" (top 22) (He.fAd K ("_law_mix", none)) fd__law_mix := fun_of (st := top 22) F0__law_mix
  have b__law_mix : Binds K fd__law_mix ["_law_script", "_law_seed"] [] := Fun.binds F__law_mix fun _ _ _ _ _ _ us hl => match us, hl with | [_, _], _ => rfl
  have D__law_mix : DefIn K mg "_law_mix" (He.fAd K ("_law_mix", none)) fd__law_mix ["_law_script", "_law_seed"] := ⟨He.glo_ok X G (c.chk 0), F__law_mix.kp, b__law_mix⟩
  obtain ⟨fd__law_next, F0__law_next⟩ := c.def_ 1
  have F__law_next : Fun K "_law_next" "_law_next" (top 23) (He.fAd K ("_law_next", none)) fd__law_next := fun_of (st := top 23) F0__law_next
  have b__law_next : Binds K fd__law_next ["_law_h", "_law_cap"] [] := Fun.binds F__law_next fun _ _ _ _ _ _ us hl => match us, hl with | [_, _], _ => rfl
  have D__law_next : DefIn K mg "_law_next" (He.fAd K ("_law_next", none)) fd__law_next ["_law_h", "_law_cap"] := ⟨He.glo_ok X G (c.chk 1), F__law_next.kp, b__law_next⟩
  obtain ⟨fd__law_pick, F0__law_pick⟩ := c.def_ 2
  have F__law_pick : Fun K "_law_pick" "_law_pick" (top 24) (He.fAd K ("_law_pick", none)) fd__law_pick := fun_of (st := top 24) F0__law_pick
  have b__law_pick : Binds K fd__law_pick ["_law_h", "_law_things"] [] := Fun.binds F__law_pick fun _ _ _ _ _ _ us hl => match us, hl with | [_, _], _ => rfl
  have D__law_pick : DefIn K mg "_law_pick" (He.fAd K ("_law_pick", none)) fd__law_pick ["_law_h", "_law_things"] := ⟨He.glo_ok X G (c.chk 2), F__law_pick.kp, b__law_pick⟩
  obtain ⟨fd__law_parts, F0__law_parts⟩ := c.def_ 3
  have F__law_parts : Fun K "_law_parts" "_law_parts" (top 25) (He.fAd K ("_law_parts", none)) fd__law_parts := fun_of (st := top 25) F0__law_parts
  have b__law_parts : Binds K fd__law_parts [] [] := Fun.binds F__law_parts fun _ _ _ _ _ _ us hl => match us, hl with | [], _ => rfl
  have D__law_parts : DefIn K mg "_law_parts" (He.fAd K ("_law_parts", none)) fd__law_parts [] := ⟨He.glo_ok X G (c.chk 3), F__law_parts.kp, b__law_parts⟩
  obtain ⟨fd__law_rule, F0__law_rule⟩ := c.def_ 4
  have F__law_rule : Fun K "_law_rule" "_law_rule" (top 26) (He.fAd K ("_law_rule", none)) fd__law_rule := fun_of (st := top 26) F0__law_rule
  have b__law_rule : Binds K fd__law_rule ["_law_h"] [] := Fun.binds F__law_rule fun _ _ _ _ _ _ us hl => match us, hl with | [_], _ => rfl
  have D__law_rule : DefIn K mg "_law_rule" (He.fAd K ("_law_rule", none)) fd__law_rule ["_law_h"] := ⟨He.glo_ok X G (c.chk 4), F__law_rule.kp, b__law_rule⟩
  obtain ⟨fd_is_word, F0_is_word⟩ := c.def_ 5
  have F_is_word : Fun K "is_word" "is_word" (top 11) (He.fAd K ("is_word", none)) fd_is_word := fun_of (st := top 11) F0_is_word
  have b_is_word : Binds K fd_is_word ["thing", "words"] [] := Fun.binds F_is_word fun _ _ _ _ _ _ us hl => match us, hl with | [_, _], _ => rfl
  have D_is_word : DefIn K mg "is_word" (He.fAd K ("is_word", none)) fd_is_word ["thing", "words"] := ⟨He.glo_ok X G (c.chk 5), F_is_word.kp, b_is_word⟩
  obtain ⟨fd_is_integer, F0_is_integer⟩ := c.def_ 6
  have F_is_integer : Fun K "is_integer" "is_integer" (top 10) (He.fAd K ("is_integer", none)) fd_is_integer := fun_of (st := top 10) F0_is_integer
  have b_is_integer : Binds K fd_is_integer ["thing", "low", "high"] [] := Fun.binds F_is_integer fun _ _ _ _ _ _ us hl => match us, hl with | [_, _, _], _ => rfl
  have D_is_integer : DefIn K mg "is_integer" (He.fAd K ("is_integer", none)) fd_is_integer ["thing", "low", "high"] := ⟨He.glo_ok X G (c.chk 6), F_is_integer.kp, b_is_integer⟩
  obtain ⟨fd_check_rule, F0_check_rule⟩ := c.def_ 7
  have F_check_rule : Fun K "check_rule" "check_rule" (top 12) (He.fAd K ("check_rule", none)) fd_check_rule := fun_of (st := top 12) F0_check_rule
  have b_check_rule : Binds K fd_check_rule ["rule"] [] := Fun.binds F_check_rule fun _ _ _ _ _ _ us hl => match us, hl with | [_], _ => rfl
  have D_check_rule : DefIn K mg "check_rule" (He.fAd K ("check_rule", none)) fd_check_rule ["rule"] := ⟨He.glo_ok X G (c.chk 7), F_check_rule.kp, b_check_rule⟩
  obtain ⟨fd_Book___init__, F0_Book___init__⟩ := c.def_ 8
  have F_Book___init__ : Fun K "__init__" "Book.__init__" (inClass (top 13) 0) (He.fAd K ("Book", some "__init__")) fd_Book___init__ := fun_of (st := inClass (top 13) 0) F0_Book___init__
  have b_Book___init__ : Binds K fd_Book___init__ ["self", "people", "rule", "words"] [] := Fun.binds F_Book___init__ fun _ _ _ _ _ _ us hl => match us, hl with | [_, _, _, _], _ => rfl
  obtain ⟨fd_Book___eq__, F0_Book___eq__⟩ := c.def_ 9
  have F_Book___eq__ : Fun K "__eq__" "Book.__eq__" (inClass (top 13) 5) (He.fAd K ("Book", some "__eq__")) fd_Book___eq__ := fun_of (st := inClass (top 13) 5) F0_Book___eq__
  have b_Book___eq__ : Binds K fd_Book___eq__ ["self", "other"] [] := Fun.binds F_Book___eq__ fun _ _ _ _ _ _ us hl => match us, hl with | [_, _], _ => rfl
  obtain ⟨fd__law_built, F0__law_built⟩ := c.def_ 10
  have F__law_built : Fun K "_law_built" "_law_built" (top 27) (He.fAd K ("_law_built", none)) fd__law_built := fun_of (st := top 27) F0__law_built
  have b__law_built : Binds K fd__law_built ["_law_row"] [] := Fun.binds F__law_built fun _ _ _ _ _ _ us hl => match us, hl with | [_], _ => rfl
  have D__law_built : DefIn K mg "_law_built" (He.fAd K ("_law_built", none)) fd__law_built ["_law_row"] := ⟨He.glo_ok X G (c.chk 8), F__law_built.kp, b__law_built⟩
  obtain ⟨fd_write, F0_write⟩ := c.def_ 11
  have F_write : Fun K "write" "write" (top 16) (He.fAd K ("write", none)) fd_write := fun_of (st := top 16) F0_write
  have b_write : Binds K fd_write ["book"] [] := Fun.binds F_write fun _ _ _ _ _ _ us hl => match us, hl with | [_], _ => rfl
  have D_write : DefIn K mg "write" (He.fAd K ("write", none)) fd_write ["book"] := ⟨He.glo_ok X G (c.chk 9), F_write.kp, b_write⟩
  obtain ⟨fd_line_at, F0_line_at⟩ := c.def_ 12
  have F_line_at : Fun K "line_at" "line_at" (top 17) (He.fAd K ("line_at", none)) fd_line_at := fun_of (st := top 17) F0_line_at
  have b_line_at : Binds K fd_line_at ["lines", "index"] [] := Fun.binds F_line_at fun _ _ _ _ _ _ us hl => match us, hl with | [_, _], _ => rfl
  have D_line_at : DefIn K mg "line_at" (He.fAd K ("line_at", none)) fd_line_at ["lines", "index"] := ⟨He.glo_ok X G (c.chk 10), F_line_at.kp, b_line_at⟩
  obtain ⟨fd_pair_at, F0_pair_at⟩ := c.def_ 13
  have F_pair_at : Fun K "pair_at" "pair_at" (top 18) (He.fAd K ("pair_at", none)) fd_pair_at := fun_of (st := top 18) F0_pair_at
  have b_pair_at : Binds K fd_pair_at ["lines", "index", "first", "allowed"] [] := Fun.binds F_pair_at fun _ _ _ _ _ _ us hl => match us, hl with | [_, _, _, _], _ => rfl
  have D_pair_at : DefIn K mg "pair_at" (He.fAd K ("pair_at", none)) fd_pair_at ["lines", "index", "first", "allowed"] := ⟨He.glo_ok X G (c.chk 11), F_pair_at.kp, b_pair_at⟩
  obtain ⟨fd_words_at, F0_words_at⟩ := c.def_ 14
  have F_words_at : Fun K "words_at" "words_at" (top 19) (He.fAd K ("words_at", none)) fd_words_at := fun_of (st := top 19) F0_words_at
  have b_words_at : Binds K fd_words_at ["lines", "index"] [] := Fun.binds F_words_at fun _ _ _ _ _ _ us hl => match us, hl with | [_, _], _ => rfl
  have D_words_at : DefIn K mg "words_at" (He.fAd K ("words_at", none)) fd_words_at ["lines", "index"] := ⟨He.glo_ok X G (c.chk 12), F_words_at.kp, b_words_at⟩
  obtain ⟨fd_read, F0_read⟩ := c.def_ 15
  have F_read : Fun K "read" "read" (top 20) (He.fAd K ("read", none)) fd_read := fun_of (st := top 20) F0_read
  have b_read : Binds K fd_read ["text"] [] := Fun.binds F_read fun _ _ _ _ _ _ us hl => match us, hl with | [_], _ => rfl
  have D_read : DefIn K mg "read" (He.fAd K ("read", none)) fd_read ["text"] := ⟨He.glo_ok X G (c.chk 13), F_read.kp, b_read⟩
  obtain ⟨fd_law, F0_law⟩ := c.def_ 16
  have F_law : Fun K "law" "law" (top 28) (He.fAd K ("law", none)) fd_law := fun_of (st := top 28) F0_law
  have b_law : Binds K fd_law ["_law_script"] [] := Fun.binds F_law fun _ _ _ _ _ _ us hl => match us, hl with | [_], _ => rfl
  have D_law : DefIn K mg "law" (He.fAd K ("law", none)) fd_law ["_law_script"] := ⟨He.glo_ok X G (c.chk 14), F_law.kp, b_law⟩
  have n_all : mg "all" = none := He.free_ok X G (c.chk 15)
  have n_bool : mg "bool" = none := He.free_ok X G (c.chk 16)
  have n_dict : mg "dict" = none := He.free_ok X G (c.chk 17)
  have n_int : mg "int" = none := He.free_ok X G (c.chk 18)
  have n_isinstance : mg "isinstance" = none := He.free_ok X G (c.chk 19)
  have n_len : mg "len" = none := He.free_ok X G (c.chk 20)
  have n_list : mg "list" = none := He.free_ok X G (c.chk 21)
  have n_max : mg "max" = none := He.free_ok X G (c.chk 22)
  have n_range : mg "range" = none := He.free_ok X G (c.chk 23)
  have n_str : mg "str" = none := He.free_ok X G (c.chk 24)
  have n_tuple : mg "tuple" = none := He.free_ok X G (c.chk 25)
  have B : BkCls K mg (He.ga K "Book") := ⟨He.cls_ok (c.chk 26), He.noat_ok (c.chk 27), He.noat_ok (c.chk 28), He.noat_ok (c.chk 29), He.glo_ok X G (c.chk 30)⟩
  have S : BkIsi K (He.ga K "Book") := isi_ok (c.chk 31)
  have M := He.mkr_ok (c.chk 32)
  have hE := (He.meth_ok (c.chk 33)).at_
  have hF := (He.meth_ok (c.chk 33)).fn
  obtain ⟨pv, kdP, keP, vaP⟩ := KD.of (P := P) (c.tab 0) (c.chk 34) (by decide) (by decide +kernel)
  obtain ⟨v0, u0, mW, rW, wd0⟩ := cD_ok X G (c.chk 35)
  obtain ⟨aW, rfl, wd⟩ := dp_strT (ws := allW) wd0
  cases rW
  have T : BkTab P w K mg (He.ga K "PARTS") pv aW := ⟨He.glo_ok X G (c.chk 36), kdP, keP, vaP, mW, wd⟩
  obtain ⟨pq, kdQ, keQ, vaQ⟩ := KD.of (P := P) (c.tab 1) (c.chk 37) (by decide) (by decide +kernel)
  have TQ : PpTab P w K mg (He.ga K "PEOPLE") := ⟨He.glo_ok X G (c.chk 38), by rw [← pp_of keQ vaQ]; exact kdQ⟩
  refine ⟨fd_law, fun s v => FunD.bindsA (ps := ["_law_script"]) F0_law (fun _ _ _ _ _ _ us hl => match us, hl with | [_], _ => rfl) s [v] rfl, fun base => ?_⟩
  have G__law_mix : FnOk P w K mg base CX0 1 (He.fAd K ("_law_mix", none)) fd__law_mix ["_law_script", "_law_seed"] (spMix K) := ok_mix F__law_mix n_int n_list
  have G__law_next : FnOk P w K mg base CX0 1 (He.fAd K ("_law_next", none)) fd__law_next ["_law_h", "_law_cap"] spNext := ok_next F__law_next n_int n_len n_max
  have G__law_pick : FnOk P w K mg base CX0 2 (He.fAd K ("_law_pick", none)) fd__law_pick ["_law_h", "_law_things"] (spPick K) := ok_pick F__law_pick n_len G__law_next D__law_next.m D__law_next.kp D__law_next.b
  have G__law_parts : FnOk P w K mg base CX0 1 (He.fAd K ("_law_parts", none)) fd__law_parts [] spParts := ok_parts F__law_parts
  have G__law_rule : FnOk P w K mg base CX0 3 (He.fAd K ("_law_rule", none)) fd__law_rule ["_law_h"] spRule := ok_rule F__law_rule G__law_pick D__law_pick.m D__law_pick.kp D__law_pick.b G__law_parts D__law_parts.m D__law_parts.kp D__law_parts.b
  have G_is_word := ok_is_word (P := P) (w := w) (base := base) (mg := mg) (F := F_is_word) (n_isinstance := n_isinstance) (n_str := n_str)
  have G_is_integer := ok_is_integer (P := P) (w := w) (base := base) (mg := mg) (F := F_is_integer) (n_bool := n_bool) (n_int := n_int) (n_isinstance := n_isinstance)
  have G_check_rule := ok_check_rule (P := P) (w := w) (base := base) (mg := mg) (F := F_check_rule) (T := T) (n_all := n_all) (n_dict := n_dict) (n_isinstance := n_isinstance) (n_len := n_len) (n_list := n_list) (G_is_word := G_is_word) (D_is_word := D_is_word)
  have G_Book___init__ := ok_Book___init__ (P := P) (w := w) (base := base) (mg := mg) (F := F_Book___init__) (B := B) (T := T) (n_all := n_all) (n_isinstance := n_isinstance) (n_list := n_list) (n_tuple := n_tuple) (G_is_word := G_is_word) (D_is_word := D_is_word) (G_check_rule := G_check_rule) (D_check_rule := D_check_rule) (G_is_integer := G_is_integer) (D_is_integer := D_is_integer)
  have GI := G_Book___init__
  have bI := b_Book___init__
  have G_Book___eq__ := ok_Book___eq__ (P := P) (w := w) (base := base) (mg := mg) (F := F_Book___eq__) (B := B) (S := S) (n_isinstance := n_isinstance)
  have GE := G_Book___eq__
  have bE := b_Book___eq__
  have G__law_built := ok__law_built (P := P) (w := w) (base := base) (mg := mg) (F := F__law_built) (B := B) (M := M) (GI := GI) (bI := bI)
  have G_write := ok_write (P := P) (w := w) (base := base) (mg := mg) (F := F_write) (B := B) (n_str := n_str)
  have G_line_at := ok_line_at (P := P) (w := w) (base := base) (mg := mg) (F := F_line_at) (n_len := n_len)
  have G_pair_at := ok_pair_at (P := P) (w := w) (base := base) (mg := mg) (F := F_pair_at) (n_len := n_len) (G_line_at := G_line_at) (D_line_at := D_line_at)
  have G_words_at := ok_words_at (P := P) (w := w) (base := base) (mg := mg) (F := F_words_at) (T := T) (n_tuple := n_tuple) (G_line_at := G_line_at) (D_line_at := D_line_at)
  have G_read := ok_read (P := P) (w := w) (base := base) (mg := mg) (F := F_read) (B := B) (T := T) (TQ := TQ) (M := M) (GI := GI) (bI := bI) (n_len := n_len) (n_list := n_list) (G_words_at := G_words_at) (D_words_at := D_words_at) (G_pair_at := G_pair_at) (D_pair_at := D_pair_at)
  have G_law := ok_law (P := P) (w := w) (base := base) (mg := mg) (F := F_law) (B := B) (S := S) (GE := GE) (bE := bE) (hE := hE) (hF := hF) (n_list := n_list) (n_range := n_range) (n_str := n_str) (n_tuple := n_tuple) (G_write := G_write) (D_write := D_write) (G_read := G_read) (D_read := D_read) (G__law_built := G__law_built) (D__law_built := D__law_built) (G__law_parts := G__law_parts) (D__law_parts := D__law_parts) (G__law_rule := G__law_rule) (D__law_rule := D__law_rule) (G__law_next := G__law_next) (D__law_next := D__law_next) (G__law_mix := G__law_mix) (D__law_mix := D__law_mix)
  exact G_law
end SD
open PySem PySem.W PySem.Calls PyProof.Rows
theorem PySem.Challenge.cw_showndrafts_k13_whole_texts_holds : PySem.Challenge.rw_showndrafts_k13_whole_texts.Holds := by
  w_on; o_law
  refine HandSHeadRun.head_any (r := SD.R) (q := view SD.R.prog [28]) (H := SD.hk) (ob := SD.ob) (M := 3000) (loose := SD.looseL) (d := HandSHeadRun.topDef SD.R.prog 28) (kwd := []) SD.ob_eq
    (by kernel_rfl) (fun s => by kernel_rfl) SD.run (by kernel_rfl) (by kernel_rfl) (by kernel_rfl) (by rfl) (by first | assumption | decide +kernel) (by decide +kernel) ⟨rfl, rfl, rfl, rfl, rfl, by decide +kernel⟩ ?hw ?hc
  case hw => w_witness2
  case hc =>
    refine L2.walk_ofE (l := PySem.Challenge.rw_showndrafts_k13_whole_texts) (n := 63) (k := 6) (x := "_law_script") (CX := L2.CX0) rfl (by decide) (by kernel_rfl) ⟨rfl, by decide, by decide⟩ ?F (fun _ _ _ _ z => z)
    intro w mg fa h Y G hmg0
    obtain ⟨K, KX, c⟩ := Y
    have hmg : mg ("law" : PySem.Str) = some (.ref fa) := by
      have e : (HandSHeadRun.topDef SD.R.prog 28).name = ("law" : PySem.Str) := by kernel_rfl
      rw [← e]
      exact hmg0
    obtain ⟨fd, hb, hF⟩ := SD.facts (P := (PySem.Challenge.rw_showndrafts_k13_whole_texts).prog) (w := w) KX G hmg c
    exact ⟨K, fd, SD.spLaw K, KX, hb, fun H a ns hl _ hS => ⟨a, ns, rfl, hS, hl, fun _ => rfl⟩, fun base _ _ => hF base⟩
