import PyProof.Rows.All
import Wide.All
import OpenK.AllK
import Wide.FinOn
import KE.KStateDown
import HandS.ForMost
import HandS.ForExc
import HandS.More
import HandS.Defaults
import HandS.IsInst
import HandS.TupAny
import HandS.Style
import HandS.FStr
import HandS.Steps
import KE.IntTextLaws
import HandS.ListItems
import HandS.Head0
import HandS.Head1
import HandS.Head2
import HandS.HeadEnd
import HandS.HeadHook1
import HandS.HeadHook2
import HandS.ExcInit
import HandS.ClsMeth
import KE.KExcSuper
import KE.KExcInit
import HandS.Lambda
import HandS.TryMany
import HandS.HotCalls
import HandS.ExcField
import HandS.EndTab
import KE.KTryMore
import HandS.MakeKwOnly
import PySem.Challenge.RW_standworth_k07_askings_refused
set_option Elab.async false
set_option linter.all false
set_option maxRecDepth 100000
set_option maxHeartbeats 4000000
namespace SW
open PySem PySem.Spec PyProof.Rows L2
/-! ### a Hook of facts and one more test -/
abbrev AlX : Type := He.AlD × Bool
def obsX (fa : List He.Fa) (fn : List He.DefD) (ex : PySem.W.Frag → Bool) (K : PySem.W.Frag) : AlX := (He.obsD fa fn K, ex K)
def valX (fn : List He.DefD) : AlX := (He.valD fn, true)
def obsXG (n : Nat) (fa : List He.Fa) (fn : List He.DefD) (ex : PySem.W.Frag → Bool) (g : Addr → Option Obj) : AlX := obsX fa fn ex (He.frG g (He.asD g n))
def SaysX (fa : List He.Fa) (fn : List He.DefD) (ex : PySem.W.Frag → Bool) (K : PySem.W.Frag) : Prop := obsX fa fn ex K = valX fn
def hookX (n : Nat) (fa : List He.Fa) (fn : List He.DefD) (ex : PySem.W.Frag → Bool) : PySem.W.Hook where
  α := AlX
  obs := fun s => obsXG n fa fn ex s.heap.get?
  val := fun _ => valX fn
  says := fun _ h => ∃ K : PySem.W.Frag, K.In h ∧ SaysX fa fn ex K
  of := fun _ _ e => ⟨_, He.frG_in, e⟩
  keeps := fun _ _ _ ⟨K, hK, c⟩ k => ⟨K, PySem.W.Frag.In.keeps hK k, c⟩
theorem obsXG_eq {n : Nat} {fa : List He.Fa} {fn : List He.DefD} {ex : PySem.W.Frag → Bool} {g : Addr → Option Obj} {s : Shared} (h : ∀ a, g a = s.heap.get? a) : obsXG n fa fn ex g = (hookX n fa fn ex).obs s := by
  have e : g = s.heap.get? := funext h
  rw [e] <;> rfl
theorem SaysX.d {fa : List He.Fa} {fn : List He.DefD} {ex : PySem.W.Frag → Bool} {K : PySem.W.Frag} (c : SaysX fa fn ex K) : He.SaysD fa fn K := congrArg (fun z : AlX => z.1) c
theorem SaysX.x {fa : List He.Fa} {fn : List He.DefD} {ex : PySem.W.Frag → Bool} {K : PySem.W.Frag} (c : SaysX fa fn ex K) : ex K = true := congrArg (fun z : AlX => z.2) c

/-! ### promises by their number of arguments -/
def Sp1 (p : V → Hp → VK → XK → Prop) : Sp := fun vs H Q E => ∃ a, vs = [a] ∧ p a H Q E
def Sp2 (p : V → V → Hp → VK → XK → Prop) : Sp := fun vs H Q E => ∃ a b, vs = [a, b] ∧ p a b H Q E
def Sp3 (p : V → V → V → Hp → VK → XK → Prop) : Sp := fun vs H Q E => ∃ a b c, vs = [a, b, c] ∧ p a b c H Q E
def Sp4 (p : V → V → V → V → Hp → VK → XK → Prop) : Sp := fun vs H Q E => ∃ a b c d, vs = [a, b, c, d] ∧ p a b c d H Q E
theorem Sp1.len {p : V → Hp → VK → XK → Prop} {vs : List V} {H : Hp} {Q : VK} {E : XK} (h : Sp1 p vs H Q E) : vs.length = 1 := by obtain ⟨a, rfl, _⟩ := h; rfl
theorem Sp2.len {p : V → V → Hp → VK → XK → Prop} {vs : List V} {H : Hp} {Q : VK} {E : XK} (h : Sp2 p vs H Q E) : vs.length = 2 := by obtain ⟨a, b, rfl, _⟩ := h; rfl
theorem Sp3.len {p : V → V → V → Hp → VK → XK → Prop} {vs : List V} {H : Hp} {Q : VK} {E : XK} (h : Sp3 p vs H Q E) : vs.length = 3 := by obtain ⟨a, b, c, rfl, _⟩ := h; rfl
theorem Sp4.len {p : V → V → V → V → Hp → VK → XK → Prop} {vs : List V} {H : Hp} {Q : VK} {E : XK} (h : Sp4 p vs H Q E) : vs.length = 4 := by obtain ⟨a, b, c, d, rfl, _⟩ := h; rfl

/-! ### data on the heap -/
/-- a text of a size and of signs that are served -/
structure Sok (x : Str) : Prop where
  len : x.length ≤ 100000
  ok : ∀ c ∈ x.cps.toList, c < 1114112
theorem Sok.strOk {x : Str} (h : Sok x) : PyData.strOk x = true := by
  unfold PyData.strOk
  rw [Array.all_eq_true_iff_forall_mem]
  intro c hc
  exact decide_eq_true (h.ok c (Array.mem_toList_iff.mpr hc))
theorem sok_lit {x : Str} (h : (decide (x.length ≤ 100000) && x.cps.toList.all fun c => decide (c < 1114112)) = true) : Sok x := by
  obtain ⟨h1, h2⟩ := Bool.and_eq_true_iff.mp h
  exact ⟨of_decide_eq_true h1, fun c hc => of_decide_eq_true (List.all_eq_true.mp h2 c hc)⟩
mutual
inductive Rp (K : PySem.W.Frag) (H : Hp) : V → PyData → Prop
  | non : Rp K H .non .none
  | bl (b : Bool) : Rp K H (.bl b) (.bool b)
  | int (i : Int) : Rp K H (.int i) (.int i)
  | str (x : Str) (h : Sok x) : Rp K H (.str x) (.str x)
  | lst {a : Addr} {xs : List V} {ds : List PyData} : SqL K H a xs → RpA K H xs ds → xs.length ≤ 100000 → Rp K H (.ref a) (.list ds)
  | tup {a : Addr} {xs : List V} {ds : List PyData} : SqT K H a xs → RpA K H xs ds → xs.length ≤ 100000 → Rp K H (.ref a) (.tuple ds)
  | dct {a : Addr} {kvs : List (Key × V)} {ds : List (PyData × PyData)} : H a = some (.dK kvs) → RpK K H kvs ds → kvs.length ≤ 100000 → Rp K H (.ref a) (.dict ds)
inductive RpA (K : PySem.W.Frag) (H : Hp) : List V → List PyData → Prop
  | nil : RpA K H [] []
  | cons {v : V} {vs : List V} {d : PyData} {ds : List PyData} : Rp K H v d → RpA K H vs ds → RpA K H (v :: vs) (d :: ds)
inductive RpK (K : PySem.W.Frag) (H : Hp) : List (Key × V) → List (PyData × PyData) → Prop
  | nil : RpK K H [] []
  | consI {i : Int} {v : V} {vs : List (Key × V)} {d : PyData} {ds : List (PyData × PyData)} : Rp K H v d → RpK K H vs ds → RpK K H ((Sum.inl i, v) :: vs) ((.int i, d) :: ds)
  | consS {x : Str} {v : V} {vs : List (Key × V)} {d : PyData} {ds : List (PyData × PyData)} : Sok x → Rp K H v d → RpK K H vs ds → RpK K H ((Sum.inr x, v) :: vs) ((.str x, d) :: ds)
end
theorem Same.seqT {K : PySem.W.Frag} {H H' : Hp} {a : Addr} {xs : List V} (e : Same H H') (h : SqT K H a xs) : SqT K H' a xs := by
  rcases h with (h | ⟨o, h⟩) | h
  · exact .inl (.inl (e _ _ h))
  · exact .inl (.inr ⟨o, e _ _ h⟩)
  · exact .inr h
mutual
theorem Rp.mono {K : PySem.W.Frag} {H H' : Hp} (e : Same H H') : ∀ {v : V} {d : PyData}, Rp K H v d → Rp K H' v d
  | _, _, .non => .non
  | _, _, .bl b => .bl b
  | _, _, .int i => .int i
  | _, _, .str x h => .str x h
  | _, _, .lst h a z => .lst (e.seq h) (RpA.mono e a) z
  | _, _, .tup h a z => .tup (Same.seqT e h) (RpA.mono e a) z
  | _, _, .dct h a z => .dct (e _ _ h) (RpK.mono e a) z
theorem RpA.mono {K : PySem.W.Frag} {H H' : Hp} (e : Same H H') : ∀ {v : List V} {d : List PyData}, RpA K H v d → RpA K H' v d
  | _, _, .nil => .nil
  | _, _, .cons h a => .cons (Rp.mono e h) (RpA.mono e a)
theorem RpK.mono {K : PySem.W.Frag} {H H' : Hp} (e : Same H H') : ∀ {v : List (Key × V)} {d : List (PyData × PyData)}, RpK K H v d → RpK K H' v d
  | _, _, .nil => .nil
  | _, _, .consI h a => .consI (Rp.mono e h) (RpK.mono e a)
  | _, _, .consS l h a => .consS l (Rp.mono e h) (RpK.mono e a)
end
theorem RpA.length {K : PySem.W.Frag} {H : Hp} : ∀ {v : List V} {d : List PyData}, RpA K H v d → v.length = d.length
  | _, _, .nil => rfl
  | _, _, .cons _ a => congrArg Nat.succ (RpA.length a)
theorem RpA.get {K : PySem.W.Frag} {H : Hp} : ∀ {v : List V} {d : List PyData} {i : Nat} {x : V}, RpA K H v d → v[i]? = some x → ∃ y, d[i]? = some y ∧ Rp K H x y
  | _, _, _, _, .nil, e => by simp at e
  | _, _, 0, _, .cons h _, e => by
    have e' := Option.some.inj (show some _ = some _ from e)
    subst e'
    exact ⟨_, rfl, h⟩
  | _, _, i + 1, _, .cons _ a, e => RpA.get (i := i) a (by simpa using e)
theorem RpA.get' {K : PySem.W.Frag} {H : Hp} : ∀ {v : List V} {d : List PyData} {i : Nat} {y : PyData}, RpA K H v d → d[i]? = some y → ∃ x, v[i]? = some x ∧ Rp K H x y
  | _, _, _, _, .nil, e => by simp at e
  | _, _, 0, _, .cons h _, e => by
    have e' := Option.some.inj (show some _ = some _ from e)
    subst e'
    exact ⟨_, rfl, h⟩
  | _, _, i + 1, _, .cons _ a, e => RpA.get' (i := i) a (by simpa using e)
theorem RpA.append {K : PySem.W.Frag} {H : Hp} : ∀ {v w : List V} {d c : List PyData}, RpA K H v d → RpA K H w c → RpA K H (v ++ w) (d ++ c)
  | _, _, _, _, .nil, b => b
  | _, _, _, _, .cons h a, b => .cons h (RpA.append a b)
theorem RpA.drop {K : PySem.W.Frag} {H : Hp} : ∀ {v : List V} {d : List PyData} (n : Nat), RpA K H v d → RpA K H (v.drop n) (d.drop n)
  | _, _, 0, h => h
  | _, _, _ + 1, .nil => .nil
  | _, _, n + 1, .cons _ a => RpA.drop n a
theorem RpA.take {K : PySem.W.Frag} {H : Hp} : ∀ {v : List V} {d : List PyData} (n : Nat), RpA K H v d → RpA K H (v.take n) (d.take n)
  | _, _, 0, _ => .nil
  | _, _, _ + 1, .nil => .nil
  | _, _, n + 1, .cons h a => .cons h (RpA.take n a)
theorem RpA.mem {K : PySem.W.Frag} {H : Hp} {v : List V} {d : List PyData} {x : V} (h : RpA K H v d) (m : x ∈ v) : ∃ y, y ∈ d ∧ Rp K H x y := by
  obtain ⟨i, hi⟩ := List.getElem?_of_mem m
  obtain ⟨y, h1, h2⟩ := h.get hi
  exact ⟨y, List.mem_of_getElem? h1, h2⟩
def tyN : PyData → String
  | .none => "NoneType"
  | .bool _ => "bool"
  | .int _ => "int"
  | .str _ => "str"
  | .list _ => "list"
  | .tuple _ => "tuple"
  | .dict _ => "dict"
theorem SqL.ty {K : PySem.W.Frag} {H : Hp} {a : Addr} {xs : List V} (h : SqL K H a xs) : TyX K H (.ref a) (.type "list") := by
  rcases h with (h | ⟨o, h⟩) | ⟨o, its, n, h, c, _⟩
  · exact .base (.lst h)
  · exact .base (.frz h)
  · exact .kList h c
theorem SqT.ty {K : PySem.W.Frag} {H : Hp} {a : Addr} {xs : List V} (h : SqT K H a xs) : TyX K H (.ref a) (.type "tuple") := by
  rcases h with (h | ⟨o, h⟩) | ⟨o, its, n, h, c, _⟩
  · exact .base (.tup h)
  · exact .fTuple h
  · exact .kTuple h c
theorem Rp.ty {K : PySem.W.Frag} {H : Hp} {v : V} {d : PyData} (h : Rp K H v d) : TyX K H v (.type (tyN d)) := by
  cases h with
  | non => exact .base .non
  | bl b => exact .base (.bl b)
  | int i => exact .base (.int i)
  | str x _ => exact .base (.str x)
  | lst h _ _ => exact SqL.ty h
  | tup h _ _ => exact SqT.ty h
  | dct h _ _ => exact .base (.dK h)
/-- isinstance(d, the built-in T) -/
def isBS (s T : String) : Bool := s == T || (s == "bool" && T == "int")
def isB (d : PyData) (T : String) : Bool := isBS (tyN d) T
def tyNames : List String := ["NoneType", "bool", "int", "str", "list", "tuple", "dict"]
def tyAsked : List String := ["int", "bool", "str", "list", "tuple", "dict"]
theorem isBS_all : (tyNames.all fun s => tyAsked.all fun T => decide (kitB s T = some (isBS s T))) = true := by decide +kernel
theorem tyN_mem (d : PyData) : tyN d ∈ tyNames := by cases d <;> simp [tyN, tyNames]
theorem isB_ok {d : PyData} {T : String} (hT : T ∈ tyAsked) : kitB (tyN d) T = some (isB d T) :=
  of_decide_eq_true (List.all_eq_true.mp (List.all_eq_true.mp isBS_all _ (tyN_mem d)) _ hT)

/-! ### the universal operations -/
def uAdd (K : PySem.W.Frag) : R2 := fun x y H Q => rI0 (fun i j => .int (i + j)) x y H Q ∨ (∃ i j, x = .str i ∧ y = .str j ∧ i.length + j.length ≤ sizeLine ∧ Q (.str (i ++ j)) H) ∨ rCat x y H Q ∨ rCatA K x y H Q
def uEq (K : PySem.W.Frag) : R2 := fun x y H Q => rEq x y H Q ∨ rEqD K x y H Q
def uNe (K : PySem.W.Frag) : R2 := fun x y H Q => rNe x y H Q ∨ rNeD K x y H Q
def uIsi (K : PySem.W.Frag) : List V → Hp → VK → Prop := fun xs H Q => rIsi K xs H Q ∨ rIsiT K xs H Q
def uLen (K : PySem.W.Frag) : List V → Hp → VK → Prop := fun xs H Q => ∃ x n, xs = [x] ∧ LenV K x H n ∧ Q (.int n) H
def uInt : List V → Hp → VK → Prop := fun xs H Q => ((∃ i, xs = [.int i] ∧ Q (.int i) H) ∨ ∃ k, xs = [.bl k] ∧ Q (.int (if k then 1 else 0)) H) ∨ ∃ x n, xs = [.str x] ∧ PySem.intText? x = some n ∧ x.length ≤ 640 ∧ Q (.int n) H
def uSl (K : PySem.W.Frag) : V → Option Int → Option Int → Hp → VK → Prop := fun x lo hi H Q => rSlL K x lo hi H Q ∨ rSlA K x lo hi H Q ∨ rSlS x lo hi H Q
def uList (K : PySem.W.Frag) : List V → Hp → VK → Prop := fun xs H Q => ∃ p ys, xs = [.ref p] ∧ (SqL K H p ys ∨ SqT K H p ys) ∧ ∀ l, H l = none → Q (.ref l) (upd H l (.lst ys))
def uStr : List V → Hp → VK → Prop := fun xs H Q => ∃ i, xs = [.int i] ∧ i.natAbs.log2 < 1920 ∧ Q (.str (toString i)) H
/-- in, not in: a sign in a text; flat things in a list or tuple -/
def uIn (K : PySem.W.Frag) : R2 := fun x y H Q => (∃ (c : Nat) (z : Str), x = .str ⟨#[c]⟩ ∧ y = .str z ∧ Q (.bl (decide (c ∈ z.cps.toList))) H) ∨ rIn K false x y H Q
def uNi (K : PySem.W.Frag) : R2 := fun x y H Q => (∃ (c : Nat) (z : Str), x = .str ⟨#[c]⟩ ∧ y = .str z ∧ Q (.bl (!decide (c ∈ z.cps.toList))) H) ∨ rIn K true x y H Q
section
variable {X : Cx}
theorem u_add : OpR X (binaryOp .Add) (uAdd X.K) := op_add.or (op_add_str.or (op_cat.or op_catA))
theorem u_eq (hu : X.A.units + 64 < cLine) : OpR X (compareOp .Eq) (uEq X.K) := op_eq.or (op_eqD hu)
theorem u_ne (hu : X.A.units + 64 < cLine) : OpR X (compareOp .NotEq) (uNe X.K) := op_ne.or (op_neD hu)
theorem u_isi : CallR X (.builtin "isinstance") (uIsi X.K) := call_isi.or call_isiT
theorem u_len : CallR X (.builtin "len") (uLen X.K) := call_len
theorem u_int : CallR X (.type "int") uInt := call_int1.or call_int_str
theorem u_str : CallR X (.type "str") uStr := call_str_int
theorem u_list : CallR X (.type "list") (uList X.K) := call_list_of
theorem u_in : OpR X (compareOp .In) (uIn X.K) := op_in_sign.or op_in_seq
theorem u_ni : OpR X (compareOp .NotIn) (uNi X.K) := op_notIn_sign.or op_notIn_seq
theorem u_sl : SlR X (uSl X.K) := sl_list.or (sl_tupA.or sl_str)
/-- a module's number, text -/
theorem pe_gint {x : Str} {i : Int} {pos : Pos} (hg : Gl X x) (hm : ∃ t, X.mg x = some (.int i t)) (hd : (x == ("__debug__" : Str)) = false := by decide) : PE X (.Name x pos) (tC (.int i)) := by
  obtain ⟨t, h⟩ := hm
  exact pe_glob hg h ⟨t, rfl⟩ hd
theorem pe_gstr {x z : Str} {pos : Pos} (hg : Gl X x) (hm : ∃ t, X.mg x = some (.str z t)) (hd : (x == ("__debug__" : Str)) = false := by decide) : PE X (.Name x pos) (tC (.str z)) := by
  obtain ⟨t, h⟩ := hm
  exact pe_glob hg h ⟨t, rfl⟩ hd
/-- a built-in class as a value -/
theorem pe_ty {x : Str} {T : String} {pos : Pos} (hg : Gl X x) (hm : X.mg x = none) (hv : bootBuiltins x = some (.type T)) (hn : x ≠ "__name__" := by decide) (hd : (x == ("__debug__" : Str)) = false := by decide) : PE X (.Name x pos) (tC (.ty T)) :=
  pe_bltn (v := .ty T) hg hm hv rfl hn hd
/-- f(k = v, ..), no place -/
theorem pe_callN0 {CX : CXT} {k : Nat} {f : Addr} {fd : FuncData} {ps ks : List Str} {sp : Sp} {E : XK} {x : Str} {p pos : Pos} {kws : List Keyword} {tk : TA} {g : List Value → List Value → List Value} {gV : List V → List V → List V}
    (F : FnOk X.prog X.w X.K X.mg X.base CX k f fd ps sp) (hr : Room k X.A) (hg : Gl X x) (hm : X.mg x = some (.ref f)) (hk : PySem.W.keepIn X.K (.ref f) = true) (hb : KBn X.K fd ps 0 ks g gV) (hx : Passes CX X E) (hkw : PK X kws tk)
    (hall : (backToKw pos (keywordEach kws X.env)).all (·.1.isSome) = true := by rfl) (hks : (backToKw pos (keywordEach kws X.env)).filterMap (·.1) = ks := by rfl) (hdb : (x == ("__debug__" : Str)) = false := by decide)
    (hpl : ((backTo pos (starEach [] X.env)).any (·.1) || (backToKw pos (keywordEach kws X.env)).any (·.1.isNone)) = false := by rfl) :
    PE X (.Call (.Name x p) [] kws pos) (tCallN 0 ks.length sp gV E tNil tk) := by
  refine ⟨fun pins s σ H Q I h => ?_⟩
  refine wpAny_Call_Name_kw (ld_glob I hg hm ?_ hdb)
  refine PySem.W.callWith_KW0 (h₀ := X.base) I.ok.mod.kin hk hall ?_ hpl
  refine thn (hkw.run pos pins s σ H _ I h) fun ws s2 ⟨zs, H2, I2, rz, l1, l2, q2⟩ => ⟨I2.kIn, ?_⟩
  rw [hks]
  exact run_fnN (us := []) (vs := []) F hr hb hx I2 .nil rz rfl l2 q2
end

/-! ### more readings -/
abbrev uSub : R2 := rI0 fun i j => .int (i - j)
abbrev uMul : R2 := rI CMul fun i j => .int (i * j)
abbrev uFdiv : R2 := rI CDiv fun i j => .int (i / j)
abbrev uMod : R2 := rI (fun _ j => 0 < j) fun i j => .int (i % j)
abbrev uPow : R2 := rI CPow fun i j => .int (i ^ j.toNat)
abbrev uLt : R2 := rI0 fun i j => .bl (decide (i < j))
abbrev uLe : R2 := rI0 fun i j => .bl (decide (i ≤ j))
abbrev uGt : R2 := rI0 fun i j => .bl (decide (j < i))
abbrev uGe : R2 := rI0 fun i j => .bl (decide (j ≤ i))
abbrev uNeg : V → Hp → VK → Prop := rU fun i => .int (-i)
def uMax : List V → Hp → VK → Prop := fun xs H Q => ∃ i j, xs = [.int i, .int j] ∧ Q (.int (if j > i then j else i)) H
def uMin : List V → Hp → VK → Prop := fun xs H Q => ∃ i j, xs = [.int i, .int j] ∧ Q (.int (if j < i then j else i)) H
def tFs (ts : List TE) : TE := fun σ H Q => tJs ts Str.empty σ H fun out H1 => Q (.str out) H1
def m_split (_ : PySem.W.Frag) : V → List V → Hp → VK → Prop := fun x xs H Q => ∃ a b, x = .str a ∧ xs = [.str b] ∧ (b.length == 0) = false ∧ a.length + 2 ≤ sizeLine ∧ rNewStrs (Txt.split a b) H Q
def m_partition (_ : PySem.W.Frag) : V → List V → Hp → VK → Prop := fun x xs H Q => ∃ a b, x = .str a ∧ xs = [.str b] ∧ (b.length == 0) = false ∧ a.length ≤ sizeLine ∧
      ∀ p, H p = none → Q (.ref p) (upd H p (.tup [.str (Txt.partition a b).1, .str (Txt.partition a b).2.1, .str (Txt.partition a b).2.2]))
def m_join (K : PySem.W.Frag) : V → List V → Hp → VK → Prop := fun x xs H Q => ∃ a p, ∃ ys : List Str, x = .str a ∧ xs = [.ref p] ∧ (SqL K H p (ys.map V.str) ∨ SqT K H p (ys.map V.str)) ∧
      (ys.map (·.length)).sum + ys.length * a.length ≤ 16777216 ∧ Q (.str (Txt.join a ys)) H
/-- a list, a tuple, a text walked -/
def iAny (K : PySem.W.Frag) (tl : TE) : TI := fun σ H R => iList K tl σ H R ∨ iTup K tl σ H R ∨ iStr tl σ H R
section
variable {X : Cx} {tg e : Expr} {te : TE}
theorem u_sub : OpR X (binaryOp .Sub) uSub := op_sub
theorem u_mul : OpR X (binaryOp .Mult) uMul := op_mul
theorem u_fdiv : OpR X (binaryOp .FloorDiv) uFdiv := op_fdiv
theorem u_mod : OpR X (binaryOp .Mod) uMod := op_mod
theorem u_pow : OpR X (binaryOp .Pow) uPow := op_pow
theorem u_lt : OpR X (compareOp .Lt) uLt := op_lt
theorem u_le : OpR X (compareOp .LtE) uLe := op_le
theorem u_gt : OpR X (compareOp .Gt) uGt := op_gt
theorem u_ge : OpR X (compareOp .GtE) uGe := op_ge
theorem pi_any (he : PE X e te) : PI X tg e (iAny X.K te) := ⟨fun pins s σ H R I h => by
  rcases h with h | h | h
  · exact (pi_list he).run pins s σ H R I h
  · exact (pi_tup he).run pins s σ H R I h
  · exact (pi_str he).run pins s σ H R I h⟩
theorem pt_tru (ha : PE X e te) (he : ∀ whole, isTrue e X.env whole = (do let v ← whole; standAt e.pos; holding [v] (truthy v))) : PT X e (tTru X.K te) := pt_truth ha he
theorem bt_int : bootBuiltins "int" = some (.type "int") := by decide +kernel
theorem bt_bool : bootBuiltins "bool" = some (.type "bool") := by decide +kernel
theorem bt_str : bootBuiltins "str" = some (.type "str") := by decide +kernel
theorem bt_list : bootBuiltins "list" = some (.type "list") := by decide +kernel
theorem bt_tuple : bootBuiltins "tuple" = some (.type "tuple") := by decide +kernel
theorem bt_dict : bootBuiltins "dict" = some (.type "dict") := by decide +kernel
theorem bt_len : bootBuiltins "len" = some (.builtin "len") := by decide +kernel
theorem bt_all : bootBuiltins "all" = some (.builtin "all") := by decide +kernel
theorem bt_any : bootBuiltins "any" = some (.builtin "any") := by decide +kernel
theorem bt_max : bootBuiltins "max" = some (.builtin "max") := by decide +kernel
theorem bt_min : bootBuiltins "min" = some (.builtin "min") := by decide +kernel
theorem bt_sum : bootBuiltins "sum" = some (.builtin "sum") := by decide +kernel
theorem bt_isinstance : bootBuiltins "isinstance" = some (.builtin "isinstance") := by decide +kernel
theorem kbn_of {K : PySem.W.Frag} {x qual : Str} {params : Arguments} {body : List Stmt} {scope : Scope} {kws : List (Str × V)} {f : Addr} {fd : FuncData} {ps : List Str} {n : Nat} {ks : List Str} {g : List Value → List Value → List Value} {gV : List V → List V → List V}
    (F : FunD K x qual params body scope [] kws f fd)
    (h : ∀ (kV doc pm : Value) (an : Option Addr) (cdv ct : Value) (us ws : List Value), us.length = n → ws.length = ks.length → bindArgs (PySem.W.fnOf x qual params body scope .none kV doc pm an cdv ct) ⟨us, ks.zip ws⟩ = pure (ps.zip (g us ws)))
    (rel : ∀ {vs : List V} {us : List Value} {zs : List V} {ws : List Value}, Vals vs us → Vals zs ws → Vals (gV vs zs) (g us ws)) : KBn K fd ps n ks g gV := by
  obtain ⟨oc, od, dV, kV, doc, pm, an, cdv, ct, osl, rfl, lk, hcd, hD, hK⟩ := F.ex
  rcases hD with ⟨_, rfl⟩ | ⟨e, _⟩
  · exact ⟨fun s us ws _ l1 l2 => .of_eq (h kV doc pm an cdv ct us ws l1 l2), rel⟩
  · exact absurd rfl e
end
end SW

namespace SW
open PySem PySem.Spec PyProof.Rows L2
section
variable {K : PySem.W.Frag} {σ : L2.St} {H H' H1 H2 : Hp} {Q : VK} {D : Ends} {t u : TS} {c c2 : TT} {te ta tb tc : TE} {r r' : R2} {v x y : V} {i j : Nat} {E : XK} {g : TG} {QT : Bool → Hp → Prop} {QA : List V → Hp → Prop} {tr : TA} {rc : List V → Hp → VK → Prop} {vs : List V}
/-! ### statements -/
theorem s_seq (h : t { D with nx := u D } σ H) : tSeq t u D σ H := h
theorem s_ifS (h : c σ H fun b H1 => if b = true then t D σ H1 else u D σ H1) : tIfS c t u D σ H := h
theorem s_ret (h : te σ H D.rt) : tRet te D σ H := h
theorem s_next (h : D.nx σ H) : tNext D σ H := h
theorem s_drop (h : te σ H fun _ H1 => D.nx σ H1) : tDrop te D σ H := h
theorem s_asg (h : te σ H fun x H1 => g x σ H1 D.nx) : tAsg te g D σ H := h
theorem s_gName {QS : L2.St → Hp → Prop} (h : QS (σ.set i (some v)) H) : gName i v σ H QS := h
theorem s_par (h : tr σ H fun vs H1 => ∃ v w, vs = [v, w] ∧ D.nx ((σ.set i (some v)).set j (some w)) H1) : tPar i j tr D σ H := h
theorem s_par3 {l : Nat} (h : tr σ H fun vs H1 => ∃ u v w, vs = [u, v, w] ∧ D.nx (((σ.set i (some u)).set j (some v)).set l (some w)) H1) : tPar3 i j l tr D σ H := h
theorem s_ex2 {v w : V} {P : V → V → Prop} (h : P v w) : ∃ a b, [v, w] = [a, b] ∧ P a b := ⟨v, w, rfl, h⟩
theorem s_ex3 {u v w : V} {P : V → V → V → Prop} (h : P u v w) : ∃ a b c, [u, v, w] = [a, b, c] ∧ P a b c := ⟨u, v, w, rfl, h⟩
/-! ### expressions -/
theorem s_var (h : σ[i]? = some (some v)) (k : Q v H) : tVar i σ H Q := ⟨v, h, k⟩
theorem s_c (k : Q v H) : tC v σ H Q := k
theorem s_op (h : ta σ H fun x H1 => tb σ H1 fun y H2 => r x y H2 Q) : tOp r ta tb σ H Q := h
theorem s_un {r : V → Hp → VK → Prop} (h : ta σ H fun x H1 => r x H1 Q) : tUn r ta σ H Q := h
theorem s_CB (h : tr σ H fun vs H1 => rc vs H1 Q) : tCB rc tr σ H Q := h
theorem s_cons (h : ta σ H fun x H1 => tr σ H1 fun xs H2 => QA (x :: xs) H2) : tCons ta tr σ H QA := h
theorem s_nil (h : QA [] H) : tNil σ H QA := h
theorem s_call {sp : Sp} {dvs : List V} (h : tr σ H fun vs H1 => sp (vs ++ dvs) H1 Q E) : tCall sp dvs E tr σ H Q := h
theorem s_not (h : c σ H fun b H1 => QT (!b) H1) : tNot c σ H QT := h
theorem s_and (h : c σ H fun b H1 => if b = true then c2 σ H1 QT else QT false H1) : tAnd c c2 σ H QT := h
theorem s_or (h : c σ H fun b H1 => if b = true then QT true H1 else c2 σ H1 QT) : tOr c c2 σ H QT := h
theorem s_andV (h : ta σ H fun x H1 => ∃ c, x = .bl c ∧ if c = true then tb σ H1 Q else Q (.bl false) H1) : tAndV ta tb σ H Q := h
theorem s_orV (h : ta σ H fun x H1 => ∃ c, x = .bl c ∧ if c = true then Q (.bl true) H1 else tb σ H1 Q) : tOrV ta tb σ H Q := h
theorem s_notV (h : ta σ H fun x H1 => ∃ c, x = .bl c ∧ Q (.bl (!c)) H1) : tNotV ta σ H Q := h
theorem s_if (h : c σ H fun b H1 => if b = true then ta σ H1 Q else tb σ H1 Q) : tIf c ta tb σ H Q := h
theorem s_test (h : te σ H fun x H' => ∃ k, x = .bl k ∧ QT k H') : tTest te σ H QT := h
theorem s_tru (h : te σ H fun x H' => ∃ k, TruV K x H' k ∧ QT k H') : tTru K te σ H QT := h
theorem s_chain (h : ta σ H fun x H1 => tb σ H1 fun y H2 => r x y H2 fun z H3 => ∃ k, z = .bl k ∧ (if k = true then tc σ H3 fun w' H4 => r' y w' H4 Q else Q (.bl false) H3)) : tChain r r' ta tb tc σ H Q := h
theorem s_sl {ru : V → Option Int → Option Int → Hp → VK → Prop} {tl th : TO} (h : te σ H fun x H1 => tl σ H1 fun l H2 => th σ H2 fun u H3 => ru x l u H3 Q) : tSl ru te tl th σ H Q := h
theorem s_noPart {QO : Option Int → Hp → Prop} (h : QO none H) : tNoPart σ H QO := h
theorem s_part {QO : Option Int → Hp → Prop} (h : te σ H fun x H1 => ∃ i, x = .int i ∧ QO (some i) H1) : tPart te σ H QO := h
theorem s_M1 {rm : V → List V → Hp → VK → Prop} (h : ta σ H fun x H1 => (∃ a, x = .str a) ∧ tb σ H1 fun y H2 => rm x [y] H2 Q) : tM1 rm ta tb σ H Q := h
theorem s_exS {a : Str} {P : Prop} (h : P) : (∃ b, V.str a = .str b) ∧ P := ⟨⟨a, rfl⟩, h⟩
/-! ### leaves -/
theorem s_exI {a : Int} {P : Int → Prop} (h : P a) : ∃ k, V.int a = .int k ∧ P k := ⟨a, rfl, h⟩
theorem s_exB {b : Bool} {P : Bool → Prop} (h : P b) : ∃ k, V.bl b = .bl k ∧ P k := ⟨b, rfl, h⟩
theorem s_truB {b : Bool} {P : Bool → Prop} (h : P b) : ∃ k, TruV K (.bl b) H k ∧ P k := ⟨b, rfl, h⟩
theorem s_rI0 {g : Int → Int → V} {a b : Int} (h : Q (g a b) H) : rI0 g (.int a) (.int b) H Q := ⟨a, b, rfl, rfl, h⟩
theorem s_rI {C : Int → Int → Prop} {g : Int → Int → V} {a b : Int} (hc : C a b) (h : Q (g a b) H) : rI C g (.int a) (.int b) H Q := ⟨a, b, rfl, rfl, hc, h⟩
theorem s_rU {g : Int → V} {a : Int} (h : Q (g a) H) : rU g (.int a) H Q := ⟨a, rfl, h⟩
theorem s_addI {a b : Int} (h : Q (.int (a + b)) H) : uAdd K (.int a) (.int b) H Q := .inl ⟨a, b, rfl, rfl, h⟩
theorem s_addS {a b : Str} (hz : a.length + b.length ≤ sizeLine) (h : Q (.str (a ++ b)) H) : uAdd K (.str a) (.str b) H Q := .inr (.inl ⟨a, b, rfl, rfl, hz, h⟩)
theorem s_eqI {a b : Int} (h : Q (.bl (decide (a = b))) H) : uEq K (.int a) (.int b) H Q := .inl ⟨rfl, by
  have e : decide (V.int a = V.int b) = decide (a = b) := by rw [Bool.eq_iff_iff]; simp
  rw [e]; exact h⟩
theorem s_neI {a b : Int} (h : Q (.bl (!decide (a = b))) H) : uNe K (.int a) (.int b) H Q := .inl ⟨rfl, by
  have e : decide (V.int a = V.int b) = decide (a = b) := by rw [Bool.eq_iff_iff]; simp
  rw [e]; exact h⟩
theorem s_eqS {a b : Str} (h : Q (.bl (decide (a = b))) H) : uEq K (.str a) (.str b) H Q := .inl ⟨rfl, by
  have e : decide (V.str a = V.str b) = decide (a = b) := by rw [Bool.eq_iff_iff]; simp
  rw [e]; exact h⟩
theorem s_neS {a b : Str} (h : Q (.bl (!decide (a = b))) H) : uNe K (.str a) (.str b) H Q := .inl ⟨rfl, by
  have e : decide (V.str a = V.str b) = decide (a = b) := by rw [Bool.eq_iff_iff]; simp
  rw [e]; exact h⟩
theorem s_isN {a : V} (h : Q (.bl (decide (a = .non))) H) : rIsN a .non H Q := ⟨rfl, h⟩
theorem s_notN {a : V} (h : Q (.bl (!decide (a = .non))) H) : rNotN a .non H Q := ⟨rfl, h⟩
/-- isinstance(x, T) -/
theorem s_isi {d : PyData} {T : String} (h : Rp K H v d) (hT : T ∈ tyAsked) (k : Q (.bl (isB d T)) H) : uIsi K [v, .ty T] H Q :=
  .inl ⟨v, .ty T, _, _, isB d T, rfl, .ty T, h.ty, kit_ty (isB_ok hT), k⟩
theorem s_lenS {a : Str} (hz : a.length ≤ 100000) (h : Q (.int a.length) H) : uLen K [.str a] H Q := ⟨.str a, a.length, rfl, ⟨Nat.le_trans hz (by decide), rfl⟩, h⟩
theorem s_lenT {p : Addr} {xs : List V} (hx : SqT K H p xs) (h : Q (.int xs.length) H) : uLen K [.ref p] H Q := ⟨.ref p, xs.length, rfl, .inr ⟨xs, hx, rfl⟩, h⟩
theorem s_lenL {p : Addr} {xs : List V} (hx : SqL K H p xs) (h : Q (.int xs.length) H) : uLen K [.ref p] H Q := ⟨.ref p, xs.length, rfl, .inl ⟨xs, hx, rfl⟩, h⟩
theorem s_ixT {p : Addr} {xs : List V} {k : Int} (hx : SqT K H p xs) (hi : atI xs k = some v) (h : Q v H) : rIx K (.ref p) (.int k) H Q := .inr (.inl ⟨p, xs, k, v, rfl, rfl, hx, hi, h⟩)
theorem s_ixL {p : Addr} {xs : List V} {k : Int} (hx : SqL K H p xs) (hi : atI xs k = some v) (h : Q v H) : rIx K (.ref p) (.int k) H Q := .inl ⟨p, xs, k, v, rfl, rfl, hx, hi, h⟩
theorem s_ixS {a : Str} {k : Int} {z : Nat} (hz : a.length ≤ 100000) (hi : atI a.cps.toList k = some z) (h : Q (.str ⟨#[z]⟩) H) : rIx K (.str a) (.int k) H Q := .inr (.inr ⟨a, k, z, rfl, rfl, Nat.le_trans hz (by decide), hi, h⟩)
theorem s_int1 {a : Int} (h : Q (.int a) H) : uInt [.int a] H Q := .inl (.inl ⟨a, rfl, h⟩)
theorem s_tup (h : tr σ H fun xs H1 => xs.length ≤ sizeLine ∧ ∀ p, H1 p = none → Q (.ref p) (upd H1 p (.tup xs))) : tTup tr σ H Q := h
theorem s_lst (h : tr σ H fun xs H1 => xs.length ≤ sizeLine ∧ ∀ p, H1 p = none → Q (.ref p) (upd H1 p (.lst xs))) : tLst tr σ H Q := h
/-- a new object: all that was stands -/
theorem s_new {o : HO} (hz : vs.length ≤ sizeLine) (k : ∀ p H', H p = none → Same H H' → H' = upd H p o → Q (.ref p) H') : vs.length ≤ sizeLine ∧ ∀ p, H p = none → Q (.ref p) (upd H p o) :=
  ⟨hz, fun p hp => k p _ hp (fun b o e => by rw [upd_ne (ne_of_none e hp)]; exact e) rfl⟩
theorem same_new {p : Addr} {o : HO} (hp : H p = none) : Same H (upd H p o) := fun b o e => by rw [upd_ne (ne_of_none e hp)]; exact e
theorem s_sp1 {p : V → Hp → VK → XK → Prop} (h : p v H Q E) : Sp1 p ([v] ++ []) H Q E := ⟨v, rfl, h⟩
theorem s_sp2 {p : V → V → Hp → VK → XK → Prop} {w : V} (h : p v w H Q E) : Sp2 p ([v, w] ++ []) H Q E := ⟨v, w, rfl, h⟩
theorem s_sp3 {p : V → V → V → Hp → VK → XK → Prop} {w z : V} (h : p v w z H Q E) : Sp3 p ([v, w, z] ++ []) H Q E := ⟨v, w, z, rfl, h⟩
theorem s_bite {b : Bool} {A B : Prop} (h1 : b = true → A) (h2 : b = false → B) : if b = true then A else B := by
  cases b
  · exact (h2 rfl)
  · exact (h1 rfl)
end
/-- a pure def of one datum -/
abbrev SpD (K : PySem.W.Frag) (f : PyData → V) : Sp := Sp1 fun v H Q _ => ∃ d, Rp K H v d ∧ ∀ H', Same H H' → Q (f d) H'
theorem s_spD {K : PySem.W.Frag} {H : Hp} {Q : VK} {E : XK} {f : PyData → V} {v : V} {d : PyData} (h : Rp K H v d) (k : ∀ H', Same H H' → Q (f d) H') : SpD K f ([v] ++ []) H Q E := ⟨v, rfl, d, h, k⟩
theorem Rp.tup' {K : PySem.W.Frag} {H : Hp} {v : V} {ds : List PyData} (h : Rp K H v (.tuple ds)) : ∃ a xs, v = .ref a ∧ SqT K H a xs ∧ RpA K H xs ds := by
  cases h with
  | tup hs ha _ => exact ⟨_, _, rfl, hs, ha⟩
theorem Rp.lst' {K : PySem.W.Frag} {H : Hp} {v : V} {ds : List PyData} (h : Rp K H v (.list ds)) : ∃ a xs, v = .ref a ∧ SqL K H a xs ∧ RpA K H xs ds := by
  cases h with
  | lst hs ha _ => exact ⟨_, _, rfl, hs, ha⟩
theorem Rp.len {K : PySem.W.Frag} {H : Hp} {v : V} {ds : List PyData} (h : Rp K H v (.tuple ds) ∨ Rp K H v (.list ds)) : ds.length ≤ 100000 := by
  rcases h with h | h
  · cases h with
    | tup hs ha z => rw [← ha.length]; exact z
  · cases h with
    | lst hs ha z => rw [← ha.length]; exact z
theorem RpA.cons' {K : PySem.W.Frag} {H : Hp} {xs : List V} {d : PyData} {ds : List PyData} (h : RpA K H xs (d :: ds)) : ∃ v vs, xs = v :: vs ∧ Rp K H v d ∧ RpA K H vs ds := by
  cases h with
  | cons h1 h2 => exact ⟨_, _, rfl, h1, h2⟩
theorem RpA.nil' {K : PySem.W.Frag} {H : Hp} {xs : List V} (h : RpA K H xs []) : xs = [] := by
  cases h with
  | nil => rfl

/-! ### what is walked, as a list -/
def Yl (J : It) (H : Hp) (xs : List V) : Prop := (∀ i H', Same H H' → xs.length ≤ i → J.stop i H') ∧ ∀ i H', Same H H' → i < xs.length → J.go i H' ∧ ∀ x H'', J.yld i H' x H'' → H'' = H' ∧ xs[i]? = some x
theorem Yl.list {K : PySem.W.Frag} {H : Hp} {a : Addr} {xs : List V} (h : SqL K H a xs) : Yl (Itl K a) H xs :=
  ⟨fun i H' e hi => ⟨xs, e.seq h, hi⟩, fun i H' e hi => ⟨⟨xs, xs[i], e.seq h, by simp [hi]⟩, fun x H'' y => ⟨y.1, y.2 xs (e.seq h)⟩⟩⟩
theorem Yl.tup {K : PySem.W.Frag} {H : Hp} {a : Addr} {xs : List V} (h : SqT K H a xs) : Yl (Itt K a) H xs :=
  ⟨fun i H' e hi => ⟨xs, Same.seqT e h, hi⟩, fun i H' e hi => ⟨⟨xs, xs[i], Same.seqT e h, by simp [hi]⟩, fun x H'' y => ⟨y.1, y.2 xs (Same.seqT e h)⟩⟩⟩
def signs (x : Str) : List V := x.cps.toList.map fun c => V.str ⟨#[c]⟩
theorem signs_length (x : Str) : (signs x).length = x.length := by simp [signs, Str.length]
theorem Yl.str {H : Hp} (x : Str) : Yl (Its x) H (signs x) := by
  refine ⟨fun i H' e hi => ?_, fun i H' e hi => ⟨?_, fun v H'' y => ?_⟩⟩
  · show x.cps.size ≤ i
    simpa [signs] using hi
  · show i < x.cps.size
    simpa [signs] using hi
  · obtain ⟨e1, c, hc, rfl⟩ := y
    refine ⟨e1, ?_⟩
    unfold signs
    rw [List.getElem?_map]
    have : x.cps.toList[i]? = some c := by simpa using hc
    rw [this]; rfl
def rngV (lo : Int) (n : Nat) : List V := (List.range n).map fun (i : Nat) => V.int (lo + (i : Int))
theorem rngV_length (lo : Int) (n : Nat) : (rngV lo n).length = n := by simp [rngV]
theorem Yl.rng {H : Hp} (lo : Int) (n : Nat) : Yl (Itr lo n) H (rngV lo n) := by
  refine ⟨fun i H' e hi => ?_, fun i H' e hi => ⟨?_, fun v H'' y => ?_⟩⟩
  · show n ≤ i
    simpa [rngV] using hi
  · show i < n
    simpa [rngV] using hi
  · obtain ⟨e1, rfl⟩ := y
    refine ⟨e1, ?_⟩
    have hi' : i < n := by simpa [rngV] using hi
    unfold rngV
    rw [List.getElem?_map, List.getElem?_range hi']; rfl
theorem filtT {α : Type} (l : List α) : l.filter (fun _ => true) = l := List.filter_eq_self.mpr (by simp)
theorem filtF {α : Type} (l : List α) : l.filter (fun _ => false) = [] := List.filter_eq_nil_iff.mpr (by simp)
theorem take_succ_filter {fb : V → Bool} {fv : V → V} {xs : List V} {i : Nat} {x : V} (h : xs[i]? = some x) :
    (((xs.take (i + 1)).filter fb).map fv) = ((xs.take i).filter fb).map fv ++ (if fb x = true then [fv x] else []) := by
  rw [List.take_add_one, h, List.filter_append, List.map_append]
  congr 1
  cases hb : fb x <;> simp [hb]
/-- what a comprehension asks of what is walked -/
def LcK (g : TG) (tt : TT) (te : TE) (vs : List Nat) (σ : L2.St) (Q : VK) (J : It) (H : Hp) : Prop := ∀ Dl, H Dl = none → ∃ W : Nat → Nat → Hp → Prop, (∃ m, W 0 m (upd H Dl (.lst []))) ∧ ∀ i m H, W i m H →
      (J.stop i H ∧ Q (.ref Dl) H) ∨ (J.go i H ∧ ∃ Nx : Hp → Prop, (∀ H', Nx H' → ∃ m', m' < m ∧ W (i + 1) m' H') ∧ ∀ x H', J.yld i H x H' → g x (wipe σ vs) H' fun σ2 H2 => wipe σ2 vs = wipe σ vs ∧ tt σ2 H2 fun b H3 =>
        if b = true then te σ2 H3 fun y H4 => ∃ acc, H4 Dl = some (.lst acc) ∧ acc.length < sizeLine ∧ Nx (upd H4 Dl (.lst (acc ++ [y]))) else Nx H3)
theorem s_lc {wi : TI} {g : TG} {tt : TT} {te : TE} {vs : List Nat} {σ : L2.St} {H : Hp} {Q : VK} (h : wi σ H (LcK g tt te vs σ Q)) : tLc wi g tt te vs σ H Q := h
/-- what a for asks of what is walked -/
def ForK (g : TG) (tb : TS) (D : Ends) (σ : L2.St) (J : It) (H1 : Hp) : Prop := ∃ W : Nat → Nat → L2.St → Hp → Prop, (∃ m, W 0 m σ H1) ∧ ∀ i m σ H, W i m σ H →
  (J.stop i H ∧ D.nx σ H) ∨ (J.go i H ∧ ∃ N : L2.St → Hp → Prop, (∀ σ' H', N σ' H' → ∃ m', m' < m ∧ W (i + 1) m' σ' H') ∧ ∀ x H', J.yld i H x H' → g x σ H' fun σ2 H2 => tb { D with nx := N, ct := N, bk := D.nx } σ2 H2)
theorem s_for {wi : TI} {g : TG} {tb : TS} {D : Ends} {σ : L2.St} {H : Hp} (h : wi σ H (ForK g tb D σ)) : tFor wi g tb D σ H := h
theorem i_list {K : PySem.W.Frag} {te : TE} {σ : L2.St} {H : Hp} {R : It → Hp → Prop} (h : te σ H fun x H1 => ∃ a, x = .ref a ∧ (∃ xs, SqL K H1 a xs) ∧ R (Itl K a) H1) : iAny K te σ H R := .inl h
theorem i_tup {K : PySem.W.Frag} {te : TE} {σ : L2.St} {H : Hp} {R : It → Hp → Prop} (h : te σ H fun x H1 => ∃ a, x = .ref a ∧ (∃ xs, SqT K H1 a xs) ∧ R (Itt K a) H1) : iAny K te σ H R := .inr (.inl h)
theorem i_str {K : PySem.W.Frag} {te : TE} {σ : L2.St} {H : Hp} {R : It → Hp → Prop} (h : te σ H fun v H1 => ∃ x, v = .str x ∧ R (Its x) H1) : iAny K te σ H R := .inr (.inr h)
theorem i_rng1 {ta : TA} {σ : L2.St} {H : Hp} {R : It → Hp → Prop} (h : ta σ H fun vs H1 => ∃ j : Int, vs = [.int j] ∧ -(2 ^ 62) ≤ j ∧ j < 2 ^ 62 ∧ R (Itr 0 j.toNat) H1) : iRng1 ta σ H R := h
/-- a comprehension that changes nothing, over what is walked: the items that pass, each by fv -/
theorem lc_pure {J : It} {H : Hp} {xs : List V} {σ : L2.St} {j : Nat} {tt : TT} {te : TE} {vs : List Nat} {Q : VK} (yl : Yl J H xs) (fb : V → Bool) (fv : V → V) (hz : (xs.filter fb).length ≤ 100000)
    (hw : ∀ x, wipe ((wipe σ vs).set j (some x)) vs = wipe σ vs)
    (ht : ∀ x H', x ∈ xs → Same H H' → ∀ QT : Bool → Hp → Prop, (∀ H'', Same H' H'' → QT (fb x) H'') → tt ((wipe σ vs).set j (some x)) H' QT)
    (he : ∀ x H', x ∈ xs → fb x = true → Same H H' → ∀ QV : VK, (∀ H'', Same H' H'' → QV (fv x) H'') → te ((wipe σ vs).set j (some x)) H' QV)
    (k : ∀ Dl H', H Dl = none → Same H H' → H' Dl = some (.lst ((xs.filter fb).map fv)) → Q (.ref Dl) H') :
    LcK (gName j) tt te vs σ Q J H := by
  intro Dl hD
  have hline : sizeLine = 16777216 := sizeLine_eq
  refine ⟨fun i m H' => m = xs.length - i ∧ i ≤ xs.length ∧ Same H H' ∧ H' Dl = some (.lst (((xs.take i).filter fb).map fv)), ⟨xs.length, by simp, Nat.zero_le _, same_new hD, by rw [upd_same]; simp⟩, ?_⟩
  rintro i m H1 ⟨rfl, hi, e1, hl⟩
  by_cases hlt : i < xs.length
  · obtain ⟨hg, hy⟩ := yl.2 i H1 e1 hlt
    refine .inr ⟨hg, fun H' => i + 1 ≤ xs.length ∧ Same H H' ∧ H' Dl = some (.lst (((xs.take (i + 1)).filter fb).map fv)), fun H' p => ⟨xs.length - (i + 1), by omega, rfl, p.1, p.2⟩, fun x H' y => ?_⟩
    obtain ⟨rfl, hx⟩ := hy x H' y
    have hm : x ∈ xs := List.mem_of_getElem? hx
    refine ⟨hw x, ht x _ hm e1 _ fun H3 e3 => ?_⟩
    cases hb : fb x with
    | true =>
      rw [if_pos rfl]
      refine he x H3 hm hb (e1.trans e3) _ fun H4 e4 => ⟨_, e4 _ _ (e3 _ _ hl), ?_, hlt, ?_, ?_⟩
      · have h1 : ((xs.take i).filter fb).length ≤ (xs.filter fb).length := ((List.take_sublist i xs).filter fb).length_le
        rw [List.length_map]; omega
      · intro b o e
        rw [upd_ne (ne_of_none e hD)]
        exact e4 _ _ (e3 _ _ (e1 _ _ e))
      · rw [upd_same, take_succ_filter hx, hb]; simp
    | false =>
      rw [if_neg Bool.false_ne_true]
      refine ⟨hlt, e1.trans e3, ?_⟩
      rw [e3 _ _ hl, take_succ_filter hx, hb]; simp
  · have e : i = xs.length := by omega
    subst e
    refine .inl ⟨yl.1 _ _ e1 (Nat.le_refl _), k Dl H1 hD e1 ?_⟩
    rw [hl, List.take_length]
theorem cut_whole {xs : List V} {lo hi : Option Int} (h : HT.sIx xs.length 0 lo = 0 ∧ HT.sIx xs.length xs.length hi = xs.length) : cutV xs lo hi = xs := by
  unfold cutV
  rw [h.1, h.2]
  simp
theorem cut_from (xs : List V) (n : Nat) : cutV xs (some (n : Int)) none = xs.drop n := by
  unfold cutV
  rw [HT.sIx_nat, HT.sIx_none]
  have h : xs.drop (min n xs.length) = xs.drop n := by
    rcases Nat.le_total n xs.length with h | h
    · rw [Nat.min_eq_left h]
    · rw [Nat.min_eq_right h, List.drop_of_length_le (Nat.le_refl _), List.drop_of_length_le h]
  rw [h]
  refine List.take_of_length_le ?_
  rw [List.length_drop]
  omega
theorem cut_to (xs : List V) (n : Nat) : cutV xs none (some (n : Int)) = xs.take n := by
  unfold cutV
  rw [HT.sIx_nat, HT.sIx_none, List.drop_zero, Nat.sub_zero]
  rcases Nat.le_total n xs.length with h | h
  · rw [Nat.min_eq_left h]
  · rw [Nat.min_eq_right h, List.take_of_length_le (Nat.le_refl _), List.take_of_length_le h]
theorem s_slT {K : PySem.W.Frag} {H : Hp} {Q : VK} {p : Addr} {xs : List V} {lo hi : Option Int} (hx : SqT K H p xs) (k : ∀ q H', Same H H' → SqT K H' q (cutV xs lo hi) → Q (.ref q) H') : uSl K (.ref p) lo hi H Q :=
  .inr (.inl ⟨p, xs, rfl, hx, fun hw => k p H (Same.refl H) (by rw [cut_whole hw]; exact hx), fun _ q hq => k q _ (same_new hq) (SqT.of upd_same)⟩)
theorem s_slL {K : PySem.W.Frag} {H : Hp} {Q : VK} {p : Addr} {xs : List V} {lo hi : Option Int} (hx : SqL K H p xs) (k : ∀ q H', H q = none → Same H H' → H' q = some (.lst (cutV xs lo hi)) → Q (.ref q) H') : uSl K (.ref p) lo hi H Q :=
  .inl ⟨p, xs, rfl, hx, fun q hq => k q _ hq (same_new hq) upd_same⟩
theorem s_slS {K : PySem.W.Frag} {H : Hp} {Q : VK} {x : Str} {lo hi : Option Int} (hz : x.length ≤ 100000) (k : Q (.str (cutS x lo hi)) H) : uSl K (.str x) lo hi H Q :=
  .inr (.inr ⟨x, rfl, Nat.le_trans hz (by decide), k⟩)
theorem inV_strs (w : Str) (ws : List Str) : inV (.str w) (ws.map V.str) = decide (w ∈ ws) := by
  unfold inV
  rw [List.any_map]
  have e : (fun y : V => eqV y (.str w)) ∘ V.str = fun z : Str => z == w := by
    funext z
    show eqV (.str z) (.str w) = _
    rfl
  rw [e, Bool.eq_iff_iff]
  simp
theorem flat_strs (ws : List Str) : (ws.map V.str).all flatV = true := by
  rw [List.all_eq_true]
  intro x hx
  obtain ⟨w, _, rfl⟩ := List.mem_map.mp hx
  rfl
/-- w in (a, b, ..): written texts, the tuple new -/
theorem s_inNew {K : PySem.W.Frag} {H : Hp} {Q : VK} {w : Str} {vs : List V} (ws : List Str) (hv : vs = ws.map V.str) (hz : ws.length ≤ 1000) (k : ∀ H', Same H H' → Q (.bl (decide (w ∈ ws))) H') :
    vs.length ≤ sizeLine ∧ ∀ p, H p = none → uIn K (.str w) (.ref p) (upd H p (.tup vs)) Q := by
  subst hv
  refine ⟨by rw [List.length_map]; exact Nat.le_trans hz (by decide), fun p hp => .inr ⟨p, ws.map V.str, rfl, .inr (SqT.of upd_same), rfl, flat_strs ws, ?_⟩⟩
  show Q (.bl (inV (.str w) (ws.map V.str))) _
  rw [inV_strs]
  exact k _ (same_new hp)
theorem s_partition {K : PySem.W.Frag} {H : Hp} {Q : VK} {x b : Str} (hb : (b.length == 0) = false) (hx : x.length ≤ 100000)
    (k : ∀ p H', Same H H' → H' p = some (.tup [.str (Txt.partition x b).1, .str (Txt.partition x b).2.1, .str (Txt.partition x b).2.2]) → Q (.ref p) H') : m_partition K (.str x) [.str b] H Q :=
  ⟨x, b, rfl, rfl, hb, Nat.le_trans hx (by decide), fun p hp => k p _ (same_new hp) upd_same⟩
theorem s_split {K : PySem.W.Frag} {H : Hp} {Q : VK} {x b : Str} (hb : (b.length == 0) = false) (hx : x.length ≤ 100000)
    (k : ∀ p H', H p = none → Same H H' → H' p = some (.lst ((Txt.split x b).map V.str)) → Q (.ref p) H') : m_split K (.str x) [.str b] H Q :=
  ⟨x, b, rfl, rfl, hb, (by have h : sizeLine = 16777216 := sizeLine_eq; omega), fun p hp => k p _ hp (same_new hp) upd_same⟩
theorem s_gTup3 {K : PySem.W.Frag} {σ : L2.St} {H : Hp} {p : Addr} {a b c : V} {i j l : Nat} {QS : L2.St → Hp → Prop} (h : SqT K H p [a, b, c]) (k : QS (((σ.set i (some a)).set j (some b)).set l (some c)) H) :
    gTup K 3 (gCons (gName i) (gCons (gName j) (gCons (gName l) gNil))) (.ref p) σ H QS := ⟨p, _, rfl, h, rfl, _, _, rfl, _, _, rfl, _, _, rfl, rfl, k⟩
theorem s_gTup2 {K : PySem.W.Frag} {σ : L2.St} {H : Hp} {p : Addr} {a b : V} {i j : Nat} {QS : L2.St → Hp → Prop} (h : SqT K H p [a, b]) (k : QS ((σ.set i (some a)).set j (some b)) H) :
    gTup K 2 (gCons (gName i) (gCons (gName j) gNil)) (.ref p) σ H QS := ⟨p, _, rfl, h, rfl, _, _, rfl, _, _, rfl, rfl, k⟩
theorem s_inC {K : PySem.W.Frag} {H : Hp} {Q : VK} {c : Nat} {z : Str} (k : Q (.bl (decide (c ∈ z.cps.toList))) H) : uIn K (.str ⟨#[c]⟩) (.str z) H Q := .inl ⟨c, z, rfl, rfl, k⟩
theorem s_niC {K : PySem.W.Frag} {H : Hp} {Q : VK} {c : Nat} {z : Str} (k : Q (.bl (!decide (c ∈ z.cps.toList))) H) : uNi K (.str ⟨#[c]⟩) (.str z) H Q := .inl ⟨c, z, rfl, rfl, k⟩
theorem s_fs {ts : List TE} {σ : L2.St} {H : Hp} {Q : VK} (h : tJs ts Str.empty σ H fun out H1 => Q (.str out) H1) : tFs ts σ H Q := h
theorem s_js {t : TE} {ts : List TE} {acc : Str} {σ : L2.St} {H : Hp} {QS : Str → Hp → Prop} (h : t σ H fun x H1 => ∃ y : Str, x = .str y ∧ (acc ++ y).length ≤ sizeLine ∧ tJs ts (acc ++ y) σ H1 QS) : tJs (t :: ts) acc σ H QS := h
theorem s_jsN {acc : Str} {σ : L2.St} {H : Hp} {QS : Str → Hp → Prop} (h : QS acc H) : tJs [] acc σ H QS := h
theorem s_jsE {acc y : Str} {P : Str → Prop} (hz : acc.length + y.length ≤ 100000) (h : P y) : ∃ z : Str, V.str y = .str z ∧ (acc ++ z).length ≤ sizeLine ∧ P z :=
  ⟨y, rfl, (by rw [TL.len_tl, TL.tl_append, List.length_append, ← TL.len_tl, ← TL.len_tl]; have h : sizeLine = 16777216 := sizeLine_eq; omega), h⟩
theorem s_fmt {te : TE} {σ : L2.St} {H : Hp} {Q : VK} (h : te σ H fun x H1 => (∃ y : Str, x = .str y ∧ y.length ≤ sizeLine ∧ Q (.str y) H1) ∨ ∃ i : Int, x = .int i ∧ i.natAbs.log2 < 1920 ∧ Q (.str (toString i)) H1) : tFmt te σ H Q := h
theorem s_fmtS {x : Str} {P : Str → Prop} {R : Int → Prop} (hz : x.length ≤ 100000) (h : P x) : (∃ y : Str, V.str x = .str y ∧ y.length ≤ sizeLine ∧ P y) ∨ ∃ i : Int, V.str x = .int i ∧ R i :=
  .inl ⟨x, rfl, Nat.le_trans hz (by decide), h⟩
theorem log2_small {n : Int} (h0 : -1000000000000 ≤ n) (h1 : n ≤ 1000000000000) : n.natAbs.log2 < 1920 := by
  have h : n.natAbs < 2 ^ 1920 := Nat.lt_of_lt_of_le (show n.natAbs < 2 ^ 40 by omega) (Nat.pow_le_pow_right (by decide) (by decide))
  by_cases hz : n.natAbs = 0
  · rw [hz]; decide
  · exact (Nat.log2_lt hz).mpr h
theorem s_fmtI {n : Int} {P : Str → Prop} {R : Int → Prop} (h0 : -1000000000000 ≤ n) (h1 : n ≤ 1000000000000) (h : R n) : (∃ y : Str, V.int n = .str y ∧ P y) ∨ ∃ i : Int, V.int n = .int i ∧ i.natAbs.log2 < 1920 ∧ R i :=
  .inr ⟨n, rfl, log2_small h0 h1, h⟩
theorem len_app (a b : Str) : (a ++ b).length = a.length + b.length := by rw [TL.len_tl, TL.tl_append, List.length_append, ← TL.len_tl, ← TL.len_tl]
theorem len_hour {n : Int} (h0 : 0 ≤ n) (h8 : n ≤ 8) : ((toString n : Str)).length = 1 := by
  have h : ∀ m : Nat, m ≤ 8 → ((toString ((m : Nat) : Int) : Str)).length = 1 := by
    intro m hm
    match m, hm with
    | 0, _ => decide +kernel
    | 1, _ => decide +kernel
    | 2, _ => decide +kernel
    | 3, _ => decide +kernel
    | 4, _ => decide +kernel
    | 5, _ => decide +kernel
    | 6, _ => decide +kernel
    | 7, _ => decide +kernel
    | 8, _ => decide +kernel
    | m + 9, h => omega
  obtain ⟨m, rfl⟩ := Int.eq_ofNat_of_zero_le h0
  exact h m (by omega)
theorem s_str {n : Int} {H : Hp} {Q : VK} (h0 : -1000000000000 ≤ n) (h1 : n ≤ 1000000000000) (h : Q (.str (toString n)) H) : uStr [.int n] H Q := ⟨n, rfl, log2_small h0 h1, h⟩
theorem s_gSub {σ : L2.St} {H : Hp} {v : V} {to ti : TE} {ts : TSet} {QS : L2.St → Hp → Prop} (h : to σ H fun o H1 => ti σ H1 fun i H2 => ts o i v H2 fun H3 => QS σ H3) : gSub to ti ts v σ H QS := h
theorem s_setL {H : Hp} {v : V} {p : Addr} {xs : List V} {k : Int} {j : Nat} {QH : Hp → Prop} (hp : H p = some (.lst xs)) (hj : ixN xs.length k = some j) (h : QH (upd H p (.lst (xs.set j v)))) : rSetL (.ref p) (.int k) v H QH := ⟨p, xs, k, j, rfl, rfl, hp, hj, h⟩
theorem s_BM {K : PySem.W.Frag} {T : String} {r : V → List V → Hp → VK → Prop} {to : TE} {t : TA} {σ : L2.St} {H : Hp} {Q : VK} (h : to σ H fun x H1 => tyV K T x H1 ∧ t σ H1 fun xs H2 => r x xs H2 Q) : tBM K T r to t σ H Q := h
theorem s_tyL {K : PySem.W.Frag} {H : Hp} {p : Addr} {xs : List V} {P : Prop} (hp : SqL K H p xs) (h : P) : tyV K "list" (.ref p) H ∧ P := ⟨.inl ⟨rfl, xs, hp⟩, h⟩
theorem s_append {H : Hp} {Q : VK} {p : Addr} {xs : List V} {y : V} (hp : H p = some (.lst xs)) (hz : xs.length < 100000) (h : Q .non (upd H p (.lst (xs ++ [y])))) : rAppend (.ref p) [y] H Q := ⟨p, xs, y, rfl, rfl, hp, Nat.lt_of_lt_of_le hz (by decide), h⟩
theorem s_eqB {K : PySem.W.Frag} {H : Hp} {Q : VK} {a b : Bool} (h : Q (.bl (a == b)) H) : uEq K (.bl a) (.bl b) H Q := .inl ⟨rfl, by rw [dec_bl]; exact h⟩
theorem s_neB {K : PySem.W.Frag} {H : Hp} {Q : VK} {a b : Bool} (h : Q (.bl (!(a == b))) H) : uNe K (.bl a) (.bl b) H Q := .inl ⟨rfl, by rw [dec_bl]; exact h⟩
theorem s_yes {σ : L2.St} {H : Hp} {QT : Bool → Hp → Prop} (h : QT true H) : tYes σ H QT := h
theorem s_iteNF {A B : Prop} (h : A) : if (!false) = true then A else B := h
theorem s_iteNT {A B : Prop} (h : B) : if (!true) = true then A else B := h
theorem s_iteNNF {A B : Prop} (h : B) : if (!!false) = true then A else B := h
theorem s_iteNNT {A B : Prop} (h : A) : if (!!true) = true then A else B := h
theorem s_nbite {b : Bool} {A B : Prop} (h1 : b = true → B) (h2 : b = false → A) : if (!b) = true then A else B := by
  cases b
  · exact (h2 rfl)
  · exact (h1 rfl)
theorem s_dec {p A B : Prop} [Decidable p] (h1 : p → A) (h2 : ¬ p → B) : if decide p = true then A else B := by
  by_cases h : p
  · rw [if_pos (decide_eq_true h)]; exact h1 h
  · rw [if_neg (by simp [h])]; exact h2 h
theorem s_ndec {p A B : Prop} [Decidable p] (h1 : p → B) (h2 : ¬ p → A) : if (!decide p) = true then A else B := by
  by_cases h : p
  · rw [if_neg (by simp [h])]; exact h1 h
  · rw [if_pos (by simp [h])]; exact h2 h
theorem isB_str {d : PyData} (h : isB d "str" = true) : ∃ x, d = .str x := by cases d <;> simp [isB, isBS, tyN] at h ⊢
theorem isB_tup {d : PyData} (h : isB d "tuple" = true) : ∃ x, d = .tuple x := by cases d <;> simp [isB, isBS, tyN] at h ⊢
theorem isB_lst {d : PyData} (h : isB d "list" = true) : ∃ x, d = .list x := by cases d <;> simp [isB, isBS, tyN] at h ⊢
theorem isB_dct {d : PyData} (h : isB d "dict" = true) : ∃ x, d = .dict x := by cases d <;> simp [isB, isBS, tyN] at h ⊢
theorem isB_bl {d : PyData} (h : isB d "bool" = true) : ∃ x, d = .bool x := by cases d <;> simp [isB, isBS, tyN] at h ⊢
theorem m_int : "int" ∈ tyAsked := by decide
theorem m_bool : "bool" ∈ tyAsked := by decide
theorem m_str : "str" ∈ tyAsked := by decide
theorem m_list : "list" ∈ tyAsked := by decide
theorem m_tuple : "tuple" ∈ tyAsked := by decide
theorem m_dict : "dict" ∈ tyAsked := by decide
end SW

local macro_rules | `(tactic| walk_at "rp") => `(tactic| first | assumption | exact SW.Rp.non | exact SW.Rp.bl _ | exact SW.Rp.int _ | (refine SW.Rp.mono (by assumption) ?_; walk_at "rp"))
local macro_rules | `(tactic| walk_at "ty") => `(tactic| first | exact SW.m_int | exact SW.m_bool | exact SW.m_str | exact SW.m_list | exact SW.m_tuple | exact SW.m_dict)
local macro_rules | `(tactic| walk_at "st") => `(tactic| with_reducible first
  | refine SW.s_seq ?_ | refine SW.s_ifS ?_ | refine SW.s_ret ?_ | refine SW.s_next ?_ | refine SW.s_drop ?_ | refine SW.s_asg ?_ | refine SW.s_gName ?_
  | refine SW.s_var rfl ?_ | refine SW.s_c ?_ | refine SW.s_op ?_ | refine SW.s_un ?_ | refine SW.s_CB ?_ | refine SW.s_cons ?_ | refine SW.s_nil ?_ | refine SW.s_call ?_
  | refine SW.s_not ?_ | refine SW.s_and ?_ | refine SW.s_or ?_ | refine SW.s_andV ?_ | refine SW.s_orV ?_ | refine SW.s_notV ?_ | refine SW.s_if ?_ | refine SW.s_test ?_ | refine SW.s_tru ?_ | refine SW.s_chain ?_
  | refine SW.s_sl ?_ | refine SW.s_noPart ?_ | refine SW.s_part ?_ | refine SW.s_M1 ?_ | refine SW.s_exS ?_ | refine SW.s_exI ?_ | refine SW.s_exB ?_ | refine SW.s_truB ?_
  | refine SW.s_rI0 ?_ | refine SW.s_rU ?_ | refine SW.s_addI ?_ | refine SW.s_eqI ?_ | refine SW.s_neI ?_ | refine SW.s_eqS ?_ | refine SW.s_neS ?_ | refine SW.s_isN ?_ | refine SW.s_notN ?_ | refine SW.s_int1 ?_
  | refine SW.s_isi (by walk_at "rp") (by walk_at "ty") ?_
  | refine L2.iteT ?_ | refine L2.iteF ?_ | refine SW.s_iteNF ?_ | refine SW.s_iteNT ?_ | refine SW.s_iteNNF ?_ | refine SW.s_iteNNT ?_ | refine SW.s_gSub ?_ | refine SW.s_BM ?_ | refine SW.s_eqB ?_ | refine SW.s_neB ?_ | refine SW.s_lc ?_ | refine SW.s_for ?_ | refine SW.i_rng1 ?_ | refine SW.s_fs ?_ | refine SW.s_js ?_ | refine SW.s_jsN ?_ | refine SW.s_fmt ?_ | refine SW.s_tup ?_ | refine SW.s_lst ?_ | refine SW.s_par ?_ | refine SW.s_par3 ?_ | refine SW.s_ex2 ?_ | refine SW.s_ex3 ?_)
local macro_rules | `(tactic| walk_at "go") => `(tactic| repeat walk_at "st")
local macro_rules | `(tactic| walk_at "sb") => `(tactic| with_reducible first
  | refine SW.s_seq ?_ | refine SW.s_ifS ?_ | refine SW.s_ret ?_ | refine SW.s_next ?_ | refine SW.s_drop ?_ | refine SW.s_asg ?_ | refine SW.s_gName ?_
  | refine SW.s_var rfl ?_ | refine SW.s_c ?_ | refine SW.s_op ?_ | refine SW.s_un ?_ | refine SW.s_CB ?_ | refine SW.s_cons ?_ | refine SW.s_nil ?_ | refine SW.s_call ?_
  | refine SW.s_not ?_ | refine SW.s_and ?_ | refine SW.s_or ?_ | refine SW.s_andV ?_ | refine SW.s_orV ?_ | refine SW.s_notV ?_ | refine SW.s_if ?_ | refine SW.s_test ?_ | refine SW.s_tru ?_ | refine SW.s_chain ?_
  | refine SW.s_sl ?_ | refine SW.s_noPart ?_ | refine SW.s_part ?_ | refine SW.s_M1 ?_ | refine SW.s_exS ?_ | refine SW.s_exI ?_ | refine SW.s_exB ?_ | refine SW.s_truB ?_
  | refine SW.s_rI0 ?_ | refine SW.s_rU ?_ | refine SW.s_addI ?_ | refine SW.s_eqI ?_ | refine SW.s_neI ?_ | refine SW.s_eqS ?_ | refine SW.s_neS ?_ | refine SW.s_isN ?_ | refine SW.s_notN ?_ | refine SW.s_int1 ?_
  | refine SW.s_isi (by walk_at "rp") (by walk_at "ty") ?_
  | refine L2.iteT ?_ | refine L2.iteF ?_ | refine SW.s_iteNF ?_ | refine SW.s_iteNT ?_ | refine SW.s_iteNNF ?_ | refine SW.s_iteNNT ?_ | refine SW.s_gSub ?_ | refine SW.s_BM ?_ | refine SW.s_eqB ?_ | refine SW.s_neB ?_ | refine SW.s_lc ?_ | refine SW.s_for ?_ | refine SW.i_rng1 ?_ | refine SW.s_fs ?_ | refine SW.s_js ?_ | refine SW.s_jsN ?_ | refine SW.s_fmt ?_ | refine SW.s_par ?_ | refine SW.s_par3 ?_ | refine SW.s_ex2 ?_ | refine SW.s_ex3 ?_)
local macro_rules | `(tactic| walk_at "gb") => `(tactic| repeat walk_at "sb")
local macro_rules | `(tactic| walk_at "sc") => `(tactic| with_reducible first
  | refine SW.s_seq ?_ | refine SW.s_ifS ?_ | refine SW.s_ret ?_ | refine SW.s_next ?_ | refine SW.s_drop ?_ | refine SW.s_asg ?_ | refine SW.s_gName ?_
  | refine SW.s_var rfl ?_ | refine SW.s_c ?_ | refine SW.s_op ?_ | refine SW.s_un ?_ | refine SW.s_CB ?_ | refine SW.s_cons ?_ | refine SW.s_nil ?_ | refine SW.s_call ?_
  | refine SW.s_not ?_ | refine SW.s_and ?_ | refine SW.s_or ?_ | refine SW.s_andV ?_ | refine SW.s_orV ?_ | refine SW.s_notV ?_ | refine SW.s_if ?_ | refine SW.s_test ?_ | refine SW.s_tru ?_ | refine SW.s_chain ?_
  | refine SW.s_sl ?_ | refine SW.s_noPart ?_ | refine SW.s_part ?_ | refine SW.s_M1 ?_ | refine SW.s_exS ?_ | refine SW.s_exI ?_ | refine SW.s_exB ?_ | refine SW.s_truB ?_
  | refine SW.s_rI0 ?_ | refine SW.s_rU ?_ | refine SW.s_addI ?_ | refine SW.s_eqI ?_ | refine SW.s_neI ?_ | refine SW.s_eqS ?_ | refine SW.s_neS ?_ | refine SW.s_isN ?_ | refine SW.s_notN ?_ | refine SW.s_int1 ?_
  | refine SW.s_isi (by walk_at "rp") (by walk_at "ty") ?_
  | refine L2.iteT ?_ | refine L2.iteF ?_ | refine SW.s_iteNF ?_ | refine SW.s_iteNT ?_ | refine SW.s_iteNNF ?_ | refine SW.s_iteNNT ?_ | refine SW.s_gSub ?_ | refine SW.s_BM ?_ | refine SW.s_eqB ?_ | refine SW.s_neB ?_ | refine SW.s_for ?_ | refine SW.i_rng1 ?_ | refine SW.s_fs ?_ | refine SW.s_js ?_ | refine SW.s_jsN ?_ | refine SW.s_fmt ?_ | refine SW.s_par ?_ | refine SW.s_par3 ?_ | refine SW.s_ex2 ?_ | refine SW.s_ex3 ?_)
local macro_rules | `(tactic| walk_at "gc") => `(tactic| repeat walk_at "sc")
namespace SW
open PySem PySem.Spec PyProof.Rows L2
/-! ### what the judgements of words say -/
def SMALLs : Str := "abcdefghijklmnopqrstuvwxyz"
def DIGITSs : Str := "0123456789"
def HOURSs : Str := "012345678"
def isWholeD (d : PyData) : Bool := isB d "int" && !isB d "bool"
def isNumD (d : PyData) (lo hi : Int) : Bool := match d with
  | .int i => decide (lo ≤ i) && decide (i ≤ hi)
  | _ => false
def allIn (x z : Str) : Bool := x.cps.toList.all fun c => decide (c ∈ z.cps.toList)
def isNameS (x : Str) : Bool := decide (1 ≤ x.length) && (decide (x.length ≤ 6) && allIn x SMALLs)
def isNameD (d : PyData) : Bool := match d with
  | .str x => isNameS x
  | _ => false
def isStandD (d : PyData) : Bool := match d with
  | .tuple [a, b] => isNameD a && isNumD b 0 8
  | _ => false
def isPlaceD (d : PyData) : Bool := match d with
  | .tuple [] => true
  | d => isStandD d
def isKeyL (w : Str) (rest : List PyData) : Bool :=
  if w = "hire" ∨ w = "work" then (match rest with
    | [a] => isNameD a
    | _ => false)
  else if w = "buy" ∨ w = "free" ∨ w = "wait" then isStandD (.tuple rest)
  else if w = "walk" then (match rest with
    | [a, b, c] => isNameD a && (isStandD (.tuple [b, c]) && !PyData.eqv a b)
    | _ => false)
  else false
def isKeyD (d : PyData) : Bool := match d with
  | .tuple (.str w :: rest) => isKeyL w rest
  | _ => false
/-- the part ahead of the first blank, and the part behind it -/
def cutAt (c : Nat) : List Nat → List Nat × Option (List Nat)
  | [] => ([], none)
  | x :: r => if x = c then ([], some r) else (x :: (cutAt c r).1, (cutAt c r).2)
def tailOk (y r : List Nat) : Bool := match r with
  | [h] => isNameS ⟨y.toArray⟩ && decide (h ∈ HOURSs.cps.toList)
  | _ => false
def isAcctS (x : Str) : Bool := x == Str.empty || (isNameS x || (match cutAt 32 x.cps.toList with
  | (y, some r) => tailOk y r
  | _ => false))
def isAcctD (d : PyData) : Bool := match d with
  | .str x => isAcctS x
  | _ => false
def acctS (x : Str) (h : Int) : Str := x ++ " " ++ (toString h : Str)
def numS (x : Str) : Option Int := if decide (1 ≤ x.length) && (decide (x.length ≤ 9) && allIn x DIGITSs) && (x == "0" || x.cps.toList.head? != some 48) then PySem.intText? x else none
def numV (d : PyData) : V := match d with
  | .str x => (match numS x with
    | some n => .int n
    | none => .non)
  | _ => .non
/-! ### the promises -/
abbrev sp_is_whole (K : PySem.W.Frag) : Sp := SpD K fun d => .bl (isWholeD d)
abbrev sp_is_number (K : PySem.W.Frag) : Sp := Sp3 fun v lo hi H Q _ => ∃ d i j, Rp K H v d ∧ lo = .int i ∧ hi = .int j ∧ ∀ H', Same H H' → Q (.bl (isNumD d i j)) H'
abbrev sp_is_name (K : PySem.W.Frag) : Sp := SpD K fun d => .bl (isNameD d)
abbrev sp_is_standing (K : PySem.W.Frag) : Sp := SpD K fun d => .bl (isStandD d)
abbrev sp_is_place (K : PySem.W.Frag) : Sp := SpD K fun d => .bl (isPlaceD d)
abbrev sp_is_key (K : PySem.W.Frag) : Sp := SpD K fun d => .bl (isKeyD d)
abbrev sp_is_account (K : PySem.W.Frag) : Sp := SpD K fun d => .bl (isAcctD d)
abbrev sp_number_in (K : PySem.W.Frag) : Sp := SpD K fun d => numV d
abbrev sp_account_of (K : PySem.W.Frag) : Sp := Sp1 fun v H Q _ => ∃ x h, Rp K H v (.tuple [.str x, .int h]) ∧ x.length ≤ 1000 ∧ 0 ≤ h ∧ h ≤ 8 ∧ ∀ H', Same H H' → Q (.str (acctS x h)) H'
end SW

namespace SW
open PySem PySem.Spec PyProof.Rows L2
def t_is_whole (K : PySem.W.Frag) : TS := (tRet (tAndV (tCB (uIsi K) (tCons (tVar 0) (tCons (tC (.ty "int")) tNil))) (tNotV (tCB (uIsi K) (tCons (tVar 0) (tCons (tC (.ty "bool")) tNil))))))
def t_is_number (K : PySem.W.Frag) : TS := (tRet (tAndV (tCall (sp_is_whole K) [] E0 (tCons (tVar 0) tNil)) (tChain uLe uLe (tVar 1) (tVar 0) (tVar 2))))
def t_is_name (K : PySem.W.Frag) : TS := (tSeq (tIfS (tOr (tNot (tTru K (tCB (uIsi K) (tCons (tVar 0) (tCons (tC (.ty "str")) tNil))))) (tNot (tTest (tChain uLe uLe (tC (.int 1)) (tCB (uLen K) (tCons (tVar 0) tNil)) (tC (.int 6)))))) (tRet (tC (.bl false))) tNext) (tRet (tCB (rAll K) (tCons (tLc (iAny K (tVar 0)) (gName 1) tYes (tOp (uIn K) (tVar 1) (tC (.str "abcdefghijklmnopqrstuvwxyz"))) [1]) tNil))))
def t_is_standing (K : PySem.W.Frag) : TS := (tSeq (tIfS (tOr (tNot (tTru K (tCB (uIsi K) (tCons (tVar 0) (tCons (tC (.ty "tuple")) tNil))))) (tTest (tOp (uNe K) (tCB (uLen K) (tCons (tVar 0) tNil)) (tC (.int 2))))) (tRet (tC (.bl false))) tNext) (tRet (tAndV (tCall (sp_is_name K) [] E0 (tCons (tOp (rIx K) (tVar 0) (tC (.int 0))) tNil)) (tCall (sp_is_number K) [] E0 (tCons (tOp (rIx K) (tVar 0) (tC (.int 1))) (tCons (tC (.int 0)) (tCons (tC (.int 8)) tNil)))))))
def t_is_place (K : PySem.W.Frag) : TS := (tRet (tAndV (tCB (uIsi K) (tCons (tVar 0) (tCons (tC (.ty "tuple")) tNil))) (tOrV (tOp (uEq K) (tCB (uLen K) (tCons (tVar 0) tNil)) (tC (.int 0))) (tCall (sp_is_standing K) [] E0 (tCons (tVar 0) tNil)))))
def t_is_key (K : PySem.W.Frag) : TS := (tSeq (tIfS (tOr (tNot (tTru K (tCB (uIsi K) (tCons (tVar 0) (tCons (tC (.ty "tuple")) tNil))))) (tOr (tTest (tOp (uEq K) (tCB (uLen K) (tCons (tVar 0) tNil)) (tC (.int 0)))) (tNot (tTru K (tCB (uIsi K) (tCons (tOp (rIx K) (tVar 0) (tC (.int 0))) (tCons (tC (.ty "str")) tNil))))))) (tRet (tC (.bl false))) tNext) (tSeq (tPar 1 2 (tCons (tOp (rIx K) (tVar 0) (tC (.int 0))) (tCons (tSl (uSl K) (tVar 0) (tPart (tC (.int 1))) tNoPart) tNil))) (tSeq (tIfS (tTest (tOp (uIn K) (tVar 1) (tTup (tCons (tC (.str "hire")) (tCons (tC (.str "work")) tNil))))) (tRet (tAndV (tOp (uEq K) (tCB (uLen K) (tCons (tVar 2) tNil)) (tC (.int 1))) (tCall (sp_is_name K) [] E0 (tCons (tOp (rIx K) (tVar 2) (tC (.int 0))) tNil)))) tNext) (tSeq (tIfS (tTest (tOp (uIn K) (tVar 1) (tTup (tCons (tC (.str "buy")) (tCons (tC (.str "free")) (tCons (tC (.str "wait")) tNil)))))) (tRet (tCall (sp_is_standing K) [] E0 (tCons (tVar 2) tNil))) tNext) (tRet (tAndV (tOp (uEq K) (tVar 1) (tC (.str "walk"))) (tAndV (tOp (uEq K) (tCB (uLen K) (tCons (tVar 2) tNil)) (tC (.int 3))) (tAndV (tCall (sp_is_name K) [] E0 (tCons (tOp (rIx K) (tVar 2) (tC (.int 0))) tNil)) (tAndV (tCall (sp_is_standing K) [] E0 (tCons (tSl (uSl K) (tVar 2) (tPart (tC (.int 1))) tNoPart) tNil)) (tOp (uNe K) (tOp (rIx K) (tVar 2) (tC (.int 0))) (tOp (rIx K) (tVar 2) (tC (.int 1)))))))))))))
def t_is_account (K : PySem.W.Frag) : TS := (tSeq (tIfS (tNot (tTru K (tCB (uIsi K) (tCons (tVar 0) (tCons (tC (.ty "str")) tNil))))) (tRet (tC (.bl false))) tNext) (tSeq (tIfS (tOr (tTest (tOp (uEq K) (tVar 0) (tC (.str "")))) (tTru K (tCall (sp_is_name K) [] E0 (tCons (tVar 0) tNil)))) (tRet (tC (.bl true))) tNext) (tSeq (tAsg (tM1 (m_partition K) (tVar 0) (tC (.str " "))) (gTup K 3 (gCons (gName 1) (gCons (gName 2) (gCons (gName 3) gNil))))) (tRet (tAndV (tCall (sp_is_name K) [] E0 (tCons (tVar 1) tNil)) (tAndV (tOp (uEq K) (tCB (uLen K) (tCons (tVar 3) tNil)) (tC (.int 1))) (tOp (uIn K) (tVar 3) (tC (.str "012345678")))))))))
def t_account_of (K : PySem.W.Frag) : TS := (tRet (tFs [(tFmt (tOp (rIx K) (tVar 0) (tC (.int 0)))), (tC (.str " ")), (tFmt (tOp (rIx K) (tVar 0) (tC (.int 1))))]))
def t_number_in (K : PySem.W.Frag) : TS := (tSeq (tIfS (tOr (tNot (tTru K (tCB (uIsi K) (tCons (tVar 0) (tCons (tC (.ty "str")) tNil))))) (tOr (tNot (tTest (tChain uLe uLe (tC (.int 1)) (tCB (uLen K) (tCons (tVar 0) tNil)) (tC (.int 9))))) (tNot (tTru K (tCB (rAll K) (tCons (tLc (iAny K (tVar 0)) (gName 1) tYes (tOp (uIn K) (tVar 1) (tC (.str "0123456789"))) [1]) tNil)))))) (tRet (tC .non)) tNext) (tRet (tIf (tOr (tTest (tOp (uEq K) (tVar 0) (tC (.str "0")))) (tTest (tOp (uNe K) (tOp (rIx K) (tVar 0) (tC (.int 0))) (tC (.str "0"))))) (tCB uInt (tCons (tVar 0) tNil)) (tC .non))))
end SW

namespace SW
open PySem PySem.Spec PyProof.Rows L2
section
variable {K : PySem.W.Frag} {v : V} {H : Hp} {Q : VK} {d : PyData}
abbrev Dn (Q : VK) : Ends := { nx := fun _ H' => Q .non H', rt := Q }
theorem rd_is_whole (h : Rp K H v d) (k : ∀ H', Same H H' → Q (.bl (isWholeD d)) H') : t_is_whole K (Dn Q) [some v] H := by
  unfold t_is_whole
  walk_at "go"
  refine s_bite (fun hb => ?_) (fun hb => ?_)
  · walk_at "go"
    have := k H (Same.refl H)
    simpa [isWholeD, hb] using this
  · have := k H (Same.refl H)
    simpa [isWholeD, hb] using this
theorem isWhole_int {d : PyData} (h : isWholeD d = true) : ∃ i, d = .int i := by
  cases d <;> simp [isWholeD, isB, isBS, tyN] at h ⊢
theorem isWhole_num {d : PyData} {lo hi : Int} (h : isWholeD d = false) : isNumD d lo hi = false := by
  cases d <;> simp [isWholeD, isB, isBS, tyN, isNumD] at h ⊢
theorem rd_is_number {i j : Int} (h : Rp K H v d) (k : ∀ H', Same H H' → Q (.bl (isNumD d i j)) H') : t_is_number K (Dn Q) [some v, some (.int i), some (.int j)] H := by
  unfold t_is_number
  walk_at "go"
  refine s_spD h fun H1 e1 => ?_
  walk_at "go"
  refine s_bite (fun hb => ?_) (fun hb => ?_)
  · obtain ⟨n, rfl⟩ := isWhole_int hb
    cases h
    walk_at "go"
    refine s_bite (fun h1 => ?_) (fun h1 => ?_)
    · walk_at "go"
      have := k H1 e1
      simpa [isNumD, h1] using this
    · have := k H1 e1
      simpa [isNumD, h1] using this
  · have := k H1 e1
    rw [isWhole_num hb] at this
    exact this
/-- all([c in Z for c in text]) -/
theorem s_allIn {x z : Str} {σ : L2.St} {i j : Nat} (hx : σ[i]? = some (some (.str x))) (hj : ∀ y, wipe ((wipe σ [j]).set j (some y)) [j] = wipe σ [j]) (hg : ∀ y : V, ((wipe σ [j]).set j (some y))[j]? = some (some y)) (hz : x.length ≤ 100000) (k : ∀ H', Same H H' → Q (.bl (allIn x z)) H') :
    tCB (rAll K) (tCons (tLc (iAny K (tVar i)) (gName j) tYes (tOp (uIn K) (tVar j) (tC (.str z))) [j]) tNil) σ H Q := by
  refine s_CB (s_cons (s_lc (i_str (s_var hx ⟨x, rfl, ?_⟩))))
  refine lc_pure (Yl.str x) (fun _ => true) (fun y => match y with | .str w => .bl (decide (w.cps.getD 0 0 ∈ z.cps.toList)) | y => y) (by rw [filtT, signs_length]; exact hz) hj (fun _ H' _ _ QT q => q H' (Same.refl _)) (fun y H' hm _ _ QV q => ?_) (fun Dl H' hD e hl => ?_)
  · obtain ⟨c, hc, rfl⟩ := List.mem_map.mp hm
    refine s_op (s_var (hg _) (s_c ?_))
    exact .inl ⟨c, z, rfl, rfl, q H' (Same.refl _)⟩
  · refine s_nil ⟨Dl, x.cps.toList.map fun c => decide (c ∈ z.cps.toList), rfl, SqL.of ?_, ?_⟩
    · rw [hl, filtT]
      simp [signs, List.map_map, Function.comp_def]
    · have := k H' e
      simpa [allIn, List.all_map, Function.comp_def] using this
theorem isName_no {d : PyData} (h : isB d "str" = false) : isNameD d = false := by
  cases d <;> simp [isB, isBS, tyN, isNameD] at h ⊢
theorem rd_is_name (h : Rp K H v d) (k : ∀ H', Same H H' → Q (.bl (isNameD d)) H') : t_is_name K (Dn Q) [some v, none] H := by
  unfold t_is_name
  walk_at "go"
  refine s_nbite (fun hb => ?_) (fun hb => ?_)
  · obtain ⟨x, rfl⟩ := isB_str hb
    cases h with
    | str _ hxs =>
    have hx := hxs.len
    walk_at "go"
    refine s_lenS hx ?_
    walk_at "go"
    refine s_dec (fun h1 => ?_) (fun h1 => ?_)
    · walk_at "go"
      refine s_ndec (fun h2 => ?_) (fun h2 => ?_)
      · walk_at "go"
        refine s_allIn rfl (fun _ => rfl) (fun _ => rfl) hx fun H1 e1 => ?_
        have := k H1 e1
        have h1' : 1 ≤ x.length := by omega
        have h2' : x.length ≤ 6 := by omega
        simpa [isNameD, isNameS, h1', h2', SMALLs] using this
      · walk_at "go"
        have := k H (Same.refl _)
        have h2' : ¬ x.length ≤ 6 := by omega
        simpa [isNameD, isNameS, h2'] using this
    · walk_at "go"
      have := k H (Same.refl _)
      have h1' : ¬ 1 ≤ x.length := by omega
      simpa [isNameD, isNameS, h1'] using this
  · walk_at "go"
    have := k H (Same.refl H)
    rw [isName_no hb] at this
    exact this

theorem RpA.two {xs : List V} {a b : PyData} (h : RpA K H xs [a, b]) : ∃ v w, xs = [v, w] ∧ Rp K H v a ∧ Rp K H w b := by
  obtain ⟨v, vs, rfl, h1, h2⟩ := h.cons'
  obtain ⟨w, ws, rfl, h3, h4⟩ := h2.cons'
  cases h4.nil'
  exact ⟨v, w, rfl, h1, h3⟩
theorem RpA.one {xs : List V} {a : PyData} (h : RpA K H xs [a]) : ∃ v, xs = [v] ∧ Rp K H v a := by
  obtain ⟨v, vs, rfl, h1, h2⟩ := h.cons'
  cases h2.nil'
  exact ⟨v, rfl, h1⟩
theorem RpA.three {xs : List V} {a b c : PyData} (h : RpA K H xs [a, b, c]) : ∃ v w z, xs = [v, w, z] ∧ Rp K H v a ∧ Rp K H w b ∧ Rp K H z c := by
  obtain ⟨v, vs, rfl, h1, h2⟩ := h.cons'
  obtain ⟨w, z, rfl, h3, h4⟩ := h2.two
  exact ⟨v, w, z, rfl, h1, h3, h4⟩
theorem isStand_no {d : PyData} (h : isB d "tuple" = false) : isStandD d = false := by
  cases d <;> simp [isB, isBS, tyN, isStandD] at h ⊢
theorem isStand_len {ds : List PyData} (h : ds.length ≠ 2) : isStandD (.tuple ds) = false := by
  match ds, h with
  | [], _ => rfl
  | [_], _ => rfl
  | [_, _], h => exact absurd rfl h
  | _ :: _ :: _ :: _, _ => rfl
theorem list_two {α : Type} {l : List α} (h : l.length = 2) : ∃ a b, l = [a, b] := by
  match l, h with
  | [a, b], _ => exact ⟨a, b, rfl⟩
theorem rd_is_standing (h : Rp K H v d) (k : ∀ H', Same H H' → Q (.bl (isStandD d)) H') : t_is_standing K (Dn Q) [some v] H := by
  unfold t_is_standing
  walk_at "go"
  refine s_nbite (fun hb => ?_) (fun hb => ?_)
  · obtain ⟨ds, rfl⟩ := isB_tup hb
    obtain ⟨a, xs, rfl, hs, ha⟩ := h.tup'
    walk_at "go"
    refine s_lenT hs ?_
    walk_at "go"
    refine s_ndec (fun h1 => ?_) (fun h1 => ?_)
    · have hl : ds.length = 2 := by rw [← ha.length]; omega
      obtain ⟨p, q, rfl⟩ := list_two hl
      obtain ⟨x, y, rfl, hx, hy⟩ := ha.two
      walk_at "go"
      refine s_ixT hs (by rfl) ?_
      walk_at "go"
      refine s_spD hx fun H1 e1 => ?_
      walk_at "go"
      refine s_bite (fun h2 => ?_) (fun h2 => ?_)
      · walk_at "go"
        refine s_ixT (Same.seqT e1 hs) (by rfl) ?_
        walk_at "go"
        refine s_sp3 ⟨_, _, _, hy.mono e1, rfl, rfl, fun H2 e2 => ?_⟩
        have := k H2 (e1.trans e2)
        simpa [isStandD, h2] using this
      · have := k H1 e1
        simpa [isStandD, h2] using this
    · walk_at "go"
      have := k H (Same.refl _)
      rw [isStand_len (by rw [← ha.length]; omega)] at this
      exact this
  · walk_at "go"
    have := k H (Same.refl H)
    rw [isStand_no hb] at this
    exact this
theorem isPlace_ne {ds : List PyData} (h : ds ≠ []) : isPlaceD (.tuple ds) = isStandD (.tuple ds) := by
  cases ds with
  | nil => exact absurd rfl h
  | cons a r => rfl
theorem isPlace_no {d : PyData} (h : isB d "tuple" = false) : isPlaceD d = false := by
  cases d <;> simp [isB, isBS, tyN, isPlaceD, isStandD] at h ⊢
theorem rd_is_place (h : Rp K H v d) (k : ∀ H', Same H H' → Q (.bl (isPlaceD d)) H') : t_is_place K (Dn Q) [some v] H := by
  unfold t_is_place
  walk_at "go"
  refine s_bite (fun hb => ?_) (fun hb => ?_)
  · obtain ⟨ds, rfl⟩ := isB_tup hb
    obtain ⟨a, xs, rfl, hs, ha⟩ := h.tup'
    walk_at "go"
    refine s_lenT hs ?_
    walk_at "go"
    refine s_dec (fun h1 => ?_) (fun h1 => ?_)
    · have hl : ds.length = 0 := by rw [← ha.length]; omega
      cases List.length_eq_zero_iff.mp hl
      exact k H (Same.refl H)
    · walk_at "go"
      have hne : ds ≠ [] := fun z => by subst z; rw [ha.nil'] at h1; exact h1 rfl
      refine s_spD h fun H1 e1 => ?_
      have := k H1 e1
      rw [isPlace_ne hne] at this
      exact this
  · have := k H (Same.refl H)
    rw [isPlace_no hb] at this
    exact this

theorem isKey_no {d : PyData} (h : isB d "tuple" = false) : isKeyD d = false := by
  cases d <;> simp [isB, isBS, tyN, isKeyD] at h ⊢
theorem isName_str {d : PyData} (h : isNameD d = true) : ∃ x, d = .str x := by
  cases d <;> simp [isNameD] at h ⊢
theorem isStand_tup {d : PyData} (h : isStandD d = true) : ∃ x n, d = .tuple [.str x, .int n] ∧ isNameS x = true ∧ 0 ≤ n ∧ n ≤ 8 := by
  unfold isStandD at h
  split at h
  · rename_i a b
    have h := (Bool.and_eq_true_iff.mp h)
    obtain ⟨x, rfl⟩ := isName_str h.1
    have h2 := h.2
    cases b with
    | int n =>
      have h2 := Bool.and_eq_true_iff.mp h2
      exact ⟨x, n, rfl, h.1, of_decide_eq_true h2.1, of_decide_eq_true h2.2⟩
    | _ => cases h2
  · cases h
theorem list_three {α : Type} {l : List α} (h : l.length = 3) : ∃ a b c, l = [a, b, c] := by
  match l, h with
  | [a, b, c], _ => exact ⟨a, b, c, rfl⟩
theorem list_one {α : Type} {l : List α} (h : l.length = 1) : ∃ a, l = [a] := by
  match l, h with
  | [a], _ => exact ⟨a, rfl⟩
theorem rd_is_key (h : Rp K H v d) (k : ∀ H', Same H H' → Q (.bl (isKeyD d)) H') : t_is_key K (Dn Q) [some v, none, none] H := by
  unfold t_is_key
  walk_at "go"
  refine s_nbite (fun hb => ?_) (fun hb => ?_)
  case refine_2 =>
    walk_at "go"
    have := k H (Same.refl H)
    rw [isKey_no hb] at this
    exact this
  obtain ⟨ds, rfl⟩ := isB_tup hb
  obtain ⟨a, xs, rfl, hs, ha⟩ := h.tup'
  walk_at "go"
  refine s_lenT hs ?_
  walk_at "go"
  cases ha with
  | nil =>
    have e0 : decide ((([] : List V).length : Int) = 0) = true := rfl
    rw [e0]
    walk_at "go"
    exact k H (Same.refl H)
  | @cons v0 vs d0 ds0 h0 hr =>
  have e0 : decide (((v0 :: vs).length : Int) = 0) = false := decide_eq_false (by simp; omega)
  rw [e0]
  walk_at "go"
  refine s_ixT hs (atI_nat (j := 0) rfl) ?_
  walk_at "go"
  refine s_nbite (fun hb0 => ?_) (fun hb0 => ?_)
  case refine_2 =>
    walk_at "go"
    have := k H (Same.refl H)
    have e : isKeyD (.tuple (d0 :: ds0)) = false := by
      cases d0 <;> simp [isB, isBS, tyN, isKeyD] at hb0 ⊢
    rw [e] at this
    exact this
  obtain ⟨w, rfl⟩ := isB_str hb0
  cases h0 with
  | str _ hw =>
  walk_at "go"
  refine s_ixT hs (atI_nat (j := 0) rfl) ?_
  walk_at "go"
  refine s_slT hs fun q H1 e1 hq => ?_
  have hq1 : SqT K H1 q vs := by
    have := cut_from (V.str w :: vs) 1
    rw [show (((1 : Nat) : Int)) = (1 : Int) from rfl] at this
    rw [this] at hq
    exact hq
  walk_at "go"
  refine s_inNew ["hire", "work"] rfl (by decide) fun H2 e2 => ?_
  walk_at "go"
  have hr2 : RpA K H2 vs ds0 := hr.mono (e1.trans e2)
  have hq2 : SqT K H2 q vs := Same.seqT e2 hq1
  have hk : ∀ H', Same H2 H' → Q (.bl (isKeyL w ds0)) H' := fun H' e => k H' ((e1.trans e2).trans e)
  refine s_dec (fun hw1 => ?_) (fun hw1 => ?_)
  · have hw1' : w = "hire" ∨ w = "work" := by simpa using hw1
    walk_at "go"
    refine s_lenT hq2 ?_
    walk_at "go"
    refine s_dec (fun hl => ?_) (fun hl => ?_)
    · have hl1 : ds0.length = 1 := by rw [← hr2.length]; omega
      obtain ⟨d1, rfl⟩ := list_one hl1
      obtain ⟨v1, rfl, h1⟩ := hr2.one
      walk_at "go"
      refine s_ixT hq2 (by rfl) ?_
      walk_at "go"
      refine s_spD h1 fun H3 e3 => ?_
      have := hk H3 e3
      simpa [isKeyL, hw1'] using this
    · have hl1 : ds0.length ≠ 1 := by rw [← hr2.length]; omega
      have := hk H2 (Same.refl _)
      have e : isKeyL w ds0 = false := by
        unfold isKeyL
        rw [if_pos hw1']
        split
        · simp at hl1
        · rfl
      rw [e] at this
      exact this
  have hw1' : ¬ (w = "hire" ∨ w = "work") := by simpa using hw1
  walk_at "go"
  refine s_inNew ["buy", "free", "wait"] rfl (by decide) fun H3 e3 => ?_
  walk_at "go"
  have hr3 : RpA K H3 vs ds0 := hr2.mono e3
  have hq3 : SqT K H3 q vs := Same.seqT e3 hq2
  refine s_dec (fun hw2 => ?_) (fun hw2 => ?_)
  · have hw2' : w = "buy" ∨ w = "free" ∨ w = "wait" := by simpa using hw2
    walk_at "go"
    refine s_spD (Rp.tup hq3 hr3 (by have := Rp.len (.inl h); rw [hr3.length]; simp at this; omega)) fun H4 e4 => ?_
    have := hk H4 (e3.trans e4)
    simpa [isKeyL, hw1', hw2'] using this
  have hw2' : ¬ (w = "buy" ∨ w = "free" ∨ w = "wait") := by simpa using hw2
  walk_at "go"
  refine s_dec (fun hw3 => ?_) (fun hw3 => ?_)
  case refine_2 =>
    have := hk H3 e3
    simpa [isKeyL, hw1', hw2', hw3] using this
  walk_at "go"
  refine s_lenT hq3 ?_
  walk_at "go"
  refine s_dec (fun hl => ?_) (fun hl => ?_)
  case refine_2 =>
    have hl1 : ds0.length ≠ 3 := by rw [← hr3.length]; omega
    have := hk H3 e3
    have e : isKeyL w ds0 = false := by
      unfold isKeyL
      rw [if_neg hw1', if_neg hw2', if_pos hw3]
      split
      · simp at hl1
      · rfl
    rw [e] at this
    exact this
  have hl1 : ds0.length = 3 := by rw [← hr3.length]; omega
  obtain ⟨d1, d2, d3, rfl⟩ := list_three hl1
  obtain ⟨v1, v2, v3, rfl, h1, h2, h3⟩ := hr3.three
  have e : isKeyL w [d1, d2, d3] = (isNameD d1 && (isStandD (.tuple [d2, d3]) && !PyData.eqv d1 d2)) := by
    unfold isKeyL
    rw [if_neg hw1', if_neg hw2', if_pos hw3]
  rw [e] at hk
  walk_at "go"
  refine s_ixT hq3 (by rfl) ?_
  walk_at "go"
  refine s_spD h1 fun H4 e4 => ?_
  walk_at "go"
  refine s_bite (fun hn => ?_) (fun hn => ?_)
  case refine_2 =>
    have := hk H4 (e3.trans e4)
    simpa [hn] using this
  walk_at "go"
  refine s_slT (Same.seqT e4 hq3) fun p5 H5 e5 hp5 => ?_
  have hp5' : SqT K H5 p5 [v2, v3] := by
    have := cut_from [v1, v2, v3] 1
    rw [show (((1 : Nat) : Int)) = (1 : Int) from rfl] at this
    rw [this] at hp5
    exact hp5
  walk_at "go"
  refine s_spD (d := .tuple [d2, d3]) (Rp.tup hp5' ((RpA.cons h2 (.cons h3 .nil)).mono (e4.trans e5)) (by simp)) fun H6 e6 => ?_
  walk_at "go"
  refine s_bite (fun hn2 => ?_) (fun hn2 => ?_)
  case refine_2 =>
    have := hk H6 (e3.trans (e4.trans (e5.trans e6)))
    simpa [hn, hn2] using this
  obtain ⟨x, rfl⟩ := isName_str hn
  obtain ⟨y, n, e7, _⟩ := isStand_tup hn2
  injection e7 with e7
  injection e7 with e8 _
  subst e8
  cases h1 with
  | str _ hxs =>
  have hx := hxs.len
  cases h2 with
  | str _ hy =>
  walk_at "go"
  have hq6 := Same.seqT (e4.trans (e5.trans e6)) hq3
  refine s_ixT hq6 (by rfl) ?_
  walk_at "go"
  refine s_ixT hq6 (by rfl) ?_
  walk_at "go"
  have := hk H6 (e3.trans (e4.trans (e5.trans e6)))
  rw [hn, hn2] at this
  have e9 : PyData.eqv (.str x) (.str y) = decide (x = y) := by
    show (x == y) = _
    rw [Bool.eq_iff_iff]; simp
  rw [e9] at this
  simpa using this

/-! ### accounts -/
theorem pre32 (c : Nat) (r : List Nat) : TL.pre [32] (c :: r) = decide (c = 32) := by
  unfold TL.pre
  rw [Bool.eq_iff_iff]
  simp
theorem par32 : ∀ (l acc : List Nat), TL.par [32] acc l = (match cutAt 32 l with
    | (y, some r) => some (acc ++ y, r)
    | (_, none) => none)
  | [], acc => rfl
  | c :: r, acc => by
    show (if TL.pre [32] (c :: r) = true then some (acc, (c :: r).drop 1) else TL.par [32] (acc ++ [c]) r) = _
    rw [pre32]
    unfold cutAt
    by_cases h : c = 32
    · simp [h]
    · have ih := par32 r (acc ++ [c])
      simp only [h, decide_false, Bool.false_eq_true, if_false, ih]
      cases e : cutAt 32 r with
      | mk y o => cases o <;> simp
theorem cutAt_len : ∀ {l y r : List Nat}, cutAt 32 l = (y, some r) → y.length + 1 + r.length = l.length
  | [], y, r, h => by cases h
  | c :: t, y, r, h => by
    unfold cutAt at h
    by_cases hc : c = 32
    · rw [if_pos hc] at h
      obtain ⟨rfl, h2⟩ := Prod.mk.inj h
      cases Option.some.inj h2
      simp only [List.length_cons, List.length_nil]
      omega
    · rw [if_neg hc] at h
      obtain ⟨rfl, h2⟩ := Prod.mk.inj h
      have := cutAt_len (l := t) (y := (cutAt 32 t).1) (r := r) (by rw [← h2])
      simp only [List.length_cons]
      omega
theorem cutAt_sub : ∀ {l y r : List Nat}, cutAt 32 l = (y, some r) → ∀ z ∈ y, z ∈ l
  | [], y, r, h => by cases h
  | c :: t, y, r, h => by
    unfold cutAt at h
    by_cases hc : c = 32
    · rw [if_pos hc] at h
      obtain ⟨rfl, h2⟩ := Prod.mk.inj h
      intro z hz
      cases hz
    · rw [if_neg hc] at h
      obtain ⟨rfl, h2⟩ := Prod.mk.inj h
      have := cutAt_sub (l := t) (y := (cutAt 32 t).1) (r := r) (by rw [← h2])
      intro z hz
      rcases List.mem_cons.mp hz with rfl | hz
      · exact List.mem_cons_self ..
      · exact List.mem_cons_of_mem _ (this z hz)
theorem rd_is_account (h : Rp K H v d) (k : ∀ H', Same H H' → Q (.bl (isAcctD d)) H') : t_is_account K (Dn Q) [some v, none, none, none] H := by
  unfold t_is_account
  walk_at "go"
  refine s_nbite (fun hb => ?_) (fun hb => ?_)
  case refine_2 =>
    walk_at "go"
    have := k H (Same.refl H)
    have e : isAcctD d = false := by cases d <;> simp [isB, isBS, tyN, isAcctD] at hb ⊢
    rw [e] at this
    exact this
  obtain ⟨x, rfl⟩ := isB_str hb
  cases h with
  | str _ hxs =>
  have hx := hxs.len
  walk_at "go"
  refine s_dec (fun h0 => ?_) (fun h0 => ?_)
  · walk_at "go"
    have := k H (Same.refl H)
    have e : isAcctD (.str x) = true := by rw [h0]; decide +kernel
    rw [e] at this
    exact this
  walk_at "go"
  refine s_spD (.str x hxs) fun H1 e1 => ?_
  walk_at "go"
  refine s_bite (fun h1 => ?_) (fun h1 => ?_)
  · walk_at "go"
    have := k H1 e1
    have e : isAcctD (.str x) = true := by
      have h1' : isNameS x = true := h1
      show (x == Str.empty || (isNameS x || _)) = true
      rw [h1']; simp
    rw [e] at this
    exact this
  walk_at "go"
  refine s_partition (by decide +kernel) hx fun p H2 e2 hp => ?_
  have hpp := TL.partition_par x " " (by decide +kernel)
  have e32 : TL.tl (" " : Str) = [32] := by decide +kernel
  rw [e32, par32] at hpp
  have e3 := e1.trans e2
  cases hc : cutAt 32 (TL.tl x) with
  | mk y o =>
  rw [hc] at hpp
  cases o with
  | none =>
    rw [hpp] at hp
    refine s_gTup3 (SqT.of hp) ?_
    walk_at "go"
    refine s_spD (.str x hxs) fun H4 e4 => ?_
    rw [h1]
    walk_at "go"
    have := k H4 (e3.trans e4)
    have e : isAcctD (.str x) = false := by
      show (x == Str.empty || (isNameS x || _)) = false
      have hn : isNameS x = false := h1
      have h0' : (x == Str.empty) = false := beq_eq_false_iff_ne.mpr h0
      rw [hn, h0']
      simp only [Bool.false_or]
      rw [show x.cps.toList = TL.tl x from rfl, hc]
    rw [e] at this
    exact this
  | some r =>
    simp only [List.nil_append] at hpp
    rw [hpp] at hp
    refine s_gTup3 (SqT.of hp) ?_
    walk_at "go"
    have hlen : y.length ≤ 100000 ∧ r.length ≤ 100000 := by
      have h9 := cutAt_len hc
      rw [← TL.len_tl x] at h9
      omega
    have e : isAcctD (.str x) = tailOk y r := by
      show (x == Str.empty || (isNameS x || _)) = _
      have hn : isNameS x = false := h1
      have h0' : (x == Str.empty) = false := beq_eq_false_iff_ne.mpr h0
      rw [hn, h0']
      simp only [Bool.false_or]
      rw [show x.cps.toList = TL.tl x from rfl, hc]
    rw [e] at k
    refine s_spD (.str ⟨y.toArray⟩ ⟨by simpa [Str.length] using hlen.1, fun z hz => hxs.ok z (cutAt_sub hc z hz)⟩) fun H4 e4 => ?_
    walk_at "go"
    refine s_bite (fun hn => ?_) (fun hn => ?_)
    case refine_2 =>
      have := k H4 (e3.trans e4)
      have e5 : tailOk y r = false := by
        unfold tailOk
        have hn' : isNameS ⟨y.toArray⟩ = false := hn
        split
        · rw [hn']; rfl
        · rfl
      rw [e5] at this
      exact this
    walk_at "go"
    refine s_lenS (by simpa [Str.length] using hlen.2) ?_
    walk_at "go"
    refine s_dec (fun hl => ?_) (fun hl => ?_)
    · have hl' : r.length = 1 := by simp [Str.length] at hl; omega
      obtain ⟨c, rfl⟩ := list_one hl'
      walk_at "go"
      refine s_inC ?_
      have := k H4 (e3.trans e4)
      have hn' : isNameS ⟨y.toArray⟩ = true := hn
      have e5 : tailOk y [c] = decide (c ∈ HOURSs.cps.toList) := by
        show (isNameS ⟨y.toArray⟩ && _) = _
        rw [hn']; rfl
      rw [e5] at this
      exact this
    · have hl' : r.length ≠ 1 := by simp [Str.length] at hl; omega
      have := k H4 (e3.trans e4)
      have e5 : tailOk y r = false := by
        unfold tailOk
        split
        · simp at hl'
        · rfl
      rw [e5] at this
      exact this
theorem rd_account_of {x : Str} {n : Int} (h : Rp K H v (.tuple [.str x, .int n])) (hxl : x.length ≤ 1000) (h0 : 0 ≤ n) (h8 : n ≤ 8) (k : ∀ H', Same H H' → Q (.str (acctS x n)) H') : t_account_of K (Dn Q) [some v] H := by
  unfold t_account_of
  obtain ⟨a, xs, rfl, hs, ha⟩ := h.tup'
  obtain ⟨v1, v2, rfl, h1, h2⟩ := ha.two
  cases h1 with
  | str _ hxs =>
  have hx := hxs.len
  cases h2
  walk_at "go"
  refine s_ixT hs (by rfl) (s_fmtS hx ?_)
  have h1 : (" " : Str).length = 1 := by decide +kernel
  have h2 : Str.empty.length = 0 := rfl
  refine s_jsE (by omega) ?_
  walk_at "go"
  have e0 : Str.empty ++ x = x := TL.ext_tl (by rw [TL.tl_append]; rfl)
  rw [e0]
  refine s_jsE (by omega) ?_
  walk_at "go"
  refine s_ixT hs (by rfl) (s_fmtI (by omega) (by omega) ?_)
  refine s_jsE (by rw [len_app, len_hour h0 h8]; omega) ?_
  walk_at "go"
  exact k H (Same.refl H)
theorem num_some {x : Str} (h1 : 1 ≤ x.length) (h2 : x.length ≤ 4300) (h3 : allIn x DIGITSs = true) : ∃ n, PySem.intText? x = some n := by
  refine ⟨_, PySem.intText_digits ?_ ?_ h2⟩
  · intro c hc
    have := of_decide_eq_true (List.all_eq_true.mp h3 c hc)
    have e : DIGITSs.cps.toList = [48, 49, 50, 51, 52, 53, 54, 55, 56, 57] := by decide +kernel
    rw [e] at this
    simp at this
    omega
  · intro e
    rw [TL.len_tl, TL.tl, e] at h1
    simp at h1
theorem rd_number_in (h : Rp K H v d) (k : ∀ H', Same H H' → Q (numV d) H') : t_number_in K (Dn Q) [some v, none] H := by
  unfold t_number_in
  walk_at "go"
  refine s_nbite (fun hb => ?_) (fun hb => ?_)
  case refine_2 =>
    walk_at "go"
    have := k H (Same.refl H)
    have e : numV d = .non := by cases d <;> simp [isB, isBS, tyN, numV] at hb ⊢
    rw [e] at this
    exact this
  obtain ⟨x, rfl⟩ := isB_str hb
  cases h with
  | str _ hxs =>
  have hx := hxs.len
  walk_at "go"
  refine s_lenS hx ?_
  walk_at "go"
  refine s_dec (fun h1 => ?_) (fun h1 => ?_)
  case refine_2 =>
    walk_at "go"
    have := k H (Same.refl H)
    have h1' : ¬ 1 ≤ x.length := by omega
    have e : numV (.str x) = .non := by simp [numV, numS, h1']
    rw [e] at this
    exact this
  have h1' : 1 ≤ x.length := by omega
  walk_at "go"
  refine s_ndec (fun h2 => ?_) (fun h2 => ?_)
  case refine_2 =>
    walk_at "go"
    have := k H (Same.refl H)
    have h2' : ¬ x.length ≤ 9 := by omega
    have e : numV (.str x) = .non := by simp [numV, numS, h2']
    rw [e] at this
    exact this
  have h2' : x.length ≤ 9 := by omega
  walk_at "go"
  refine s_allIn rfl (fun _ => rfl) (fun _ => rfl) hx fun H1 e1 => ?_
  walk_at "go"
  refine s_nbite (fun h3 => ?_) (fun h3 => ?_)
  case refine_2 =>
    walk_at "go"
    have := k H1 e1
    have h3' : allIn x DIGITSs = false := h3
    have e : numV (.str x) = .non := by simp [numV, numS, h3']
    rw [e] at this
    exact this
  have h3' : allIn x DIGITSs = true := h3
  obtain ⟨n, hn⟩ := num_some h1' (by omega) h3'
  walk_at "go"
  refine s_dec (fun h4 => ?_) (fun h4 => ?_)
  · walk_at "go"
    refine .inr ⟨x, n, rfl, hn, by omega, ?_⟩
    have := k H1 e1
    have h4' : (x == ("0" : Str)) = true := beq_iff_eq.mpr h4
    have e : numV (.str x) = .int n := by simp [numV, numS, h1', h2', h3', h4', hn]
    rw [e] at this
    exact this
  walk_at "go"
  obtain ⟨c, l, hcl⟩ : ∃ c l, x.cps.toList = c :: l := by
    cases hh : x.cps.toList with
    | nil => rw [TL.len_tl, TL.tl, hh] at h1'; simp at h1'
    | cons c l => exact ⟨c, l, rfl⟩
  refine s_ixS (z := c) hx (by rw [hcl]; exact atI_nat (j := 0) rfl) ?_
  walk_at "go"
  have hc : decide ((⟨#[c]⟩ : Str) = ("0" : Str)) = decide (c = 48) := by
    rw [Bool.eq_iff_iff]
    simp only [decide_eq_true_eq]
    constructor
    · intro e
      have e2 : (⟨#[c]⟩ : Str).cps.toList = ("0" : Str).cps.toList := by rw [e]
      have e3 : ("0" : Str).cps.toList = [48] := by decide +kernel
      rw [e3] at e2
      simpa using e2
    · intro e
      subst e
      decide +kernel
  rw [hc]
  refine s_ndec (fun h5 => ?_) (fun h5 => ?_)
  · walk_at "go"
    have := k H1 e1
    have h4' : (x == ("0" : Str)) = false := beq_eq_false_iff_ne.mpr h4
    have e : numV (.str x) = .non := by simp [numV, numS, h1', h2', h3', h4', hcl, h5]
    rw [e] at this
    exact this
  · walk_at "go"
    refine .inr ⟨x, n, rfl, hn, by omega, ?_⟩
    have := k H1 e1
    have e : numV (.str x) = .int n := by simp [numV, numS, h1', h2', h3', hcl, h5, hn]
    rw [e] at this
    exact this
end
end SW

namespace SW
open PySem PySem.Spec PyProof.Rows L2
/-! ### the bag of drawn numbers; the heap without it -/
def mn (H : Hp) (b : Addr) : Hp := fun a => if a = b then none else H a
theorem mn_ne {H : Hp} {a b : Addr} (h : a ≠ b) : mn H b a = H a := by unfold mn; rw [if_neg h]
theorem mn_same (H : Hp) (b : Addr) : Same (mn H b) H := fun a o e => by
  unfold mn at e
  split at e
  · cases e
  · exact e
theorem mn_upd (H : Hp) (b : Addr) (o : HO) : mn (upd H b o) b = mn H b := by
  funext a
  unfold mn upd
  split
  · rfl
  · rfl
theorem mn_at {H : Hp} {a b : Addr} {o : HO} (e : mn H b a = some o) : a ≠ b ∧ H a = some o := by
  unfold mn at e
  split at e
  · cases e
  · rename_i h; exact ⟨h, e⟩
theorem Same.mn {H H' : Hp} (e : Same H H') (b : Addr) : Same (mn H b) (SW.mn H' b) := fun a o h => by
  obtain ⟨h1, h2⟩ := mn_at h
  rw [mn_ne h1]
  exact e a o h2
theorem mn_new {H : Hp} {b p : Addr} {o : HO} (hp : H p = none) (hb : H b ≠ none) : Same (mn H b) (mn (upd H p o) b) := Same.mn (same_new hp) b
/-- the bag: the cells, how many were taken, the rest of a great cell, a stirred number -/
def Bag (H : Hp) (b c : Addr) : Prop := ∃ (ns : List Int) (i g z : Int), H b = some (.lst [.ref c, .int i, .int g, .int z]) ∧ H c = some (.lst (ns.map V.int)) ∧ c ≠ b ∧ 0 ≤ i ∧ 0 ≤ g ∧ 0 ≤ z ∧ z < 2147483629
theorem Bag.same {H H' : Hp} {b c : Addr} (B : Bag H b c) (e : Same H H') : Bag H' b c := by
  obtain ⟨ns, i, g, z, h1, h2, h3⟩ := B
  exact ⟨ns, i, g, z, e _ _ h1, e _ _ h2, h3⟩
theorem bag_some {H : Hp} {b c : Addr} (B : Bag H b c) : H b ≠ none := by
  obtain ⟨ns, i, g, z, h1, _⟩ := B
  rw [h1]; exact fun z => by cases z
theorem bag_ne {H : Hp} {b c p : Addr} (B : Bag H b c) (hp : H p = none) : p ≠ b ∧ p ≠ c := by
  obtain ⟨ns, i, g, z, h1, h2, _⟩ := B
  exact ⟨(fun e => by rw [e, h1] at hp; cases hp), (fun e => by rw [e, h2] at hp; cases hp)⟩
/-- another object may change -/
theorem bag_mut {H : Hp} {b c p : Addr} {o : HO} (B : Bag H b c) (h1 : p ≠ b) (h2 : p ≠ c) : Bag (upd H p o) b c := by
  obtain ⟨ns, i, g, z, hb, hc, h⟩ := B
  exact ⟨ns, i, g, z, by rw [upd_ne (Ne.symm h1)]; exact hb, by rw [upd_ne (Ne.symm h2)]; exact hc, h⟩
abbrev sp__law_bag (K : PySem.W.Frag) : Sp := Sp1 fun v H Q _ => ∃ (a : Addr) (ns : List Int), v = .ref a ∧ SqL K H a (ns.map V.int) ∧ ns.length ≤ 63 ∧ ∀ b c H', H b = none → H c = none → Bag H' b c → Same H (mn H' b) → Q (.ref b) H'
abbrev sp__law_take (K : PySem.W.Frag) : Sp := Sp2 fun v w H Q _ => ∃ b c n, v = .ref b ∧ w = .int n ∧ Bag H b c ∧ 0 < n ∧ n < 1073741824 ∧ ∀ r H', 0 ≤ r → r < n → Bag H' b c → Same (mn H b) (mn H' b) → Q (.int r) H'
/-- what is drawn out of w -/
inductive Drawn (K : PySem.W.Frag) (H : Hp) : V → (V → Prop) → Prop
  | lst {p : Addr} {xs : List V} : SqL K H p xs → xs ≠ [] → xs.length ≤ 100000 → Drawn K H (.ref p) (fun x => x ∈ xs)
  | tup {p : Addr} {xs : List V} : SqT K H p xs → xs ≠ [] → xs.length ≤ 100000 → Drawn K H (.ref p) (fun x => x ∈ xs)
  | str {s : Str} : s.cps.toList ≠ [] → s.length ≤ 100000 → Drawn K H (.str s) (fun x => ∃ c, c ∈ s.cps.toList ∧ x = .str ⟨#[c]⟩)
abbrev sp__law_of (K : PySem.W.Frag) : Sp := Sp2 fun v w H Q _ => ∃ b c M, v = .ref b ∧ Bag H b c ∧ Drawn K (mn H b) w M ∧ ∀ x H', M x → Bag H' b c → Same (mn H b) (mn H' b) → Q x H'
/-! ### how deep data are -/
mutual
def rk : PyData → Nat
  | .list ds => rkL ds + 1
  | .tuple ds => rkL ds + 1
  | .dict kvs => rkK kvs + 3
  | _ => 0
def rkL : List PyData → Nat
  | [] => 0
  | d :: ds => max (rk d) (rkL ds)
def rkK : List (PyData × PyData) → Nat
  | [] => 0
  | (a, b) :: ds => max (max (rk a) (rk b)) (rkK ds)
end
theorem rkL_mem : ∀ {ds : List PyData} {d : PyData}, d ∈ ds → rk d ≤ rkL ds
  | [], _, h => nomatch h
  | a :: ds, d, h => by
    rcases List.mem_cons.mp h with rfl | h
    · exact Nat.le_max_left _ _
    · exact Nat.le_trans (rkL_mem h) (Nat.le_max_right _ _)
/-- equal data: True -/
def spSame (K : PySem.W.Frag) (n : Nat) : Sp := Sp2 fun v w H Q _ => ∃ d, Rp K H v d ∧ Rp K H w d ∧ rk d ≤ n ∧ ∀ H', Same H H' → Q (.bl true) H'
abbrev sp__law_same (K : PySem.W.Frag) : Sp := spSame K 11
abbrev sp__law_names (K : PySem.W.Frag) : Sp := Sp3 fun v w u H Q _ => ∃ b c n, v = .ref b ∧ w = .int n ∧ u = .int 6 ∧ Bag H b c ∧ 0 ≤ n ∧ n ≤ 26 ∧
  ∀ (p : Addr) (ws : List Str) (H' : Hp), H p = none → Bag H' b c → Same (mn H b) (mn H' b) → mn H' b p = some (.lst (ws.map V.str)) → (ws.length : Int) = n → (∀ w ∈ ws, isNameS w = true) → ws.Nodup → Q (.ref p) H'
def odds : List PyData := [.none, .bool true, .bool false, .str "", .str "A", .str "abcdefg", .str "a b", .str "a1", .tuple [.str "a"], .tuple [.str "a", .int 9], .tuple [.str "a", .bool true],
  .tuple [.str "A", .int 1], .dict [], .dict [(.str "a", .int 1)], .tuple [.int 1, .int 2]]
abbrev sp__law_odd (K : PySem.W.Frag) : Sp := Sp1 fun v H Q _ => ∃ b c, v = .ref b ∧ Bag H b c ∧ ∀ x d H', d ∈ odds → Rp K (mn H' b) x d → Bag H' b c → Same (mn H b) (mn H' b) → Q x H'
end SW

namespace SW
open PySem PySem.Spec PyProof.Rows L2
def t__law_bag (K : PySem.W.Frag) : TS := (tSeq (tAsg (tCB (uList K) (tCons (tSl (uSl K) (tVar 0) tNoPart (tPart (tC (.int 63)))) tNil)) (gName 1)) (tRet (tLst (tCons (tVar 1) (tCons (tC (.int 0)) (tCons (tC (.int 0)) (tCons (tOp (uAdd K) (tC (.int 12029)) (tOp uMul (tC (.int 31)) (tCB (uLen K) (tCons (tVar 1) tNil)))) tNil)))))))
def t__law_take (K : PySem.W.Frag) : TS := (tSeq (tIfS (tAnd (tTest (tOp (uEq K) (tOp (rIx K) (tVar 0) (tC (.int 2))) (tC (.int 0)))) (tTest (tOp uLt (tOp (rIx K) (tVar 0) (tC (.int 1))) (tCB (uLen K) (tCons (tOp (rIx K) (tVar 0) (tC (.int 0))) tNil))))) (tSeq (tAsg (tOp (rIx K) (tOp (rIx K) (tVar 0) (tC (.int 0))) (tOp (rIx K) (tVar 0) (tC (.int 1)))) (gName 2)) (tSeq (tAsg (tOp (uAdd K) (tOp (rIx K) (tVar 0) (tC (.int 1))) (tC (.int 1))) (gSub (tVar 0) (tC (.int 1)) rSetL)) (tSeq (tAsg (tOp uMod (tCB uInt (tCons (tOp (uAdd K) (tOp (uAdd K) (tOp uMul (tOp (rIx K) (tVar 0) (tC (.int 3))) (tC (.int 48271))) (tOp uMul (tOp uMod (tCB uInt (tCons (tVar 2) tNil)) (tC (.int 1000003))) (tC (.int 6151)))) (tC (.int 7919))) tNil)) (tC (.int 2147483629))) (gSub (tVar 0) (tC (.int 3)) rSetL)) (tIfS (tTest (tOp uGe (tVar 2) (tOp uPow (tC (.int 10)) (tC (.int 18))))) (tAsg (tVar 2) (gSub (tVar 0) (tC (.int 2)) rSetL)) tNext)))) tNext) (tSeq (tIfS (tTest (tOp uGt (tOp (rIx K) (tVar 0) (tC (.int 2))) (tC (.int 0)))) (tSeq (tAsg (tOp uMod (tCB uInt (tCons (tOp (rIx K) (tVar 0) (tC (.int 2))) tNil)) (tVar 1)) (gName 3)) (tSeq (tAsg (tOp uFdiv (tOp (rIx K) (tVar 0) (tC (.int 2))) (tVar 1)) (gSub (tVar 0) (tC (.int 2)) rSetL)) (tRet (tVar 3)))) tNext) (tSeq (tAsg (tOp uMod (tCB uInt (tCons (tOp (uAdd K) (tOp (uAdd K) (tOp uMul (tOp (rIx K) (tVar 0) (tC (.int 3))) (tOp (rIx K) (tVar 0) (tC (.int 3)))) (tOp uMul (tOp (rIx K) (tVar 0) (tC (.int 3))) (tC (.int 40692)))) (tC (.int 1231))) tNil)) (tC (.int 2147483629))) (gSub (tVar 0) (tC (.int 3)) rSetL)) (tRet (tOp uMod (tCB uInt (tCons (tOp (uAdd K) (tOp uFdiv (tOp (rIx K) (tVar 0) (tC (.int 3))) (tC (.int 97))) (tOp uMul (tOp uMod (tCB uInt (tCons (tOp (rIx K) (tVar 0) (tC (.int 3))) tNil)) (tC (.int 7919))) (tC (.int 89)))) tNil)) (tVar 1))))))
def t__law_of (K : PySem.W.Frag) : TS := (tRet (tOp (rIx K) (tVar 1) (tCall (sp__law_take K) [] E0 (tCons (tVar 0) (tCons (tCB (uLen K) (tCons (tVar 1) tNil)) tNil)))))
def t__law_same (K : PySem.W.Frag) (rec : Sp) : TS := (tSeq (tIfS (tOr (tTest (tOp rIsN (tVar 1) (tC .non))) (tTest (tOp rIsN (tVar 0) (tC .non)))) (tRet (tAndV (tOp rIsN (tVar 1) (tC .non)) (tOp rIsN (tVar 0) (tC .non)))) tNext) (tSeq (tIfS (tTru K (tCB (uIsi K) (tCons (tVar 1) (tCons (tTup (tCons (tC (.ty "list")) (tCons (tC (.ty "tuple")) tNil))) tNil)))) (tSeq (tIfS (tOr (tTest (tOp (uNe K) (tCB (uIsi K) (tCons (tVar 0) (tCons (tC (.ty "list")) tNil))) (tCB (uIsi K) (tCons (tVar 1) (tCons (tC (.ty "list")) tNil))))) (tTest (tOp (uNe K) (tCB (uIsi K) (tCons (tVar 0) (tCons (tC (.ty "tuple")) tNil))) (tCB (uIsi K) (tCons (tVar 1) (tCons (tC (.ty "tuple")) tNil)))))) (tRet (tC (.bl false))) tNext) (tRet (tAndV (tOp (uEq K) (tCB (uLen K) (tCons (tVar 0) tNil)) (tCB (uLen K) (tCons (tVar 1) tNil))) (tOp (uEq K) (tLc (iRng1 (tCons (tCB (uLen K) (tCons (tVar 1) tNil)) tNil)) (gName 2) (tNot (tTru K (tCall rec [] E0 (tCons (tOp (rIx K) (tVar 0) (tVar 2)) (tCons (tOp (rIx K) (tVar 1) (tVar 2)) tNil))))) (tVar 2) [2]) (tLst tNil))))) tNext) (tSeq (tIfS (tTru K (tCB (uIsi K) (tCons (tVar 1) (tCons (tC (.ty "dict")) tNil)))) (tRet (tAndV (tCB (uIsi K) (tCons (tVar 0) (tCons (tC (.ty "dict")) tNil))) (tCall rec [] E0 (tCons (LiI.tListItems (tVar 0)) (tCons (LiI.tListItems (tVar 1)) tNil))))) tNext) (tSeq (tIfS (tOr (tTest (tOp (uNe K) (tCB (uIsi K) (tCons (tVar 1) (tCons (tC (.ty "bool")) tNil))) (tCB (uIsi K) (tCons (tVar 0) (tCons (tC (.ty "bool")) tNil))))) (tTest (tOp (uNe K) (tCB (uIsi K) (tCons (tVar 1) (tCons (tC (.ty "int")) tNil))) (tCB (uIsi K) (tCons (tVar 0) (tCons (tC (.ty "int")) tNil)))))) (tRet (tC (.bl false))) tNext) (tRet (tAndV (tOp (uEq K) (tCB (uIsi K) (tCons (tVar 1) (tCons (tC (.ty "str")) tNil))) (tCB (uIsi K) (tCons (tVar 0) (tCons (tC (.ty "str")) tNil)))) (tOp (uEq K) (tVar 0) (tVar 1))))))))
def t__law_names (K : PySem.W.Frag) : TS := (tSeq (tAsg (tC (.str "abcdefghijklmnopqrstuvwxyz")) (gName 3)) (tSeq (tAsg (tM1 (m_join K) (tC (.str "")) (tLc (iRng1 (tCons (tCall (sp__law_take K) [] E0 (tCons (tVar 0) (tCons (tVar 2) tNil))) tNil)) (gName 5) tYes (tCall (sp__law_of K) [] E0 (tCons (tVar 0) (tCons (tVar 3) tNil))) [5])) (gName 4)) (tSeq (tPar3 6 7 8 (tCons (tCall (sp__law_take K) [] E0 (tCons (tVar 0) (tCons (tC (.int 26)) tNil))) (tCons (tCall (sp__law_of K) [] E0 (tCons (tVar 0) (tCons (tLst (tCons (tC (.int 1)) (tCons (tC (.int 3)) (tCons (tC (.int 5)) (tCons (tC (.int 7)) (tCons (tC (.int 11)) (tCons (tC (.int 25)) tNil))))))) tNil))) (tCons (tLst tNil) tNil)))) (tSeq (tFor (iRng1 (tCons (tVar 1) tNil)) (gName 5) (tSeq (tAsg (tM1 (m_join K) (tC (.str "")) (tLc (iRng1 (tCons (tCall (sp__law_take K) [] E0 (tCons (tVar 0) (tCons (tOp uSub (tVar 2) (tCB (uLen K) (tCons (tVar 4) tNil))) tNil))) tNil)) (gName 10) tYes (tCall (sp__law_of K) [] E0 (tCons (tVar 0) (tCons (tVar 3) tNil))) [10])) (gName 9)) (tDrop (tBM K "list" rAppend (tVar 8) (tCons (tOp (uAdd K) (tOp (uAdd K) (tVar 4) (tOp (rIx K) (tVar 3) (tOp uMod (tCB uInt (tCons (tOp (uAdd K) (tVar 6) (tOp uMul (tVar 7) (tVar 5))) tNil)) (tC (.int 26))))) (tVar 9)) tNil))))) (tRet (tVar 8))))))
def t__law_odd (K : PySem.W.Frag) : TS := (tRet (tCall (sp__law_of K) [] E0 (tCons (tVar 0) (tCons (tLst (tCons (tC .non) (tCons (tC (.bl true)) (tCons (tC (.bl false)) (tCons (tC (.str "")) (tCons (tC (.str "A")) (tCons (tC (.str "abcdefg")) (tCons (tC (.str "a b")) (tCons (tC (.str "a1")) (tCons (tTup (tCons (tC (.str "a")) tNil)) (tCons (tTup (tCons (tC (.str "a")) (tCons (tC (.int 9)) tNil))) (tCons (tTup (tCons (tC (.str "a")) (tCons (tC (.bl true)) tNil))) (tCons (tTup (tCons (tC (.str "A")) (tCons (tC (.int 1)) tNil))) (tCons tDNewK (tCons (tDisp [((tC (.str "a")), (tC (.int 1)))]) (tCons (tTup (tCons (tC (.int 1)) (tCons (tC (.int 2)) tNil))) tNil)))))))))))))))) tNil))))
end SW

namespace SW
open PySem PySem.Spec PyProof.Rows L2
section
variable {K : PySem.W.Frag} {v : V} {H : Hp} {Q : VK} {d : PyData}
theorem rd__law_bag {a : Addr} {ns : List Int} (hS : SqL K H a (ns.map V.int)) (hl : ns.length ≤ 63) (k : ∀ b c H', H b = none → H c = none → Bag H' b c → Same H (mn H' b) → Q (.ref b) H') : t__law_bag K (Dn Q) [some (.ref a), none] H := by
  unfold t__law_bag
  walk_at "go"
  refine s_slL hS fun q H1 hq e1 hq1 => ?_
  walk_at "go"
  have ec : cutV (ns.map V.int) none (some 63) = ns.map V.int := by
    have := cut_to (ns.map V.int) 63
    rw [show (((63 : Nat) : Int)) = (63 : Int) from rfl] at this
    rw [this, List.take_of_length_le (by rw [List.length_map]; omega)]
  rw [ec] at hq1
  refine ⟨q, ns.map V.int, rfl, .inl (SqL.of hq1), fun c hc => ?_⟩
  have e2 : Same H1 (upd H1 c (.lst (ns.map V.int))) := same_new hc
  generalize hH2 : upd H1 c (.lst (ns.map V.int)) = H2 at e2
  have hc2 : H2 c = some (.lst (ns.map V.int)) := by rw [← hH2]; exact upd_same
  walk_at "go"
  refine s_lenL (SqL.of hc2) ?_
  walk_at "go"
  refine s_rI (.inl ⟨by decide, by decide⟩) ?_
  walk_at "go"
  rw [List.length_map]
  refine ⟨by show 4 ≤ sizeLine; decide, fun b hb => ?_⟩
  have e3 : Same H2 (upd H2 b _) := same_new (o := .lst [.ref c, .int 0, .int 0, .int (12029 + 31 * (ns.length : Int))]) hb
  have hcb : c ≠ b := ne_of_none hc2 hb
  have hb0 : H b = none := Same.free (e1.trans e2) hb
  refine k b c _ hb0 (Same.free e1 hc) ⟨ns, 0, 0, 12029 + 31 * (ns.length : Int), upd_same, ?_, hcb, by omega, by omega, by omega, by omega⟩ ?_
  · rw [upd_ne hcb]; exact hc2
  · intro x o e
    have hx : x ≠ b := ne_of_none e hb0
    rw [mn_ne hx]
    exact e3 _ _ (e2 _ _ (e1 _ _ e))
theorem bag_upd {H : Hp} {b c : Addr} {ns : List Int} {i g z : Int} {o : HO} (ho : o = .lst [.ref c, .int i, .int g, .int z]) (hc : H c = some (.lst (ns.map V.int))) (hn : c ≠ b) (h0 : 0 ≤ i) (h1 : 0 ≤ g) (h2 : 0 ≤ z) (h3 : z < 2147483629) : Bag (L2.upd H b o) b c :=
  ⟨ns, i, g, z, by rw [upd_same, ho], by rw [upd_ne hn]; exact hc, hn, h0, h1, h2, h3⟩
/-- the second half of a draw: from the bag as it stands -/
theorem take_end {b c : Addr} {n : Int} {vc vd : Option V} (B : Bag H b c) (hn : 0 < n) (hn2 : n < 1073741824) (k : ∀ r H', 0 ≤ r → r < n → Bag H' b c → mn H b = mn H' b → Q (.int r) H') :
    (tSeq (tIfS (tTest (tOp uGt (tOp (rIx K) (tVar 0) (tC (.int 2))) (tC (.int 0)))) (tSeq (tAsg (tOp uMod (tCB uInt (tCons (tOp (rIx K) (tVar 0) (tC (.int 2))) tNil)) (tVar 1)) (gName 3)) (tSeq (tAsg (tOp uFdiv (tOp (rIx K) (tVar 0) (tC (.int 2))) (tVar 1)) (gSub (tVar 0) (tC (.int 2)) rSetL)) (tRet (tVar 3)))) tNext) (tSeq (tAsg (tOp uMod (tCB uInt (tCons (tOp (uAdd K) (tOp (uAdd K) (tOp uMul (tOp (rIx K) (tVar 0) (tC (.int 3))) (tOp (rIx K) (tVar 0) (tC (.int 3)))) (tOp uMul (tOp (rIx K) (tVar 0) (tC (.int 3))) (tC (.int 40692)))) (tC (.int 1231))) tNil)) (tC (.int 2147483629))) (gSub (tVar 0) (tC (.int 3)) rSetL)) (tRet (tOp uMod (tCB uInt (tCons (tOp (uAdd K) (tOp uFdiv (tOp (rIx K) (tVar 0) (tC (.int 3))) (tC (.int 97))) (tOp uMul (tOp uMod (tCB uInt (tCons (tOp (rIx K) (tVar 0) (tC (.int 3))) tNil)) (tC (.int 7919))) (tC (.int 89)))) tNil)) (tVar 1))))) (Dn Q) [some (.ref b), some (.int n), vc, vd] H := by
  obtain ⟨ns, i, g, z, hb, hc, hcb, hi, hg, hz, hz2⟩ := B
  walk_at "go"
  refine s_ixL (SqL.of hb) (by rfl) ?_
  walk_at "go"
  refine s_dec (fun hg0 => ?_) (fun hg0 => ?_)
  · walk_at "go"
    refine s_ixL (SqL.of hb) (by rfl) ?_
    walk_at "go"
    refine s_rI hn ?_
    walk_at "go"
    refine s_ixL (SqL.of hb) (by rfl) ?_
    walk_at "go"
    refine s_rI ⟨hn, hn2⟩ ?_
    walk_at "go"
    refine s_setL hb (j := 2) rfl ?_
    walk_at "go"
    refine k _ _ (Int.emod_nonneg _ (by omega)) (Int.emod_lt_of_pos _ hn) (bag_upd (i := i) (g := g / n) (z := z) rfl hc hcb hi (Int.ediv_nonneg hg (by omega)) hz hz2) ?_
    rw [mn_upd]
  · walk_at "go"
    refine s_ixL (SqL.of hb) (by rfl) ?_
    walk_at "go"
    refine s_ixL (SqL.of hb) (by rfl) ?_
    walk_at "go"
    refine s_rI (.inl ⟨by omega, by omega⟩) ?_
    walk_at "go"
    refine s_ixL (SqL.of hb) (by rfl) ?_
    walk_at "go"
    refine s_rI (.inl ⟨by omega, by omega⟩) ?_
    walk_at "go"
    refine s_rI (by decide) ?_
    walk_at "go"
    refine s_setL hb (j := 3) rfl ?_
    walk_at "go"
    have hm : ∀ e : Int, 0 ≤ e % 2147483629 ∧ e % 2147483629 < 2147483629 := fun e => ⟨Int.emod_nonneg _ (by decide), Int.emod_lt_of_pos _ (by decide)⟩
    obtain ⟨m1, m2⟩ := hm (z * z + z * 40692 + 1231)
    have hb2 : (L2.upd H b (.lst ([V.ref c, .int i, .int g, .int z].set 3 (.int ((z * z + z * 40692 + 1231) % 2147483629))))) b = some (.lst [.ref c, .int i, .int g, .int ((z * z + z * 40692 + 1231) % 2147483629)]) := upd_same
    generalize (z * z + z * 40692 + 1231) % 2147483629 = y at m1 m2 hb2 ⊢
    refine s_ixL (SqL.of hb2) (by rfl) ?_
    walk_at "go"
    refine s_rI ⟨by decide, by decide⟩ ?_
    walk_at "go"
    refine s_ixL (SqL.of hb2) (by rfl) ?_
    walk_at "go"
    refine s_rI (by decide) ?_
    walk_at "go"
    refine s_rI (.inl ⟨by omega, by omega⟩) ?_
    walk_at "go"
    refine s_rI hn ?_
    refine k _ _ (Int.emod_nonneg _ (by omega)) (Int.emod_lt_of_pos _ hn) (bag_upd (i := i) (g := g) (z := y) rfl hc hcb hi hg m1 m2) ?_
    rw [mn_upd]
theorem rd__law_take {b c : Addr} {n : Int} (B : Bag H b c) (hn : 0 < n) (hn2 : n < 1073741824) (k : ∀ r H', 0 ≤ r → r < n → Bag H' b c → Same (mn H b) (mn H' b) → Q (.int r) H') : t__law_take K (Dn Q) [some (.ref b), some (.int n), none, none] H := by
  have k' : ∀ r H', 0 ≤ r → r < n → Bag H' b c → mn H b = mn H' b → Q (.int r) H' := fun r H' h1 h2 h3 h4 => k r H' h1 h2 h3 (by rw [h4]; exact Same.refl _)
  obtain ⟨ns, i, g, z, hb, hc, hcb, hi, hg, hz, hz2⟩ := id B
  unfold t__law_take
  refine s_seq (s_ifS (s_and ?_))
  walk_at "go"
  refine s_ixL (SqL.of hb) (by rfl) ?_
  walk_at "go"
  refine s_dec (fun hg0 => ?_) (fun hg0 => ?_)
  case refine_2 =>
    refine L2.iteF (s_next ?_)
    exact take_end B hn hn2 k'
  walk_at "go"
  refine s_ixL (SqL.of hb) (by rfl) ?_
  walk_at "go"
  refine s_ixL (SqL.of hb) (by rfl) ?_
  walk_at "go"
  refine s_lenL (SqL.of hc) ?_
  walk_at "go"
  refine s_dec (fun hlt => ?_) (fun hlt => ?_)
  case refine_2 =>
    refine s_next ?_
    exact take_end B hn hn2 k'
  rw [List.length_map] at hlt
  obtain ⟨j, rfl⟩ := Int.eq_ofNat_of_zero_le hi
  have hj : j < ns.length := by omega
  walk_at "go"
  refine s_ixL (SqL.of hb) (by rfl) ?_
  walk_at "go"
  refine s_ixL (SqL.of hb) (by rfl) ?_
  refine s_ixL (SqL.of hc) (atI_nat (v := .int (ns[j])) (by rw [List.getElem?_map, List.getElem?_eq_getElem hj]; rfl)) ?_
  walk_at "go"
  refine s_ixL (SqL.of hb) (by rfl) ?_
  walk_at "go"
  refine s_setL hb (j := 1) rfl ?_
  walk_at "go"
  generalize hH1 : L2.upd H b (.lst ([V.ref c, .int (j : Int), .int g, .int z].set 1 (.int ((j : Int) + 1)))) = H1
  have hb1 : H1 b = some (.lst [.ref c, .int ((j : Int) + 1), .int g, .int z]) := by rw [← hH1]; exact upd_same
  have hc1 : H1 c = some (.lst (ns.map V.int)) := by rw [← hH1, upd_ne hcb]; exact hc
  have hm1 : mn H b = mn H1 b := by rw [← hH1, mn_upd]
  refine s_ixL (SqL.of hb1) (by rfl) ?_
  walk_at "go"
  refine s_rI (.inl ⟨by omega, by omega⟩) ?_
  walk_at "go"
  refine s_rI (by decide) ?_
  walk_at "go"
  have hmm : ∀ e : Int, 0 ≤ e % 1000003 ∧ e % 1000003 < 1000003 := fun e => ⟨Int.emod_nonneg _ (by decide), Int.emod_lt_of_pos _ (by decide)⟩
  obtain ⟨q1, q2⟩ := hmm ns[j]
  refine s_rI (.inl ⟨by omega, by omega⟩) ?_
  walk_at "go"
  refine s_rI (by decide) ?_
  walk_at "go"
  refine s_setL hb1 (j := 3) rfl ?_
  have hm : ∀ e : Int, 0 ≤ e % 2147483629 ∧ e % 2147483629 < 2147483629 := fun e => ⟨Int.emod_nonneg _ (by decide), Int.emod_lt_of_pos _ (by decide)⟩
  obtain ⟨m1, m2⟩ := hm (z * 48271 + ns[j] % 1000003 * 6151 + 7919)
  generalize (z * 48271 + ns[j] % 1000003 * 6151 + 7919) % 2147483629 = y at m1 m2 ⊢
  generalize hH2 : L2.upd H1 b (.lst ([V.ref c, .int ((j : Int) + 1), .int g, .int z].set 3 (.int y))) = H2
  have hb2 : H2 b = some (.lst [.ref c, .int ((j : Int) + 1), .int g, .int y]) := by rw [← hH2]; exact upd_same
  have hc2 : H2 c = some (.lst (ns.map V.int)) := by rw [← hH2, upd_ne hcb]; exact hc1
  have hm2 : mn H b = mn H2 b := by rw [hm1, ← hH2, mn_upd]
  walk_at "go"
  refine s_rI ⟨by decide, by decide, by decide⟩ ?_
  walk_at "go"
  refine s_dec (fun hge => ?_) (fun hge => ?_)
  · walk_at "go"
    refine s_setL hb2 (j := 2) rfl ?_
    have hg2 : (0 : Int) ≤ ns[j] := Int.le_trans (by decide) hge
    refine take_end (bag_upd (i := (j : Int) + 1) (g := ns[j]) (z := y) rfl hc2 hcb (by omega) hg2 m1 m2) hn hn2 fun r H' h1 h2 h3 h4 => k' r H' h1 h2 h3 ?_
    rw [hm2, ← h4, mn_upd]
  · refine s_next ?_
    refine take_end ⟨ns, (j : Int) + 1, g, y, hb2, hc2, hcb, by omega, hg, m1, m2⟩ hn hn2 fun r H' h1 h2 h3 h4 => k' r H' h1 h2 h3 ?_
    rw [hm2, ← h4]

theorem seq_mn {a b : Addr} {xs : List V} (h : SqL K (mn H b) a xs) : SqL K H a xs := Same.seq (mn_same H b) h
theorem seqT_mn {a b : Addr} {xs : List V} (h : SqT K (mn H b) a xs) : SqT K H a xs := Same.seqT (mn_same H b) h
theorem mem_at {xs : List V} {r : Int} (h0 : 0 ≤ r) (h1 : r < xs.length) : ∃ x, atI xs r = some x ∧ x ∈ xs := by
  obtain ⟨j, rfl⟩ := Int.eq_ofNat_of_zero_le h0
  have hj : j < xs.length := by omega
  exact ⟨xs[j], atI_nat (List.getElem?_eq_getElem hj), List.getElem_mem hj⟩
theorem rd__law_of {b c : Addr} {w : V} {M : V → Prop} (B : Bag H b c) (hD : Drawn K (mn H b) w M) (k : ∀ x H', M x → Bag H' b c → Same (mn H b) (mn H' b) → Q x H') : t__law_of K (Dn Q) [some (.ref b), some w] H := by
  unfold t__law_of
  walk_at "go"
  cases hD with
  | @lst p xs hx hne hz =>
    refine s_lenL (seq_mn hx) ?_
    walk_at "go"
    have hpos : 0 < xs.length := List.length_pos_iff.mpr hne
    refine s_sp2 ⟨b, c, _, rfl, rfl, B, by omega, by omega, fun r H1 h0 h1 B1 e1 => ?_⟩
    obtain ⟨x, hx1, hx2⟩ := mem_at h0 h1
    exact s_ixL (seq_mn (Same.seq e1 hx)) hx1 (k x H1 hx2 B1 e1)
  | @tup p xs hx hne hz =>
    refine s_lenT (seqT_mn hx) ?_
    walk_at "go"
    have hpos : 0 < xs.length := List.length_pos_iff.mpr hne
    refine s_sp2 ⟨b, c, _, rfl, rfl, B, by omega, by omega, fun r H1 h0 h1 B1 e1 => ?_⟩
    obtain ⟨x, hx1, hx2⟩ := mem_at h0 h1
    exact s_ixT (seqT_mn (Same.seqT e1 hx)) hx1 (k x H1 hx2 B1 e1)
  | @str s hne hz =>
    refine s_lenS hz ?_
    walk_at "go"
    have hpos : 0 < s.length := by rw [TL.len_tl]; exact List.length_pos_iff.mpr hne
    refine s_sp2 ⟨b, c, _, rfl, rfl, B, by omega, by omega, fun r H1 h0 h1 B1 e1 => ?_⟩
    obtain ⟨j, rfl⟩ := Int.eq_ofNat_of_zero_le h0
    have hj : j < s.cps.toList.length := by rw [← TL.tl, ← TL.len_tl]; omega
    exact s_ixS hz (atI_nat (List.getElem?_eq_getElem hj)) (k _ H1 ⟨_, List.getElem_mem hj, rfl⟩ B1 e1)
/-! ### values laid in a row, with what they hold -/
/-- a new tuple beside the bag -/
theorem new_tup {b p : Addr} {xs : List V} {ds : List PyData} (hp : H p = none) (hb : H b ≠ none) (h : RpA K (mn H b) xs ds) (hz : ds.length ≤ 100000) : Rp K (mn (L2.upd H p (.tup xs)) b) (.ref p) (.tuple ds) := by
  have hpb : p ≠ b := fun e => hb (by rw [← e]; exact hp)
  exact Rp.tup (SqT.of (by rw [mn_ne hpb]; exact upd_same)) (h.mono (mn_new hp hb)) (by rw [h.length]; exact hz)
theorem new_lst {b p : Addr} {xs : List V} {ds : List PyData} (hp : H p = none) (hb : H b ≠ none) (h : RpA K (mn H b) xs ds) (hz : ds.length ≤ 100000) : Rp K (mn (L2.upd H p (.lst xs)) b) (.ref p) (.list ds) := by
  have hpb : p ≠ b := fun e => hb (by rw [← e]; exact hp)
  exact Rp.lst (SqL.of (by rw [mn_ne hpb]; exact upd_same)) (h.mono (mn_new hp hb)) (by rw [h.length]; exact hz)
/-- an argument list that leaves the bag: each value with its datum, at the heap's end -/
def ArgsD (K : PySem.W.Frag) (b c : Addr) (t : TA) (σ : L2.St) (ds : List PyData) (H : Hp) : Prop := ∀ H1, Bag H1 b c → Same (mn H b) (mn H1 b) → ∀ QA : List V → Hp → Prop,
  (∀ vs H2, RpA K (mn H2 b) vs ds → Bag H2 b c → Same (mn H1 b) (mn H2 b) → QA vs H2) → t σ H1 QA
def ExprD (K : PySem.W.Frag) (b c : Addr) (t : TE) (σ : L2.St) (d : PyData) (H : Hp) : Prop := ∀ H1, Bag H1 b c → Same (mn H b) (mn H1 b) → ∀ Q : VK,
  (∀ v H2, Rp K (mn H2 b) v d → Bag H2 b c → Same (mn H1 b) (mn H2 b) → Q v H2) → t σ H1 Q
section
variable {b c : Addr} {σ : L2.St} {ds : List PyData} {t : TA} {te : TE}
theorem ad_nil : ArgsD K b c tNil σ [] H := fun H1 B e QA k => k [] H1 .nil B (Same.refl _)
theorem ad_cons (h : ExprD K b c te σ d H) (hr : ArgsD K b c t σ ds H) : ArgsD K b c (tCons te t) σ (d :: ds) H := fun H1 B e QA k =>
  h H1 B e _ fun v H2 hv B2 e2 => hr H2 B2 (e.trans e2) _ fun vs H3 hvs B3 e3 => k (v :: vs) H3 (.cons (hv.mono e3) hvs) B3 (e2.trans e3)
theorem ed_c {v : V} (h : ∀ H', Rp K H' v d) : ExprD K b c (tC v) σ d H := fun H1 B e Q k => k v H1 (h _) B (Same.refl _)
theorem ed_int (i : Int) : ExprD K b c (tC (.int i)) σ (.int i) H := ed_c fun _ => .int i
theorem ed_bl (i : Bool) : ExprD K b c (tC (.bl i)) σ (.bool i) H := ed_c fun _ => .bl i
theorem ed_non : ExprD K b c (tC .non) σ .none H := ed_c fun _ => .non
theorem ed_str (x : Str) (hx : Sok x) : ExprD K b c (tC (.str x)) σ (.str x) H := ed_c fun _ => .str x hx
theorem ed_var {i : Nat} {v : V} (h : σ[i]? = some (some v)) (hv : Rp K (mn H b) v d) : ExprD K b c (tVar i) σ d H := fun H1 B e Q k => s_var h (k v H1 (hv.mono e) B (Same.refl _))
theorem ed_sub {i j : Int} : ExprD K b c (tOp uSub (tC (.int i)) (tC (.int j))) σ (.int (i - j)) H := fun H1 B e Q k => s_op (s_c (s_c (s_rI0 (k _ H1 (.int _) B (Same.refl _)))))
theorem ed_tup (h : ArgsD K b c t σ ds H) (hz : ds.length ≤ 100000) : ExprD K b c (tTup t) σ (.tuple ds) H := fun H1 B e Q k =>
  h H1 B e _ fun vs H2 hvs B2 e2 => ⟨by rw [hvs.length]; exact Nat.le_trans hz (by decide), fun p hp => k (.ref p) _ (new_tup hp (bag_some B2) hvs hz) (B2.same (same_new hp)) (e2.trans (mn_new hp (bag_some B2)))⟩
theorem ed_lst (h : ArgsD K b c t σ ds H) (hz : ds.length ≤ 100000) : ExprD K b c (tLst t) σ (.list ds) H := fun H1 B e Q k =>
  h H1 B e _ fun vs H2 hvs B2 e2 => ⟨by rw [hvs.length]; exact Nat.le_trans hz (by decide), fun p hp => k (.ref p) _ (new_lst hp (bag_some B2) hvs hz) (B2.same (same_new hp)) (e2.trans (mn_new hp (bag_some B2)))⟩
theorem ed_dict0 : ExprD K b c tDNewK σ (.dict []) H := fun H1 B e Q k p hp => by
  have hpb : p ≠ b := fun e => (bag_some B) (by rw [← e]; exact hp)
  exact k (.ref p) _ (Rp.dct (kvs := []) (by rw [mn_ne hpb]; exact upd_same) .nil (by simp)) (B.same (same_new hp)) (mn_new hp (bag_some B))
theorem ed_dictA (x : Str) (hx : Sok x) (i : Int) : ExprD K b c (tDisp [((tC (.str x)), (tC (.int i)))]) σ (.dict [(.str x, .int i)]) H := fun H1 B e Q k p hp => by
  have hpb : p ≠ b := fun e => (bag_some B) (by rw [← e]; exact hp)
  refine ⟨upd_same, [(Sum.inr x, .int i)], rfl, by simp, ?_⟩
  rw [upd_upd]
  exact k (.ref p) _ (Rp.dct (kvs := [(Sum.inr x, .int i)]) (by rw [mn_ne hpb]; exact upd_same) (.consS hx (.int i) .nil) (by simp)) (B.same (same_new hp)) (mn_new hp (bag_some B))
end
theorem rd__law_odd {b c : Addr} (B : Bag H b c) (k : ∀ x d H', d ∈ odds → Rp K (mn H' b) x d → Bag H' b c → Same (mn H b) (mn H' b) → Q x H') : t__law_odd K (Dn Q) [some (.ref b)] H := by
  unfold t__law_odd
  refine s_ret (s_call (s_cons (s_var rfl (s_cons ?_))))
  have h : ArgsD K b c _ [some (V.ref b)] odds H := ad_cons ed_non (ad_cons (ed_bl true) (ad_cons (ed_bl false) (ad_cons (ed_str "" (sok_lit (by decide +kernel))) (ad_cons (ed_str "A" (sok_lit (by decide +kernel))) (ad_cons (ed_str "abcdefg" (sok_lit (by decide +kernel)))
    (ad_cons (ed_str "a b" (sok_lit (by decide +kernel))) (ad_cons (ed_str "a1" (sok_lit (by decide +kernel))) (ad_cons (ed_tup (ad_cons (ed_str "a" (sok_lit (by decide +kernel))) ad_nil) (by decide)) (ad_cons (ed_tup (ad_cons (ed_str "a" (sok_lit (by decide +kernel))) (ad_cons (ed_int 9) ad_nil)) (by decide))
    (ad_cons (ed_tup (ad_cons (ed_str "a" (sok_lit (by decide +kernel))) (ad_cons (ed_bl true) ad_nil)) (by decide)) (ad_cons (ed_tup (ad_cons (ed_str "A" (sok_lit (by decide +kernel))) (ad_cons (ed_int 1) ad_nil)) (by decide)) (ad_cons ed_dict0 (ad_cons (ed_dictA "a" (sok_lit (by decide +kernel)) 1)
    (ad_cons (ed_tup (ad_cons (ed_int 1) (ad_cons (ed_int 2) ad_nil)) (by decide)) ad_nil))))))))))))))
  refine ed_lst h (by decide) H B (Same.refl _) _ fun v H2 hv B2 e2 => ?_
  obtain ⟨p, xs, rfl, hs, ha⟩ := hv.lst'
  refine s_nil (s_sp2 ⟨b, c, _, rfl, B2, .lst hs (fun z => ?_) ?_, fun x H3 hx B3 e3 => ?_⟩)
  · subst z; cases ha
  · rw [ha.length]; decide
  · obtain ⟨d, hd, hr⟩ := ha.mem hx
    exact k x d H3 hd (hr.mono e3) B3 (e2.trans e3)

/-! ### same: equal data -/
theorem kitAny2 {K : PySem.W.Frag} {T1 T2 : String} {d : PyData} (h1 : T1 ∈ tyAsked) (h2 : T2 ∈ tyAsked) : PySem.W.kitAny K (.type (tyN d)) [.type T1, .type T2] = some (isB d T1 || isB d T2) := by
  refine kitAny_cons (b := isB d T1) (kit_ty (isB_ok h1)) (fun hb => ?_) (fun hb => by rw [hb]; rfl)
  rw [hb, Bool.false_or]
  exact kitAny_cons (b := isB d T2) (kit_ty (isB_ok h2)) (fun hb => by rw [hb]; exact kitAny_nil) (fun hb => hb)
theorem s_isi2 {T1 T2 : String} (h : Rp K H v d) (h1 : T1 ∈ tyAsked) (h2 : T2 ∈ tyAsked) (k : ∀ H', Same H H' → Q (.bl (isB d T1 || isB d T2)) H') :
    [V.ty T1, V.ty T2].length ≤ sizeLine ∧ ∀ p, H p = none → uIsi K [v, .ref p] (L2.upd H p (.tup [.ty T1, .ty T2])) Q :=
  ⟨by show 2 ≤ sizeLine; decide, fun p hp => .inr ⟨v, p, [.ty T1, .ty T2], _, [.type T1, .type T2], _, rfl, upd_same, .cons (.ty T1) (.cons (.ty T2) .nil), (h.mono (same_new hp)).ty, kitAny2 h1 h2, k _ (same_new hp)⟩⟩
def pairD (q : PyData × PyData) : PyData := .tuple [q.1, q.2]
theorem items_rp {H' : Hp} (e : Same H H') : ∀ {kvs : List (Key × V)} {ds : List (PyData × PyData)} {ts : List Addr}, RpK K H kvs ds → Paired (fun (t : Addr) (q : Key × V) => H' t = some (.tup [kV q.1, q.2])) ts kvs → RpA K H' (ts.map V.ref) (ds.map pairD)
  | _, _, _, .nil, .nil => .nil
  | _, _, _, .consI h hr, .cons p pr => .cons (.tup (SqT.of p) (.cons (.int _) (.cons (h.mono e) .nil)) (by simp)) (items_rp e hr pr)
  | _, _, _, .consS l h hr, .cons p pr => .cons (.tup (SqT.of p) (.cons (.str _ l) (.cons (h.mono e) .nil)) (by simp)) (items_rp e hr pr)
theorem rk_items : ∀ (ds : List (PyData × PyData)), rkL (ds.map pairD) ≤ rkK ds + 1
  | [] => Nat.zero_le _
  | (a, b) :: ds => by
    have ih := rk_items ds
    show max (rk (pairD (a, b))) (rkL (ds.map pairD)) ≤ max (max (rk a) (rk b)) (rkK ds) + 1
    have e : rk (pairD (a, b)) = max (rk a) (rk b) + 1 := by simp [pairD, rk, rkL]
    omega
theorem s_items {te : TE} {σ : L2.St} {x : V} (ht : ∀ Q : VK, Q x H → te σ H Q) {ds : List (PyData × PyData)} (hx : Rp K H x (.dict ds)) (k : ∀ p H', Same H H' → Rp K H' (.ref p) (.list (ds.map pairD)) → Q (.ref p) H') : LiI.tListItems te σ H Q := by
  cases hx with
  | @dct a kvs _ h hr hz =>
    refine ht _ ⟨a, kvs, rfl, h, fun H' p ts e hp ht hpt hl hpd => k p H' e (.lst (SqL.of hl) (items_rp e hr hpd) (by rw [List.length_map, hpd.length]; exact hz))⟩
theorem rd__law_same {n : Nat} {w : V} {rec : Sp} (hv : Rp K H v d) (hw : Rp K H w d) (hn : rk d ≤ n) (k : ∀ H', Same H H' → Q (.bl true) H')
    (hrec : ∀ (v w : V) (H : Hp) (Q : VK) (E : XK) (d' : PyData), Rp K H v d' → Rp K H w d' → rk d' < n → (∀ H', Same H H' → Q (.bl true) H') → rec ([v, w] ++ []) H Q E) : t__law_same K rec (Dn Q) [some v, some w, none] H := by
  unfold t__law_same
  refine s_seq (s_ifS ?_)
  walk_at "go"
  by_cases hd : d = .none
  · subst hd
    cases hv
    cases hw
    show (if true = true then _ else _)
    walk_at "go"
    show (if true = true then _ else _)
    walk_at "go"
    exact k H (Same.refl H)
  have nv : decide (v = .non) = false := by cases hv <;> first | rfl | exact absurd rfl hd
  have nw : decide (w = .non) = false := by cases hw <;> first | rfl | exact absurd rfl hd
  rw [nw]
  walk_at "go"
  rw [nv]
  walk_at "go"
  refine s_isi2 hw m_list m_tuple fun H1 e1 => ?_
  have hv1 := hv.mono e1
  have hw1 := hw.mono e1
  walk_at "go"
  have nb : ∀ a : Bool, (!(a == a)) = false := fun a => by cases a <;> rfl
  refine s_bite (fun hb => ?_) (fun hb => ?_)
  · walk_at "go"
    rw [nb]
    walk_at "go"
    rw [nb]
    walk_at "go"
    -- lists and tuples alike
    obtain ⟨ds, hds, hlen, a, xs, rfl, c, ys, rfl, hx, hy, hlx, hly, hix, hiy⟩ : ∃ ds, (∀ e ∈ ds, rk e < n) ∧ ds.length ≤ 100000 ∧ ∃ a xs, v = .ref a ∧ ∃ c ys, w = .ref c ∧ RpA K H1 xs ds ∧ RpA K H1 ys ds ∧
        (∀ H', Same H1 H' → ∀ Q : VK, Q (.int xs.length) H' → uLen K [.ref a] H' Q) ∧ (∀ H', Same H1 H' → ∀ Q : VK, Q (.int ys.length) H' → uLen K [.ref c] H' Q) ∧
        (∀ H', Same H1 H' → ∀ (i : Int) x (Q : VK), atI xs i = some x → Q x H' → rIx K (.ref a) (.int i) H' Q) ∧ (∀ H', Same H1 H' → ∀ (i : Int) x (Q : VK), atI ys i = some x → Q x H' → rIx K (.ref c) (.int i) H' Q) := by
      cases d with
      | list ds =>
        obtain ⟨a, xs, rfl, hs, ha⟩ := hv1.lst'
        obtain ⟨c, ys, rfl, hs2, ha2⟩ := hw1.lst'
        refine ⟨ds, fun e he => ?_, Rp.len (.inr hv1), a, xs, rfl, c, ys, rfl, ha, ha2, fun H' e Q q => s_lenL (e.seq hs) q, fun H' e Q q => s_lenL (e.seq hs2) q, fun H' e i x Q hi q => s_ixL (e.seq hs) hi q, fun H' e i x Q hi q => s_ixL (e.seq hs2) hi q⟩
        have := rkL_mem he
        simp only [rk] at hn
        omega
      | tuple ds =>
        obtain ⟨a, xs, rfl, hs, ha⟩ := hv1.tup'
        obtain ⟨c, ys, rfl, hs2, ha2⟩ := hw1.tup'
        refine ⟨ds, fun e he => ?_, Rp.len (.inl hv1), a, xs, rfl, c, ys, rfl, ha, ha2, fun H' e Q q => s_lenT (Same.seqT e hs) q, fun H' e Q q => s_lenT (Same.seqT e hs2) q, fun H' e i x Q hi q => s_ixT (Same.seqT e hs) hi q, fun H' e i x Q hi q => s_ixT (Same.seqT e hs2) hi q⟩
        have := rkL_mem he
        simp only [rk] at hn
        omega
      | _ => simp [isB, isBS, tyN] at hb
    refine hlx H1 (Same.refl _) _ ?_
    walk_at "go"
    refine hly H1 (Same.refl _) _ ?_
    walk_at "go"
    rw [hx.length, hy.length]
    have e0 : decide ((ds.length : Int) = ds.length) = true := decide_eq_true rfl
    rw [e0]
    walk_at "go"
    refine hly H1 (Same.refl _) _ ?_
    walk_at "go"
    have hyl := hy.length
    refine ⟨_, rfl, by omega, by omega, ?_⟩
    refine lc_pure (Yl.rng 0 _) (fun _ => false) (fun y => y) (by rw [filtF]; simp) (fun _ => rfl) (fun x H' hm e QT q => ?_) (fun x H' hm hf => by cases hf) (fun Dl H' hD e hl => ?_)
    · obtain ⟨j, hj, rfl⟩ := List.mem_map.mp hm
      have hj' : j < ys.length := by simpa using hj
      have hjd : j < ds.length := by omega
      obtain ⟨x1, hx1, hr1⟩ := hx.get' (List.getElem?_eq_getElem hjd)
      obtain ⟨y1, hy1, hr2⟩ := hy.get' (List.getElem?_eq_getElem hjd)
      have ez : (0 : Int) + (j : Int) = (j : Int) := by omega
      rw [ez]
      walk_at "go"
      refine hix H' e _ _ _ (atI_nat hx1) ?_
      walk_at "go"
      refine hiy H' e _ _ _ (atI_nat hy1) ?_
      walk_at "go"
      refine hrec _ _ _ _ _ _ (hr1.mono e) (hr2.mono e) (hds _ (List.getElem_mem hjd)) fun H2 e2 => ?_
      walk_at "go"
      exact q H2 e2
    · rw [filtF] at hl
      walk_at "go"
      refine ⟨by show 0 ≤ sizeLine; decide, fun p hp => ?_⟩
      have e3 : Same H' (L2.upd H' p (.lst [])) := same_new hp
      refine .inr ⟨.list [], .list [], .lst (SqL.of (e3 _ _ hl)) .nil, .lst (SqL.of upd_same) .nil, rfl, rfl, ?_⟩
      exact k _ (e1.trans (e.trans e3))
  · walk_at "go"
    refine s_bite (fun hb2 => ?_) (fun hb2 => ?_)
    · walk_at "go"
      rw [hb2]
      walk_at "go"
      obtain ⟨ds, rfl⟩ := isB_dct hb2
      refine s_items (x := v) (fun Q q => s_var rfl q) hv1 fun p H2 e2 hp => ?_
      walk_at "go"
      refine s_items (x := w) (fun Q q => s_var rfl q) (hw1.mono e2) fun q H3 e3 hq => ?_
      walk_at "go"
      refine hrec _ _ _ _ _ _ (hp.mono e3) hq ?_ fun H4 e4 => ?_
      · have := rk_items ds
        simp only [rk] at hn ⊢
        omega
      · exact k H4 (e1.trans (e2.trans (e3.trans e4)))
    · walk_at "go"
      rw [nb]
      walk_at "go"
      rw [nb]
      walk_at "go"
      have nb2 : ∀ a : Bool, (a == a) = true := fun a => by cases a <;> rfl
      rw [nb2]
      walk_at "go"
      cases d with
      | none => exact absurd rfl hd
      | bool x =>
        cases hv; cases hw
        refine s_eqB ?_
        rw [nb2]
        exact k H1 e1
      | int x =>
        cases hv; cases hw
        refine s_eqI ?_
        rw [decide_eq_true rfl]
        exact k H1 e1
      | str x =>
        cases hv; cases hw
        refine s_eqS ?_
        rw [decide_eq_true rfl]
        exact k H1 e1
      | list ds => simp [isB, isBS, tyN] at hb
      | tuple ds => simp [isB, isBS, tyN] at hb
      | dict ds => simp [isB, isBS, tyN] at hb2
end
end SW

namespace SW
open PySem PySem.Spec PyProof.Rows L2
section
variable {K : PySem.W.Frag} {v : V} {H : Hp} {Q : VK} {d : PyData}
/-! ### names -/
def sg (z : Nat) : Str := ⟨#[z]⟩
theorem joinL_nil : ∀ parts : List (List Nat), TL.joinL [] parts = parts.flatten
  | [] => rfl
  | [p] => by show p = [p].flatten; simp
  | p :: q :: r => by
    show p ++ ([] ++ TL.joinL [] (q :: r)) = _
    rw [joinL_nil (q :: r)]
    simp
theorem join_sg (cs : List Nat) : Txt.join "" (cs.map sg) = ⟨cs.toArray⟩ := by
  refine TL.ext_tl ?_
  rw [TL.join_eq, TL.tl_join]
  have e : TL.tl ("" : Str) = [] := by decide +kernel
  rw [e, joinL_nil, TL.tl_mk, List.map_map]
  induction cs with
  | nil => rfl
  | cons a r ih => rw [List.map_cons, List.flatten_cons, ih]; rfl
theorem small_codes : SMALLs.cps.toList = [97, 98, 99, 100, 101, 102, 103, 104, 105, 106, 107, 108, 109, 110, 111, 112, 113, 114, 115, 116, 117, 118, 119, 120, 121, 122] := by decide +kernel
theorem small_iff (z : Nat) : z ∈ SMALLs.cps.toList ↔ 97 ≤ z ∧ z ≤ 122 := by
  rw [small_codes]
  simp
  omega
theorem small_len : SMALLs.length = 26 := by decide +kernel
/-- letters drawn, one by one -/
theorem lc_rnd {b c : Addr} {σ : L2.St} {j m : Nat} (B : Bag H b c) (h0 : ∀ y, ((wipe σ [j]).set j (some y))[0]? = some (some (.ref b))) (h3 : ∀ y, ((wipe σ [j]).set j (some y))[3]? = some (some (.str SMALLs)))
    (hw : ∀ y, wipe ((wipe σ [j]).set j (some y)) [j] = wipe σ [j]) (hm : m ≤ 1000)
    (k : ∀ (Dl : Addr) (cs : List Nat) (H' : Hp), H Dl = none → Bag H' b c → Same (mn H b) (mn H' b) → H' Dl = some (.lst ((cs.map sg).map V.str)) → cs.length = m → (∀ z ∈ cs, 97 ≤ z ∧ z ≤ 122) → Q (.ref Dl) H') :
    LcK (gName j) tYes (tCall (sp__law_of K) [] E0 (tCons (tVar 0) (tCons (tVar 3) tNil))) [j] σ Q (Itr 0 m) H := by
  intro Dl hD
  obtain ⟨nb, nc⟩ := bag_ne B hD
  refine lc_range (lo := 0) (n := m) (fun i H' => ∃ cs : List Nat, cs.length = i ∧ (∀ z ∈ cs, 97 ≤ z ∧ z ≤ 122) ∧ Bag H' b c ∧ Same (mn H b) (mn H' b) ∧ H' Dl = some (.lst ((cs.map sg).map V.str))) ?_ ?_ ?_
  · exact ⟨[], rfl, by simp, bag_mut B nb nc, mn_new hD (bag_some B), upd_same⟩
  · rintro i H1 hi ⟨cs, hl, hcs, B1, e1, hd⟩
    refine ⟨hw _, ?_⟩
    refine s_yes (L2.iteT ?_)
    refine s_call (s_cons (s_var (h0 _) (s_cons (s_var (h3 _) (s_nil ?_)))))
    refine s_sp2 ⟨b, c, _, rfl, B1, .str (by rw [small_codes]; simp) (by rw [small_len]; decide), fun x H2 hx B2 e2 => ?_⟩
    obtain ⟨z, hz, rfl⟩ := hx
    have hd2 : H2 Dl = some (.lst ((cs.map sg).map V.str)) := by
      have := e2 Dl _ (by rw [mn_ne nb]; exact hd)
      rw [mn_ne nb] at this
      exact this
    refine ⟨_, hd2, ?_, cs ++ [z], ?_, ?_, bag_mut B2 nb nc, ?_, ?_⟩
    · have : sizeLine = 16777216 := sizeLine_eq
      rw [List.length_map, List.length_map]; omega
    · rw [List.length_append, hl]; rfl
    · intro y hy
      rcases List.mem_append.mp hy with h | h
      · exact hcs y h
      · rw [List.mem_singleton.mp h]; exact (small_iff z).mp hz
    · intro a o e
      have ha : a ≠ Dl := ne_of_none (mn_at e).2 hD
      have hb : a ≠ b := (mn_at e).1
      have := e2 a o (e1 a o e)
      rw [mn_ne hb] at this ⊢
      rw [upd_ne ha]
      exact this
    · rw [upd_same]
      simp [sg]
  · rintro H1 ⟨cs, hl, hcs, B1, e1, hd⟩
    exact k Dl cs H1 hD B1 e1 hd hl hcs
/-- ''.join of them -/
theorem s_joinR {Dl : Addr} {cs : List Nat} (hd : H Dl = some (.lst ((cs.map sg).map V.str))) (hl : cs.length ≤ 1000) (k : Q (.str ⟨cs.toArray⟩) H) : m_join K (.str "") [.ref Dl] H Q := by
  refine ⟨"", Dl, cs.map sg, rfl, rfl, .inl (SqL.of hd), ?_, ?_⟩
  · have e : ((cs.map sg).map (·.length)).sum = cs.length := by
      clear hd hl k
      induction cs with
      | nil => rfl
      | cons a r ih =>
        rw [List.map_cons, List.map_cons, List.sum_cons, ih, List.length_cons]
        show 1 + r.length = _
        omega
    have e2 : ("" : Str).length = 0 := by decide +kernel
    rw [e, e2]
    omega
  · rw [join_sg]; exact k
/-- a name out of the draw: the stem, its letter, a tail -/
def letter (beg stp : Int) (i : Nat) : Nat := 97 + ((beg + stp * (i : Int)) % 26).toNat
theorem letter_inj {beg stp : Int} (hs : stp = 1 ∨ stp = 3 ∨ stp = 5 ∨ stp = 7 ∨ stp = 11 ∨ stp = 25) {i j : Nat} (hi : i < 26) (hj : j < 26) (e : letter beg stp i = letter beg stp j) : i = j := by
  unfold letter at e
  have h1 : 0 ≤ (beg + stp * (i : Int)) % 26 := Int.emod_nonneg _ (by decide)
  have h2 : 0 ≤ (beg + stp * (j : Int)) % 26 := Int.emod_nonneg _ (by decide)
  have e2 : (beg + stp * (i : Int)) % 26 = (beg + stp * (j : Int)) % 26 := by omega
  rcases hs with rfl | rfl | rfl | rfl | rfl | rfl <;> omega
def NamedSo (st : List Nat) (beg stp : Int) (i : Nat) (w : Str) : Prop := ∃ tail : List Nat, TL.tl w = st ++ letter beg stp i :: tail ∧ st.length + 1 + tail.length ≤ 6 ∧ ∀ z ∈ tail, 97 ≤ z ∧ z ≤ 122
theorem NamedSo.name {st : List Nat} {beg stp : Int} {i : Nat} {w : Str} (h : NamedSo st beg stp i w) (hst : ∀ z ∈ st, 97 ≤ z ∧ z ≤ 122) : isNameS w = true := by
  obtain ⟨tail, e, hl, ht⟩ := h
  have hlen : w.length = st.length + 1 + tail.length := by
    rw [TL.len_tl, e, List.length_append, List.length_cons]; omega
  unfold isNameS
  have h1 : 1 ≤ w.length := by omega
  have h2 : w.length ≤ 6 := by omega
  have h3 : allIn w SMALLs = true := by
    unfold allIn
    rw [List.all_eq_true]
    intro z hz
    refine decide_eq_true ((small_iff z).mpr ?_)
    have hz' : z ∈ TL.tl w := hz
    rw [e] at hz'
    rcases List.mem_append.mp hz' with h | h
    · exact hst z h
    · rcases List.mem_cons.mp h with rfl | h
      · unfold letter
        have h1 : 0 ≤ (beg + stp * (i : Int)) % 26 := Int.emod_nonneg _ (by decide)
        have h2 : (beg + stp * (i : Int)) % 26 < 26 := Int.emod_lt_of_pos _ (by decide)
        omega
      · exact ht z h
  rw [decide_eq_true h1, decide_eq_true h2, h3]
  rfl
theorem NamedSo.inj {st : List Nat} {beg stp : Int} (hs : stp = 1 ∨ stp = 3 ∨ stp = 5 ∨ stp = 7 ∨ stp = 11 ∨ stp = 25) {i j : Nat} (hi : i < 26) (hj : j < 26) {w : Str} (h1 : NamedSo st beg stp i w) (h2 : NamedSo st beg stp j w) : i = j := by
  obtain ⟨t1, e1, _⟩ := h1
  obtain ⟨t2, e2, _⟩ := h2
  rw [e1] at e2
  have := List.append_cancel_left e2
  injection this with e3 _
  exact letter_inj hs hi hj e3
theorem names_nodup {st : List Nat} {beg stp : Int} (hs : stp = 1 ∨ stp = 3 ∨ stp = 5 ∨ stp = 7 ∨ stp = 11 ∨ stp = 25) {ws : List Str} (hl : ws.length ≤ 26) (h : ∀ (i : Nat) w, ws[i]? = some w → NamedSo st beg stp i w) : ws.Nodup := by
  refine List.pairwise_iff_getElem.mpr fun i j hi hj hij e => ?_
  have h1 := h i ws[i] (List.getElem?_eq_getElem hi)
  have h2 := h j ws[j] (List.getElem?_eq_getElem hj)
  rw [← e] at h2
  have := NamedSo.inj hs (by omega) (by omega) h1 h2
  omega
theorem letter_at (beg stp : Int) (i : Nat) : atI SMALLs.cps.toList ((beg + stp * (i : Int)) % 26) = some (letter beg stp i) := by
  have h1 : 0 ≤ (beg + stp * (i : Int)) % 26 := Int.emod_nonneg _ (by decide)
  have h2 : (beg + stp * (i : Int)) % 26 < 26 := Int.emod_lt_of_pos _ (by decide)
  unfold letter
  generalize (beg + stp * (i : Int)) % 26 = r at h1 h2
  obtain ⟨m, rfl⟩ := Int.eq_ofNat_of_zero_le h1
  refine atI_nat ?_
  rw [small_codes]
  have h : ∀ m : Nat, m < 26 → ([97, 98, 99, 100, 101, 102, 103, 104, 105, 106, 107, 108, 109, 110, 111, 112, 113, 114, 115, 116, 117, 118, 119, 120, 121, 122] : List Nat)[m]? = some (97 + m) := by decide
  have := h m (by omega)
  rw [this]
  simp
theorem rd__law_names {b c : Addr} {n : Int} (B : Bag H b c) (hn0 : 0 ≤ n) (hn : n ≤ 26)
    (k : ∀ (p : Addr) (ws : List Str) (H' : Hp), H p = none → Bag H' b c → Same (mn H b) (mn H' b) → mn H' b p = some (.lst (ws.map V.str)) → (ws.length : Int) = n → (∀ w ∈ ws, isNameS w = true) → ws.Nodup → Q (.ref p) H') :
    t__law_names K (Dn Q) [some (.ref b), some (.int n), some (.int 6), none, none, none, none, none, none, none, none] H := by
  unfold t__law_names
  walk_at "gb"
  refine s_sp2 ⟨b, c, 6, rfl, rfl, B, by decide, by decide, fun r H1 r0 r1 B1 e1 => ?_⟩
  walk_at "gb"
  refine ⟨r, rfl, by omega, by omega, ?_⟩
  refine lc_rnd B1 (fun _ => rfl) (fun _ => rfl) (fun _ => rfl) (by omega) fun D1 st H2 hD1 B2 e2 hd1 hst hsl => ?_
  walk_at "gb"
  refine s_joinR hd1 (by omega) ?_
  walk_at "gb"
  refine s_sp2 ⟨b, c, 26, rfl, rfl, B2, by decide, by decide, fun beg H3 g0 g1 B3 e3 => ?_⟩
  walk_at "gb"
  refine ed_lst (K := K) (ds := [.int 1, .int 3, .int 5, .int 7, .int 11, .int 25]) (ad_cons (ed_int 1) (ad_cons (ed_int 3) (ad_cons (ed_int 5) (ad_cons (ed_int 7) (ad_cons (ed_int 11) (ad_cons (ed_int 25) ad_nil)))))) (by decide) H3 B3 (Same.refl _) _ fun v4 H4 hv4 B4 e4 => ?_
  obtain ⟨q4, xs4, rfl, hs4, ha4⟩ := hv4.lst'
  walk_at "gb"
  refine s_sp2 ⟨b, c, _, rfl, B4, .lst hs4 (fun z => by subst z; cases ha4) (by rw [ha4.length]; decide), fun v5 H5 hv5 B5 e5 => ?_⟩
  obtain ⟨d5, hd5, hr5⟩ := ha4.mem hv5
  obtain ⟨stp, rfl, hstp⟩ : ∃ stp, v5 = .int stp ∧ (stp = 1 ∨ stp = 3 ∨ stp = 5 ∨ stp = 7 ∨ stp = 11 ∨ stp = 25) := by
    simp only [List.mem_cons, List.not_mem_nil, or_false] at hd5
    rcases hd5 with rfl | rfl | rfl | rfl | rfl | rfl <;> (cases hr5; exact ⟨_, rfl, by simp⟩)
  walk_at "gb"
  refine s_lst (s_nil ⟨by show 0 ≤ sizeLine; decide, fun p hp => ?_⟩)
  obtain ⟨npb, npc⟩ := bag_ne B5 hp
  have e05 : Same (mn H b) (mn H5 b) := e1.trans (e2.trans (e3.trans (e4.trans e5)))
  have hp0 : H p = none := by
    have : mn H5 b p = none := by rw [mn_ne npb]; exact hp
    have := Same.free e05 this
    rw [mn_ne npb] at this
    exact this
  walk_at "gb"
  refine ⟨n, rfl, by omega, by omega, ?_⟩
  refine for_range (lo := 0) (n := n.toNat) (fun i σ' H' => ∃ (ws : List Str) (vk vt vj : Option V), σ' = [some (.ref b), some (.int n), some (.int 6), some (.str SMALLs), some (.str ⟨st.toArray⟩), vk, some (.int beg), some (.int stp), some (.ref p), vt, vj] ∧
    ws.length = i ∧ Bag H' b c ∧ Same (mn H b) (mn H' b) ∧ H' p = some (.lst (ws.map V.str)) ∧ ∀ (i : Nat) w, ws[i]? = some w → NamedSo st beg stp i w) ?_ ?_ ?_
  · exact ⟨[], _, _, _, rfl, rfl, bag_mut B5 npb npc, e05.trans (mn_new hp (bag_some B5)), upd_same, by simp⟩
  · rintro i σ' H6 hi ⟨ws, vk, vt, vj, rfl, hwl, B6, e6, hp6, hws⟩
    have ez : (0 : Int) + (i : Int) = (i : Int) := by omega
    rw [ez]
    have hstl : (⟨st.toArray⟩ : Str).length = st.length := by simp [Str.length]
    walk_at "gb"
    refine s_lenS (by rw [hstl]; omega) ?_
    walk_at "gb"
    refine s_sp2 ⟨b, c, _, rfl, rfl, B6, by rw [hstl]; omega, by omega, fun r7 H7 r70 r71 B7 e7 => ?_⟩
    walk_at "gb"
    refine ⟨r7, rfl, by omega, by omega, ?_⟩
    rw [hstl] at r71
    refine lc_rnd B7 (fun _ => rfl) (fun _ => rfl) (fun _ => rfl) (by omega) fun D8 tail H8 hD8 B8 e8 hd8 htl htr => ?_
    walk_at "gb"
    refine s_joinR hd8 (by omega) ?_
    walk_at "gb"
    have hp8 : H8 p = some (.lst (ws.map V.str)) := by
      have := (e7.trans e8) p _ (by rw [mn_ne npb]; exact hp6)
      rw [mn_ne npb] at this
      exact this
    refine s_tyL (SqL.of hp8) ?_
    walk_at "gb"
    refine s_rI (.inl ⟨by rcases hstp with rfl | rfl | rfl | rfl | rfl | rfl <;> decide, by rcases hstp with rfl | rfl | rfl | rfl | rfl | rfl <;> decide⟩) ?_
    walk_at "gb"
    refine s_rI (by decide) ?_
    refine s_ixS (by rw [small_len]; decide) (letter_at beg stp i) ?_
    have hs1 : (⟨#[letter beg stp i]⟩ : Str).length = 1 := rfl
    have htl2 : (⟨tail.toArray⟩ : Str).length = tail.length := by simp [Str.length]
    have hline : sizeLine = 16777216 := sizeLine_eq
    refine s_addS (by rw [hstl, hs1]; omega) ?_
    walk_at "gb"
    refine s_addS (by rw [len_app, hstl, hs1, htl2]; omega) ?_
    walk_at "gb"
    have hw2 : (ws.map V.str).length < 100000 := by rw [List.length_map]; omega
    refine s_append hp8 hw2 ?_
    refine ⟨ws ++ [(⟨st.toArray⟩ : Str) ++ ⟨#[letter beg stp i]⟩ ++ ⟨tail.toArray⟩], _, _, _, rfl, by rw [List.length_append, hwl]; rfl, bag_mut B8 npb npc, ?_, by rw [upd_same]; simp, fun j w hj => ?_⟩
    · intro a o e
      have ha : a ≠ p := ne_of_none (mn_at e).2 hp0
      have hb : a ≠ b := (mn_at e).1
      have := (e7.trans e8) a o (e6 a o e)
      rw [mn_ne hb] at this ⊢
      rw [upd_ne ha]
      exact this
    · by_cases hjl : j < ws.length
      · rw [List.getElem?_append_left hjl] at hj
        exact hws j w hj
      · have hj2 : j = i := by
          have := (List.getElem?_eq_some_iff.mp hj).1
          rw [List.length_append, List.length_singleton] at this
          omega
        subst hj2
        rw [List.getElem?_append_right (by omega), hwl, Nat.sub_self] at hj
        have hj := Option.some.inj hj
        subst hj
        refine ⟨tail, ?_, by omega, htr⟩
        rw [TL.tl_append, TL.tl_append, TL.tl_mk, TL.tl_mk, List.append_assoc]
        rfl
  · rintro σ' H6 ⟨ws, vk, vt, vj, rfl, hwl, B6, e6, hp6, hws⟩
    walk_at "gb"
    refine k p ws H6 hp0 B6 e6 (by rw [mn_ne npb]; exact hp6) (by omega) (fun w hw => ?_) (names_nodup hstp (by omega) hws)
    obtain ⟨j, hj⟩ := List.getElem?_of_mem hw
    exact (hws j w hj).name hsl
end
end SW

namespace SW
open PySem PySem.Spec PyProof.Rows L2
/-! ### == of data without dicts -/
mutual
def noD : PyData → Bool
  | .list ds => noDL ds
  | .tuple ds => noDL ds
  | .dict _ => false
  | _ => true
def noDL : List PyData → Bool
  | [] => true
  | d :: ds => noD d && noDL ds
end
mutual
theorem Rp.dp {K : PySem.W.Frag} {H : Hp} : ∀ {v : V} {d : PyData}, Rp K H v d → noD d = true → Dp K H v d ∧ PyData.canLay0 d = true
  | _, _, .non, _ => ⟨.non, rfl⟩
  | _, _, .bl b, _ => ⟨.bl b, rfl⟩
  | _, _, .int i, _ => ⟨.int i, rfl⟩
  | _, _, .str x h, _ => ⟨.str x, h.strOk⟩
  | _, _, .lst hs ha _, n => ⟨.lst hs (RpA.dp ha n).1, (RpA.dp ha n).2⟩
  | _, _, .tup hs ha _, n => ⟨.tup hs (RpA.dp ha n).1, (RpA.dp ha n).2⟩
  | _, _, .dct hs ha _, n => by cases n
theorem RpA.dp {K : PySem.W.Frag} {H : Hp} : ∀ {v : List V} {d : List PyData}, RpA K H v d → noDL d = true → DpAll K H v d ∧ PyData.canLayAll0 d = true
  | _, _, .nil, _ => ⟨.nil, rfl⟩
  | _, _, .cons h a, n => by
    obtain ⟨n1, n2⟩ := Bool.and_eq_true_iff.mp n
    have h1 := Rp.dp h n1
    have h2 := RpA.dp a n2
    exact ⟨.cons h1.1 h2.1, by show (_ && _) = true; rw [h1.2, h2.2]; rfl⟩
end
section
variable {K : PySem.W.Frag} {v w : V} {H : Hp} {Q : VK} {d e : PyData}
theorem shaped_of (h : Rp K H v d) (n : noD d = true) (z : PyData.depth d ≤ 64) : SeqAt.shaped d = true := by
  unfold SeqAt.shaped
  rw [(h.dp n).2, decide_eq_true z]
  rfl
theorem s_eqD (h1 : Rp K H v d) (h2 : Rp K H w e) (n1 : noD d = true) (n2 : noD e = true) (z1 : PyData.depth d ≤ 64) (z2 : PyData.depth e ≤ 64) (k : Q (.bl (PyData.eqv d e)) H) : uEq K v w H Q :=
  .inr ⟨d, e, (h1.dp n1).1, (h2.dp n2).1, shaped_of h1 n1 z1, shaped_of h2 n2 z2, k⟩
theorem s_neD (h1 : Rp K H v d) (h2 : Rp K H w e) (n1 : noD d = true) (n2 : noD e = true) (z1 : PyData.depth d ≤ 64) (z2 : PyData.depth e ≤ 64) (k : Q (.bl (!PyData.eqv d e)) H) : uNe K v w H Q :=
  .inr ⟨d, e, (h1.dp n1).1, (h2.dp n2).1, shaped_of h1 n1 z1, shaped_of h2 n2 z2, k⟩
theorem noDL_strs : ∀ l : List Str, noDL (l.map PyData.str) = true
  | [] => rfl
  | _ :: l => by show (true && noDL (l.map PyData.str)) = true; rw [noDL_strs l]; rfl
theorem depth_strs : ∀ l : List Str, PyData.depthAll (l.map PyData.str) = 0
  | [] => rfl
  | _ :: l => by show max 0 (PyData.depthAll (l.map PyData.str)) = 0; rw [depth_strs l]; rfl
theorem eqv_nil (ds : List PyData) : PyData.eqv (.list ds) (.list []) = ds.isEmpty := by cases ds <;> rfl
/-- signs of a text that are none of z -/
def bads (x z : Str) : List Str := (x.cps.toList.filter fun c => !decide (c ∈ z.cps.toList)).map fun c => ⟨#[c]⟩
theorem bads_empty (x z : Str) : ((bads x z).map PyData.str).isEmpty = allIn x z := by
  unfold bads allIn
  generalize x.cps.toList = l
  induction l with
  | nil => rfl
  | cons c r ih =>
    by_cases h : c ∈ z.cps.toList
    · rw [List.filter_cons_of_neg (by simp [h] at *), ih, List.all_cons, decide_eq_true h, Bool.true_and]
    · rw [List.filter_cons_of_pos (by simp only [Bool.not_eq_true', decide_eq_false_iff_not]; exact h), List.all_cons, decide_eq_false h, Bool.false_and]
      rfl
theorem s_bads {x z : Str} {σ : L2.St} {i j : Nat} (hx : σ[i]? = some (some (.str x))) (hj : ∀ y, wipe ((wipe σ [j]).set j (some y)) [j] = wipe σ [j]) (hg : ∀ y : V, ((wipe σ [j]).set j (some y))[j]? = some (some y)) (hz : Sok x)
    (k : ∀ Dl H', Same H H' → Rp K H' (.ref Dl) (.list ((bads x z).map PyData.str)) → Q (.ref Dl) H') :
    tLc (iAny K (tVar i)) (gName j) (tTest (tOp (uNi K) (tVar j) (tC (.str z)))) (tVar j) [j] σ H Q := by
  refine s_lc (i_str (s_var hx ⟨x, rfl, ?_⟩))
  have hlen : ((signs x).filter (fun y => match y with | .str w => !decide (w.cps.getD 0 0 ∈ z.cps.toList) | _ => false)).length ≤ 100000 := by
    refine Nat.le_trans (List.length_filter_le _ _) ?_
    rw [signs_length]; exact hz.len
  refine lc_pure (Yl.str x) (fun y => match y with | .str w => !decide (w.cps.getD 0 0 ∈ z.cps.toList) | _ => false) (fun y => y) hlen hj (fun y H' hm e QT q => ?_) (fun y H' hm _ e QV q => ?_) (fun Dl H' hD e hl => ?_)
  · obtain ⟨c, hc, rfl⟩ := List.mem_map.mp hm
    refine s_test (s_op (s_var (hg _) (s_c (s_niC (s_exB ?_)))))
    exact q H' (Same.refl _)
  · obtain ⟨c, hc, rfl⟩ := List.mem_map.mp hm
    exact s_var (hg _) (q H' (Same.refl _))
  · refine k Dl H' e ?_
    have el : (signs x).filter (fun y => match y with | .str w => !decide (w.cps.getD 0 0 ∈ z.cps.toList) | _ => false) = (bads x z).map V.str := by
      unfold signs bads
      rw [List.filter_map, List.map_map]
      rfl
    rw [el, List.map_id'] at hl
    refine Rp.lst (SqL.of hl) ?_ ?_
    · have hsub : ∀ w ∈ bads x z, Sok w := by
        intro w hw
        unfold bads at hw
        obtain ⟨c, hc, rfl⟩ := List.mem_map.mp hw
        exact ⟨by show 1 ≤ 100000; decide, fun y hy => by
          rw [show (⟨#[c]⟩ : Str).cps.toList = [c] from rfl] at hy
          rw [List.mem_singleton.mp hy]
          exact hz.ok c (List.mem_filter.mp hc).1⟩
      clear hl el hlen
      generalize bads x z = l at hsub
      induction l with
      | nil => exact .nil
      | cons a r ih => exact .cons (.str a (hsub a (List.mem_cons_self ..))) (ih fun w hw => hsub w (List.mem_cons_of_mem _ hw))
    · rw [List.length_map]
      have : (bads x z).length ≤ x.cps.toList.length := by
        unfold bads
        rw [List.length_map]
        exact List.length_filter_le _ _
      have h2 := hz.len
      rw [TL.len_tl] at h2
      exact Nat.le_trans this h2
/-- .. == []: a new empty list -/
theorem s_eqNew {a : Addr} {l : List Str} (h : Rp K H (.ref a) (.list (l.map PyData.str))) {σ : L2.St} (k : ∀ H', Same H H' → Q (.bl (l.map PyData.str).isEmpty) H') : tLst tNil σ H fun y H2 => uEq K (.ref a) y H2 Q :=
  s_lst (s_nil ⟨by show 0 ≤ sizeLine; decide, fun p hp => s_eqD (h.mono (same_new hp)) (.lst (SqL.of upd_same) .nil (by simp)) (noDL_strs l) rfl (by show PyData.depthAll _ + 1 ≤ 64; rw [depth_strs]; decide) (by decide) (by rw [eqv_nil]; exact k _ (same_new hp))⟩)
theorem s_neNew {a : Addr} {l : List Str} (h : Rp K H (.ref a) (.list (l.map PyData.str))) {σ : L2.St} (k : ∀ H', Same H H' → Q (.bl (!(l.map PyData.str).isEmpty)) H') : tLst tNil σ H fun y H2 => uNe K (.ref a) y H2 Q :=
  s_lst (s_nil ⟨by show 0 ≤ sizeLine; decide, fun p hp => s_neD (h.mono (same_new hp)) (.lst (SqL.of upd_same) .nil (by simp)) (noDL_strs l) rfl (by show PyData.depthAll _ + 1 ≤ 64; rw [depth_strs]; decide) (by decide) (by rw [eqv_nil]; exact k _ (same_new hp))⟩)
end
end SW

namespace SW
open PySem PySem.Spec PyProof.Rows L2
section
variable {K : PySem.W.Frag} {v : V} {H : Hp} {Q : VK} {d : PyData} {E : XK}
/-! ### drawn out of a list that is written there -/
def EP (K : PySem.W.Frag) (b c : Addr) (t : TE) (σ : L2.St) (P : PyData → Prop) (H : Hp) : Prop := ∀ H1, Bag H1 b c → Same (mn H b) (mn H1 b) → ∀ Q : VK,
  (∀ v d H2, Rp K (mn H2 b) v d → P d → Bag H2 b c → Same (mn H1 b) (mn H2 b) → Q v H2) → t σ H1 Q
def AP (K : PySem.W.Frag) (b c : Addr) (t : TA) (σ : L2.St) (P : PyData → Prop) (n : Nat) (H : Hp) : Prop := ∀ H1, Bag H1 b c → Same (mn H b) (mn H1 b) → ∀ QA : List V → Hp → Prop,
  (∀ vs ds H2, RpA K (mn H2 b) vs ds → ds.length = n → (∀ d ∈ ds, P d) → Bag H2 b c → Same (mn H1 b) (mn H2 b) → QA vs H2) → t σ H1 QA
variable {b c : Addr} {σ : L2.St} {P : PyData → Prop} {te : TE} {t : TA} {n : Nat} {ds : List PyData}
theorem ep_ed (h : ExprD K b c te σ d H) (hp : P d) : EP K b c te σ P H := fun H1 B e Q k => h H1 B e _ fun v H2 hv B2 e2 => k v d H2 hv hp B2 e2
theorem ap_nil : AP K b c tNil σ P 0 H := fun H1 B e QA k => k [] [] H1 .nil rfl (fun _ h => nomatch h) B (Same.refl _)
theorem ap_cons (h : EP K b c te σ P H) (hr : AP K b c t σ P n H) : AP K b c (tCons te t) σ P (n + 1) H := fun H1 B e QA k =>
  h H1 B e _ fun v d H2 hv hp B2 e2 => hr H2 B2 (e.trans e2) _ fun vs ds H3 hvs hl hps B3 e3 =>
    k (v :: vs) (d :: ds) H3 (.cons (hv.mono e3) hvs) (by rw [List.length_cons, hl]) (fun q hq => by
      rcases List.mem_cons.mp hq with rfl | hq
      · exact hp
      · exact hps q hq) B3 (e2.trans e3)
theorem ap_ad (h : ArgsD K b c t σ ds H) (hp : ∀ d ∈ ds, P d) : AP K b c t σ P ds.length H := fun H1 B e QA k => h H1 B e _ fun vs H2 hvs B2 e2 => k vs ds H2 hvs rfl hp B2 e2
theorem draw_seq {w : V} (B : Bag H b c) (hw : Rp K (mn H b) w (.list ds) ∨ Rp K (mn H b) w (.tuple ds)) (hn : ds ≠ []) (hz : ds.length ≤ 100000) (hp : ∀ d ∈ ds, P d) (k : ∀ v d H2, Rp K (mn H2 b) v d → P d → Bag H2 b c → Same (mn H b) (mn H2 b) → Q v H2) :
    sp__law_of K [.ref b, w] H Q E := by
  rcases hw with hw | hw
  · obtain ⟨p, xs, rfl, hs, ha⟩ := hw.lst'
    refine ⟨_, _, rfl, b, c, _, rfl, B, .lst hs (fun z => ?_) (by rw [ha.length]; exact hz), fun x H3 hx B3 e3 => ?_⟩
    · subst z; cases ha; exact hn rfl
    · obtain ⟨d, hd, hr⟩ := ha.mem hx
      exact k x d H3 (hr.mono e3) (hp d hd) B3 e3
  · obtain ⟨p, xs, rfl, hs, ha⟩ := hw.tup'
    refine ⟨_, _, rfl, b, c, _, rfl, B, .tup hs (fun z => ?_) (by rw [ha.length]; exact hz), fun x H3 hx B3 e3 => ?_⟩
    · subst z; cases ha; exact hn rfl
    · obtain ⟨d, hd, hr⟩ := ha.mem hx
      exact k x d H3 (hr.mono e3) (hp d hd) B3 e3
theorem draw_lst (B : Bag H b c) (h : AP K b c t σ P n H) (hn : 0 < n) (hz : n ≤ 100000) (k : ∀ v d H2, Rp K (mn H2 b) v d → P d → Bag H2 b c → Same (mn H b) (mn H2 b) → Q v H2) :
    tLst t σ H fun x H1 => tNil σ H1 fun xs H2 => sp__law_of K ((.ref b :: x :: xs) ++ []) H2 Q E :=
  s_lst (h H B (Same.refl _) _ fun vs ds H2 hvs hl hps B2 e2 => ⟨by rw [hvs.length, hl]; exact Nat.le_trans hz (by decide), fun p hp => s_nil (draw_seq (B2.same (same_new hp)) (.inl (new_lst hp (bag_some B2) hvs (by rw [hl]; exact hz)))
    (fun z => by subst z; simp at hl; omega) (by rw [hl]; exact hz) hps fun v d H3 hv hp3 B3 e3 => k v d H3 hv hp3 B3 (e2.trans ((mn_new hp (bag_some B2)).trans e3)))⟩)
theorem draw_ad (B : Bag H b c) (h : ArgsD K b c t σ ds H) (hn : 0 < ds.length) (hz : ds.length ≤ 100000) (k : ∀ v d H2, d ∈ ds → Rp K (mn H2 b) v d → Bag H2 b c → Same (mn H b) (mn H2 b) → Q v H2) :
    tLst t σ H fun x H1 => tNil σ H1 fun xs H2 => sp__law_of K ((.ref b :: x :: xs) ++ []) H2 Q E :=
  draw_lst B (ap_ad (P := fun d => d ∈ ds) h fun _ h => h) hn hz fun v d H2 h1 h2 => k v d H2 h2 h1
theorem new_ad (B : Bag H b c) (h : ArgsD K b c t σ ds H) (hz : ds.length ≤ 100000) (k : ∀ p H2, Rp K (mn H2 b) (.ref p) (.list ds) → Bag H2 b c → Same (mn H b) (mn H2 b) → Q (.ref p) H2) : tLst t σ H Q :=
  h H B (Same.refl _) _ fun vs H2 hvs B2 e2 => ⟨by rw [hvs.length]; exact Nat.le_trans hz (by decide), fun p hp => k p _ (new_lst hp (bag_some B2) hvs hz) (B2.same (same_new hp)) (e2.trans (mn_new hp (bag_some B2)))⟩
theorem new_adT (B : Bag H b c) (h : ArgsD K b c t σ ds H) (hz : ds.length ≤ 100000) (k : ∀ p H2, Rp K (mn H2 b) (.ref p) (.tuple ds) → Bag H2 b c → Same (mn H b) (mn H2 b) → Q (.ref p) H2) : tTup t σ H Q :=
  h H B (Same.refl _) _ fun vs H2 hvs B2 e2 => ⟨by rw [hvs.length]; exact Nat.le_trans hz (by decide), fun p hp => k p _ (new_tup hp (bag_some B2) hvs hz) (B2.same (same_new hp)) (e2.trans (mn_new hp (bag_some B2)))⟩
/-- a drawn thing among the items of a list -/
theorem ep_draw {i j : Nat} {w : V} (hi : σ[i]? = some (some (.ref b))) (hj : σ[j]? = some (some w)) (hw : Rp K (mn H b) w (.list ds)) (hn : ds ≠ []) (hz : ds.length ≤ 100000) (hp : ∀ d ∈ ds, P d) :
    EP K b c (tCall (sp__law_of K) [] E (tCons (tVar i) (tCons (tVar j) tNil))) σ P H := fun H1 B e Q k =>
  s_call (s_cons (s_var hi (s_cons (s_var hj (s_nil (draw_seq B (.inl (hw.mono e)) hn hz hp fun v d H2 h1 h2 B2 e2 => k v d H2 h1 h2 B2 e2))))))
/-! ### texts -/
theorem cutS_sub {x : Str} {lo hi : Option Int} {z : Nat} (h : z ∈ (cutS x lo hi).cps.toList) : z ∈ x.cps.toList := by
  unfold cutS at h
  exact List.mem_of_mem_drop (List.mem_of_mem_take h)
theorem Sok.cut {x : Str} (h : Sok x) (lo hi : Option Int) : Sok (cutS x lo hi) := ⟨Nat.le_trans (cutS_length x lo hi) h.len, fun c hc => h.ok c (cutS_sub hc)⟩
theorem Sok.app {x y : Str} (h : Sok x) (g : Sok y) (hz : x.length + y.length ≤ 100000) : Sok (x ++ y) := ⟨by rw [len_app]; exact hz, fun c hc => by
  have e : (x ++ y).cps.toList = x.cps.toList ++ y.cps.toList := TL.tl_append x y
  rw [e] at hc
  rcases List.mem_append.mp hc with hc | hc
  · exact h.ok c hc
  · exact g.ok c hc⟩
theorem s_addS' {a b : Str} (ha : a.length ≤ 100000) (hb : b.length ≤ 100000) (h : Q (.str (a ++ b)) H) : uAdd K (.str a) (.str b) H Q := s_addS (by have h : sizeLine = 16777216 := sizeLine_eq; omega) h
theorem isName_sok {x : Str} (h : isNameS x = true) : x.length ≤ 6 ∧ 1 ≤ x.length ∧ Sok x := by
  unfold isNameS at h
  rw [Bool.and_eq_true, Bool.and_eq_true] at h
  obtain ⟨h1, h2, h3⟩ := h
  have h1 := of_decide_eq_true h1
  have h2 := of_decide_eq_true h2
  refine ⟨h2, h1, by omega, fun z hz => ?_⟩
  have := List.all_eq_true.mp h3 z hz
  have := (small_iff z).mp (of_decide_eq_true this)
  omega
theorem s_catT {x y : V} {xs ys : List PyData} (hx : Rp K H x (.tuple xs)) (hy : Rp K H y (.tuple ys)) (hz : xs.length + ys.length ≤ 100000) (k : ∀ z H', Same H H' → Rp K H' z (.tuple (xs ++ ys)) → Q z H') : uAdd K x y H Q := by
  obtain ⟨p, us, rfl, hs, ha⟩ := hx.tup'
  obtain ⟨q, ws, rfl, hs2, ha2⟩ := hy.tup'
  have hl := ha.length
  have hl2 := ha2.length
  have hline : sizeLine = 16777216 := sizeLine_eq
  refine .inr (.inr (.inr ⟨p, q, us, ws, rfl, rfl, hs, hs2, by omega, fun e => ?_, fun _ e => ?_, fun _ _ r hr => ?_⟩))
  · subst e; cases ha; exact k _ H (Same.refl _) hy
  · subst e; cases ha2; rw [List.append_nil] at k; exact k _ H (Same.refl _) hx
  · exact k _ _ (same_new hr) (.tup (SqT.of upd_same) ((ha.append ha2).mono (same_new hr)) (by rw [List.length_append]; omega))
theorem s_catL {p q : Addr} {xs ys : List V} (hx : H p = some (.lst xs)) (hy : H q = some (.lst ys)) (hz : xs.length + ys.length ≤ 100000) (k : ∀ r H', H r = none → Same H H' → H' r = some (.lst (xs ++ ys)) → Q (.ref r) H') : uAdd K (.ref p) (.ref q) H Q :=
  .inr (.inr (.inl ⟨p, q, xs, ys, rfl, rfl, hx, hy, Nat.le_trans hz (by decide), fun r hr => k r _ hr (same_new hr) upd_same⟩))
theorem s_lstK {xs : List V} (hz : xs.length ≤ 100000) (k : ∀ p H', H p = none → Same H H' → H' p = some (.lst xs) → Q (.ref p) H') : xs.length ≤ sizeLine ∧ ∀ p, H p = none → Q (.ref p) (L2.upd H p (.lst xs)) :=
  ⟨Nat.le_trans hz (by decide), fun p hp => k p _ hp (same_new hp) upd_same⟩
theorem s_tupK {xs : List V} (hz : xs.length ≤ 100000) (k : ∀ p H', H p = none → Same H H' → H' p = some (.tup xs) → Q (.ref p) H') : xs.length ≤ sizeLine ∧ ∀ p, H p = none → Q (.ref p) (L2.upd H p (.tup xs)) :=
  ⟨Nat.le_trans hz (by decide), fun p hp => k p _ hp (same_new hp) upd_same⟩
theorem s_callN {n m : Nat} {sp : Sp} {gV : List V → List V → List V} {t tk : TA} {σ : L2.St} (h : t σ H fun vs H1 => tk σ H1 fun zs H2 => vs.length = n ∧ zs.length = m ∧ sp (gV vs zs) H2 Q E) : L2.tCallN n m sp gV E t tk σ H Q := h
theorem cutV_sub_len (xs : List V) (lo hi : Option Int) : (cutV xs lo hi).length ≤ xs.length := by
  unfold cutV
  rw [List.length_take, List.length_drop]
  omega
def cutD (xs : List PyData) (lo hi : Option Int) : List PyData := (xs.drop (HT.sIx xs.length 0 lo)).take (HT.sIx xs.length xs.length hi - HT.sIx xs.length 0 lo)
theorem RpA.cut {xs : List V} {ds : List PyData} (h : RpA K H xs ds) (lo hi : Option Int) : RpA K H (cutV xs lo hi) (cutD ds lo hi) := by
  unfold cutV cutD
  rw [h.length]
  exact (h.drop _).take _
theorem cutD_len (xs : List PyData) (lo hi : Option Int) : (cutD xs lo hi).length ≤ xs.length := by
  unfold cutD
  rw [List.length_take, List.length_drop]
  omega
theorem s_slT' {x : V} {ds : List PyData} {lo hi : Option Int} (hx : Rp K H x (.tuple ds)) (k : ∀ z H', Same H H' → Rp K H' z (.tuple (cutD ds lo hi)) → Q z H') : uSl K x lo hi H Q := by
  have hz := Rp.len (.inl hx)
  obtain ⟨p, us, rfl, hs, ha⟩ := hx.tup'
  refine s_slT hs fun q H' e hq => k _ H' e (.tup hq ((ha.cut lo hi).mono e) ?_)
  rw [(ha.cut lo hi).length]
  exact Nat.le_trans (cutD_len ds lo hi) hz
theorem s_slL' {x : V} {ds : List PyData} {lo hi : Option Int} (hx : Rp K H x (.list ds)) (k : ∀ q H', H q = none → Same H H' → Rp K H' (.ref q) (.list (cutD ds lo hi)) → Q (.ref q) H') : uSl K x lo hi H Q := by
  have hz := Rp.len (.inr hx)
  obtain ⟨p, us, rfl, hs, ha⟩ := hx.lst'
  refine s_slL hs fun q H' hn e hq => k _ H' hn e (.lst (SqL.of hq) ((ha.cut lo hi).mono e) ?_)
  rw [(ha.cut lo hi).length]
  exact Nat.le_trans (cutD_len ds lo hi) hz
/-! ### the same beside a bag -/
theorem mn_tup {p : Addr} {xs : List V} {ds : List PyData} (B : Bag H b c) (hp : H p = none) (h : RpA K (mn H b) xs ds) (hz : ds.length ≤ 100000) (k : ∀ q H', Bag H' b c → Same (mn H b) (mn H' b) → Rp K (mn H' b) (.ref q) (.tuple ds) → Q (.ref q) H') : Q (.ref p) (L2.upd H p (.tup xs)) :=
  k p _ (B.same (same_new hp)) (mn_new hp (bag_some B)) (new_tup hp (bag_some B) h hz)
theorem b_catT {x y : V} {xs ys : List PyData} (B : Bag H b c) (hx : Rp K (mn H b) x (.tuple xs)) (hy : Rp K (mn H b) y (.tuple ys)) (hz : xs.length + ys.length ≤ 100000) (k : ∀ z H', Bag H' b c → Same (mn H b) (mn H' b) → Rp K (mn H' b) z (.tuple (xs ++ ys)) → Q z H') : uAdd K x y H Q := by
  obtain ⟨p, us, rfl, hs, ha⟩ := hx.tup'
  obtain ⟨q, ws, rfl, hs2, ha2⟩ := hy.tup'
  have hl := ha.length
  have hl2 := ha2.length
  have hline : sizeLine = 16777216 := sizeLine_eq
  refine .inr (.inr (.inr ⟨p, q, us, ws, rfl, rfl, seqT_mn hs, seqT_mn hs2, by omega, fun e => ?_, fun _ e => ?_, fun _ _ r hr => ?_⟩))
  · subst e; cases ha; exact k _ H B (Same.refl _) hy
  · subst e; cases ha2; rw [List.append_nil] at k; exact k _ H B (Same.refl _) hx
  · exact mn_tup B hr (ha.append ha2) (by rw [List.length_append]; omega) fun q H' => k _ H'
theorem b_slT {x : V} {ds : List PyData} {lo hi : Option Int} (B : Bag H b c) (hx : Rp K (mn H b) x (.tuple ds)) (k : ∀ z H', Bag H' b c → Same (mn H b) (mn H' b) → Rp K (mn H' b) z (.tuple (cutD ds lo hi)) → Q z H') : uSl K x lo hi H Q := by
  have hz := Rp.len (.inl hx)
  obtain ⟨p, us, rfl, hs, ha⟩ := hx.tup'
  have hlen := Nat.le_trans (cutD_len ds lo hi) hz
  refine .inr (.inl ⟨p, us, rfl, seqT_mn hs, fun hw => k _ H B (Same.refl _) (.tup hs ?_ ?_), fun _ q hq => mn_tup B hq (ha.cut lo hi) hlen fun q H' => k _ H'⟩)
  · have := ha.cut lo hi
    rwa [cut_whole hw] at this
  · have := (ha.cut lo hi).length
    rw [cut_whole hw] at this
    rw [this]; exact hlen
/-- a tuple of what was found -/
theorem b_tup {xs : List V} {ds : List PyData} {f : V → Hp → Prop} (B : Bag H b c) (h : RpA K (mn H b) xs ds) (hz : ds.length ≤ 100000) (k : ∀ q H', Bag H' b c → Same (mn H b) (mn H' b) → Rp K (mn H' b) (.ref q) (.tuple ds) → f (.ref q) H') :
    xs.length ≤ sizeLine ∧ ∀ p, H p = none → f (.ref p) (L2.upd H p (.tup xs)) :=
  ⟨by rw [h.length]; exact Nat.le_trans hz (by decide), fun p hp => mn_tup B hp h hz k⟩
theorem b_lst {xs : List V} {ds : List PyData} {f : V → Hp → Prop} (B : Bag H b c) (h : RpA K (mn H b) xs ds) (hz : ds.length ≤ 100000) (k : ∀ q H', Bag H' b c → Same (mn H b) (mn H' b) → Rp K (mn H' b) (.ref q) (.list ds) → f (.ref q) H') :
    xs.length ≤ sizeLine ∧ ∀ p, H p = none → f (.ref p) (L2.upd H p (.lst xs)) :=
  ⟨by rw [h.length]; exact Nat.le_trans hz (by decide), fun p hp => k p _ (B.same (same_new hp)) (mn_new hp (bag_some B)) (new_lst hp (bag_some B) h hz)⟩
end
end SW

local macro_rules | `(tactic| walk_at "ad") => `(tactic| first
  | with_reducible exact SW.ad_nil | ((with_reducible apply SW.ad_cons); (walk_at "ad"); (walk_at "ad")) | with_reducible exact SW.ed_int _ | with_reducible exact SW.ed_bl _ | with_reducible exact SW.ed_non | ((with_reducible apply SW.ed_str); exact SW.sok_lit (by decide +kernel)) | with_reducible exact SW.ed_sub
  | ((with_reducible apply SW.ed_tup); (walk_at "ad"); exact Nat.le_of_ble_eq_true rfl) | ((with_reducible apply SW.ed_lst); (walk_at "ad"); exact Nat.le_of_ble_eq_true rfl) | with_reducible exact SW.ed_dict0 | exact SW.ed_var rfl (by walk_at "rp"))
namespace SW
open PySem PySem.Spec PyProof.Rows L2
section
variable {K : PySem.W.Frag} {vs : List V} {H : Hp} {Q : VK} {E : XK}
def spNo : Sp := fun _ _ _ _ => False
theorem fn_no {P : Program} {w : World} {mg : Str → Option Value} {base : Heap} {CX : CXT} {k : Nat} {f : Addr} {fd : FuncData} {ps : List Str} : FnOk P w K mg base CX k f fd ps spNo := ⟨fun _ _ _ _ h => h.elim, fun _ _ _ _ _ _ _ _ _ _ _ _ _ h => h.elim⟩
theorem in_is_whole (h : sp_is_whole K vs H Q E) : t_is_whole K (Dn Q) (start ["value"] vs) H := by obtain ⟨v, rfl, d, hd, k⟩ := h; exact rd_is_whole hd k
theorem in_is_number (h : sp_is_number K vs H Q E) : t_is_number K (Dn Q) (start ["value", "least", "most"] vs) H := by obtain ⟨_, _, _, rfl, d, i, j, hd, rfl, rfl, k⟩ := h; exact rd_is_number hd k
theorem in_is_name (h : sp_is_name K vs H Q E) : t_is_name K (Dn Q) (start ["value", "sign"] vs) H := by obtain ⟨v, rfl, d, hd, k⟩ := h; exact rd_is_name hd k
theorem in_is_standing (h : sp_is_standing K vs H Q E) : t_is_standing K (Dn Q) (start ["value"] vs) H := by obtain ⟨v, rfl, d, hd, k⟩ := h; exact rd_is_standing hd k
theorem in_is_place (h : sp_is_place K vs H Q E) : t_is_place K (Dn Q) (start ["value"] vs) H := by obtain ⟨v, rfl, d, hd, k⟩ := h; exact rd_is_place hd k
theorem in_is_key (h : sp_is_key K vs H Q E) : t_is_key K (Dn Q) (start ["value", "word", "rest"] vs) H := by obtain ⟨v, rfl, d, hd, k⟩ := h; exact rd_is_key hd k
theorem in_is_account (h : sp_is_account K vs H Q E) : t_is_account K (Dn Q) (start ["value", "yard", "mark", "hour"] vs) H := by obtain ⟨v, rfl, d, hd, k⟩ := h; exact rd_is_account hd k
theorem in_account_of (h : sp_account_of K vs H Q E) : t_account_of K (Dn Q) (start ["standing"] vs) H := by obtain ⟨v, rfl, x, n, hd, h1, h2, h3, k⟩ := h; exact rd_account_of hd h1 h2 h3 k
theorem in_number_in (h : sp_number_in K vs H Q E) : t_number_in K (Dn Q) (start ["text", "sign"] vs) H := by obtain ⟨v, rfl, d, hd, k⟩ := h; exact rd_number_in hd k
theorem in__law_bag (h : sp__law_bag K vs H Q E) : t__law_bag K (Dn Q) (start ["_law_script", "_law_cells"] vs) H := by obtain ⟨v, rfl, a, ns, rfl, hs, hl, k⟩ := h; exact rd__law_bag hs hl k
theorem in__law_take (h : sp__law_take K vs H Q E) : t__law_take K (Dn Q) (start ["_law_bag_here", "_law_size", "_law_cell", "_law_digit"] vs) H := by obtain ⟨_, _, rfl, b, c, n, rfl, rfl, B, h1, h2, k⟩ := h; exact rd__law_take B h1 h2 k
theorem in__law_of (h : sp__law_of K vs H Q E) : t__law_of K (Dn Q) (start ["_law_bag_here", "_law_some"] vs) H := by obtain ⟨_, _, rfl, b, c, M, rfl, B, hD, k⟩ := h; exact rd__law_of B hD k
abbrev spr__law_same (K : PySem.W.Frag) (n : Nat) : Sp := spSame K n
theorem in0__law_same (h : spSame K 0 vs H Q E) : t__law_same K spNo (Dn Q) (start ["_law_found", "_law_due", "_law_k"] vs) H := by
  obtain ⟨_, _, rfl, d, h1, h2, h3, k⟩ := h
  exact rd__law_same h1 h2 h3 k fun _ _ _ _ _ _ _ _ h => absurd h (Nat.not_lt_zero _)
theorem inS__law_same {n : Nat} (h : spSame K (n + 1) vs H Q E) : t__law_same K (spSame K n) (Dn Q) (start ["_law_found", "_law_due", "_law_k"] vs) H := by
  obtain ⟨_, _, rfl, d, h1, h2, h3, k⟩ := h
  exact rd__law_same h1 h2 h3 k fun v w H Q E d' q1 q2 q3 q4 => ⟨v, w, rfl, d', q1, q2, Nat.le_of_lt_succ q3, q4⟩
theorem in__law_names (h : sp__law_names K vs H Q E) : t__law_names K (Dn Q) (start ["_law_bag_here", "_law_count", "_law_cap", "_law_abc", "_law_stem", "_law_k", "_law_begin", "_law_step", "_law_found", "_law_tail", "_law_j"] vs) H := by
  obtain ⟨_, _, _, rfl, b, c, n, rfl, rfl, rfl, B, h1, h2, k⟩ := h; exact rd__law_names B h1 h2 k
theorem in__law_odd (h : sp__law_odd K vs H Q E) : t__law_odd K (Dn Q) (start ["_law_bag_here"] vs) H := by obtain ⟨_, rfl, b, c, rfl, B, k⟩ := h; exact rd__law_odd B k
end
end SW

namespace SW
open PySem PySem.Spec PyProof.Rows L2
/-! ### a method that says super(): its names, its context -/
structure SupScope (N P : List Str) (sc : Scope) : Prop where
  kind : sc.kind = .function
  co : sc.isCoroutine = false
  gen : sc.isGenerator = false
  nd : N.Nodup
  pre : N.take P.length = P
  par : ∀ x ∈ P, sc.names.lookup x = some .local
  nocell : ∀ y ∈ sc.names, y.2 ≠ .cell
  free : ∀ y ∈ sc.names, y.2 = .free → y.1 = "__class__"
  sup : sc.names.lookup ("super" : Str) = some .globalImplicit
  cls : sc.names.lookup ("__class__" : Str) = some .free
def cxSup (CX : CXT) (P : Program) (w : World) (K : PySem.W.Frag) (mg : Str → Option Value) (base : Heap) (N : List Str) (qual : Str) (scope : Scope) (f : Addr) (cd : Value) (cc : Addr) (A : Around) (outer : List Env) (s : Shared) (H : Hp) (E : XK) : Cx where
  prog := P
  w := w
  K := K
  mg := mg
  base := base
  A := A.deeper (PySem.W.ksEnv qual scope s.heap.objs.size f cd cc)
  N := N
  s_0 := s
  H_0 := H
  env := PySem.W.ksEnv qual scope s.heap.objs.size f cd cc
  outer := outer
  stack := PySem.W.ksEnv qual scope s.heap.objs.size f cd cc :: outer
  ex := []
  calm := true
  fn := fun _ => false
  pn := []
  xe := fun e s' => wpAny (model P w) (A.deeper (PySem.W.ksEnv qual scope s.heap.objs.size f cd cc)) (leaving (PySem.W.ksEnv qual scope s.heap.objs.size f cd cc) e) (fun _ s'' => CX outer H s E e s'') (fun e' s'' => CX outer H s E e' s'') s'
theorem zip_rev {y : Str} {u : Value} : ∀ {P : List Str} {us : List Value} {i : Nat}, P.Nodup → P[i]? = some y → us[i]? = some u → (P.zip us).reverse.lookup y = some u
  | [], _, _, _, h, _ => by simp at h
  | _ :: _, [], _, _, _, h => by simp at h
  | p :: P, w :: us, 0, nd, h1, h2 => by
    simp at h1 h2; subst h1; subst h2
    have hn : (P.zip us).reverse.lookup p = none := by
      rw [List.lookup_eq_none_iff]
      intro q hq
      have := (List.of_mem_zip (List.mem_reverse.mp hq)).1
      have hp := (List.nodup_cons.mp nd).1
      simp only [bne_iff_ne, beq_eq_false_iff_ne, ne_eq]
      intro z
      rw [← z] at this
      first | exact hp this | exact fun z => hp (z ▸ this)
    rw [List.zip_cons_cons, List.reverse_cons, List.lookup_append, hn]
    simp
  | p :: P, w :: us, i + 1, nd, h1, h2 => by
    rw [List.zip_cons_cons, List.reverse_cons, List.lookup_append, zip_rev (i := i) (List.nodup_cons.mp nd).2 (by simpa using h1) (by simpa using h2)]
    rfl
theorem inv_sup {CX : CXT} {P : Program} {w : World} {K : PySem.W.Frag} {mg : Str → Option Value} {base : Heap} {N ps : List Str} {qual : Str} {scope : Scope} {f cc : Addr} {cd : Value} {A : Around} {outer : List Env} {s : Shared} {H : Hp} {E : XK} {us : List Value} {vs : List V} {h₁ : Heap} {tk : Nat} {oc : Obj} {cv : Option Value}
    (S : SupScope N ps scope) (hd : A.handled = none) (e0 : Env0 P w K mg base A outer s H) (hl : vs.length = ps.length) (r : Vals vs us) (hcell : K.lookup cc = some oc) (hcd : oc.data = .cell cv)
    (hns : h₁.Ns s.heap.objs.size fun x => (ps.zip us).reverse.lookup x) (hk : ∀ b o, s.heap.get? b = some o → h₁.get? b = some o) :
    Inv (cxSup CX P w K mg base N qual scope f cd cc A outer s H E) [] (L2.start N vs) H { s with heap := h₁, toks := tk } := by
  have hpl : ps.length ≤ N.length := by have := congrArg List.length S.pre; rw [List.length_take] at this; omega
  have noA : ∀ b : Addr, b ∉ (cxSup CX P w K mg base N qual scope f cd cc A outer s H E).ex := fun b z => absurd (show b ∈ ([] : List Addr) from z) (by simp)
  have hcb : base.get? cc = some oc := e0.mod.kin _ _ hcell
  have one : ∀ {y : Str} {c : Addr}, ([("__class__", cc)] : List (Str × Addr)).lookup y = some c → y = "__class__" ∧ c = cc := fun {y c} h => by
    by_cases e : y = "__class__"
    · subst e
      exact ⟨rfl, (Option.some.inj (show some cc = some c from h)).symm⟩
    · have e' : (y == ("__class__" : Str)) = false := beq_eq_false_iff_ne.mpr e
      simp [List.lookup, e'] at h
  have cellH : h₁.IsCell cc cv := ⟨oc, hk _ _ (e0.bs _ _ hcb).1, hcd⟩
  refine ⟨⟨e0.mod, S.kind, rfl, rfl, Nat.le_refl _, fun y z c h1 h2 => ?_, fun y hy => ?_, fun y c z h => ?_, fun _ => hd, Around.frames_deeper e0.frames, .inr ⟨rfl, rfl⟩, fun b z => absurd z (noA b), e0.bs, e0.bsz, fun b _ _ => noA b, fun b z => absurd z (noA b), e0.funs, e0.frf⟩,
    rfl, e0.bare, Un.kept hk, ⟨_, hns, fun i y v h1 h2 h3 => ?_⟩, fun y c h => ?_, e0.hok.fresh (Nat.le_refl _), fun y c h => ?_, fun p hp => absurd (show p ∈ ([] : List (Addr × Obj)) from hp) (by simp), e0.hok.kept hk, ?_⟩
  · exact (one h1).1.trans (one h2).1.symm
  · have hy : scope.names.lookup y = some .cell ∨ scope.names.lookup y = some .free := hy
    rcases hy with hy | hy
    · exact absurd rfl (S.nocell _ (PySem.mem_of_lookup hy))
    · have e := S.free _ (PySem.mem_of_lookup hy) rfl
      have e : y = "__class__" := e
      subst e
      exact ⟨cc, rfl⟩
  · have z : false = true := z
    cases z
  · have hi : i < vs.length := by
      unfold L2.start at h2
      by_cases hi : i < vs.length
      · exact hi
      · rw [List.getElem?_append_right (by simpa using hi)] at h2
        rw [List.getElem?_replicate] at h2
        split at h2 <;> cases h2
    have ha : vs[i]? = some v := by
      unfold L2.start at h2
      rw [List.getElem?_append_left (by simpa using hi), List.getElem?_map] at h2
      cases e : vs[i]? with
      | none => rw [e] at h2; cases h2
      | some a => rw [e] at h2; cases h2; rfl
    obtain ⟨u, hu, rv⟩ := r.get ha
    have hp : ps[i]? = some y := by
      rw [← S.pre, List.getElem?_take_of_lt (by omega)]; exact h1
    have ndP : ps.Nodup := by rw [← S.pre]; exact S.nd.sublist (List.take_sublist _ _)
    exact ⟨u, rv, .inl ⟨S.par y (List.mem_of_getElem? hp), zip_rev ndP hp hu⟩⟩
  · obtain ⟨_, e⟩ := one h
    subst e
    exact ⟨cv, cellH⟩
  · obtain ⟨_, e⟩ := one h
    subst e
    exact (e0.bs _ _ hcb).2
  · unfold L2.start
    show _ = N.length
    rw [List.length_append, List.length_map, List.length_replicate]
    omega
/-- statements, at the code that runs them -/
structure PSsA (X : Cx) (b0 : List Stmt) (st : List Stmt) (t : TS) : Prop where
  run : ∀ (pins : List (Addr × Obj)) (s : Shared) (σ : L2.St) (H : Hp) (D : Ends), Inv X pins σ H s → t D σ H → _root_.PySem.wpAt (model X.prog X.w) X.A (.func b0 X.env) (execs st X.env) (SP X pins D) X.xe s
section
variable {X : Cx} {b0 st rest : List Stmt} {s1 : Stmt} {t u : TS}
theorem psa_of (h : PSs X st t) : PSsA X b0 st t := ⟨fun pins s σ H D I q => _root_.PySem.wpAt_of_wpAny (h.run pins s σ H D I q)⟩
theorem psa_cons (h1 : PS X s1 t) (h2 : PSsA X b0 rest u) : PSsA X b0 (s1 :: rest) (tSeq t u) := by
  refine ⟨fun pins s σ H D I h => ?_⟩
  refine ks_wpAt_execs_cons (_root_.PySem.wpAt_of_wpAny (thn (h1.run pins s σ H { D with nx := u D } I h) fun f s1 q => ?_))
  cases f with
  | next =>
    obtain ⟨σ', H', I', q⟩ := q
    exact h2.run pins s1 σ' H' D I' q
  | ret v => exact q
  | brk => exact q
  | cont => exact q
end
/-- THE RULE for a method that says super() -/
theorem fn_sup {CX : CXT} {P : Program} {w : World} {K : PySem.W.Frag} {mg : Str → Option Value} {base : Heap} {k : Nat} {f cc : Addr} {name qual : Str} {params : Arguments} {body : List Stmt} {scope : Scope} {dV kV doc pm cdv ct oc : Value} {an od : Option Addr}
    {osl : Array (Option Value)} {N ps : List Str} {sp : Sp} {ocl : Obj} {cv : Option Value} (lk : K.lookup f = some ⟨oc, od, .func (PySem.W.ksFn name qual params body scope dV kV doc pm an cdv ct cc), osl⟩) (hcd : PySem.W.codeIn K cdv qual = true) (S : SupScope N ps scope)
    (hcell : K.lookup cc = some ocl) (hcl : ocl.data = .cell cv) (len : ∀ vs H Q E, sp vs H Q E → vs.length = ps.length)
    (hbody : ∀ (A : Around) (outer : List Env) (s : Shared) (H : Hp) (vs : List V) (Q : VK) (E : XK), Room k (A.deeper (PySem.W.ksEnv qual scope s.heap.objs.size f cdv cc)) → sp vs H Q E →
      ∃ t, PSsA (cxSup CX P w K mg base N qual scope f cdv cc A outer s H E) body body t ∧ t { nx := fun _ H' => Q .non H', rt := Q } (L2.start N vs) H) :
    FnOk P w K mg base CX (k + 1) f (PySem.W.ksFn name qual params body scope dV kV doc pm an cdv ct cc) ps sp := by
  refine ⟨len, fun A outer s H args us vs Q E hr e0 hb r hsp => ?_⟩
  have hl := len _ _ _ _ hsp
  have KX : K.In s.heap := e0.mod.kin.keeps fun b o e => (e0.bs b o e).1
  have lim : s.heap.NoLimit := e0.mod.nolimit.keeps fun b o e => (e0.bs b o e).1
  obtain ⟨t, ht, hq⟩ := hbody A outer s H vs Q E (hr.deeper _) hsp
  refine ks_codeAny_call_defAt (fd := PySem.W.ksFn name qual params body scope dV kV doc pm an cdv ct cc) (body := body) (binds := ps.zip us) hr.depth (KX _ _ lk) rfl lim (PySem.W.codeRec_of KX hcd) rfl hb S.nocell (fun y hy => S.par y.1 (List.of_mem_zip hy).1) (fun h₁ hns hk => ?_) S.co S.gen S.kind
  have I : Inv (cxSup CX P w K mg base N qual scope f cdv cc A outer s H E) [] (L2.start N vs) H { s with heap := h₁, toks := s.toks + (ps.zip us).length } := inv_sup S hr.hd e0 hl r hcell hcl hns hk
  refine ks_wpAt_mono (ht.run [] _ (L2.start N vs) H _ I hq) (fun fl s' hs => ?_) fun e s' hs => hs
  have fin : ∀ {σ' : L2.St} {H' : Hp} {v : V} {u : Value}, Inv (cxSup CX P w K mg base N qual scope f cdv cc A outer s H E) [] σ' H' s' → RelV v u → Q v H' → CE outer P w H s Q u s' :=
    fun {σ' H' v u} J rv q => ⟨v, H', J.os, J.bare, J.base, J.hok, rv, q⟩
  cases fl with
  | ret u =>
    obtain ⟨v, σ', H', J, rv, q⟩ := hs
    exact fin J rv q
  | next =>
    obtain ⟨σ', H', J, q⟩ := hs
    exact fin (v := V.non) (u := Value.none) J rfl q
  | brk =>
    obtain ⟨_, _, _, q⟩ := hs
    exact False.elim q
  | cont =>
    obtain ⟨_, _, _, q⟩ := hs
    exact False.elim q
end SW

namespace SW
open PySem PySem.Spec PyProof.Rows L2
/-! ### own exception classes, over ValueError, LookupError, IndexError -/
structure XB (B newId initId : String) (bmB : List Value) : Prop where
  base : ExcBaseFacts B newId initId bmB
  kxs : PySem.W.KxsFacts B initId
  store : StoreFacts B bmB "object.__setattr__" "object"
theorem xb_ValueError : XB "ValueError" "ValueError.__new__" "ValueError.__init__" [.type "ValueError", .type "Exception", .type "BaseException", .type "object"] := ⟨F.excBase_ValueError, PySem.W.kxs_ValueError, F.store_ValueError⟩
theorem xb_LookupError : XB "LookupError" "LookupError.__new__" "LookupError.__init__" [.type "LookupError", .type "Exception", .type "BaseException", .type "object"] := ⟨F.excBase_LookupError, PySem.W.kxs_LookupError, F.store_LookupError⟩
theorem xb_IndexError : XB "IndexError" "IndexError.__new__" "IndexError.__init__" [.type "IndexError", .type "LookupError", .type "Exception", .type "BaseException", .type "object"] := ⟨F.excBase_IndexError, PySem.W.kxs_IndexError, F.store_IndexError⟩
structure XC (K : PySem.W.Frag) (C : Addr) : Prop where
  ex : ∃ B newId initId bmB, XB B newId initId bmB ∧ PySem.W.excInitIn K C bmB newId = true ∧ PySem.W.excOver K C bmB = true ∧ PySem.W.subIn K (.ref C) (.type B) = some true ∧ PySem.W.ks_superIn K C C "__init__" = some (some (.builtin initId))
  hd : PySem.W.hasDictIn K C = true
  sa : PySem.W.findIn K (.ref C) "__setattr__" = some (some (.builtin "object.__setattr__"))
  exC : PySem.W.subIn K (.ref C) (.type "BaseException") = some true
  tyC : PySem.W.typeIn K (.ref C) = some (.type "type")
  kC : PySem.W.keepIn K (.ref C) = true
  ga : PySem.W.findIn K (.ref C) "__getattribute__" = some (some (.builtin "BaseException.__getattribute__"))
  gg : PySem.W.findIn K (.ref C) "__getattr__" = some none
  ha : PySem.W.findIn K (.ref C) "__class__" = some (some (.builtin "object.__class__"))
  hn : PySem.W.specialIn K (.builtin "object.__class__") "__get__" = some (some (.builtin "getset_descriptor.__get__"))
  ht : PySem.W.takesIn K (.builtin "object.__class__") = some true
  hm : PySem.W.mroIn K C (.type "object") = some true
  own : PySem.W.mroIn K C (.ref C) = some true
def xc1 (K : PySem.W.Frag) (C : Addr) (B newId initId : String) (bmB : List Value) : Bool := PySem.W.excInitIn K C bmB newId && (PySem.W.excOver K C bmB && (decide (PySem.W.subIn K (.ref C) (.type B) = some true) && decide (PySem.W.ks_superIn K C C "__init__" = some (some (.builtin initId)))))
def xcB (K : PySem.W.Frag) (C : Addr) : Bool :=
  (xc1 K C "ValueError" "ValueError.__new__" "ValueError.__init__" [.type "ValueError", .type "Exception", .type "BaseException", .type "object"] || (xc1 K C "LookupError" "LookupError.__new__" "LookupError.__init__" [.type "LookupError", .type "Exception", .type "BaseException", .type "object"] ||
    xc1 K C "IndexError" "IndexError.__new__" "IndexError.__init__" [.type "IndexError", .type "LookupError", .type "Exception", .type "BaseException", .type "object"])) &&
  (PySem.W.hasDictIn K C && (decide (PySem.W.findIn K (.ref C) "__setattr__" = some (some (.builtin "object.__setattr__"))) && (decide (PySem.W.subIn K (.ref C) (.type "BaseException") = some true) && (decide (PySem.W.typeIn K (.ref C) = some (.type "type")) && (PySem.W.keepIn K (.ref C) &&
  (decide (PySem.W.findIn K (.ref C) "__getattribute__" = some (some (.builtin "BaseException.__getattribute__"))) && (decide (PySem.W.findIn K (.ref C) "__getattr__" = some none) && (decide (PySem.W.findIn K (.ref C) "__class__" = some (some (.builtin "object.__class__"))) &&
  (decide (PySem.W.specialIn K (.builtin "object.__class__") "__get__" = some (some (.builtin "getset_descriptor.__get__"))) && (decide (PySem.W.takesIn K (.builtin "object.__class__") = some true) && (decide (PySem.W.mroIn K C (.type "object") = some true) && decide (PySem.W.mroIn K C (.ref C) = some true))))))))))))
theorem xc1_ok {K : PySem.W.Frag} {C : Addr} {B newId initId : String} {bmB : List Value} (F : XB B newId initId bmB) (h : xc1 K C B newId initId bmB = true) : ∃ B newId initId bmB, XB B newId initId bmB ∧ PySem.W.excInitIn K C bmB newId = true ∧ PySem.W.excOver K C bmB = true ∧ PySem.W.subIn K (.ref C) (.type B) = some true ∧ PySem.W.ks_superIn K C C "__init__" = some (some (.builtin initId)) := by
  obtain ⟨h1, h⟩ := Bool.and_eq_true_iff.mp h
  obtain ⟨h2, h⟩ := Bool.and_eq_true_iff.mp h
  obtain ⟨h3, h4⟩ := Bool.and_eq_true_iff.mp h
  exact ⟨B, newId, initId, bmB, F, h1, h2, of_decide_eq_true h3, of_decide_eq_true h4⟩
theorem xcB_ok {K : PySem.W.Frag} {C : Addr} (h : xcB K C = true) : XC K C := by
  obtain ⟨h0, h⟩ := Bool.and_eq_true_iff.mp h
  obtain ⟨h1, h⟩ := Bool.and_eq_true_iff.mp h
  obtain ⟨h2, h⟩ := Bool.and_eq_true_iff.mp h
  obtain ⟨h3, h⟩ := Bool.and_eq_true_iff.mp h
  obtain ⟨h4, h⟩ := Bool.and_eq_true_iff.mp h
  obtain ⟨h5, h⟩ := Bool.and_eq_true_iff.mp h
  obtain ⟨h6, h⟩ := Bool.and_eq_true_iff.mp h
  obtain ⟨h7, h⟩ := Bool.and_eq_true_iff.mp h
  obtain ⟨h8, h⟩ := Bool.and_eq_true_iff.mp h
  obtain ⟨h9, h⟩ := Bool.and_eq_true_iff.mp h
  obtain ⟨h10, h⟩ := Bool.and_eq_true_iff.mp h
  obtain ⟨h11, h12⟩ := Bool.and_eq_true_iff.mp h
  refine ⟨?_, h1, of_decide_eq_true h2, of_decide_eq_true h3, of_decide_eq_true h4, h5, of_decide_eq_true h6, of_decide_eq_true h7, of_decide_eq_true h8, of_decide_eq_true h9, of_decide_eq_true h10, of_decide_eq_true h11, of_decide_eq_true h12⟩
  rcases Bool.or_eq_true_iff.mp h0 with h0 | h0
  · exact xc1_ok xb_ValueError h0
  · rcases Bool.or_eq_true_iff.mp h0 with h0 | h0
    · exact xc1_ok xb_LookupError h0
    · exact xc1_ok xb_IndexError h0
/-! ### self.f = v -/
section
open Builtin Builtin.ObjectAttr
variable {prog : Program} {w : World} {A : Around} {E : Value → Shared → Prop} {R : Result → Shared → Prop} {hp : Heap} {g : Array GenState} {d : PySem.Drawn} {t : Nat} {os : OsState} {B : String} {bmB : List Value}
theorem x_osa_new {K : PySem.W.Frag} {name : Str} {tk : Tok} {v : Value} {x C t1 : Addr} (SF : StoreFacts B bmB "object.__setattr__" "object")
    (X : K.In hp) (hx : hp.get? x = some (HandSPX.excO C t1)) (ho : PySem.W.excOver K C bmB = true) (hh : PySem.W.hasDictIn K C = true) (ha : PySem.W.findIn K (.ref C) name = some none)
    (hq : ∀ h' tk' dx, (∀ b o, b ≠ x → hp.get? b = some o → h'.get? b = some o) → hp.objs.size ≤ dx → dx ≠ x → h'.get? x = some ({ HandSPX.excO C t1 with dict := some dx } : Obj) →
      h'.Ns1 dx (fun y => if y = name then some v else none) → R (.ok (.ret .none)) ⟨h', g, d, tk', os⟩) :
    codeAny (model prog w) A (.call (.builtin "object.__setattr__") ⟨[.ref x, .str name tk, v], []⟩) R ⟨hp, g, d, t, os⟩ := by
  have hxs : x ≠ hp.objs.size := Nat.ne_of_lt (Heap.lt_size hx)
  have ht : PySem.W.takerIn K C name = some none := by unfold PySem.W.takerIn; rw [ha]; rfl
  refine PySem.W.osa_openX (s := ⟨hp, g, d, t, os⟩) (od := none) SF X ⟨hx, rfl, rfl, trivial⟩ ho ht fun b => ?_
  obtain ⟨cd, hc, hd'⟩ := PySem.W.any_some hh
  have hcls : PySem.W.Looks (model prog w) hp (classData C) cd := PySem.W.looks_clsIn X hc
  obtain ⟨nm, bs, mro, ns, qn, hd, sn, sb, ab, col, del⟩ := cd
  dsimp only at hd'
  subst hd'
  show wpAny _ _ (storeInOwnDict (.ref x) (.ref C) (.str name tk) name v b) _ _ _
  unfold storeInOwnDict ownDictForStores
  repeat (first | with_reducible refine HandSPX.store_in_new ?_ ?_ | with_reducible refine wpAny_loadPart_at hx ?_ | with_reducible refine hcls.at ?_ | wp_step)
  · exact ⟨_, #[], _, (Heap.get?_update_ne _ _ _ _ hxs.symm).trans (Heap.get?_push_at rfl rfl), rfl, fun e he => absurd he (by simp), fun _ => rfl⟩
  · intro h' tk' hn' hs
    have hx₁ : (hp.push { cls := .type "dict", data := .dict #[] }).get? x = some (HandSPX.excO C t1) := Heap.get?_push_of_some _ hx
    refine hq h' tk' hp.objs.size (fun b o hb ho => ?_) (Nat.le_refl _) hxs.symm ?_ hn'
    · exact (hs.2 b (Nat.ne_of_lt (Heap.lt_size ho))).trans ((Heap.get?_update_ne _ _ _ _ hb).trans (Heap.get?_push_of_some _ ho))
    · exact (hs.2 x hxs).trans (Heap.get?_update_self _ hx₁ rfl)
theorem x_osa_old {K : PySem.W.Frag} {name : Str} {tk : Tok} {v : Value} {x C t1 dx : Addr} {m0 : Str → Option Value} {nl : List Str} (SF : StoreFacts B bmB "object.__setattr__" "object")
    (X : K.In hp) (hx : hp.get? x = some ({ HandSPX.excO C t1 with dict := some dx } : Obj)) (hns : hp.Ns1 dx m0) (hw : Within m0 nl) (hz : nl.length ≤ 1000) (ho : PySem.W.excOver K C bmB = true) (hh : PySem.W.hasDictIn K C = true) (ha : PySem.W.findIn K (.ref C) name = some none)
    (hq : ∀ h' tk', (∀ b o, b ≠ dx → hp.get? b = some o → h'.get? b = some o) → h'.Ns1 dx (fun y => if y = name then some v else m0 y) → R (.ok (.ret .none)) ⟨h', g, d, tk', os⟩) :
    codeAny (model prog w) A (.call (.builtin "object.__setattr__") ⟨[.ref x, .str name tk, v], []⟩) R ⟨hp, g, d, t, os⟩ := by
  obtain ⟨oD, esD, epD, hoD, hdD, _⟩ := hns.count hw
  have ht : PySem.W.takerIn K C name = some none := by unfold PySem.W.takerIn; rw [ha]; rfl
  refine PySem.W.osa_openX (s := ⟨hp, g, d, t, os⟩) (od := some oD) SF X ⟨hx, rfl, rfl, hoD⟩ ho ht fun b => ?_
  obtain ⟨cd, hc, hd'⟩ := PySem.W.any_some hh
  have hcls : PySem.W.Looks (model prog w) hp (classData C) cd := PySem.W.looks_clsIn X hc
  obtain ⟨nm, bs, mro, ns, qn, hd, sn, sb, ab, col, del⟩ := cd
  dsimp only at hd'
  subst hd'
  show wpAny _ _ (storeInOwnDict (.ref x) (.ref C) (.str name tk) name v b) _ _ _
  unfold storeInOwnDict ownDictForStores
  repeat (first | with_reducible refine OEX.store_in_old hns hw hz ?_ | with_reducible refine wpAny_loadPart_at hx ?_ | with_reducible refine hcls.at ?_ | wp_step)
  intro h' tk' hn' hs
  exact hq h' tk' (fun b o hb ho => (hs.2 b hb).trans ho) hn'
end
end SW

namespace SW
open PySem PySem.Spec PyProof.Rows L2
section
variable {X : Cx} {pins : List (Addr × Obj)} {σ : L2.St} {H : Hp} {s : Shared} {a C dx : Addr} {f : Str} {y : V} {u : Value} {fs : List (Str × V)} {Q : Unit → Shared → Prop} {E : Value → Shared → Prop} {A : Around}
/-- self.f = y, the first one -/
theorem xst_new (T : XC X.K C) (I : Inv X pins σ H s) (e : H a = some (exo a C none)) (hno : PySem.W.findIn X.K (.ref C) f = some none) (ry : RelV y u)
    (h : ∀ dx s', H dx = none → dx ≠ a → Inv X pins σ (upd (upd H dx (exd dx [(f, y)])) a (exo a C (some dx))) s' → Q () s') : wpAny (model X.prog X.w) A (setAttr (.ref a) f u) Q E s := by
  obtain ⟨B, newId, initId, bmB, XB, q1, q2, q3⟩ := T.ex
  obtain ⟨t1, ho⟩ := exo_at I.hok e
  obtain ⟨hp, g, d, t, os⟩ := s
  refine PySem.W.set_plain I.kIn (ox := HandSPX.excO C t1) (od := none) ⟨ho, rfl, rfl, trivial⟩ T.sa ?_
  refine x_osa_new XB.store I.kIn ho q2 T.hd hno (fun h' tk' dx k dn dne hx hn => ?_)
  have hnd : H dx = none := I.hok.fresh dn
  have nd : ∀ {b : Addr} {o : Obj}, hp.get? b = some o → b ≠ dx := fun {b o} q => Nat.ne_of_lt (Nat.lt_of_lt_of_le (Heap.lt_size q) dn)
  have na : ∀ {b : Addr}, H b = none → b ≠ a := fun {b} n z => by
    rw [z, e] at n
    cases n
  have Un1 : Un X.fs [] H (upd (upd H dx (exd dx [(f, y)])) a (exo a C (some dx))) hp h' := {
    keep := fun b o q n _ _ => k b o (na n) q
    slot := fun b o q n _ _ => ⟨o.slots, k b o (na n) q⟩
    free := fun b o q n _ => by rw [upd_ne (na n), upd_ne (nd q)]; exact n
    there := fun b o q _ => by
      by_cases hb : b = a
      · exact ⟨_, by rw [hb]; exact hx⟩
      · exact ⟨o, k b o hb q⟩
    tups := fun b xs q => by rw [upd_ne (at_ne e q exo_tup), upd_ne (ne_of_none q hnd)]; exact q
    frzs := fun b o v q => by rw [upd_ne (at_ne e q exo_frz), upd_ne (ne_of_none q hnd)]; exact q
    tbls := fun b ps q => ⟨#[], by rw [upd_ne (at_ne e q exo_tbl), upd_ne (ne_of_none q hnd), q]; simp⟩ }
  refine h dx _ hnd dne (I.un (t' := tk') Un1 fun b o q => ?_)
  by_cases hb : b = a
  · subst hb
    rw [upd_same] at q
    cases q
    exact exo_ok hx
  · rw [upd_ne hb] at q
    by_cases hd : b = dx
    · subst hd
      rw [upd_same] at q
      cases q
      exact exd_ok hn (relO_put (fs := []) ry fun g => True.intro)
    · rw [upd_ne hd] at q
      exact (I.hok b o q).stay (fun c v hc z => k c v (by
          rcases hc with hc | hc
          · rw [hc]
            exact hb
          · exact at_ne e hc exo_own) z)
        (fun c hc => by rw [upd_ne (at_ne e hc exo_own), upd_ne (ne_of_none hc hnd)]; exact hc) (fun c xs hc => by rw [upd_ne (at_ne e hc exo_tup), upd_ne (ne_of_none hc hnd)]; exact hc)
/-- self.f = y, a further one -/
theorem xst_old (T : XC X.K C) (I : Inv X pins σ H s) (e : H a = some (exo a C (some dx))) (ed : H dx = some (exd dx fs)) (hl : fs.length ≤ 900) (hno : PySem.W.findIn X.K (.ref C) f = some none) (ry : RelV y u)
    (h : ∀ s', Inv X pins σ (upd H dx (exd dx ((f, y) :: fs))) s' → Q () s') : wpAny (model X.prog X.w) A (setAttr (.ref a) f u) Q E s := by
  obtain ⟨B, newId, initId, bmB, XB, q1, q2, q3⟩ := T.ex
  obtain ⟨t1, ho⟩ := exo_at I.hok e
  obtain ⟨mA, hns, rel⟩ := exd_at I.hok ed
  have hw := within_of rel
  obtain ⟨hp, g, d, t, os⟩ := s
  obtain ⟨oD, _, _, hoD, _, _⟩ := hns.count hw
  refine PySem.W.set_plain I.kIn (ox := { HandSPX.excO C t1 with dict := some dx }) (od := some oD) ⟨ho, rfl, rfl, hoD⟩ T.sa ?_
  refine x_osa_old XB.store I.kIn ho hns hw (by rw [List.length_map]; omega) q2 T.hd hno (fun h' tk' k hn => ?_)
  have hd : ∃ o, h'.get? dx = some o := by
    obtain ⟨o, _, _, e', _⟩ := hn
    exact ⟨o, e'⟩
  exact h _ (I.write (t' := tk') (x := dx) (e := dx) (o := exd dx ((f, y) :: fs)) (by rw [ed]; exact True.intro) (.inl rfl) k hd (exd_ok hn (relO_put ry rel)))
end
/-- self.f = e, self an exception that is being made -/
def tXst (K : PySem.W.Frag) (f : Str) (to te : TE) : TS := fun D σ H => te σ H fun y H1 => to σ H1 fun x H2 => ∃ a C : Addr, x = .ref a ∧ XC K C ∧ PySem.W.findIn K (.ref C) f = some none ∧
  ((H2 a = some (exo a C none) ∧ ∀ dx, H2 dx = none → dx ≠ a → D.nx σ (upd (upd H2 dx (exd dx [(f, y)])) a (exo a C (some dx)))) ∨
    ∃ (dx : Addr) (fs : List (Str × V)), H2 a = some (exo a C (some dx)) ∧ H2 dx = some (exd dx fs) ∧ fs.length ≤ 900 ∧ D.nx σ (upd H2 dx (exd dx ((f, y) :: fs))))
theorem ps_xst {X : Cx} {o e : Expr} {to te : TE} {f : Str} {p' pos : Pos} (ho : PE X o to) (he : PE X e te) (hs : swapsWith e (some (.Attribute o f p')) pos.line X.env = pure false := by rfl) : PS X (.Assign [.Attribute o f p'] e pos) (tXst X.K f to te) := by
  refine ⟨fun pins s σ H D I h => ?_⟩
  refine plainObj_wpAny_Assign_Attribute (thn (he.run pins s σ H _ I h) fun v s1 ⟨y, H1, I1, r1, q1⟩ => thn (ho.run pins s1 σ H1 _ I1 q1) fun u s2 ⟨x, H2, I2, r2, a, C, ex, T, hno, q⟩ => ?_) hs
  subst ex
  obtain rfl : u = Value.ref a := r2
  rcases q with ⟨ea, q⟩ | ⟨dx, fs, ea, ed, hl, q⟩
  · exact xst_new T I2 ea hno r1 fun dx s' n ne J => ⟨σ, _, J, q dx n ne⟩
  · exact xst_old T I2 ea ed hl hno r1 fun s' J => ⟨σ, _, J, q⟩
/-! ### super() -/
/-- what the written part says of a method that says super(); D: the class that holds it -/
structure SupK (P : Program) (K : PySem.W.Frag) (f cc D : Addr) (cdv : Value) (params : Arguments) (sf : Str) : Prop where
  fn : ∃ oc od fd osl, K.lookup f = some ⟨oc, od, .func fd, osl⟩ ∧ fd.params = params
  par : ∃ ar : Arg, (params.posonlyargs ++ params.args).head? = some ar ∧ ar.arg = sf
  code : ∃ cda cl cld vs csl file tf, cdv = .ref cda ∧ K.lookup cda = some ⟨cl, cld, .fields vs, csl⟩ ∧ vs[2]? = some (.str file tf) ∧ ((P.main.file : Str) == file) = true
  cell : ∃ cl cld csl, K.lookup cc = some ⟨cl, cld, .cell (some (.ref D)), csl⟩
  cls : ∃ cd, PySem.W.clsIn K D = some cd
  opq : PySem.W.nsIn K cStatics "thirdparty.any" = some none
  top : (P.main.scope.names.lookup ("super" : Str)).isSome = false
section
variable {CX : CXT} {P : Program} {w : World} {K : PySem.W.Frag} {mg : Str → Option Value} {base : Heap} {N ps : List Str} {qual sf : Str} {scope : Scope} {f cc D x C : Addr} {cdv : Value} {params : Arguments} {A : Around} {outer : List Env} {s0 : Shared} {H0 : Hp} {E0' : XK} {pins : List (Addr × Obj)} {σ : L2.St} {H : Hp} {s : Shared} {b0 : List Stmt}
theorem sup_base {attr : Str} {p0 p1 : Pos} {whole : Sem Value} {ox : Obj} {odx : Option Obj} {Q : Value → Shared → Prop} {E : Value → Shared → Prop} (S : SupScope N ps scope) (T : SupK P K f cc D cdv params sf) (hm : mg "super" = none) (h0 : ps[0]? = some sf)
    (I : Inv (cxSup CX P w K mg base N qual scope f cdv cc A outer s0 H0 E0') pins σ H s) (hx : σ[0]? = some (some (.ref x))) (J : PySem.W.InstAt s.heap x ox C odx) (hsub : PySem.W.mroIn K C (.ref D) = some true) (hat : (attr == ("__class__" : Str)) = false)
    (h : ∀ so h', (∀ b o, s.heap.get? b = some o → h'.get? b = some o) → s.heap.objs.size ≤ so → h'.get? so = some (PySem.W.ks_superObj D x C) → Q (.ref so) { s with heap := h' }) :
    _root_.PySem.wpAt (model P w) (cxSup CX P w K mg base N qual scope f cdv cc A outer s0 H0 E0').A (.func b0 (cxSup CX P w K mg base N qual scope f cdv cc A outer s0 H0 E0').env) (attributeBase (.Call (.Name "super" p0) [] [] p1) attr (cxSup CX P w K mg base N qual scope f cdv cc A outer s0 H0 E0').env whole) Q E s := by
  have X : K.In s.heap := I.kIn
  obtain ⟨oc, od, fd, osl, hf, hfp⟩ := T.fn
  obtain ⟨ar, hp, rfl⟩ := T.par
  obtain ⟨cda, cl, cld, vs, csl, file, tf, rfl, hcode, hvs, hfile⟩ := T.code
  obtain ⟨cl2, cld2, csl2, hcell⟩ := T.cell
  obtain ⟨cdD, hD⟩ := T.cls
  obtain ⟨m, hn, hl⟩ := I.loc
  have hN0 : N[0]? = some ar.arg := by
    have hlen : 0 < ps.length := by
      obtain ⟨hh, _⟩ := List.getElem?_eq_some_iff.mp h0
      exact hh
    rw [← S.pre, List.getElem?_take_of_lt hlen] at h0
    exact h0
  have hloc : scope.names.lookup ar.arg = some .local := S.par _ (List.mem_of_getElem? h0)
  obtain ⟨u, ru, lu⟩ := hl 0 ar.arg (.ref x) hN0 hx (.inl hloc)
  obtain rfl : u = Value.ref x := ru
  have hmx : m ar.arg = some (.ref x) := by
    rcases lu with ⟨_, e⟩ | ⟨k, _⟩
    · exact e
    · rcases k with k | k
      · exact absurd (hloc.symm.trans k) (by decide)
      · exact absurd (hloc.symm.trans k) (by decide)
  obtain ⟨mb, hb1, hb2⟩ := I.mod.blt
  have hgl := I.mod.glob.keeps I.bk
  have hbl := hb1.keeps I.bk
  obtain ⟨hh, g, d, t, os⟩ := s
  obtain ⟨oD, hD1, hD2⟩ : ∃ oD, hh.get? D = some oD ∧ oD.data = .cls cdD := by
    unfold PySem.W.clsIn at hD
    split at hD
    · rename_i c d cd' sl ho
      cases hD
      exact ⟨_, X _ _ ho, rfl⟩
    · cases hD
  refine ks_wpAt_super_base (env := PySem.W.ksEnv qual scope s0.heap.objs.size f (.ref cda) cc) (fd := fd) (ar := ar) S.sup S.cls hat rfl (X _ _ hf) rfl (by rw [hfp]; exact hp) rfl (X _ _ hcode) rfl hvs hfile T.top ?_
  refine PySem.W.ks_loadName_global S.kind S.sup (Calls.loadGlobal_builtin (env := PySem.W.ksEnv qual scope s0.heap.objs.size f (.ref cda) cc) hgl hm hbl ((hb2 "super" (by decide)).trans PyProof.Rows.Boot.«super») ⟨rfl, ?_⟩)
  refine wpAny_loadName_free S.kind S.cls rfl ⟨_, X _ _ hcell, rfl⟩ ?_
  refine wpAny_loadName_local S.kind hloc hn hmx ?_
  refine ks_wpAny_isType_cls hD1 hD2 ⟨rfl, ?_⟩
  refine ks_wpAny_call_super hD1 hD2 J.at_ J.cls (fun c e => ?_) (PySem.W.looks_mroIn X hsub) (fun h' e k => ?_)
  · have := J.no
    unfold PySem.W.notCls at this
    rw [e] at this
    exact Bool.noConfusion this
  · exact h _ h' k (Nat.le_refl _) e
end
/-! ### super().__init__(..) of an exception -/
section
open PySem.W PySem.Calls PyProof.Rows
variable {prog : Program} {w : World} {A : Around} {E : Value → Shared → Prop} {h : Heap} {g : Array GenState} {d : PySem.Drawn} {t : Nat} {os : OsState}
variable {nm q : Str} {C N : Addr} {bs bm bmB : List Value} {hdct : Bool} {sn : List Str} {sub : List Value} {ab : Bool} {col : Option Bool} {dd : Option Addr} {k0 k1 k2 k3 k5 : Option Value} {B newId initId : String}
theorem call_bwG (FB : ExcBaseFacts B newId initId bmB) {u e t0 : Addr} {rest : List Value} {Q : Value → Shared → Prop}
    (hC : h.get? C = some (excClassObj nm q C N bs bm hdct sn sub ab col dd k0 k1 k2 k3 k5 newId)) (he : h.get? e = some (HandSPX.excO C t0)) (hu : h.get? u = some (kxs_mw initId e)) (hrest : rest.length ≤ sizeLine)
    (hq : ∀ h' t1, (∀ b o, b ≠ e → h.get? b = some o → h'.get? b = some o) → h'.get? e = some (HandSPX.excO C t1) → Q .none ⟨h', g, d, t, os⟩) :
    wpAny (model prog w) A (call (.ref u) rest) Q E ⟨h, g, d, t, os⟩ := by
  refine wpAny_call (codeAny_of_tree ?_)
  show wpAny _ A.in1 (callAny (.ref u) ⟨rest, []⟩) _ _ _
  simp only [callAny]
  refine wpAny_bind (wpAny_load hu ?_)
  simp only [kxs_mw, show (Value.type "method-wrapper" == Value.type "method" || Value.type "method-wrapper" == Value.type "builtin_function_or_method" || Value.type "method-wrapper" == Value.type "method-wrapper") = true by decide, if_true]
  refine KFB.if_so (by decide) ?_
  refine wpAny_bind (check_bound_init FB.toExcCallFacts hC he rfl ?_)
  refine wpAny_bind (wpAny_pure (wpAny_pure ?_))
  refine ⟨plainId_quiet FB.init.plain _, codeAny_builtin FB.initEntry ?_⟩
  exact exc_init_tree (cls := .ref C) (t0 := t0) (dv := none) (c2 := .none) (c3 := .none) (b4 := .bool false) he hrest fun h' k e1 _ => hq h' _ k e1
end
/-- super().__init__(e, ..), self an exception without its dict as yet -/
def tSupX (C : Addr) (ta : TA) : TS := fun D σ H => ∃ a, σ[0]? = some (some (.ref a)) ∧ H a = some (exo a C none) ∧ ta σ H fun vs H1 => vs.length ≤ 1000 ∧ H1 a = some (exo a C none) ∧ D.nx σ H1
section
variable {CX : CXT} {P : Program} {w : World} {K : PySem.W.Frag} {mg : Str → Option Value} {base : Heap} {N ps : List Str} {qual sf : Str} {scope : Scope} {f cc C : Addr} {cdv : Value} {params : Arguments} {A : Around} {outer : List Env} {s0 : Shared} {H0 : Hp} {E0' : XK} {b0 rest : List Stmt} {e : Expr} {es : List Expr} {ta : TA} {u : TS} {p0 p1 p2 p3 p4 : Pos}
theorem psa_supX {pl : Sem Bool} (S : SupScope N ps scope) (T : SupK P K f cc C cdv params sf) (hm : mg "super" = none) (h0 : ps[0]? = some sf) (TC : XC K C)
    (ha : PA (cxSup CX P w K mg base N qual scope f cdv cc A outer s0 H0 E0') (e :: es) ta) (h2 : PSsA (cxSup CX P w K mg base N qual scope f cdv cc A outer s0 H0 E0') b0 rest u)
    (he : starEach (e :: es) (cxSup CX P w K mg base N qual scope f cdv cc A outer s0 H0 E0').env = (false, eval e (cxSup CX P w K mg base N qual scope f cdv cc A outer s0 H0 E0').env) :: starEach es (cxSup CX P w K mg base N qual scope f cdv cc A outer s0 H0 E0').env := by rfl)
    (hpl : (backTo p3 (starEach es (cxSup CX P w K mg base N qual scope f cdv cc A outer s0 H0 E0').env)).any (·.1) = false := by rfl)
    (hsw : swapsWith (.Call (.Attribute (.Call (.Name "super" p0) [] [] p1) "__init__" p2) (e :: es) [] p3) none p4.line (cxSup CX P w K mg base N qual scope f cdv cc A outer s0 H0 E0').env = pure false := by rfl)
    (hc : eval (.Call (.Attribute (.Call (.Name "super" p0) [] [] p1) "__init__" p2) (e :: es) [] p3) (cxSup CX P w K mg base N qual scope f cdv cc A outer s0 H0 E0').env = (do
      let ov ← attributeBase (.Call (.Name "super" p0) [] [] p1) "__init__" (cxSup CX P w K mg base N qual scope f cdv cc A outer s0 H0 E0').env (eval (.Call (.Name "super" p0) [] [] p1) (cxSup CX P w K mg base N qual scope f cdv cc A outer s0 H0 E0').env)
      standAt p2.atName
      let (fx, first) ← holding [ov] (getMethod ov "__init__" pl)
      callWith p3 fx first (backTo p3 (starEach (e :: es) (cxSup CX P w K mg base N qual scope f cdv cc A outer s0 H0 E0').env)) []) := by rfl) :
    PSsA (cxSup CX P w K mg base N qual scope f cdv cc A outer s0 H0 E0') b0 (.Expr (.Call (.Attribute (.Call (.Name "super" p0) [] [] p1) "__init__" p2) (e :: es) [] p3) p4 :: rest) (tSeq (tSupX C ta) u) := by
  refine ⟨fun pins s σ H D I h => ?_⟩
  obtain ⟨a, hσ, ea, hta⟩ := h
  obtain ⟨B, newId, initId, bmB, XBf, q1, q2, q3, q4⟩ := TC.ex
  obtain ⟨t1, ho⟩ := exo_at I.hok ea
  have hi : interactive (cxSup CX P w K mg base N qual scope f cdv cc A outer s0 H0 E0').env = false := by
    unfold interactive
    rw [show (cxSup CX P w K mg base N qual scope f cdv cc A outer s0 H0 E0').env.scope.kind = .function from S.kind]
    rfl
  refine ks_wpAt_execs_cons (ks_wpAt_Expr_any (ks_wpAt_MethodCall ?_ hc) hi hsw)
  refine sup_base S T hm h0 I hσ (ox := HandSPX.excO C t1) (odx := none) ⟨ho, rfl, rfl, trivial⟩ TC.own (by decide) fun so h' k hs hso => ?_
  obtain ⟨hp, g, d, t, os⟩ := s
  have X' : K.In h' := fun b o z => k b o (I.kIn b o z)
  have ho' := k _ _ ho
  have J : PySem.W.InstAt h' a (HandSPX.excO C t1) C none := ⟨ho', rfl, rfl, trivial⟩
  have hI : PySem.W.Looks (model P w) h' (isInstance (.ref a) (.type B)) true := J.type.andThen (PySem.W.looks_subIn X' q3)
  cases hc : PySem.W.clsIn K C with
  | none => unfold PySem.W.ks_superIn at q4; rw [hc] at q4; cases q4
  | some cd =>
    unfold PySem.W.ks_superIn at q4
    rw [hc] at q4
    refine PySem.W.kxs_getMethod XBf.kxs hso (PySem.W.looks_opaque X' T.opq) (l₀ := cd.mro) (fun A Q E s k q => wpAny_bind ((PySem.W.looks_clsIn X' hc) A _ E s k (wpAny_pure q))) rfl X' q4 hI (PySem.W.ks_ne X' J hc) (by decide) ?_
    have kk : ∀ b o, hp.get? b = some o → (h'.push (PySem.W.kxs_mw initId a)).get? b = some o := fun b o z => Heap.get?_push_of_some _ (k b o z)
    have hsz : hp.objs.size ≤ h'.objs.size := Nat.le_trans hs (Nat.le_of_lt (Heap.lt_size hso))
    have hu : (h'.push (PySem.W.kxs_mw initId a)).get? h'.objs.size = some (PySem.W.kxs_mw initId a) := Heap.get?_push_at rfl rfl
    have I2 := ClX.pin_new (t' := t + 1) I kk hsz hu (fun v z => by cases z)
    show wpAny _ _ (callWith p3 (.ref h'.objs.size) [] (backTo p3 (starEach (e :: es) _)) []) _ _ _
    rw [he]
    refine PySem.W.kxs_callWith (i := initId) (x := a) (by show (false || (backTo p3 (starEach es _)).any (·.1)) = false; rw [hpl]; rfl) ?_
    refine PySem.Calls.evalArgs_plain ?_
    have hr := ha.run p3 _ _ σ H _ I2 hta
    rw [he] at hr
    refine thn hr fun us s3 ⟨vs, H1, I3, r3, hl, ea1, q⟩ => ⟨ClX.pin_at I3, ?_⟩
    have hus : us.length ≤ sizeLine := by
      rw [← Paired.length r3, sizeLine_eq]
      omega
    obtain ⟨t3, ho3⟩ := exo_at I3.hok ea1
    obtain ⟨nm, N', qn, bs, bm, hdct, sn, sub, ab, col, dd, k0, k1, k2, k3, k5, hC, hT⟩ := PySem.W.excInit_of I3.kIn q1
    have hu3 := ClX.pin_at I3
    obtain ⟨hp3, g3, d3, tk3, os3⟩ := s3
    refine call_bwG XBf.base hC ho3 hu3 hus fun h4 t4 k4 hx4 => ?_
    have I3' := ClX.unpin I3
    have J4 := I3'.write (t' := tk3) (x := a) (e := a) (o := exo a C none) (by rw [ea1]; exact True.intro) (.inl rfl) k4 ⟨_, hx4⟩ (exo_ok hx4)
    have eu : upd H1 a (exo a C none) = H1 := by
      funext b
      by_cases hb : b = a
      · rw [hb, upd_same, ea1]
      · rw [upd_ne hb]
    rw [eu] at J4
    exact h2.run pins _ σ H1 D J4 q
end
end SW

namespace SW
open PySem PySem.Spec PyProof.Rows L2
/-! ### methods that say super(), in the head -/
abbrev FnS : Type := Option (Str × Str × Arguments × FuncBody × Scope × Addr × List Str × Addr)
def fnS (K : PySem.W.Frag) (p : Str × Option Str) : FnS := match K.lookup (He.fAd K p) with
  | some ⟨_, _, .func fd, _⟩ => some (fd.name, fd.qualname, fd.params, fd.body, fd.scope, fd.globals, fd.closure.map (·.1), fd.builtins)
  | _ => none
def valS (d : He.DefD) : FnS := some (d.name, d.qual, d.params, .stmts d.body, d.scope, mainGlobals, ["__class__"], builtinsNs)
def fileB (K : PySem.W.Frag) (cd : Value) (file : Str) : Bool := match cd with
  | .ref c => (match K.lookup c with
    | some ⟨_, _, .fields vs, _⟩ => (match vs.toList with
      | _ :: _ :: .str f _ :: _ => f == file
      | _ => false)
    | _ => false)
  | _ => false
def cellB (K : PySem.W.Frag) (cl : List (Str × Addr)) (C : Addr) : Bool := match cl with
  | [(_, cc)] => (match K.lookup cc with
    | some ⟨_, _, .cell (some (.ref D)), _⟩ => decide (D = C)
    | _ => false)
  | _ => false
def okS (K : PySem.W.Frag) (file : Str) (d : He.DefD) : Bool := PySem.W.keepIn K (.ref (He.fAd K d.at_)) && (match K.lookup (He.fAd K d.at_) with
  | some ⟨_, _, .func fd, _⟩ => PySem.W.codeIn K fd.code d.qual && (He.dflB K fd.defaults (d.dvs K) && (He.kwdB K fd.kwdefaults (d.kws K) && (fileB K fd.code file && cellB K fd.closure (He.ga K d.at_.1))))
  | _ => false)
structure FunS (K : PySem.W.Frag) (file x qual : Str) (params : Arguments) (body : List Stmt) (scope : Scope) (dvs : List V) (kws : List (Str × V)) (C f : Addr) (fd : FuncData) : Prop where
  ex : ∃ (oc : Value) (od : Option Addr) (dV kV doc pm : Value) (an : Option Addr) (cdv ct : Value) (osl : Array (Option Value)) (cc : Addr),
    fd = PySem.W.ksFn x qual params body scope dV kV doc pm an cdv ct cc ∧ K.lookup f = some ⟨oc, od, .func fd, osl⟩ ∧ PySem.W.codeIn K cdv qual = true ∧ DflV K dV dvs ∧ KwdV K kV kws ∧
    (∃ cda cl cld vs csl tf, cdv = .ref cda ∧ K.lookup cda = some ⟨cl, cld, .fields vs, csl⟩ ∧ vs[2]? = some (.str file tf)) ∧ ∃ cl cld csl, K.lookup cc = some ⟨cl, cld, .cell (some (.ref C)), csl⟩
  kp : PySem.W.keepIn K (.ref f) = true
theorem fileB_ok {K : PySem.W.Frag} {cd : Value} {file : Str} (k4 : fileB K cd file = true) : ∃ cda cl cld vs csl tf, cd = .ref cda ∧ K.lookup cda = some ⟨cl, cld, .fields vs, csl⟩ ∧ vs[2]? = some (.str file tf) := by
  unfold fileB at k4
  split at k4
  · rename_i cda
    split at k4
    · rename_i cl2 cld2 vs csl2 hl2
      split at k4
      · rename_i v0 v1 f tf r hv
        have hf : f = file := eq_of_beq k4
        subst hf
        refine ⟨cda, cl2, cld2, vs, csl2, tf, rfl, hl2, ?_⟩
        have : vs.toList[2]? = some (.str f tf) := by rw [hv]; rfl
        simpa using this
      · cases k4
    · cases k4
  · cases k4
theorem funS_of {K : PySem.W.Frag} {file : Str} {d : He.DefD} (e : fnS K d.at_ = valS d) (c : okS K file d = true) : ∃ fd, FunS K file d.name d.qual d.params d.body d.scope (d.dvs K) (d.kws K) (He.ga K d.at_.1) (He.fAd K d.at_) fd := by
  obtain ⟨kp, c2⟩ := Bool.and_eq_true_iff.mp c
  unfold fnS at e
  cases q : K.lookup (He.fAd K d.at_) with
  | none => rw [q] at c2; cases c2
  | some o =>
    obtain ⟨oc, od, dt, osl⟩ := o
    rw [q] at c2 e
    cases dt with
    | func fd =>
      obtain ⟨n1, n2, n3, n4, n5, n6, n7, n8, n9, n10, n11, n12, n13, n14, n15⟩ := fd
      have e2 : (some (n1, n2, n3, n4, n5, n6, n7.map (·.1), n15) : FnS) = (some (d.name, d.qual, d.params, .stmts d.body, d.scope, mainGlobals, ["__class__"], builtinsNs) : FnS) := e
      simp only [Option.some.injEq, Prod.mk.injEq] at e2
      obtain ⟨h1, h2, h3, h4, h5, h6, h7, h8⟩ := e2
      subst h1 h2 h3 h4 h5 h6 h8
      have c3 : (PySem.W.codeIn K n13 d.qual && (He.dflB K n8 (d.dvs K) && (He.kwdB K n9 (d.kws K) && (fileB K n13 file && cellB K n7 (He.ga K d.at_.1))))) = true := c2
      obtain ⟨k1, k⟩ := Bool.and_eq_true_iff.mp c3
      obtain ⟨k2, k⟩ := Bool.and_eq_true_iff.mp k
      obtain ⟨k3, k⟩ := Bool.and_eq_true_iff.mp k
      obtain ⟨k4, k5⟩ := Bool.and_eq_true_iff.mp k
      clear c c2 c3 e k
      have hn7 : ∃ cc, n7 = ([("__class__", cc)] : List (Str × Addr)) := by
        match n7, h7 with
        | [(y, cc)], h =>
          have hy : y = "__class__" := by simpa using h
          exact ⟨cc, by rw [hy]⟩
      obtain ⟨cc, rfl⟩ := hn7
      have c5 : ∃ cl cld csl, K.lookup cc = some ⟨cl, cld, .cell (some (.ref (He.ga K d.at_.1))), csl⟩ := by
        have k6 : (match K.lookup cc with
          | some ⟨_, _, .cell (some (.ref D)), _⟩ => decide (D = He.ga K d.at_.1)
          | _ => false) = true := k5
        split at k6
        · rename_i cl cld D csl hl
          have hD := of_decide_eq_true k6
          rw [hD] at hl
          exact ⟨_, _, _, hl⟩
        · cases k6
      have c4 : ∃ cda cl cld vs csl tf, n13 = .ref cda ∧ K.lookup cda = some ⟨cl, cld, .fields vs, csl⟩ ∧ vs[2]? = some (.str file tf) := fileB_ok k4
      exact ⟨_, ⟨oc, od, n8, n9, n10, n11, n12, n13, n14, osl, cc, rfl, q, k1, He.dflB_ok k2, He.kwdB_ok k3, c4, c5⟩, kp⟩
    | _ => cases c2
/-! ### the Hook with these -/
abbrev AlY : Type := He.AlD × Bool × List FnS
def obsY (file : Str) (fa : List He.Fa) (fn : List He.DefD) (ex : PySem.W.Frag → Bool) (su : List He.DefD) (K : PySem.W.Frag) : AlY := (He.obsD fa fn K, ex K && su.all (okS K file), su.map fun d => fnS K d.at_)
def valY (fn su : List He.DefD) : AlY := (He.valD fn, true, su.map valS)
def obsYG (n : Nat) (file : Str) (fa : List He.Fa) (fn : List He.DefD) (ex : PySem.W.Frag → Bool) (su : List He.DefD) (g : Addr → Option Obj) : AlY := obsY file fa fn ex su (He.frG g (He.asD g n))
def SaysY (file : Str) (fa : List He.Fa) (fn : List He.DefD) (ex : PySem.W.Frag → Bool) (su : List He.DefD) (K : PySem.W.Frag) : Prop := obsY file fa fn ex su K = valY fn su
def hookY (n : Nat) (file : Str) (fa : List He.Fa) (fn : List He.DefD) (ex : PySem.W.Frag → Bool) (su : List He.DefD) : PySem.W.Hook where
  α := AlY
  obs := fun s => obsYG n file fa fn ex su s.heap.get?
  val := fun _ => valY fn su
  says := fun _ h => ∃ K : PySem.W.Frag, K.In h ∧ SaysY file fa fn ex su K
  of := fun _ _ e => ⟨_, He.frG_in, e⟩
  keeps := fun _ _ _ ⟨K, hK, c⟩ k => ⟨K, PySem.W.Frag.In.keeps hK k, c⟩
section
variable {n : Nat} {file : Str} {fa : List He.Fa} {fn su : List He.DefD} {ex : PySem.W.Frag → Bool} {K : PySem.W.Frag}
theorem obsYG_eq {g : Addr → Option Obj} {s : Shared} (h : ∀ a, g a = s.heap.get? a) : obsYG n file fa fn ex su g = (hookY n file fa fn ex su).obs s := by
  have e : g = s.heap.get? := funext h
  rw [e] <;> rfl
theorem SaysY.d (c : SaysY file fa fn ex su K) : He.SaysD fa fn K := congrArg (fun z : AlY => z.1) c
theorem SaysY.x (c : SaysY file fa fn ex su K) : ex K = true := (Bool.and_eq_true_iff.mp (congrArg (fun z : AlY => z.2.1) c)).1
theorem SaysY.sup (c : SaysY file fa fn ex su K) (i : Nat) {d : He.DefD} (h : su[i]? = some d := by rfl) : ∃ fd, FunS K file d.name d.qual d.params d.body d.scope (d.dvs K) (d.kws K) (He.ga K d.at_.1) (He.fAd K d.at_) fd := by
  have c2 := (Bool.and_eq_true_iff.mp (congrArg (fun z : AlY => z.2.1) c)).2
  have e : su.map (fun d => fnS K d.at_) = su.map valS := congrArg (fun z : AlY => z.2.2) c
  have e2 : (su.map fun d => fnS K d.at_)[i]? = (su.map valS)[i]? := by rw [e]
  rw [List.getElem?_map, List.getElem?_map, h] at e2
  exact funS_of (Option.some.inj e2) (List.all_eq_true.mp c2 d (List.mem_of_getElem? h))
end
/-! ### their rule -/
/-- the program's own facts that super() asks for -/
structure PSup (P : Program) (file : Str) : Prop where
  file : (P.main.file : Str) = file
  top : (P.main.scope.names.lookup ("super" : Str)).isSome = false
structure CSup (K : PySem.W.Frag) (C : Addr) : Prop where
  cls : ∃ cd, PySem.W.clsIn K C = some cd
  opq : PySem.W.nsIn K cStatics "thirdparty.any" = some none
theorem FunS.ok {CX : CXT} {P : Program} {w : World} {K : PySem.W.Frag} {mg : Str → Option Value} {base : Heap} {file x qual sf : Str} {params : Arguments} {body : List Stmt} {scope : Scope} {dvs : List V} {kws : List (Str × V)} {C f : Addr} {fd : FuncData} {N ps : List Str} {k : Nat} {sp : Sp} {ar : Arg}
    (F : FunS K file x qual params body scope dvs kws C f fd) (PS : PSup P file) (CS : CSup K C) (S : SupScope N ps scope) (hpar : (params.posonlyargs ++ params.args).head? = some ar) (hsf : ar.arg = sf) (len : ∀ vs H Q E, sp vs H Q E → vs.length = ps.length)
    (hbody : ∀ (cdv : Value) (cc : Addr) (A : Around) (outer : List Env) (s : Shared) (H : Hp) (vs : List V) (Q : VK) (E : XK), SupK P K f cc C cdv params sf → Room k (A.deeper (PySem.W.ksEnv qual scope s.heap.objs.size f cdv cc)) → sp vs H Q E →
      ∃ t, PSsA (cxSup CX P w K mg base N qual scope f cdv cc A outer s H E) body body t ∧ t { nx := fun _ H' => Q .non H', rt := Q } (L2.start N vs) H) : FnOk P w K mg base CX (k + 1) f fd ps sp := by
  obtain ⟨oc, od, dV, kV, doc, pm, an, cdv, ct, osl, cc, rfl, lk, hcd, _, _, ⟨cda, cl, cld, vs, csl, tf, rfl, hl, hv⟩, cl2, cld2, csl2, hcell⟩ := F.ex
  have T : SupK P K f cc C (.ref cda) params sf := ⟨⟨_, _, _, _, lk, rfl⟩, ⟨ar, hpar, hsf⟩, ⟨cda, cl, cld, vs, csl, file, tf, rfl, hl, hv, by rw [PS.file]; exact beq_self_eq_true file⟩, ⟨_, _, _, hcell⟩, CS.cls, CS.opq, PS.top⟩
  exact fn_sup lk hcd S hcell rfl len fun A outer s H vs Q E hr hsp => hbody (.ref cda) cc A outer s H vs Q E T hr hsp
theorem FunS.bindsA {K : PySem.W.Frag} {file x qual : Str} {params : Arguments} {body : List Stmt} {scope : Scope} {kws : List (Str × V)} {C f : Addr} {fd : FuncData} {ps : List Str} (F : FunS K file x qual params body scope [] kws C f fd)
    (h : ∀ (kV doc pm : Value) (an : Option Addr) (cdv ct : Value) (cc : Addr) (us : List Value), us.length = ps.length → bindArgs (PySem.W.ksFn x qual params body scope .none kV doc pm an cdv ct cc) ⟨us, []⟩ = pure (ps.zip us)) : Binds K fd ps [] := by
  obtain ⟨oc, od, dV, kV, doc, pm, an, cdv, ct, osl, cc, rfl, lk, hcd, hD, _⟩ := F.ex
  rcases hD with ⟨_, rfl⟩ | ⟨e, _⟩
  · exact Binds.all fun us hl => h kV doc pm an cdv ct cc us hl
  · exact absurd rfl e
end SW

namespace SW
open PySem PySem.Spec PyProof.Rows L2
/-! ### what an own exception's __init__ promises -/
def spX (C : Addr) (n : Nat) (fl : List V → List (Str × V)) : Sp := fun vs H Q _ => ∃ a ws, vs = .ref a :: ws ∧ ws.length = n ∧ H a = some (exo a C none) ∧
  ∀ d H', H d = none → d ≠ a → H' a = some (exo a C (some d)) → H' d = some (exd d (fl ws)) → (∀ b, b ≠ a → b ≠ d → H' b = H b) → Q .non H'
theorem spX.len {C : Addr} {n : Nat} {fl : List V → List (Str × V)} {vs : List V} {H : Hp} {Q : VK} {E : XK} (h : spX C n fl vs H Q E) : vs.length = n + 1 := by
  obtain ⟨a, ws, rfl, hl, _⟩ := h
  rw [List.length_cons, hl]
def fl0 (code : Str) : List V → List (Str × V) := fun _ => [("code", .str code)]
def fl1 (f code : Str) : List V → List (Str × V) := fun ws => match ws with
  | [v] => [("code", .str code), (f, v)]
  | _ => []
def fl2 (f g code : Str) : List V → List (Str × V) := fun ws => match ws with
  | [v, w] => [("code", .str code), (g, w), (f, v)]
  | _ => []
def tX0 (K : PySem.W.Frag) (C : Addr) (txt code : Str) : TS := tSeq (tSupX C (tCons (tC (.str txt)) tNil)) (tXst K "code" (tVar 0) (tC (.str code)))
def tX1 (K : PySem.W.Frag) (C : Addr) (txt f code : Str) : TS := tSeq (tSupX C (tCons (tC (.str txt)) tNil)) (tSeq (tXst K f (tVar 0) (tVar 1)) (tXst K "code" (tVar 0) (tC (.str code))))
def tX2 (K : PySem.W.Frag) (C : Addr) (txt f g code : Str) : TS := tSeq (tSupX C (tCons (tC (.str txt)) tNil)) (tSeq (tXst K f (tVar 0) (tVar 1)) (tSeq (tXst K g (tVar 0) (tVar 2)) (tXst K "code" (tVar 0) (tC (.str code)))))
section
variable {K : PySem.W.Frag} {C : Addr} {txt f g code : Str} {vs : List V} {H : Hp} {Q : VK} {E : XK}
theorem in_x0 (T : XC K C) (hc : PySem.W.findIn K (.ref C) "code" = some none) (h : spX C 0 (fl0 code) vs H Q E) : tX0 K C txt code { nx := fun _ H' => Q .non H', rt := Q } (L2.start ["self"] vs) H := by
  obtain ⟨a, ws, rfl, hl, ha, k⟩ := h
  match ws, hl with
  | [], _ =>
    refine ⟨a, rfl, ha, show (1 ≤ 1000 ∧ _) from ⟨by decide, ha, ?_⟩⟩
    refine ⟨V.ref a, rfl, a, C, rfl, T, hc, .inl ⟨ha, fun dx hd hne => ?_⟩⟩
    exact k dx _ hd hne upd_same (by rw [upd_ne hne, upd_same]; rfl) (fun b h1 h2 => by rw [upd_ne h1, upd_ne h2])
theorem in_x1 (T : XC K C) (hf : PySem.W.findIn K (.ref C) f = some none) (hc : PySem.W.findIn K (.ref C) "code" = some none) (h : spX C 1 (fl1 f code) vs H Q E) : tX1 K C txt f code { nx := fun _ H' => Q .non H', rt := Q } (L2.start ["self", f] vs) H := by
  obtain ⟨a, ws, rfl, hl, ha, k⟩ := h
  match ws, hl with
  | [v], _ =>
    refine ⟨a, rfl, ha, show (1 ≤ 1000 ∧ _) from ⟨by decide, ha, ?_⟩⟩
    refine ⟨v, rfl, V.ref a, rfl, a, C, rfl, T, hf, .inl ⟨ha, fun dx hd hne => ?_⟩⟩
    refine ⟨V.ref a, rfl, a, C, rfl, T, hc, .inr ⟨dx, [(f, v)], upd_same, by rw [upd_ne hne, upd_same], by simp, ?_⟩⟩
    exact k dx _ hd hne (by rw [upd_ne (Ne.symm hne), upd_same]) upd_same (fun b h1 h2 => by rw [upd_ne h2, upd_ne h1, upd_ne h2])
theorem in_x2 (T : XC K C) (hf : PySem.W.findIn K (.ref C) f = some none) (hg : PySem.W.findIn K (.ref C) g = some none) (hc : PySem.W.findIn K (.ref C) "code" = some none) (h : spX C 2 (fl2 f g code) vs H Q E) :
    tX2 K C txt f g code { nx := fun _ H' => Q .non H', rt := Q } (L2.start ["self", f, g] vs) H := by
  obtain ⟨a, ws, rfl, hl, ha, k⟩ := h
  match ws, hl with
  | [v, w], _ =>
    refine ⟨a, rfl, ha, show (1 ≤ 1000 ∧ _) from ⟨by decide, ha, ?_⟩⟩
    refine ⟨v, rfl, V.ref a, rfl, a, C, rfl, T, hf, .inl ⟨ha, fun dx hd hne => ?_⟩⟩
    refine ⟨w, rfl, V.ref a, rfl, a, C, rfl, T, hg, .inr ⟨dx, [(f, v)], upd_same, by rw [upd_ne hne, upd_same], by simp, ?_⟩⟩
    refine ⟨V.ref a, rfl, a, C, rfl, T, hc, .inr ⟨dx, [(g, w), (f, v)], by rw [upd_ne (Ne.symm hne), upd_same], upd_same, by simp, ?_⟩⟩
    exact k dx _ hd hne (by rw [upd_ne (Ne.symm hne), upd_ne (Ne.symm hne), upd_same]) upd_same (fun b h1 h2 => by rw [upd_ne h2, upd_ne h2, upd_ne h1, upd_ne h2])
end
/-! ### C(e, ..) to be raised -/
/-- raise C(e, ..): its class, its fields -/
def tMkX (C : Addr) (fl : List V → List (Str × V)) (n : Nat) (ta : TA) : L2.St → Hp → XK → Prop := fun σ H Q => ta σ H fun vs H1 => vs.length = n ∧ n ≤ 1000 ∧ ∀ d H2, H1 d = none → Same H1 H2 → H2 d = some (.xd (fl vs)) → Q (.ref C) (some d) H2
section
variable {X : Cx} {e : Expr} {es : List Expr} {ta : TA} {p pos : Pos} {x : Str} {C fI : Addr} {k n : Nat} {fd : FuncData} {ps : List Str} {fl : List V → List (Str × V)}
theorem mkx_run {pins : List (Addr × Obj)} {σ : L2.St} {H1 : Hp} {Q : XK} {s1 : Shared} {us : List Value} {vs : List V} (T : XC X.K C) (iC : PySem.W.findIn X.K (.ref C) "__init__" = some (some (.ref fI))) (tI : PySem.W.typeIn X.K (.ref fI) = some (.type "function"))
    (F1 : FnOk X.prog X.w X.K X.mg X.base CX0 k fI fd ps (spX C n fl)) (hr : Room (k + 1) X.A) (hb : Binds X.K fd ps [])
    (I1 : Inv X pins σ H1 s1) (r1 : Vals vs us) (hvl : vs.length = n) (hz : n ≤ 1000) (q1 : ∀ d H2, H1 d = none → Same H1 H2 → H2 d = some (.xd (fl vs)) → Q (.ref C) (some d) H2) :
    wpAny (model X.prog X.w) X.A (call (.ref C) us) (MkP X pins σ Q) X.xe s1 := by
  obtain ⟨B, newId, initId, bmB, XBf, x1, x2, x3, x4⟩ := T.ex
  obtain ⟨nm, N', qn, bs, bm, hdct, sn, sub, ab, col, dd, k0, k1, k2, k3, k5, hC, hT⟩ := PySem.W.excInit_of I1.kIn x1
  obtain ⟨hp, g, dr, tk, os⟩ := s1
  have hsz : hp.objs.size ≤ hp.objs.size + 1 := Nat.le_succ _
  have hn : H1 (hp.objs.size + 1) = none := I1.hok.fresh hsz
  have kk : ∀ b o, hp.get? b = some o → ((hp.push (PySem.W.kdv_tup us)).push (PySem.HandSPX.excO C hp.objs.size)).get? b = some o := fun b o e => Heap.get?_push_of_some _ (Heap.get?_push_of_some _ e)
  have hget : ((hp.push (PySem.W.kdv_tup us)).push (PySem.HandSPX.excO C hp.objs.size)).get? (hp.objs.size + 1) = some (PySem.HandSPX.excO C hp.objs.size) := by heap_get
  have I2 : Inv X pins σ (upd H1 (hp.objs.size + 1) (exo (hp.objs.size + 1) C none)) ⟨(hp.push (PySem.W.kdv_tup us)).push (PySem.HandSPX.excO C hp.objs.size), g, dr, tk, os⟩ :=
    I1.laid (t' := tk) (a := hp.objs.size + 1) (o := exo (hp.objs.size + 1) C none) (h' := (hp.push (PySem.W.kdv_tup us)).push (PySem.HandSPX.excO C hp.objs.size)) kk hsz (exo_ok hget)
  have r2 : Vals (V.ref (hp.objs.size + 1) :: vs) (Value.ref (hp.objs.size + 1) :: us) := .cons rfl r1
  have hus : us.length ≤ sizeLine := by
    rw [← Paired.length r1, sizeLine_eq]
    omega
  have hsp : spX C n fl (V.ref (hp.objs.size + 1) :: vs) (upd H1 (hp.objs.size + 1) (exo (hp.objs.size + 1) C none)) (fun v H2 => v = .non ∧ ∃ (d : Addr) (fs : List (Str × V)), H2 (hp.objs.size + 1) = some (exo (hp.objs.size + 1) C (some d)) ∧ H2 d = some (exd d fs) ∧ H1 d = none ∧ Q (.ref C) (some d) (upd (L2.del H2 (hp.objs.size + 1)) d (.xd fs))) (fun _ _ _ => False) := by
    refine ⟨_, vs, rfl, hvl, upd_same, fun d H' hd hne h1 h2 h3 => ⟨rfl, d, fl vs, h1, h2, ?_, ?_⟩⟩
    · rw [upd_ne hne] at hd
      exact hd
    · rw [upd_ne hne] at hd
      refine q1 d _ hd (fun b o hb => ?_) upd_same
      have hbd : b ≠ d := ne_of_none hb hd
      have hba : b ≠ hp.objs.size + 1 := ne_of_none hb hn
      rw [upd_ne hbd, L2.del_ne hba, h3 b hba hbd, upd_ne hba]
      exact hb
  have hl : (Value.ref (hp.objs.size + 1) :: us).length = ps.length := by
    have e := r2.length
    rw [F1.len _ _ _ _ hsp] at e
    exact e.symm
  have b := hb ⟨(hp.push (PySem.W.kdv_tup us)).push (PySem.HandSPX.excO C hp.objs.size), g, dr, tk, os⟩ (Value.ref (hp.objs.size + 1) :: us) I2.kIn (by rw [List.append_nil]; exact hl)
  rw [List.append_nil] at b
  refine wpAny_call (PySem.HandSPX.call_own XBf.base hT hC (PySem.W.looks_findIn I1.kIn iC) (fun self => PySem.W.bind_fn I1.kIn self tI) hus
    (codeAny_mono (F1.run _ X.stack _ _ ⟨Value.ref (hp.objs.size + 1) :: us, []⟩ (Value.ref (hp.objs.size + 1) :: us) _ _ (fun _ _ _ => False) (hr.make C us []) (I2.env0.make C us []) b r2 hsp) fun r s' hq' => ?_))
  cases r with
  | error er => exact (show False from hq').elim
  | ok fl' =>
    cases fl' with
    | ret u =>
      obtain ⟨v, H2, os2, bare2, un2, hok2, rv, ev, d, fs, ea, ed, hd1, q2⟩ := hq'
      subst ev
      obtain ⟨h2, g2, d2, t2, os'⟩ := s'
      exact ⟨rv, mk_end (raises_own T.exC T.tyC) I1 hsz kk un2 hok2 os2 bare2 ea ed hd1 q2⟩
    | next => exact False.elim hq'
    | brk => exact False.elim hq'
    | cont => exact False.elim hq'
theorem pmk_x (T : XC X.K C) (iC : PySem.W.findIn X.K (.ref C) "__init__" = some (some (.ref fI))) (tI : PySem.W.typeIn X.K (.ref fI) = some (.type "function"))
    (F1 : FnOk X.prog X.w X.K X.mg X.base CX0 k fI fd ps (spX C n fl)) (hr : Room (k + 1) X.A) (hb : Binds X.K fd ps []) (hg : Gl X x) (hm : X.mg x = some (.ref C)) (ha : PA X (e :: es) ta)
    (hdb : (x == ("__debug__" : Str)) = false := by decide) (he : starEach (e :: es) X.env = (false, eval e X.env) :: starEach es X.env := by rfl) (hpl : (backTo pos (starEach es X.env)).any (·.1) = false := by rfl) :
    PMk X (.Call (.Name x p) (e :: es) [] pos) (tMkX C fl n ta) := by
  intro pins s σ H Q I h
  refine wpAny_Call_Name_kw (ld_glob I hg hm ?_ hdb)
  refine PySem.W.callWith_K (h₀ := X.base) I.ok.mod.kin T.kC (thn (ha.run pos pins s σ H _ I h) fun us s1 ⟨vs, H1, I1, r1, hl, hz, q1⟩ => ⟨I1.kIn, ?_⟩) he hpl
  exact mkx_run T iC tI F1 hr hb I1 r1 hl hz q1
theorem pmk_x0 (T : XC X.K C) (iC : PySem.W.findIn X.K (.ref C) "__init__" = some (some (.ref fI))) (tI : PySem.W.typeIn X.K (.ref fI) = some (.type "function"))
    (F1 : FnOk X.prog X.w X.K X.mg X.base CX0 k fI fd ps (spX C 0 fl)) (hr : Room (k + 1) X.A) (hb : Binds X.K fd ps []) (hg : Gl X x) (hm : X.mg x = some (.ref C))
    (hdb : (x == ("__debug__" : Str)) = false := by decide) : PMk X (.Call (.Name x p) [] [] pos) (tMkX C fl 0 tNil) := by
  intro pins s σ H Q I h
  obtain ⟨hl, hz, q1⟩ := h
  refine wpAny_Call_Name_kw (ld_glob I hg hm ?_ hdb)
  refine PySem.W.callWith_K0 I.kIn T.kC ?_
  exact mkx_run T iC tI F1 hr hb I .nil hl hz q1
end
end SW

namespace SW
open PySem PySem.Spec PyProof.Rows L2
/-- super().m(e, ..), self an instance of C, where the next class's m is the def at f2 -/
def tSupM (C : Addr) (sp : Sp) (E : XK) (ta : TA) : TS := fun D σ H => ∃ a dx fs, σ[0]? = some (some (.ref a)) ∧ H a = some (.ins C dx fs) ∧ ta σ H fun vs H1 => sp (.ref a :: vs) H1 (fun _ H2 => D.nx σ H2) E
theorem ins_inst {P : Program} {w : World} {H : Hp} {h : Heap} {a C dx : Addr} {fs : List (Str × V)} (hok : HOk P w H h) (e : H a = some (.ins C dx fs)) : ∃ ox od, PySem.W.InstAt h a ox C (some od) := by
  obtain ⟨mA, O, _⟩ := ins_get hok e
  obtain ⟨od, _, _, hod, _⟩ := O.ns
  exact ⟨_, od, O.obj, rfl, rfl, hod⟩
structure SupM (K : PySem.W.Frag) (C : Addr) (m : Str) (f2 : Addr) : Prop where
  own : PySem.W.mroIn K C (.ref C) = some true
  nxt : PySem.W.ks_superIn K C C m = some (some (.ref f2))
  ty : PySem.W.typeIn K (.ref f2) = some (.type "function")
  fn : PySem.W.fnIn K f2 = true
section
variable {CX CX2 : CXT} {P : Program} {w : World} {K : PySem.W.Frag} {mg : Str → Option Value} {base : Heap} {N ps ps2 : List Str} {qual sf m : Str} {scope : Scope} {f f2 cc C : Addr} {cdv : Value} {params : Arguments} {A : Around} {outer : List Env} {s0 : Shared} {H0 : Hp} {E0' E2 : XK} {b0 rest : List Stmt} {e : Expr} {es : List Expr} {ta : TA} {u : TS} {p0 p1 p2 p3 p4 : Pos} {k2 : Nat} {fd2 : FuncData} {sp2 : Sp}
theorem psa_supM {pl : Sem Bool} (S : SupScope N ps scope) (T : SupK P K f cc C cdv params sf) (hm : mg "super" = none) (h0 : ps[0]? = some sf) (M : SupM K C m f2)
    (F2 : FnOk P w K mg base CX2 k2 f2 fd2 ps2 sp2) (hr : Room k2 (cxSup CX P w K mg base N qual scope f cdv cc A outer s0 H0 E0').A) (hb : Binds K fd2 ps2 []) (hx : Passes CX2 (cxSup CX P w K mg base N qual scope f cdv cc A outer s0 H0 E0') E2) (hat : (m == ("__class__" : Str)) = false)
    (ha : PA (cxSup CX P w K mg base N qual scope f cdv cc A outer s0 H0 E0') (e :: es) ta) (h2 : PSsA (cxSup CX P w K mg base N qual scope f cdv cc A outer s0 H0 E0') b0 rest u)
    (he : starEach (e :: es) (cxSup CX P w K mg base N qual scope f cdv cc A outer s0 H0 E0').env = (false, eval e (cxSup CX P w K mg base N qual scope f cdv cc A outer s0 H0 E0').env) :: starEach es (cxSup CX P w K mg base N qual scope f cdv cc A outer s0 H0 E0').env := by rfl)
    (hpl : (backTo p3 (starEach es (cxSup CX P w K mg base N qual scope f cdv cc A outer s0 H0 E0').env)).any (·.1) = false := by rfl)
    (hsw : swapsWith (.Call (.Attribute (.Call (.Name "super" p0) [] [] p1) m p2) (e :: es) [] p3) none p4.line (cxSup CX P w K mg base N qual scope f cdv cc A outer s0 H0 E0').env = pure false := by rfl)
    (hc : eval (.Call (.Attribute (.Call (.Name "super" p0) [] [] p1) m p2) (e :: es) [] p3) (cxSup CX P w K mg base N qual scope f cdv cc A outer s0 H0 E0').env = (do
      let ov ← attributeBase (.Call (.Name "super" p0) [] [] p1) m (cxSup CX P w K mg base N qual scope f cdv cc A outer s0 H0 E0').env (eval (.Call (.Name "super" p0) [] [] p1) (cxSup CX P w K mg base N qual scope f cdv cc A outer s0 H0 E0').env)
      standAt p2.atName
      let (fx, first) ← holding [ov] (getMethod ov m pl)
      callWith p3 fx first (backTo p3 (starEach (e :: es) (cxSup CX P w K mg base N qual scope f cdv cc A outer s0 H0 E0').env)) []) := by rfl) :
    PSsA (cxSup CX P w K mg base N qual scope f cdv cc A outer s0 H0 E0') b0 (.Expr (.Call (.Attribute (.Call (.Name "super" p0) [] [] p1) m p2) (e :: es) [] p3) p4 :: rest) (tSeq (tSupM C sp2 E2 ta) u) := by
  refine ⟨fun pins s σ H D I h => ?_⟩
  obtain ⟨a, dx, fs, hσ, ea, hta⟩ := h
  obtain ⟨ox, od, J0⟩ := ins_inst I.hok ea
  have hi : interactive (cxSup CX P w K mg base N qual scope f cdv cc A outer s0 H0 E0').env = false := by
    unfold interactive
    rw [show (cxSup CX P w K mg base N qual scope f cdv cc A outer s0 H0 E0').env.scope.kind = .function from S.kind]
    rfl
  refine ks_wpAt_execs_cons (ks_wpAt_Expr_any (ks_wpAt_MethodCall ?_ hc) hi hsw)
  refine sup_base S T hm h0 I hσ J0 M.own hat fun so h' k hs hso => ?_
  obtain ⟨hp, g, d, t, os⟩ := s
  have X' : K.In h' := fun b o z => k b o (I.kIn b o z)
  have J : PySem.W.InstAt h' a ox C (some od) := ⟨k _ _ J0.at_, J0.cls, J0.no, by
    have := J0.dict
    revert this
    cases ox.dict with
    | none => exact fun z => z
    | some dd => exact fun z => k _ _ z⟩
  have q4 := M.nxt
  cases hcC : PySem.W.clsIn K C with
  | none => unfold PySem.W.ks_superIn at q4; rw [hcC] at q4; cases q4
  | some cd =>
    unfold PySem.W.ks_superIn at q4
    rw [hcC] at q4
    obtain ⟨of, hof, hofc⟩ : ∃ of, h'.get? f2 = some of ∧ of.cls = .type "function" := by
      have ht' : (K.lookup f2).map (·.cls) = some (.type "function") := M.ty
      cases z : K.lookup f2 with
      | none => rw [z] at ht'; cases ht'
      | some of => rw [z] at ht'; exact ⟨of, X' _ _ z, Option.some.inj ht'⟩
    refine ks_wpAny_getMethod_super hso (PySem.W.looks_opaque X' T.opq) (l₀ := cd.mro) (fun A Q E s k q => wpAny_bind ((PySem.W.looks_clsIn X' hcC) A _ E s k (wpAny_pure q))) rfl X' q4 hof hofc (PySem.W.ks_ne X' J hcC) hat ?_
    have kk : ∀ b o, hp.get? b = some o → (h'.push { cls := .type "method", data := .fields #[.ref f2, .ref a] }).get? b = some o := fun b o z => Heap.get?_push_of_some _ (k b o z)
    have hsz : hp.objs.size ≤ h'.objs.size := Nat.le_trans hs (Nat.le_of_lt (Heap.lt_size hso))
    have hu : (h'.push { cls := .type "method", data := .fields #[.ref f2, .ref a] }).get? h'.objs.size = some { cls := .type "method", data := .fields #[.ref f2, .ref a] } := Heap.get?_push_at rfl rfl
    have I2 := ClX.pin_new (t' := t + 1) I kk hsz hu (fun v z => by cases z)
    show wpAny _ _ (callWith p3 (.ref h'.objs.size) [] (backTo p3 (starEach (e :: es) _)) []) _ _ _
    rw [he]
    refine PySem.W.callWith_of (P := PySem.W.MethP K h'.objs.size f2 (.ref a)) (by show ((false || (backTo p3 (starEach es _)).any (·.1)) || false) = false; rw [hpl]; rfl) (PySem.W.keeps_M M.fn) ?_
    refine PySem.Calls.evalArgs_plain ?_
    have hr' := ha.run p3 _ _ σ H _ I2 hta
    rw [he] at hr'
    refine thn hr' fun us s3 ⟨vs, H1, I3, r3, q⟩ => ⟨⟨ClX.pin_at I3, I3.kIn⟩, ?_⟩
    have hu3 := ClX.pin_at I3
    have I3' := ClX.unpin I3
    have r4 : Vals (V.ref a :: vs) (Value.ref a :: us) := .cons rfl r3
    have hl : (Value.ref a :: us).length = ps2.length := by rw [← r4.length]; exact F2.len _ _ _ _ q
    have b := hb s3 (Value.ref a :: us) I3'.kIn (by rw [List.append_nil]; exact hl)
    rw [List.append_nil] at b
    have rc := F2.run (cxSup CX P w K mg base N qual scope f cdv cc A outer s0 H0 E0').A (cxSup CX P w K mg base N qual scope f cdv cc A outer s0 H0 E0').stack s3 H1 ⟨Value.ref a :: us, []⟩ (Value.ref a :: us) (V.ref a :: vs) _ E2 hr I3'.env0 b r4 q
    refine wpAny_call (ks_codeAny_call_bound hu3 (codeAny_mono rc fun r s' hq => ?_))
    cases r with
    | error er => exact hx pins σ H1 s3 er s' I3' hq
    | ok fl =>
      cases fl with
      | ret v =>
        obtain ⟨v', H2, I4, rv, q4⟩ := I3'.after hq
        exact h2.run pins s' σ H2 D I4 q4
      | next => exact False.elim hq
      | brk => exact False.elim hq
      | cont => exact False.elim hq
end
end SW

namespace SW
open PySem PySem.Spec PyProof.Rows L2 LamX
/-! ### a lambda that is handed on -/
theorem un_step {F0 F1 : List Addr} {H0 H1 H2 : Hp} {h0 h1 h2 : Heap} (a : Un F0 [] H0 H1 h0 h1) (b : Un F1 [] H1 H2 h1 h2) (hF : ∀ x ∈ F1, x ∈ F0 ∨ h0.objs.size ≤ x) : Un F0 [] H0 H2 h0 h2 where
  keep := fun x o q n hx _ => by
    have hx1 : x ∉ F1 := fun z => (hF x z).elim hx fun w => absurd (Heap.lt_size q) (Nat.not_lt.mpr w)
    exact b.keep x o (a.keep x o q n hx (by simp)) (a.free x o q n (by simp)) hx1 (by simp)
  slot := fun x o q n hx _ => by
    obtain ⟨sl, q1⟩ := a.slot x o q n hx (by simp)
    obtain ⟨sl2, q2⟩ := b.any q1 (a.free x o q n (by simp)) (by simp)
    exact ⟨sl2, q2⟩
  free := fun x o q n _ => by
    obtain ⟨sl, q1⟩ := a.any q n (by simp)
    exact b.free x _ q1 (a.free x o q n (by simp)) (by simp)
  there := fun x o q _ => by
    obtain ⟨o1, q1⟩ := a.there x o q (by simp)
    exact b.there x o1 q1 (by simp)
  tups := fun x xs q => b.tups x xs (a.tups x xs q)
  frzs := fun x o u q => b.frzs x o u (a.frzs x o u q)
  tbls := fun x ps q => by
    obtain ⟨m1, q1⟩ := a.tbls x ps q
    obtain ⟨m2, q2⟩ := b.tbls x _ q1
    exact ⟨m1 ++ m2, by rw [q2, Array.append_assoc]⟩
/-- f() in any later state: f was made at s0, H0, its code object is c' -/
structure Callable (P : Program) (w : World) (K : PySem.W.Frag) (mg : Str → Option Value) (base : Heap) (F0 : List Addr) (s0 : Shared) (H0 : Hp) (f c' : Addr) (q : Str) (k : Nat) (tl : XK → Hp → VK → Prop) : Prop where
  at_ : ∃ o, s0.heap.get? f = some o ∧ H0 f = none ∧ f ∉ F0
  fn : ∀ {s1 : Shared} {H1 : Hp}, Un F0 [] H0 H1 s0.heap s1.heap → ∃ a b c d, s1.heap.get? f = some ⟨a, b, .func c, d⟩
  run : ∀ (A : Around) (outer : List Env) (s1 : Shared) (H1 : Hp) (Q : VK) (E : XK), Room k A → Env0 P w K mg base A outer s1 H1 → Un F0 [] H0 H1 s0.heap s1.heap → H1 c' = some (CodeO c' q) → tl E H1 Q →
    codeAny (model P w) A (.call (.ref f) ⟨[], []⟩) (CR (L2.CX P w) outer P w H1 s1 Q E) s1
theorem lam_callable {X : Cx} {pins : List (Addr × Obj)} {σ : L2.St} {H : Hp} {s : Shared} {f c' : Addr} {pm ctv : Value} {params : Arguments} {body : Expr} {scope : Scope} {k : Nat} {t : XK → TE}
    (I : Inv X pins σ H s) (L : LamS X.env.scope scope) (hf : s.heap.get? f = some (PySem.W.kla_obj "<lambda>" (X.env.qual ++ "<lambda>") params body scope (cloFrom X.env.cells scope.names []) pm c' ctv)) (hfn : H f = none) (hfr : f ∉ frs X.stack)
    (hbind : ∀ (q : Str) (cl : List (Str × Addr)) (pm cv ctv : Value), bindArgs (PySem.W.kla_fn "<lambda>" q params body scope cl pm cv ctv) ⟨[], []⟩ = pure [])
    (hbody : ∀ (A : Around) (outer : List Env) (s : Shared) (H : Hp) (E : XK), Room k (A.deeper (lamEnv X scope s.heap.objs.size f c')) → PE (lamCx X A outer s H E scope f c') body (t E)) :
    Callable X.prog X.w X.K X.mg X.base (frs X.stack) s H f c' (X.env.qual ++ "<lambda>") (k + 1) (fun E H' Q' => t E σ H' Q') where
  at_ := ⟨_, hf, hfn, hfr⟩
  fn := fun {s1 H1} un => ⟨_, _, _, _, un.keep f _ hf hfn hfr (by simp)⟩
  run := fun A outer s1 H1 Q E hr e0 un hc ht => by
    have of1 := un.keep f _ hf hfn hfr (by simp)
    obtain ⟨⟨oc, vs, tk, hoc, hdc, hvc⟩, _, _⟩ := e0.hok c' _ hc
    refine PySem.W.kla_callFunE hr.depth of1 rfl L.co L.gen rfl ⟨c', oc, vs, tk, rfl, hoc, hdc, hvc⟩ ?_
    rw [hbind]
    refine wpAny_pure (wpAny_newFunctionEnv (fun y hy => (L.own y hy).2) (fun y hy => absurd hy (by simp)) (fun h₁ hns hsb => ⟨(e0.mod.nolimit.keeps fun b o e => (e0.bs b o e).1).fresh _ hsb, ?_⟩) L.kind)
    show codeAny _ _ (.expr body (lamEnv X scope s1.heap.objs.size f c')) _ _
    have kp : ∀ b o, s1.heap.get? b = some o → h₁.get? b = some o := fun b o e => hsb.extBut b o (Nat.ne_of_lt (Heap.lt_size e)) (Heap.get?_push_of_some _ e)
    have J := lam_start2 (A := A) (outer := outer) (E := E) (f := f) (c' := c') (tk := s1.toks + ([] : List (Str × Value)).length) I L e0 hr.hd un hns kp
    refine PySem.W.kla_codeExpr (wpAny_mono ((hbody A outer s1 H1 E (hr.deeper _)).run [] _ _ H1 Q J ht) (fun v s' hq => ?_) fun e s' hq => hq)
    obtain ⟨w', H', J', rv, q⟩ := hq
    exact ⟨w', H', J'.os, J'.bare, J'.base, J'.hok, rv, q⟩
/-- a(), a a parameter that holds such an f; Z the context of the def that calls it -/
theorem pe_actZ {Z : Cx} {F0 : List Addr} {s0 : Shared} {H0 : Hp} {f c' : Addr} {q : Str} {k i : Nat} {tl : XK → Hp → VK → Prop} {a : Str} {W : WX} {E : XK} {p1 p2 : Pos}
    (C : Callable Z.prog Z.w Z.K Z.mg Z.base F0 s0 H0 f c' q k tl) (un : ∀ {pins : List (Addr × Obj)} {σ : L2.St} {H : Hp} {s : Shared}, Inv Z pins σ H s → Un F0 [] H0 H s0.heap s.heap) (hr : Room k Z.A)
    (tk : Takes Z W) (hW : ∀ cls d σ' H', E cls d H' → W cls d σ' H') (hN : Z.N[i]? = some a) (hv : Vis Z.env.scope a) (hd : (a == ("__debug__" : Str)) = false := by decide) (hcd : (a == ("__classdict__" : Str)) = false := by decide) :
    PE Z (.Call (.Name a p1) [] [] p2) (fun σZ HZ Q => σZ[i]? = some (some (.ref f)) ∧ HZ c' = some (CodeO c' q) ∧ tl E HZ Q) := by
  refine ⟨fun pins s σ H Q IZ h => ?_⟩
  obtain ⟨hs, hc, ht⟩ := h
  refine wpAny_Call_Name_kw (thn ((pe_var (pos := p1) (i := i) hN hv hd hcd).run pins s σ H (fun v H1 => v = .ref f ∧ H1 = H) IZ ⟨.ref f, hs, rfl, rfl⟩) fun u s1 ⟨v, H1, I1, r1, q1⟩ => ?_)
  obtain ⟨ev, eH⟩ := q1
  subst ev
  rw [eH] at I1
  obtain rfl : u = Value.ref f := r1
  have un1 := un I1
  obtain ⟨x1, x2, x3, x4, of1⟩ := C.fn un1
  refine PySem.W.callWith_F0 ⟨_, _, _, _, of1⟩ ?_
  have rc := C.run Z.A Z.stack s1 H Q E hr I1.env0 un1 hc ht
  have hx : Passes (L2.CX Z.prog Z.w) Z E := passes_call tk hW
  refine wpAny_call (codeAny_mono rc fun r s' hq => ?_)
  cases r with
  | error e => exact hx pins σ H s1 e s' I1 hq
  | ok fl =>
    cases fl with
    | ret u => exact I1.after hq
    | next => exact False.elim hq
    | brk => exact False.elim hq
    | cont => exact False.elim hq
end SW

namespace SW
open PySem PySem.Spec PyProof.Rows L2 LamX
theorem flying_keeps {B h h' : Heap} {l : List Env} {e : Addr} {Z : Obj → Prop} (k : ∀ b o, h.get? b = some o → h'.get? b = some o) (fl : HandSPX.FlyingZ B l e Z h) : HandSPX.FlyingZ B l e Z h' := by
  obtain ⟨k1, k2, k3, oe, vs, T, oT, ts, he, hz, hd, h1, bT, nT, hT, r⟩ := fl
  exact ⟨fun b o q => k b o (k1 b o q), k2, Heap.FunFrames.of_keeps (fun b o q _ => ⟨o, k b o q, rfl⟩) k3, oe, vs, T, oT, ts, k _ _ he, hz, hd, h1, bT, nT, k _ _ hT, r⟩
/-- what the clause 'except (x1, x2) as n' wishes of an exception of the body, which is of one of the two classes -/
def wTup (K : PySem.W.Frag) (c1 c2 : Value) (i m : Nat) (ts : Addr → Value → Option Addr → TS) (D : Ends) : WX := fun cls d σ H =>
  PySem.W.exmAny K cls [c1, c2] = some true ∧ ∀ a, H a = none → σ.length = m → ts a cls d { nx := fun σ' H' => D.nx (σ'.set i none) H', rt := D.rt, bk := fun σ' H' => D.bk (σ'.set i none) H', ct := fun σ' H' => D.ct (σ'.set i none) H' } (σ.set i (some (.ref a))) H
section
variable {X : Cx} {x1 x2 n : Str} {c1 c2 : Value} {i kk : Nat} {body suite : List Stmt} {b₀ : Stmt} {np1 np2 tpos pos pos' : Pos} {tb : WX → TS} {ts : Addr → Value → Option Addr → TS}
theorem ps_try_tup (hs : X.stack = X.env :: X.outer) (hf : X.env.frame = some X.env.locals) (hN : X.N.Nodup) (hi : X.N[i]? = some n) (hln : X.env.kindOf n = some .local) (n1 : Names X x1 c1) (n2 : Names X x2 c2)
    (hb : ∀ (W : WX) (pn : List (Addr × Obj)) (xe : Value → Shared → Prop), Takes (X.tr pn xe) W → PassesOwn (model X.prog X.w) X.A X.env xe → PSs (X.tr pn xe) body (tb W))
    (hsu : ∀ (a : Addr) (oe : Obj) (cls : Value) (d : Option Addr) (pn : List (Addr × Obj)), Zc cls d oe → (∃ vs, oe.data = .fields vs) → PSs (X.suite a ((a, oe) :: pn)) (b₀ :: suite) (ts a cls d)) :
    PS X (.Try body [.ExceptHandler (some (.Tuple [.Name x1 np1, .Name x2 np2] kk tpos)) (some n) (b₀ :: suite) pos'] [] [] pos) (fun D σ H => tb (wTup X.K c1 c2 i X.N.length ts D) D σ H) := by
  refine ⟨fun pins s σ H D I h => ?_⟩
  have ok := I.ok
  have hfr : X.A.frames = some (X.env :: X.outer) := by rw [ok.frames, hs]
  have hloc : Loc X.env.scope n := .inl hln
  refine wpAny_Try_except ?_
  refine wpAny_mono ((hb (wTup X.K c1 c2 i X.N.length ts D) (X.pn ++ pins) (fun e s₁ => wpAny (model X.prog X.w) X.A (noteFrame e X.env) (fun _ s₂ => wpAny (model X.prog X.w) X.A (setFlight e none) (fun _ s₃ =>
    wpAny (model X.prog X.w) X.A (handleBy e X.env [.ExceptHandler (some (.Tuple [.Name x1 np1, .Name x2 np2] kk tpos)) (some n) (b₀ :: suite) pos']) (SP X pins D) X.xe s₃) X.xe s₂) X.xe s₁) (fun u s' xx => ?_) PassesOwn.looking).run [] s σ H D (I.toTry _) h) (fun f s1 hsp => ?_) (fun e s1 he => he)
  · obtain ⟨a, B, sI, pins', σ', H', cls, d, rfl, J', nb, up, sky, na, os, ag, hb1, hyes⟩ := xx
    have J : Inv X pins σ' H' sI := J'.ofTry ok
    have sky' : Sky B (X.env :: X.outer) a (Zc cls d) X.env.locals s'.heap := by rw [← hs]; exact sky
    show wpAny (model X.prog X.w) X.A (noteFrame (.ref a) X.env) _ _ _
    refine Sky.land Zc.steady hfr hf sky' fun h3 fl3 up3 => ?_
    have J3 : Inv X pins σ' H' { s' with heap := h3 } := J.landed nb fl3.1 (up.trans up3) os ag
    obtain ⟨oe3, vs3, he3, hz3, hd3⟩ := fl3.there
    have nfr : a ∉ frs (X.env :: X.outer) := fun hm => by
      obtain ⟨_, o', e', hnf⟩ := fl3.2.2.1.mem hm
      rw [he3] at e'
      cases e'
      exact hnf _ hd3
    have nL : a ≠ X.env.locals := fun z => nfr (List.mem_filterMap.mpr ⟨X.env, List.mem_cons_self, by rw [hf, z]⟩)
    have nF : a ∉ X.fs := fun hm => by
      obtain ⟨e, he, q⟩ := List.mem_filterMap.mp hm
      exact nfr (List.mem_filterMap.mpr ⟨e, List.mem_cons_of_mem _ he, q⟩)
    have S3 := J3.suite he3 hd3 na nL nF
    refine wpAny_handleBy_cons (codeAny_handlers_test ?_) (by intro q; cases q)
    have LT : PySem.W.Looks (model X.prog X.w) h3 (typeOf (.ref a)) cls := fun A Q E s k q => wpAny_typeOf_ref (k _ _ he3) (by rw [hz3.1]; exact q)
    have name : ∀ {x : Str} {c : Value} {np : Pos} (_ : Names X x c) {Q : Value → Shared → Prop} {E : Value → Shared → Prop}, Q c { s' with heap := h3 } → wpAny (model X.prog X.w) (X.A.mark (some (.ref a))) (eval (.Name x np) X.env) Q E { s' with heap := h3 } := fun {x c np} hc {Q E} q => by
      obtain ⟨hg, hdbg, hm | ⟨hm, hv, hnn⟩⟩ := hc
      · exact ld_glob (X := X.suite a ((a, oe3) :: (X.pn ++ pins))) S3 hg hm q hdbg
      · exact ld_blt (X := X.suite a ((a, oe3) :: (X.pn ++ pins))) S3 hg hm hv q hnn hdbg
    refine wpAny_Tuple ?_
    refine wpAny_items_cons (name n1 ?_)
    refine wpAny_items_cons (name n2 ?_)
    refine wpAny_items_nil ⟨by size_fits, ?_⟩
    have kp : ∀ q o, h3.get? q = some o → (h3.push { cls := .type "tuple", data := .seq [c1, c2].toArray }).get? q = some o := fun _ _ z => Heap.get?_push_of_some _ z
    have KX3 : X.K.In (h3.push { cls := .type "tuple", data := .seq [c1, c2].toArray }) := fun b o z => kp b o (J3.kIn b o z)
    refine (PySem.W.exm_tup2 KX3 (LT.keeps kp) (Heap.get?_push_size h3 rfl) hb1).here ?_
    have flP := flying_keeps kp fl3
    refine codeAny_handlers_suite_as ?_
    refine HandSPX.lands_againZ flP fun h4 fl4 up4 => ?_
    have J4 : Inv X pins σ' H' { s' with heap := h4 } := J.landed nb fl4.1 ((up.trans up3).trans ((Heap.UpToSlots.of_keeps kp).trans up4)) os ag
    obtain ⟨oe4, vs4, he4, hz4, hd4⟩ := fl4.there
    have S4 := J4.suite he4 hd4 na nL nF
    refine store_ok (X := X.suite a ((a, oe4) :: (X.pn ++ pins))) (v := .ref a) S4 hN hi hloc rfl (fun s5 S5 => ?_) (.inr hln)
    refine wpAny_mono ((hsu a oe4 cls d (X.pn ++ pins) hz4 ⟨_, hd4⟩).run [] s5 _ H' _ S5 (hyes a na J.len)) (fun f s6 hsp => ?_) (fun _ _ z => False.elim z)
    have end_ : ∀ {σ6 : L2.St} {H6 : Hp} {Q : Shared → Prop}, Inv (X.suite a ((a, oe4) :: (X.pn ++ pins))) [] σ6 H6 s6 → (∀ s7, Inv X pins (σ6.set i none) H6 s7 → Q s7) →
        wpAny (model X.prog X.w) X.A (do bindName X.env n .none; unbindBehindTheSuite X.env n pos') (fun _ s7 => Q s7) X.xe s6 := fun {σ6 H6 Q} S6 hq => gone_ok (S6.unsuite ok) hN hi hln hq
    cases f with
    | next =>
      obtain ⟨σ6, H6, S6, q6⟩ := hsp
      exact end_ S6 fun s7 J7 => ⟨_, _, J7, q6⟩
    | brk =>
      obtain ⟨σ6, H6, S6, q6⟩ := hsp
      exact end_ S6 fun s7 J7 => ⟨_, _, J7, q6⟩
    | cont =>
      obtain ⟨σ6, H6, S6, q6⟩ := hsp
      exact end_ S6 fun s7 J7 => ⟨_, _, J7, q6⟩
    | ret u =>
      obtain ⟨v6, σ6, H6, S6, r6, q6⟩ := hsp
      exact end_ S6 fun s7 J7 => ⟨_, _, _, J7, r6, q6⟩
  · cases f with
    | next =>
      obtain ⟨σ', H', J', q⟩ := hsp
      exact wpAny_execs_nil ⟨σ', H', J'.ofTry ok, q⟩
    | brk =>
      obtain ⟨σ', H', J', q⟩ := hsp
      exact ⟨σ', H', J'.ofTry ok, q⟩
    | cont =>
      obtain ⟨σ', H', J', q⟩ := hsp
      exact ⟨σ', H', J'.ofTry ok, q⟩
    | ret u =>
      obtain ⟨v, σ', H', J', r, q⟩ := hsp
      exact ⟨v, σ', H', J'.ofTry ok, r, q⟩
end
/-! ### the exception that a suite holds, handed to a def -/
section
variable {X : Cx} {a C : Addr} {oe : Obj} {cls : Value} {d : Option Addr}
/-- e.f, e the pinned exception -/
def tXfA (K : PySem.W.Frag) (a : Addr) (cls : Value) (d : Option Addr) (n : Str) (te : TE) : TE := fun σ H Q => te σ H fun x H1 => x = .ref a ∧ ∃ C, cls = .ref C ∧ XfC K C ∧ PySem.W.findIn K (.ref C) n = some none ∧
  ∃ (dd : Addr) (fs : List (Str × V)) (v : V), d = some dd ∧ H1 dd = some (.xd fs) ∧ fs.lookup n = some v ∧ Q v H1
theorem pe_xfA {e : Expr} {te : TE} {pos : Pos} {n : Str} (hp : (a, oe) ∈ X.pn)
    (hz : Zc cls d oe) (hf : ∃ vs, oe.data = .fields vs) (he : PE X e te) (hb : attributeBase e n X.env (eval e X.env) = eval e X.env := by rfl) :
    PE X (.Attribute e n pos) (tXfA X.K a cls d n te) := by
  refine ⟨fun pins s σ H Q I h => ?_⟩
  refine attr_of hb (thn (he.run pins s σ H _ I h) fun u s1 hh => ?_)
  obtain ⟨x, H1, I1, rx, ex, C, ec, T, hno, dd, fs, v, ed, ea, l, q⟩ := hh
  subst ex
  obtain rfl : u = Value.ref a := rx
  subst ec
  subst ed
  obtain ⟨ha, _⟩ := I1.pin (a, oe) (List.mem_append_left _ hp)
  obtain ⟨vs, hd⟩ := hf
  have hx : ObjOk X.prog X.w H1 s1.heap dd (.xd fs) := I1.hok dd _ ea
  obtain ⟨mA, hns, hr⟩ := hx
  obtain ⟨od, ho, hl⟩ := lookIn_ns hns
  obtain ⟨u, hu, ru⟩ := RelO.some_of (v := v) (o := mA n) (by rw [← l]; exact hr n)
  have J : PySem.W.InstAt s1.heap a oe C (some od) := ⟨ha, hz.1, by unfold PySem.W.notCls; rw [hd] <;> rfl, by rw [hz.2]; exact ho⟩
  exact HandSPX.exc_get I1.kIn J T.ga T.gg T.exC (PySem.W.findObj_own T.hdC hno rfl (by rw [hl, hu])) (handed_of ru) ⟨v, H1, I1.tok _, ru, q⟩
end
/-- f(e) in a suite: the def's body is read where the exception p is pinned, too -/
theorem pe_callP {X : Cx} {f : Addr} {p : Addr × Obj} {name : Str} {params : Arguments} {body : List Stmt} {scope : Scope} {dV kV doc pm cdv ct oc : Value} {an od : Option Addr} {osl : Array (Option Value)} {N ps : List Str} {ta : TA} {q pos : Pos} {e : Expr} {es : List Expr}
    {tb : TS} (lk : X.K.lookup f = some ⟨oc, od, .func (PySem.W.fnOf name name params body scope dV kV doc pm an cdv ct), osl⟩) (hcd : PySem.W.codeIn X.K cdv name = true) (S : FnScope N ps scope) (hb : Binds X.K (PySem.W.fnOf name name params body scope dV kV doc pm an cdv ct) ps [])
    (hp : p ∈ X.pn) (hg : Gl X name) (hm : X.mg name = some (.ref f)) (hk : PySem.W.keepIn X.K (.ref f) = true) (hr : X.A.depth < recursionLimit)
    (hbody : ∀ (s : Shared) (H : Hp), PSs (L2H.cxH CX0 X.prog X.w X.K X.mg X.base N name scope f cdv X.A X.stack s H E0 p) body tb)
    (ha : PA X (e :: es) ta) (hdb : (name == ("__debug__" : Str)) = false := by decide) (he : starEach (e :: es) X.env = (false, eval e X.env) :: starEach es X.env := by rfl) (hpl : (backTo pos (starEach es X.env)).any (·.1) = false := by rfl) :
    PE X (.Call (.Name name q) (e :: es) [] pos) (fun σ H Q => ta σ H fun vs H1 => vs.length = ps.length ∧ tb { nx := fun _ H' => Q .non H', rt := Q } (L2.start N vs) H1) := by
  refine ⟨fun pins s σ H Q I h => ?_⟩
  refine wpAny_Call_Name_kw (ld_glob I hg hm ?_ hdb)
  refine PySem.W.callWith_K (h₀ := X.base) I.ok.mod.kin hk (thn (ha.run pos pins s σ H _ I h) fun us s1 ⟨vs, H1, I1, r, hl, q⟩ => ⟨I1.kIn, ?_⟩) he hpl
  have hl' : us.length = ps.length := by rw [← r.length]; exact hl
  have b := hb s1 us I1.kIn (by rw [List.append_nil]; exact hl')
  rw [List.append_nil] at b
  have P1 := I1.pin p (List.mem_append_left _ hp)
  have hpin : L2H.PinOk X.stack H1 s1 p := ⟨P1.1, P1.2.1, fun hm => (List.mem_cons.mp (I1.stkSub p.1 hm)).elim P1.2.2.1 P1.2.2.2.1, P1.2.2.2.2⟩
  have e0 := I1.env0
  have KX : X.K.In s1.heap := I1.kIn
  have lim : s1.heap.NoLimit := I1.nolimit
  have hkind : ∀ y ∈ ps.zip us, scope.names.lookup y.1 = some .local ∨ (scope.names.lookup y.1 = some .cell ∧ ((cellsFrom (s1.heap.objs.size + 1) scope.names []).lookup y.1).isSome = true) := fun ⟨n, v⟩ hy => by
    rcases S.par n (List.of_mem_zip hy).1 with q | q
    · exact .inl q
    · exact .inr ⟨q, PySem.W.cellsFrom_some _ _ _ (.inl q)⟩
  have rc : codeAny (model X.prog X.w) X.A (.call (.ref f) ⟨us, []⟩) (CR CX0 X.stack X.prog X.w H1 s1 Q E0) s1 := by
    refine codeAny_call_function hr (KX _ _ lk) rfl S.co S.gen rfl (PySem.W.codeRec_of KX hcd) (b _ _ _ _ ?_)
    refine wpAny_newFunctionEnv_cells S.kind hkind fun env he s2 x => ?_
    subst he
    refine ⟨lim.keeps x.toInCall.keep, codeAny_func ?_⟩
    have I2 := L2H.inv_startH (CX := CX0) (E := E0) S hpin e0 hl r x
    refine wpAny_mono ((hbody s1 H1).run [] s2 (L2.start N vs) H1 _ I2 q) (fun fl s' hs => ?_) fun e s' hs => hs
    have fin : ∀ {σ' : L2.St} {H' : Hp} {v : V} {u : Value}, Inv (L2H.cxH CX0 X.prog X.w X.K X.mg X.base N name scope f cdv X.A X.stack s1 H1 E0 p) [] σ' H' s' → RelV v u → Q v H' → CE X.stack X.prog X.w H1 s1 Q u s' :=
      fun {σ' H' v u} J rv q => ⟨v, H', J.os, J.bare, J.base, J.hok, rv, q⟩
    cases fl with
    | ret u =>
      obtain ⟨v, σ', H', J, rv, q⟩ := hs
      exact fin J rv q
    | next =>
      obtain ⟨σ', H', J, q⟩ := hs
      exact fin (v := V.non) (u := Value.none) J rfl q
    | brk =>
      obtain ⟨_, _, _, q⟩ := hs
      exact False.elim q
    | cont =>
      obtain ⟨_, _, _, q⟩ := hs
      exact False.elim q
  refine wpAny_call (codeAny_mono rc fun r s' hq => ?_)
  cases r with
  | error e => exact (show False from hq).elim
  | ok fl =>
    cases fl with
    | ret u => exact I1.after hq
    | next => exact False.elim hq
    | brk => exact False.elim hq
    | cont => exact False.elim hq
end SW

namespace SW
open PySem PySem.Spec PyProof.Rows L2 LamX
/-! ### later states -/
structure Later (F0 : List Addr) (s0 : Shared) (H0 : Hp) (outer : List Env) (s : Shared) (H : Hp) : Prop where
  un : Un F0 [] H0 H s0.heap s.heap
  fr : ∀ x ∈ frs outer, x ∈ F0 ∨ s0.heap.objs.size ≤ x
  sz : s0.heap.objs.size ≤ s.heap.objs.size
theorem Later.un' {F0 : List Addr} {s0 : Shared} {H0 : Hp} {Z : Cx} {pins : List (Addr × Obj)} {σ : L2.St} {H1 : Hp} {s1 : Shared} (l : Later F0 s0 H0 Z.outer Z.s_0 Z.H_0) (hx : Z.ex = []) (I : Inv Z pins σ H1 s1) : Un F0 [] H0 H1 s0.heap s1.heap := by
  have b := I.base
  rw [hx] at b
  exact un_step l.un b l.fr
theorem Later.step {F0 : List Addr} {s0 : Shared} {H0 : Hp} {Z : Cx} {pins : List (Addr × Obj)} {σ : L2.St} {H1 : Hp} {s1 : Shared} (l : Later F0 s0 H0 Z.outer Z.s_0 Z.H_0) (hx : Z.ex = []) (hs : Z.stack = Z.env :: Z.outer) (hf : Z.env.frame = some Z.s_0.heap.objs.size) (I : Inv Z pins σ H1 s1) :
    Later F0 s0 H0 Z.stack s1 H1 := by
  refine ⟨l.un' hx I, fun x hm => ?_, Nat.le_trans l.sz I.sz⟩
  rw [hs] at hm
  obtain ⟨e, he, q⟩ := List.mem_filterMap.mp hm
  rcases List.mem_cons.mp he with rfl | he
  · rw [hf] at q
    cases q
    exact .inr l.sz
  · exact l.fr x (List.mem_filterMap.mpr ⟨e, he, q⟩)
/-! ### what is told of an error -/
def fieldsOf (code : Str) : List Str :=
  if code ∈ (["InvalidName", "InvalidNumber", "InvalidStanding"] : List Str) then ["value"]
  else if code ∈ (["InvalidYard", "InvalidRoad", "InvalidAsking", "InvalidGiven", "Over"] : List Str) then ["at"]
  else if code ∈ (["DuplicateName", "AboveTop", "UnknownName"] : List Str) then ["name"]
  else if code = "UnknownStanding" then ["standing"]
  else if code = "InvalidText" then ["line", "why"]
  else if code = "TooMany" then ["most"]
  else if code = "UnknownLine" then ["key"]
  else []
def tStrs (l : List Str) : TA := match l with
  | [] => tNil
  | x :: r => tCons (tC (.str x)) (tStrs r)
def t__law_parts (K : PySem.W.Frag) (a : Addr) (cls : Value) (d : Option Addr) : TS :=
  tSeq (tIfS (tTest (tOp (uIn K) (tXfA K a cls d "code" (tVar 0)) (tTup (tCons (tC (.str "InvalidName")) (tCons (tC (.str "InvalidNumber")) (tCons (tC (.str "InvalidStanding")) tNil)))))) (tRet (tTup (tCons (tXfA K a cls d "value" (tVar 0)) tNil))) tNext)
  (tSeq (tIfS (tTest (tOp (uIn K) (tXfA K a cls d "code" (tVar 0)) (tTup (tCons (tC (.str "InvalidYard")) (tCons (tC (.str "InvalidRoad")) (tCons (tC (.str "InvalidAsking")) (tCons (tC (.str "InvalidGiven")) (tCons (tC (.str "Over")) tNil)))))))) (tRet (tTup (tCons (tXfA K a cls d "at" (tVar 0)) tNil))) tNext)
  (tSeq (tIfS (tTest (tOp (uIn K) (tXfA K a cls d "code" (tVar 0)) (tTup (tCons (tC (.str "DuplicateName")) (tCons (tC (.str "AboveTop")) (tCons (tC (.str "UnknownName")) tNil)))))) (tRet (tTup (tCons (tXfA K a cls d "name" (tVar 0)) tNil))) tNext)
  (tSeq (tIfS (tTest (tOp (uEq K) (tXfA K a cls d "code" (tVar 0)) (tC (.str "UnknownStanding")))) (tRet (tTup (tCons (tXfA K a cls d "standing" (tVar 0)) tNil))) tNext)
  (tSeq (tIfS (tTest (tOp (uEq K) (tXfA K a cls d "code" (tVar 0)) (tC (.str "InvalidText")))) (tRet (tTup (tCons (tXfA K a cls d "line" (tVar 0)) (tCons (tXfA K a cls d "why" (tVar 0)) tNil)))) tNext)
  (tRet (tIf (tTest (tOp (uEq K) (tXfA K a cls d "code" (tVar 0)) (tC (.str "TooMany")))) (tTup (tCons (tXfA K a cls d "most" (tVar 0)) tNil))
    (tIf (tTest (tOp (uEq K) (tXfA K a cls d "code" (tVar 0)) (tC (.str "UnknownLine")))) (tTup (tCons (tXfA K a cls d "key" (tVar 0)) tNil)) (tTup tNil))))))))
/-- an exception with its fields, as the law's helper reads it -/
structure XTold (K : PySem.W.Frag) (H : Hp) (cls : Value) (d : Option Addr) (code : Str) (ws : List V) : Prop where
  ex : ∃ C dd fs, cls = .ref C ∧ d = some dd ∧ H dd = some (.xd fs) ∧ XfC K C ∧ (∀ n ∈ ("code" : Str) :: fieldsOf code, PySem.W.findIn K (.ref C) n = some none) ∧ fs.lookup ("code" : Str) = some (.str code) ∧ (fieldsOf code).map (fun n => fs.lookup n) = ws.map some
section
variable {K : PySem.W.Frag} {a : Addr} {cls : Value} {d : Option Addr} {code : Str} {ws : List V} {H H' : Hp} {σ : L2.St} {Q : VK} {te : TE}
theorem XTold.mono (h : XTold K H cls d code ws) (e : Same H H') : XTold K H' cls d code ws := by
  obtain ⟨C, dd, fs, h1, h2, h3, h4⟩ := h.ex
  exact ⟨C, dd, fs, h1, h2, e _ _ h3, h4⟩
theorem s_code (h : XTold K H cls d code ws) (hv : σ[0]? = some (some (.ref a))) (k : Q (.str code) H) : tXfA K a cls d "code" (tVar 0) σ H Q := by
  obtain ⟨C, dd, fs, h1, h2, h3, h4, h5, h6, _⟩ := h.ex
  exact s_var hv ⟨rfl, C, h1, h4, h5 _ List.mem_cons_self, dd, fs, _, h2, h3, h6, k⟩
theorem s_field {n : Str} {i : Nat} {v : V} (h : XTold K H cls d code ws) (hv : σ[0]? = some (some (.ref a))) (hn : (fieldsOf code)[i]? = some n) (hw : ws[i]? = some v) (k : Q v H) : tXfA K a cls d n (tVar 0) σ H Q := by
  obtain ⟨C, dd, fs, h1, h2, h3, h4, h5, h6, h7⟩ := h.ex
  have e : fs.lookup n = some v := by
    have := congrArg (fun l => l[i]?) h7
    simp only [List.getElem?_map, hn, hw, Option.map_some] at this
    exact Option.some.inj this
  exact s_var hv ⟨rfl, C, h1, h4, h5 n (List.mem_cons_of_mem _ (List.mem_of_getElem? hn)), dd, fs, v, h2, h3, e, k⟩
theorem XTold.len (h : XTold K H cls d code ws) : ws.length = (fieldsOf code).length := by
  obtain ⟨C, dd, fs, h1, h2, h3, h4, h5, h6, h7⟩ := h.ex
  have := congrArg List.length h7
  simpa using this.symm
theorem s_inStrs {w : Str} {σ : L2.St} {QT : Bool → Hp → Prop} {ta : TA} (l : List Str) (hz : l.length ≤ 1000) (ht : ∀ QA : List V → Hp → Prop, QA (l.map V.str) H → ta σ H QA) (k : ∀ H', Same H H' → QT (decide (w ∈ l)) H') :
    tTup ta σ H fun y H2 => uIn K (.str w) y H2 fun x H' => ∃ k, x = .bl k ∧ QT k H' := by
  refine s_tup (ht _ ?_)
  exact s_inNew l rfl hz fun H' e => ⟨_, rfl, k H' e⟩
theorem fo1 (h : code ∈ (["InvalidName", "InvalidNumber", "InvalidStanding"] : List Str)) : fieldsOf code = (["value"] : List Str) := by unfold fieldsOf; rw [if_pos h]
theorem rd__law_parts (h : XTold K H cls d code ws) (k : ∀ p H', H p = none → Same H H' → H' p = some (.tup ws) → Q (.ref p) H') : t__law_parts K a cls d { nx := fun _ H' => Q .non H', rt := Q } [some (.ref a)] H := by
  have hl := h.len
  have one : ∀ {n : Str} {H1 : Hp}, XTold K H1 cls d code ws → Same H H1 → fieldsOf code = [n] → tTup (tCons (tXfA K a cls d n (tVar 0)) tNil) [some (.ref a)] H1 Q := by
    intro n H1 h1 e1 hf
    obtain ⟨v, rfl⟩ : ∃ v, ws = [v] := by
      rw [hf] at hl
      match ws, hl with
      | [v], _ => exact ⟨v, rfl⟩
    refine s_tup (s_cons (s_field (i := 0) (v := v) h1 rfl (by rw [hf]; rfl) rfl (s_nil ⟨by show 1 ≤ sizeLine; decide, fun p hp => ?_⟩)))
    exact k p _ (Same.free e1 hp) (e1.trans (same_new hp)) upd_same
  unfold t__law_parts
  refine s_seq (s_ifS (s_test (s_op (s_code h rfl ?_))))
  refine s_inStrs ["InvalidName", "InvalidNumber", "InvalidStanding"] (by decide) (fun QA q => q) fun H1 e1 => ?_
  have h1 := h.mono e1
  refine s_dec (fun c1 => ?_) (fun c1 => ?_)
  · exact s_ret (one h1 e1 (fo1 c1))
  refine s_seq (s_ifS (s_test (s_op (s_code h1 rfl ?_))))
  refine s_inStrs ["InvalidYard", "InvalidRoad", "InvalidAsking", "InvalidGiven", "Over"] (by decide) (fun QA q => q) fun H2 e2 => ?_
  have h2 := h1.mono e2
  refine s_dec (fun c2 => ?_) (fun c2 => ?_)
  · exact s_ret (one h2 (e1.trans e2) (by unfold fieldsOf; rw [if_neg c1, if_pos c2]))
  refine s_seq (s_ifS (s_test (s_op (s_code h2 rfl ?_))))
  refine s_inStrs ["DuplicateName", "AboveTop", "UnknownName"] (by decide) (fun QA q => q) fun H3 e3 => ?_
  have h3 := h2.mono e3
  have e03 := e1.trans (e2.trans e3)
  refine s_dec (fun c3 => ?_) (fun c3 => ?_)
  · exact s_ret (one h3 e03 (by unfold fieldsOf; rw [if_neg c1, if_neg c2, if_pos c3]))
  refine s_seq (s_ifS (s_test (s_op (s_code h3 rfl (s_c (s_eqS (s_exB ?_)))))))
  refine s_dec (fun c4 => ?_) (fun c4 => ?_)
  · exact s_ret (one h3 e03 (by unfold fieldsOf; rw [if_neg c1, if_neg c2, if_neg c3, if_pos c4]))
  refine s_seq (s_ifS (s_test (s_op (s_code h3 rfl (s_c (s_eqS (s_exB ?_)))))))
  refine s_dec (fun c5 => ?_) (fun c5 => ?_)
  · have hf : fieldsOf code = (["line", "why"] : List Str) := by unfold fieldsOf; rw [if_neg c1, if_neg c2, if_neg c3, if_neg c4, if_pos c5]
    obtain ⟨v, w, rfl⟩ : ∃ v w, ws = [v, w] := by
      rw [hf] at hl
      match ws, hl with
      | [v, w], _ => exact ⟨v, w, rfl⟩
    refine s_ret (s_tup (s_cons (s_field (i := 0) (v := v) h3 rfl (by rw [hf]; rfl) rfl (s_cons (s_field (i := 1) (v := w) h3 rfl (by rw [hf]; rfl) rfl (s_nil ⟨by show 2 ≤ sizeLine; decide, fun p hp => ?_⟩))))))
    exact k p _ (Same.free e03 hp) (e03.trans (same_new hp)) upd_same
  refine s_ret (s_if (s_test (s_op (s_code h3 rfl (s_c (s_eqS (s_exB ?_)))))))
  refine s_dec (fun c6 => ?_) (fun c6 => ?_)
  · exact one h3 e03 (by unfold fieldsOf; rw [if_neg c1, if_neg c2, if_neg c3, if_neg c4, if_neg c5, if_pos c6])
  refine s_if (s_test (s_op (s_code h3 rfl (s_c (s_eqS (s_exB ?_))))))
  refine s_dec (fun c7 => ?_) (fun c7 => ?_)
  · exact one h3 e03 (by unfold fieldsOf; rw [if_neg c1, if_neg c2, if_neg c3, if_neg c4, if_neg c5, if_neg c6, if_pos c7])
  have hf : fieldsOf code = [] := by unfold fieldsOf; rw [if_neg c1, if_neg c2, if_neg c3, if_neg c4, if_neg c5, if_neg c6, if_neg c7]
  rw [hf] at hl
  have hw : ws = [] := List.length_eq_zero_iff.mp hl
  subst hw
  refine s_tup (s_nil ⟨by show 0 ≤ sizeLine; decide, fun p hp => ?_⟩)
  exact k p _ (Same.free e03 hp) (e03.trans (same_new hp)) upd_same
/-! ### the try -/
/-- _law_ask(), whatever is raised as W wishes -/
def tAsk (f c' : Addr) (q : Str) (tl : XK → Hp → VK → Prop) (i : Nat) (W : WX) : TE := fun σ H Q => ∃ E : XK, (∀ cls d σ' H', E cls d H' → W cls d σ' H') ∧ σ[i]? = some (some (.ref f)) ∧ H c' = some (CodeO c' q) ∧ tl E H Q
theorem pe_ask {Z : Cx} {F0 : List Addr} {s0 : Shared} {H0 : Hp} {f c' : Addr} {q : Str} {k i : Nat} {tl : XK → Hp → VK → Prop} {a : Str} {W : WX} {p1 p2 : Pos}
    (C : Callable Z.prog Z.w Z.K Z.mg Z.base F0 s0 H0 f c' q k tl) (un : ∀ {pins : List (Addr × Obj)} {σ : L2.St} {H : Hp} {s : Shared}, Inv Z pins σ H s → Un F0 [] H0 H s0.heap s.heap) (hr : Room k Z.A)
    (tk : Takes Z W) (hN : Z.N[i]? = some a) (hv : Vis Z.env.scope a) (hd : (a == ("__debug__" : Str)) = false := by decide) (hcd : (a == ("__classdict__" : Str)) = false := by decide) :
    PE Z (.Call (.Name a p1) [] [] p2) (tAsk f c' q tl i W) := ⟨fun pins s σ H Q I ⟨E, hW, h⟩ => (pe_actZ C un hr tk hW hN hv hd hcd).run pins s σ H Q I h⟩
/-- what the suite of _law_try says -/
def t_suite (K : PySem.W.Frag) (a : Addr) (cls : Value) (d : Option Addr) : TS :=
  tRet (tOp (uAdd K) (tTup (tCons (tXfA K a cls d "code" (tVar 1)) tNil)) (fun σ H Q => tCons (tVar 1) tNil σ H fun vs H1 => vs.length = 1 ∧ t__law_parts K a cls d { nx := fun _ H' => Q .non H', rt := Q } (L2.start ["_law_e"] vs) H1))
def t__law_try (K : PySem.W.Frag) (cs cm : Value) (f c' : Addr) (q : Str) (tl : XK → Hp → VK → Prop) : TS := fun D σ H =>
  tRet (tTup (tCons (tC (.str "")) (tCons (tAsk f c' q tl 0 (wTup K cs cm 1 2 (t_suite K) D)) tNil))) D σ H
/-- what _law_try tells -/
def ETry (K : PySem.W.Frag) (cs cm : Value) (Q : VK) : XK := fun cls d H => ∃ code ws, PySem.W.exmAny K cls [cs, cm] = some true ∧ XTold K H cls d code ws ∧ ws.length ≤ 1000 ∧ ∀ p H', H p = none → Same H H' → H' p = some (.tup (.str code :: ws)) → Q (.ref p) H'
def TTry (K : PySem.W.Frag) (cs cm : Value) : (XK → Hp → VK → Prop) → Hp → VK → Prop := fun tl H Q => tl (ETry K cs cm Q) H fun v H1 => ∀ p, H1 p = none → Q (.ref p) (L2.upd H1 p (.tup [.str "", v]))
theorem s_code1 (h : XTold K H cls d code ws) (hv : σ[1]? = some (some (.ref a))) (k : Q (.str code) H) : tXfA K a cls d "code" (tVar 1) σ H Q := by
  obtain ⟨C, dd, fs, h1, h2, h3, h4, h5, h6, _⟩ := h.ex
  exact s_var hv ⟨rfl, C, h1, h4, h5 _ List.mem_cons_self, dd, fs, _, h2, h3, h6, k⟩
theorem rd__law_try {cs cm : Value} {f c' : Addr} {q : Str} {tl : XK → Hp → VK → Prop} (hc : H c' = some (CodeO c' q)) (h : TTry K cs cm tl H Q) : t__law_try K cs cm f c' q tl { nx := fun _ H' => Q .non H', rt := Q } [some (.ref f), none] H := by
  refine s_ret (s_tup (s_cons (s_c (s_cons ⟨ETry K cs cm Q, fun cls d σ' H1 ⟨code, ws, hx, ht, hwl, k⟩ => ⟨hx, fun a ha hl => ?_⟩, rfl, hc, ?_⟩))))
  · have hv : (σ'.set 1 (some (V.ref a)))[1]? = some (some (.ref a)) := List.getElem?_set_self (by omega)
    refine s_ret (s_op (s_tup (s_cons (s_code1 ht hv (s_nil ⟨by show 1 ≤ sizeLine; decide, fun p1 hp1 => ?_⟩)))))
    have e1 := same_new (o := .tup [.str code]) hp1
    refine s_cons (s_var hv (s_nil ⟨rfl, ?_⟩))
    refine rd__law_parts (ht.mono e1) fun p2 H2 hp2 e2 hw2 => ?_
    have hs1 : H2 p1 = some (.tup [.str code]) := e2 _ _ upd_same
    refine .inr (.inr (.inr ⟨p1, p2, [.str code], ws, rfl, rfl, SqT.of hs1, SqT.of hw2, ?_, fun z => (by cases z), fun _ z => ?_, fun _ _ r hr => ?_⟩))
    · have hline : sizeLine = 16777216 := sizeLine_eq
      simp only [List.length_singleton]
      omega
    · subst z
      exact k p1 H2 hp1 (e1.trans e2) hs1
    · exact k r _ (Same.free (e1.trans e2) hr) (e1.trans (e2.trans (same_new hr))) upd_same
  · have e : (fun (v : V) (H1 : Hp) => ∀ p, H1 p = none → Q (.ref p) (L2.upd H1 p (.tup [.str "", v]))) = (fun v H1 => [V.str "", v].length ≤ sizeLine ∧ ∀ p, H1 p = none → Q (.ref p) (L2.upd H1 p (.tup [.str "", v]))) := by
      funext v H1
      exact propext ⟨fun z => ⟨by show 2 ≤ sizeLine; decide, z⟩, fun z => z.2⟩
    unfold TTry at h
    rw [e] at h
    exact h
/-- what _law_why tells -/
def TWhy (K : PySem.W.Frag) (cs cm : Value) : (XK → Hp → VK → Prop) → Hp → VK → Prop := fun tl H Q => TTry K cs cm tl H fun v H1 => ∃ p x rest, v = .ref p ∧ H1 p = some (.tup (.str x :: rest)) ∧ (x = "" → ∀ r, H1 r = none → Q (.ref r) (L2.upd H1 r (.tup []))) ∧ (x ≠ "" → Q (.ref p) H1)
end
end SW

namespace SW
open PySem PySem.Spec PyProof.Rows L2 LamX
theorem mark_depth {k : Nat} {A : Around} {x : Option Value} (r : Room k A) : (A.mark x).depth < recursionLimit := by have := r.dp; show A.depth < _; omega
theorem mark_units {k : Nat} {A : Around} {x : Option Value} {env : Env} (r : Room k A) : ((A.mark x).deeper env).units + 64 < cLine := by have := r.un; show A.units + 3 + 64 < _; omega
/-- f(e) in a suite, f by its FunD -/
theorem pe_callPD {X : Cx} {f : Addr} {fd : FuncData} {p : Addr × Obj} {name : Str} {params : Arguments} {body : List Stmt} {scope : Scope} {N ps : List Str} {ta : TA} {q pos : Pos} {e : Expr} {es : List Expr}
    {tb : TS} (F : FunD X.K name name params body scope [] [] f fd) (S : FnScope N ps scope) (hb : Binds X.K fd ps [])
    (hp : p ∈ X.pn) (hg : Gl X name) (hm : X.mg name = some (.ref f)) (hr : X.A.depth < recursionLimit)
    (hbody : ∀ (cdv : Value) (s : Shared) (H : Hp), PSs (L2H.cxH CX0 X.prog X.w X.K X.mg X.base N name scope f cdv X.A X.stack s H E0 p) body tb)
    (ha : PA X (e :: es) ta) (hdb : (name == ("__debug__" : Str)) = false := by decide) (he : starEach (e :: es) X.env = (false, eval e X.env) :: starEach es X.env := by rfl) (hpl : (backTo pos (starEach es X.env)).any (·.1) = false := by rfl) :
    PE X (.Call (.Name name q) (e :: es) [] pos) (fun σ H Q => ta σ H fun vs H1 => vs.length = ps.length ∧ tb { nx := fun _ H' => Q .non H', rt := Q } (L2.start N vs) H1) := by
  obtain ⟨oc, od, dV, kV, doc, pm, an, cdv, ct, osl, rfl, lk, hcd, _, _⟩ := F.ex
  exact pe_callP lk hcd S hb hp hg hm F.kp hr (fun s H => hbody cdv s H) ha hdb he hpl
/-- more is wished for: so much the better -/
structure Mono (tl : XK → Hp → VK → Prop) : Prop where
  q : ∀ (E : XK) (H : Hp) (Q Q' : VK), (∀ v H, Q v H → Q' v H) → tl E H Q → tl E H Q'
  e : ∀ (E E' : XK) (H : Hp) (Q : VK), (∀ c d H, E c d H → E' c d H) → tl E H Q → tl E' H Q
def up (tl : XK → Hp → VK → Prop) : XK → Hp → VK → Prop := fun E H Q => ∃ (E1 : XK) (Q1 : VK), (∀ c d H, E1 c d H → E c d H) ∧ (∀ v H, Q1 v H → Q v H) ∧ tl E1 H Q1
theorem up_mono (tl : XK → Hp → VK → Prop) : Mono (up tl) :=
  ⟨fun E H Q Q' h ⟨E1, Q1, a, b, c⟩ => ⟨E1, Q1, a, fun v H z => h v H (b v H z), c⟩, fun E E' H Q h ⟨E1, Q1, a, b, c⟩ => ⟨E1, Q1, fun c d H z => h c d H (a c d H z), b, c⟩⟩
theorem up_of {tl : XK → Hp → VK → Prop} {E : XK} {H : Hp} {Q : VK} (h : tl E H Q) : up tl E H Q := ⟨E, Q, fun _ _ _ z => z, fun _ _ z => z, h⟩
theorem Callable.up {P : Program} {w : World} {K : PySem.W.Frag} {mg : Str → Option Value} {base : Heap} {F0 : List Addr} {s0 : Shared} {H0 : Hp} {f c' : Addr} {q : Str} {k : Nat} {tl : XK → Hp → VK → Prop} (C : Callable P w K mg base F0 s0 H0 f c' q k tl) :
    Callable P w K mg base F0 s0 H0 f c' q k (SW.up tl) where
  at_ := C.at_
  fn := C.fn
  run := fun A outer s1 H1 Q E hr e0 un hc ⟨E1, Q1, hE, hQ, ht⟩ => by
    refine codeAny_mono (C.run A outer s1 H1 Q1 E1 hr e0 un hc ht) fun r s' hq => ?_
    cases r with
    | error e =>
      obtain ⟨a, B, H', cls, d, h1, h2, h3, h4, h5, h6, h7, h8⟩ := hq
      exact ⟨a, B, H', cls, d, h1, h2, h3, h4, h5, h6, h7, hE _ _ _ h8⟩
    | ok fl =>
      cases fl with
      | ret u =>
        obtain ⟨v, H', h1, h2, h3, h4, h5, h6⟩ := hq
        exact ⟨v, H', h1, h2, h3, h4, h5, hQ _ _ h6⟩
      | next => exact False.elim hq
      | brk => exact False.elim hq
      | cont => exact False.elim hq
/-- what a def promises that gets a lambda and calls it -/
def LamProm (P : Program) (w : World) (K : PySem.W.Frag) (mg : Str → Option Value) (base : Heap) (k : Nat) (g : Addr) (TT : (XK → Hp → VK → Prop) → Hp → VK → Prop) : Prop :=
  ∀ (F0 : List Addr) (s0 : Shared) (H0 : Hp) (f c' : Addr) (q : Str) (j : Nat) (tl : XK → Hp → VK → Prop), Callable P w K mg base F0 s0 H0 f c' q j tl → Mono tl → ∀ (A : Around) (outer : List Env) (s : Shared) (H : Hp) (Q : VK),
    Room (j + k) A → Env0 P w K mg base A outer s H → Later F0 s0 H0 outer s H → H c' = some (CodeO c' q) → TT tl H Q → codeAny (model P w) A (.call (.ref g) ⟨[.ref f], []⟩) (CR CX0 outer P w H s Q E0) s
section
variable {P : Program} {w : World} {K : PySem.W.Frag} {mg : Str → Option Value} {base : Heap} {g gt : Addr} {fd : FuncData} {params : Arguments} {body : List Stmt} {scope : Scope} {cs cm : Value}
theorem try_prom (F : FunD K "_law_try" "_law_try" params body scope [] [] g fd) (S : FnScope ["_law_ask", "_law_e"] ["_law_ask"] scope) (hb : Binds K fd ["_law_ask"] [])
    (hbody : ∀ (F0 : List Addr) (s0 : Shared) (H0 : Hp) (f c' : Addr) (q : Str) (j : Nat) (tl : XK → Hp → VK → Prop) (cdv : Value) (A : Around) (outer : List Env) (s : Shared) (H : Hp), Callable P w K mg base F0 s0 H0 f c' q j tl →
      Room j (A.deeper (envOfC "_law_try" scope s.heap.objs.size g cdv)) → Later F0 s0 H0 outer s H → PSs (cxOf CX0 P w K mg base ["_law_ask", "_law_e"] "_law_try" scope g cdv A outer s H E0).nox body (t__law_try K cs cm f c' q tl)) :
    LamProm P w K mg base 1 g (TTry K cs cm) := by
  intro F0 s0 H0 f c' q j tl C M A outer s H Q hr e0 l hc h
  obtain ⟨oc, od, dV, kV, doc, pm, an, cdv, ct, osl, rfl, lk, hcd, _, _⟩ := F.ex
  have KX : K.In s.heap := e0.mod.kin.keeps fun b o e => (e0.bs b o e).1
  have b := hb s [.ref f] KX rfl
  refine run_ofS (N := ["_law_ask", "_law_e"]) (ps := ["_law_ask"]) (us := [.ref f]) (vs := [.ref f]) lk hcd S hr e0 b (.cons rfl .nil) rfl fun hr' => ?_
  exact ⟨_, PSs.nox (hbody F0 s0 H0 f c' q j tl cdv A outer s H C hr' l), rd__law_try hc h⟩
/-- _law_try(_law_ask), in _law_why -/
theorem pe_tryAgain {Z : Cx} {F0 : List Addr} {s0 : Shared} {H0 : Hp} {f c' : Addr} {q : Str} {j i : Nat} {tl : XK → Hp → VK → Prop} {a x : Str} {p1 p2 pos : Pos}
    (PT : LamProm Z.prog Z.w Z.K Z.mg Z.base 1 gt (TTry Z.K cs cm)) (C : Callable Z.prog Z.w Z.K Z.mg Z.base F0 s0 H0 f c' q j tl) (M : Mono tl) (l : ∀ {pins : List (Addr × Obj)} {σ : L2.St} {H : Hp} {s : Shared}, Inv Z pins σ H s → Later F0 s0 H0 Z.stack s H)
    (hr : Room (j + 1) Z.A) (hg : Gl Z x) (hm : Z.mg x = some (.ref gt)) (hk : PySem.W.keepIn Z.K (.ref gt) = true) (hN : Z.N[i]? = some a) (hv : Vis Z.env.scope a)
    (hd : (a == ("__debug__" : Str)) = false := by decide) (hcd : (a == ("__classdict__" : Str)) = false := by decide) (hdx : (x == ("__debug__" : Str)) = false := by decide) (hs : starEach [.Name a p1] Z.env = [(false, eval (.Name a p1) Z.env)] := by rfl) :
    PE Z (.Call (.Name x p2) [.Name a p1] [] pos) (fun σ H Q => σ[i]? = some (some (.ref f)) ∧ H c' = some (CodeO c' q) ∧ TTry Z.K cs cm tl H Q) := by
  refine ⟨fun pins s σ H Q I h => ?_⟩
  obtain ⟨h1, h2, h3⟩ := h
  refine wpAny_Call_Name_kw (ld_glob I hg hm ?_ hdx)
  refine PySem.W.callWith_K (h₀ := Z.base) I.ok.mod.kin hk ?_ hs (by rfl)
  rw [hs]
  show wpAny _ _ (spliced ((false, eval (.Name a p1) Z.env) :: backTo pos (starEach [] Z.env))) _ _ s
  refine Calls.spliced_cons (thn ((pe_var (pos := p1) (i := i) hN hv hd hcd).run pins s σ H (fun v H1 => v = .ref f ∧ H1 = H) I ⟨.ref f, h1, rfl, rfl⟩) fun u s1 ⟨v, H1, I1, r1, q1⟩ => ?_)
  obtain ⟨ev, eH⟩ := q1
  subst ev
  rw [eH] at I1
  obtain rfl : u = Value.ref f := r1
  refine Calls.spliced_nil ⟨I1.kIn, ?_⟩
  have rc := PT F0 s0 H0 f c' q j tl C M Z.A Z.stack s1 H Q hr I1.env0 (l I1) h2 h3
  refine wpAny_call (codeAny_mono rc fun r s' hq => ?_)
  cases r with
  | error e => exact (show False from hq).elim
  | ok fl =>
    cases fl with
    | ret u => exact I1.after hq
    | next => exact False.elim hq
    | brk => exact False.elim hq
    | cont => exact False.elim hq
theorem at0 (x : V) (r : List V) : atI (x :: r) 0 = some x := by
  unfold atI ixN
  simp
def t__law_why (K : PySem.W.Frag) (cs cm : Value) (f c' : Addr) (q : Str) (tl : XK → Hp → VK → Prop) : TS :=
  tSeq (tAsg (fun σ H Q => σ[0]? = some (some (.ref f)) ∧ H c' = some (CodeO c' q) ∧ TTry K cs cm tl H Q) (gName 1)) (tRet (tIf (tTest (tOp (uEq K) (tOp (rIx K) (tVar 1) (tC (.int 0))) (tC (.str "")))) (tTup tNil) (tVar 1)))
theorem rd__law_why {f c' : Addr} {q : Str} {tl : XK → Hp → VK → Prop} {H : Hp} {Q : VK} (hc : H c' = some (CodeO c' q)) (M : Mono tl)
    (h : TWhy K cs cm tl H Q) : t__law_why K cs cm f c' q tl { nx := fun _ H' => Q .non H', rt := Q } [some (.ref f), none] H := by
  refine s_seq (s_asg ⟨rfl, hc, ?_⟩)
  have fin : ∀ (v : V) (H1 : Hp), (∃ p x rest, v = .ref p ∧ H1 p = some (.tup (.str x :: rest)) ∧ (x = "" → ∀ r, H1 r = none → Q (.ref r) (L2.upd H1 r (.tup []))) ∧ (x ≠ "" → Q (.ref p) H1)) →
      gName 1 v [some (.ref f), none] H1 (tRet (tIf (tTest (tOp (uEq K) (tOp (rIx K) (tVar 1) (tC (.int 0))) (tC (.str "")))) (tTup tNil) (tVar 1)) { nx := fun _ H' => Q .non H', rt := Q }) := by
    rintro v H1 ⟨p, x, rest, rfl, hp, k1, k2⟩
    refine s_gName (s_ret (s_if (s_test (s_op (s_op (s_var rfl (s_c (s_ixT (SqT.of hp) (at0 _ _) (s_c (s_eqS (s_exB ?_)))))))))))
    refine s_dec (fun c => ?_) (fun c => ?_)
    · exact s_tup (s_nil ⟨by show 0 ≤ sizeLine; decide, fun r hr => k1 c r hr⟩)
    · exact s_var rfl (k2 c)
  unfold TWhy TTry at h
  unfold TTry
  refine M.e _ _ _ _ (fun cls d H1 ⟨code, ws, hx, ht, hl, k⟩ => ⟨code, ws, hx, ht, hl, fun p H2 hp e hw => fin _ _ (k p H2 hp e hw)⟩) (M.q _ _ _ _ (fun v H1 z p hp => fin _ _ (z p hp)) h)
theorem why_prom (F : FunD K "_law_why" "_law_why" params body scope [] [] g fd) (S : FnScope ["_law_ask", "_law_found"] ["_law_ask"] scope) (hb : Binds K fd ["_law_ask"] [])
    (hbody : ∀ (F0 : List Addr) (s0 : Shared) (H0 : Hp) (f c' : Addr) (q : Str) (j : Nat) (tl : XK → Hp → VK → Prop) (cdv : Value) (A : Around) (outer : List Env) (s : Shared) (H : Hp), Callable P w K mg base F0 s0 H0 f c' q j tl → Mono tl →
      Room (j + 1) (A.deeper (envOfC "_law_why" scope s.heap.objs.size g cdv)) → Later F0 s0 H0 outer s H → PSs (cxOf CX0 P w K mg base ["_law_ask", "_law_found"] "_law_why" scope g cdv A outer s H E0).nox body (t__law_why K cs cm f c' q tl)) :
    LamProm P w K mg base 2 g (TWhy K cs cm) := by
  intro F0 s0 H0 f c' q j tl C M A outer s H Q hr e0 l hc h
  obtain ⟨oc, od, dV, kV, doc, pm, an, cdv, ct, osl, rfl, lk, hcd, _, _⟩ := F.ex
  have KX : K.In s.heap := e0.mod.kin.keeps fun b o e => (e0.bs b o e).1
  have b := hb s [.ref f] KX rfl
  refine run_ofS (N := ["_law_ask", "_law_found"]) (ps := ["_law_ask"]) (us := [.ref f]) (vs := [.ref f]) lk hcd S hr e0 b (.cons rfl .nil) rfl fun hr' => ?_
  exact ⟨_, PSs.nox (hbody F0 s0 H0 f c' q j tl cdv A outer s H C M hr' l), rd__law_why hc M h⟩
end
/-- x(lambda: body), x such a def -/
def tLamU (T : List (Addr × Str)) (TT : (XK → Hp → VK → Prop) → Hp → VK → Prop) (t : XK → TE) : TE := fun σ H Q => Tabs T H ∧ ∀ H1, ExtN H H1 → Tabs T H1 → TT (up fun E H' Q' => t E σ H' Q') H1 Q
theorem pe_lamU {X : Cx} {T : List (Addr × Str)} {TT : (XK → Hp → VK → Prop) → Hp → VK → Prop} {x : Str} {g c Pt : Addr} {k n : Nat} {params : Arguments} {body : Expr} {scope : Scope} {t : XK → TE} {p lpos pos : Pos}
    (PM : LamProm X.prog X.w X.K X.mg X.base n g TT) (hg : Gl X x) (hm : X.mg x = some (.ref g)) (hk : PySem.W.keepIn X.K (.ref g) = true)
    (TB : TabB X.base X.mg c Pt) (hcode : X.env.code = .ref c) (hmT : (Pt, X.env.qual ++ "<lambda>") ∈ T) (hu : ∀ p ∈ T, p.1 = Pt → p.2 = X.env.qual ++ "<lambda>") (hr : Room (k + 1 + n) X.A) (L : LamS X.env.scope scope) (hdef : defaultsOf params X.env = ([], []))
    (hbind : ∀ (q : Str) (cl : List (Str × Addr)) (pm cv ctv : Value), bindArgs (PySem.W.kla_fn "<lambda>" q params body scope cl pm cv ctv) ⟨[], []⟩ = pure [])
    (hbody : ∀ (A : Around) (outer : List Env) (s : Shared) (H : Hp) (E : XK) (f c' : Addr), Room k (A.deeper (lamEnv X scope s.heap.objs.size f c')) → PE (lamCx X A outer s H E scope f c') body (t E))
    (hdb : (x == ("__debug__" : Str)) = false := by decide) :
    PE X (.Call (.Name x p) [.Lambda params body scope lpos] [] pos) (tLamU T TT t) := by
  refine ⟨fun pins s σ H Q I h => ?_⟩
  obtain ⟨hT, h⟩ := h
  refine wpAny_Call_Name_kw (ld_glob I hg hm ?_ hdb)
  refine PySem.W.callWith_K (h₀ := X.base) I.ok.mod.kin hk ?_ (by rfl) (by rfl)
  show wpAny _ _ (spliced ((false, eval (.Lambda params body scope lpos) X.env) :: backTo pos (starEach [] X.env))) _ _ s
  refine Calls.spliced_cons (lam_make2 I TB hcode hmT hu hT hdef (L.has I.ok) fun f c' pm' ctv H1 s' I1 eN T1 hf hfn hfr hco => ?_)
  refine Calls.spliced_nil ⟨I1.kIn, ?_⟩
  have C := (lam_callable (t := t) I1 L hf hfn hfr hbind (fun A outer s H E hr2 => hbody A outer s H E f c' hr2)).up
  have rc := PM _ _ _ _ _ _ _ _ C (up_mono _) X.A X.stack s' H1 Q hr I1.env0 ⟨Un.refl, fun x hx => .inl hx, Nat.le_refl _⟩ hco (h H1 eN T1)
  refine wpAny_call (codeAny_mono rc fun r s2 hq => ?_)
  cases r with
  | error e => exact (show False from hq).elim
  | ok fl =>
    cases fl with
    | ret u => exact I1.after hq
    | next => exact False.elim hq
    | brk => exact False.elim hq
    | cont => exact False.elim hq
end SW

namespace SW
open PySem PySem.Spec PyProof.Rows L2 LamX
/-! ### the Hook with the tables of code objects -/
def emptyB (o : Option Obj) : Bool := match o with
  | some ⟨.none, none, .fields a, sl⟩ => a.isEmpty && sl.isEmpty
  | _ => false
def codeHdB (g : Addr → Option Obj) (c : Addr) : Option Addr := match g c with
  | some ⟨.type t, _, .fields vs, _⟩ => (match (vs[11]? : Option Value) with
    | some (.ref P) => (match vs.getD 18 .none, vs.getD 7 .none, vs.getD 9 .none, vs.getD 10 .none with
      | .str _ _, .int _ _, .bool _, .int _ _ => if decide (t = "code") && decide (c ≠ P) then some P else none
      | _, _, _, _ => none)
    | _ => none)
  | _ => none
def codeAt (K : PySem.W.Frag) (x : Str × Option Str) : Option Addr := match K.lookup (He.fAd K x) with
  | some ⟨_, _, .func fd, _⟩ => (match fd.code with
    | .ref c => some c
    | _ => none)
  | _ => none
def tabB (g : Addr → Option Obj) (K : PySem.W.Frag) (x : Str × Option Str) : Bool := match codeAt K x with
  | some c => (match codeHdB g c with
    | some P => emptyB (g P) && (K.lookup P).isNone
    | none => false)
  | none => false
/-- the def's code object and its table -/
structure TabOf (h : Heap) (K : PySem.W.Frag) (x : Str × Option Str) (c P : Addr) : Prop where
  at_ : codeAt K x = some c
  hd : PySem.W.CodeHd h c P
  tab : h.get? P = some { cls := .none, data := .fields #[] }
  no : K.lookup P = none
theorem codeHdB_ok {h : Heap} {c P : Addr} (e : codeHdB h.get? c = some P) : PySem.W.CodeHd h c P := by
  unfold codeHdB at e
  split at e
  · rename_i t dd vs sl hg
    split at e
    · rename_i P' hP
      split at e
      · rename_i f1 t1 f2 t2 f3 f4 t4 h18 h7 h9 h10
        split at e
        · rename_i hc
          cases e
          obtain ⟨hc1, hc2⟩ := Bool.and_eq_true_iff.mp hc
          have ht := of_decide_eq_true hc1
          subst ht
          refine ⟨_, vs, f1, t1, f2, t2, f3, f4, t4, hg, rfl, rfl, hP, ?_, h18, h7, h9, h10, of_decide_eq_true hc2⟩
          rw [Array.getD_eq_getD_getElem?, hP]
          rfl
        · cases e
      · cases e
    · cases e
  · cases e
theorem emptyB_ok {o : Option Obj} (e : emptyB o = true) : o = some { cls := .none, data := .fields #[] } := by
  unfold emptyB at e
  split at e
  · rename_i a sl
    obtain ⟨h1, h2⟩ := Bool.and_eq_true_iff.mp e
    have e1 : a = #[] := by simpa using h1
    have e2 : sl = #[] := by simpa using h2
    subst e1 e2
    rfl
  · cases e
theorem tabB_ok {h : Heap} {K : PySem.W.Frag} {x : Str × Option Str} (e : tabB h.get? K x = true) : ∃ c P, TabOf h K x c P := by
  unfold tabB at e
  split at e
  · rename_i c hc
    split at e
    · rename_i P hP
      obtain ⟨h1, h2⟩ := Bool.and_eq_true_iff.mp e
      exact ⟨c, P, hc, codeHdB_ok hP, emptyB_ok h1, Option.isNone_iff_eq_none.mp h2⟩
    · cases e
  · cases e
abbrev AlZ : Type := AlY × Bool
/-- a table of code objects: of no class -/
def noCls (o : Option Obj) : Bool := match o with
  | some ⟨.none, _, .fields _, _⟩ => true
  | _ => false
def frZ (g : Addr → Option Obj) (n : Nat) : PySem.W.Frag := He.frG g ((cStatics :: He.asD g n).filter fun a => !noCls (g a))
def obsZG (n : Nat) (file : Str) (fa : List He.Fa) (fn : List He.DefD) (ex : PySem.W.Frag → Bool) (su : List He.DefD) (lm : List (Str × Option Str)) (g : Addr → Option Obj) : AlZ := (obsY file fa fn ex su (frZ g n), lm.all (tabB g (frZ g n)))
def hookZ (n : Nat) (file : Str) (fa : List He.Fa) (fn : List He.DefD) (ex : PySem.W.Frag → Bool) (su : List He.DefD) (lm : List (Str × Option Str)) : PySem.W.Hook where
  α := AlZ
  obs := fun s => obsZG n file fa fn ex su lm s.heap.get?
  val := fun _ => (valY fn su, true)
  says := fun _ h => ∃ K : PySem.W.Frag, K.In h ∧ SaysY file fa fn ex su K ∧ ∀ x ∈ lm, ∃ c P, TabOf h K x c P
  of := fun _ _ e => ⟨_, He.frG_in, congrArg (fun z : AlZ => z.1) e, fun x hx => tabB_ok (List.all_eq_true.mp (congrArg (fun z : AlZ => z.2) e) x hx)⟩
  keeps := fun _ _ _ ⟨K, hK, c, t⟩ k => ⟨K, PySem.W.Frag.In.keeps hK k, c, fun x hx => by
    obtain ⟨c, P, h1, h2, h3, h4⟩ := t x hx
    exact ⟨c, P, h1, h2.keeps k, k _ _ h3, h4⟩⟩
theorem obsZG_eq {n : Nat} {file : Str} {fa : List He.Fa} {fn su : List He.DefD} {ex : PySem.W.Frag → Bool} {lm : List (Str × Option Str)} {g : Addr → Option Obj} {s : Shared} (h : ∀ a, g a = s.heap.get? a) : obsZG n file fa fn ex su lm g = (hookZ n file fa fn ex su lm).obs s := by
  have e : g = s.heap.get? := funext h
  rw [e] <;> rfl
/-! ### the end -/
theorem walk_ofZ {l : PySem.W.OpenLaw} {n k : Nat} {q : Program} {loose : List Str} {XP : (Str → Option Value) → Heap → Prop} {YP : World → Heap → Prop} {d : DefRec} {CX : CXT} {x : Str}
    (hn : l.most = some n) (hn2 : n ≤ sizeLine) (hdf : d.params.defaults = []) (hr : Room k callerA)
    (F : ∀ (w : World) (mg : Str → Option Value) (fa : Addr) (h : Heap), YP w h → h.Ns mainGlobals mg → mg d.name = some (.ref fa) → ∃ K : PySem.W.Frag, K.In h ∧ LawAtS l w K CX k n x mg fa h)
    (hCX : ∀ (H : Hp) (s : Shared) (e : Value) (s' : Shared), CX [] H s (fun _ _ _ => False) e s' → False) :
    PySem.W.WalkO q loose XP YP l.row.toRowW d [] (fun f vs => PySem.call f vs) := by
  refine Att.attach_callB hn hdf fun w s₀ s₁ mg mb fa o pm cd doc a vs ns G Y ho hd hcd hmg hobj hints hlen hbits hg => ?_
  obtain ⟨K, KX, fd, cs, sp, hT, nT, C, hb, hsp, hF⟩ := F w mg fa _ Y G.T.g hmg
  exact law_callTs KX G.T.g G.T.b G.T.builtins G.T.nolimit hg hT nT C G.T.bmain hobj hints (Nat.le_trans hlen hn2) hr hF hb (fun H hH hS => hsp H a ns hlen hbits hH hS) fun H e s' => hCX H s₁ e s'
end SW

namespace SW
open PySem PySem.Spec PyProof.Rows L2 LamX
/-! ### what the written part says of an own exception class, at once -/
structure XOk (K : PySem.W.Frag) (C : Addr) (fl : List Str) (cs cm : Value) : Prop where
  xc : XC K C
  xf : XfC K C
  no : ∀ f ∈ fl, PySem.W.findIn K (.ref C) f = some none
  init : PySem.W.findIn K (.ref C) "__init__" = some (some (.ref (He.ma K C "__init__")))
  ty : PySem.W.typeIn K (.ref (He.ma K C "__init__")) = some (.type "function")
  exm : PySem.W.exmAny K (.ref C) [cs, cm] = some true
  cs : CSup K C
def opqB (K : PySem.W.Frag) : Bool := decide (PySem.W.nsIn K cStatics "thirdparty.any" = some none)
def xoB (K : PySem.W.Frag) (C : Addr) (fl : List Str) (cs cm : Value) : Bool :=
  xcB K C && (xfB K C && ((fl.all fun f => decide (PySem.W.findIn K (.ref C) f = some none)) && (decide (PySem.W.findIn K (.ref C) "__init__" = some (some (.ref (He.ma K C "__init__")))) && (decide (PySem.W.typeIn K (.ref (He.ma K C "__init__")) = some (.type "function")) &&
    (decide (PySem.W.exmAny K (.ref C) [cs, cm] = some true) && ((PySem.W.clsIn K C).isSome && opqB K))))))
theorem xoB_ok {K : PySem.W.Frag} {C : Addr} {fl : List Str} {cs cm : Value} (h : xoB K C fl cs cm = true) : XOk K C fl cs cm := by
  obtain ⟨h1, h⟩ := Bool.and_eq_true_iff.mp h
  obtain ⟨h2, h⟩ := Bool.and_eq_true_iff.mp h
  obtain ⟨h3, h⟩ := Bool.and_eq_true_iff.mp h
  obtain ⟨h4, h⟩ := Bool.and_eq_true_iff.mp h
  obtain ⟨h5, h⟩ := Bool.and_eq_true_iff.mp h
  obtain ⟨h6, h⟩ := Bool.and_eq_true_iff.mp h
  obtain ⟨h7, h8⟩ := Bool.and_eq_true_iff.mp h
  exact ⟨xcB_ok h1, xfB_ok h2, fun f hf => of_decide_eq_true (List.all_eq_true.mp h3 f hf), of_decide_eq_true h4, of_decide_eq_true h5, of_decide_eq_true h6, Option.isSome_iff_exists.mp h7, of_decide_eq_true h8⟩
/-! ### .. of an own class -/
structure COk (K : PySem.W.Frag) (C : Addr) (fl : List Str) : Prop where
  cls : Cls K C
  no : ∀ f ∈ fl, NoAttr K C f
  made : Mk K C (He.ma K C "__init__")
  cs : CSup K C
def coB (K : PySem.W.Frag) (C : Addr) (fl : List Str) : Bool :=
  PySem.W.plainGet K C Str.empty && (PySem.W.hasDictIn K C && (PySem.W.plainOver K C && (decide (PySem.W.findIn K (.ref C) "__setattr__" = some (some (.builtin "object.__setattr__"))) && ((fl.all fun f => decide (PySem.W.findIn K (.ref C) f = some none)) &&
    (PySem.W.makesIn K C && (decide (PySem.W.findIn K (.ref C) "__init__" = some (some (.ref (He.ma K C "__init__")))) && (PySem.W.isFn K (.ref (He.ma K C "__init__")) && (PySem.W.keepIn K (.ref C) && ((PySem.W.clsIn K C).isSome && opqB K)))))))))
theorem coB_ok {K : PySem.W.Frag} {C : Addr} {fl : List Str} (h : coB K C fl = true) : COk K C fl := by
  obtain ⟨h1, h⟩ := Bool.and_eq_true_iff.mp h
  obtain ⟨h2, h⟩ := Bool.and_eq_true_iff.mp h
  obtain ⟨h3, h⟩ := Bool.and_eq_true_iff.mp h
  obtain ⟨h4, h⟩ := Bool.and_eq_true_iff.mp h
  obtain ⟨h5, h⟩ := Bool.and_eq_true_iff.mp h
  obtain ⟨h6, h⟩ := Bool.and_eq_true_iff.mp h
  obtain ⟨h7, h⟩ := Bool.and_eq_true_iff.mp h
  obtain ⟨h8, h⟩ := Bool.and_eq_true_iff.mp h
  obtain ⟨h9, h⟩ := Bool.and_eq_true_iff.mp h
  obtain ⟨h10, h11⟩ := Bool.and_eq_true_iff.mp h
  exact ⟨⟨h1, h2, h3, of_decide_eq_true h4⟩, fun f hf => (show PySem.W.findIn K (.ref C) f = some none from of_decide_eq_true (List.all_eq_true.mp h5 f hf)), ⟨h6, of_decide_eq_true h7, h8, h9⟩, Option.isSome_iff_exists.mp h10, of_decide_eq_true h11⟩
def smB (K : PySem.W.Frag) (C : Addr) (m : Str) (f2 : Addr) : Bool := decide (PySem.W.mroIn K C (.ref C) = some true) && (decide (PySem.W.ks_superIn K C C m = some (some (.ref f2))) && (decide (PySem.W.typeIn K (.ref f2) = some (.type "function")) && PySem.W.fnIn K f2))
theorem smB_ok {K : PySem.W.Frag} {C : Addr} {m : Str} {f2 : Addr} (h : smB K C m f2 = true) : SupM K C m f2 := by
  obtain ⟨h1, h⟩ := Bool.and_eq_true_iff.mp h
  obtain ⟨h2, h⟩ := Bool.and_eq_true_iff.mp h
  obtain ⟨h3, h4⟩ := Bool.and_eq_true_iff.mp h
  exact ⟨of_decide_eq_true h1, of_decide_eq_true h2, of_decide_eq_true h3, h4⟩
end SW

namespace SW
open PySem PySem.Spec PyProof.Rows L2 LamX
section
variable {P : Program} {w : World} {K : PySem.W.Frag} {mg : Str → Option Value} {base : Heap} {x qual : Str} {params : Arguments} {body : List Stmt} {scope : Scope} {dvs : List V} {kws : List (Str × V)} {fd : FuncData}
/-- as FunD.ok, and its code object is told -/
theorem okC {CX : CXT} {N ps : List Str} {k : Nat} {sp : Sp} {c : Addr} {y : Str × Option Str} (F : FunD K x qual params body scope dvs kws (He.fAd K y) fd) (hc : codeAt K y = some c) (S : FnScope N ps scope) (len : ∀ vs H Q E, sp vs H Q E → vs.length = ps.length)
    (hbody : ∀ (cdv : Value) (A : Around) (outer : List Env) (s : Shared) (H : Hp) (vs : List V) (Q : VK) (E : XK), cdv = .ref c → Room k (A.deeper (envOfC qual scope s.heap.objs.size (He.fAd K y) cdv)) → sp vs H Q E →
      ∃ t, PSs (cxOf CX P w K mg base N qual scope (He.fAd K y) cdv A outer s H E) body t ∧ t { nx := fun _ H' => Q .non H', rt := Q } (L2.start N vs) H) : FnOk P w K mg base CX (k + 1) (He.fAd K y) fd ps sp := by
  have F0 := F
  obtain ⟨oc, od, dV, kV, doc, pm, an, cdv, ct, osl, rfl, lk, hcd, hD, hK⟩ := F.ex
  have hcv : cdv = .ref c := by
    clear F F0 hcd
    unfold codeAt at hc
    rw [lk] at hc
    clear lk
    cases cdv with
    | ref c' => exact congrArg Value.ref (Option.some.inj (show some c' = some c from hc))
    | _ => cases (show none = some c from hc)
  exact fn_of lk hcd S len fun A outer s H vs Q E hr hsp => hbody cdv A outer s H vs Q E hcv hr hsp
end
/-- C(.., k = v, ..), C's __init__ a def that says super(), all parameters given -/
theorem kbnS_of {K : PySem.W.Frag} {file x qual : Str} {params : Arguments} {body : List Stmt} {scope : Scope} {kws : List (Str × V)} {C f : Addr} {fd : FuncData} {ps : List Str} {n : Nat} {ks : List Str} {g : List Value → List Value → List Value} {gV : List V → List V → List V}
    (F : FunS K file x qual params body scope [] kws C f fd)
    (h : ∀ (kV doc pm : Value) (an : Option Addr) (cdv ct : Value) (cc : Addr) (us ws : List Value), us.length = n → ws.length = ks.length → bindArgs (PySem.W.ksFn x qual params body scope .none kV doc pm an cdv ct cc) ⟨us, ks.zip ws⟩ = pure (ps.zip (g us ws)))
    (rel : ∀ {vs : List V} {us : List Value} {zs : List V} {ws : List Value}, Vals vs us → Vals zs ws → Vals (gV vs zs) (g us ws)) : KBn K fd ps n ks g gV := by
  obtain ⟨oc, od, dV, kV, doc, pm, an, cdv, ct, osl, cc, rfl, lk, hcd, hD, _⟩ := F.ex
  rcases hD with ⟨_, rfl⟩ | ⟨e, _⟩
  · exact ⟨fun s us ws _ l1 l2 => .of_eq (h kV doc pm an cdv ct cc us ws l1 l2), rel⟩
  · exact absurd rfl e
end SW
namespace SW
open PySem PySem.Spec PyProof.Rows L2 LamX
/-! ### the tables by K alone -/
def tabAt (K : PySem.W.Frag) (y : Str × Option Str) : Addr := match codeAt K y with
  | some c => (match K.lookup c with
    | some ⟨_, _, .fields vs, _⟩ => (match (vs[11]? : Option Value) with
      | some (.ref P) => P
      | _ => 0)
    | _ => 0)
  | none => 0
def tabsOf (l : List (Str × Str)) (K : PySem.W.Frag) : List (Addr × Str) := l.map fun q => (tabAt K (q.1, none), q.2)
def distB (l : List (Str × Str)) (K : PySem.W.Frag) : Bool := (tabsOf l K).all fun p => (tabsOf l K).all fun q => !decide (p.1 = q.1) || decide (p.2 = q.2)
theorem hu_of {l : List (Str × Str)} {K : PySem.W.Frag} (h : distB l K = true) {p : Addr × Str} (hp : p ∈ tabsOf l K) : ∀ q ∈ tabsOf l K, q.1 = p.1 → q.2 = p.2 := fun q hq e => by
  have h1 := List.all_eq_true.mp (List.all_eq_true.mp h q hq) p hp
  rcases Bool.or_eq_true_iff.mp h1 with z | z
  · rw [Bool.not_eq_true'] at z
    exact absurd e (of_decide_eq_false z)
  · exact of_decide_eq_true z
theorem tabOf_at {h : Heap} {K : PySem.W.Frag} {y : Str × Option Str} {c Pt : Addr} (X : K.In h) (t : TabOf h K y c Pt) (hk : (K.lookup c).isSome = true) : Pt = tabAt K y := by
  obtain ⟨o, vs, file, tf, flags, tg, inF, text, tt, e1, e2, e3, e4, _⟩ := t.hd
  obtain ⟨o', ho⟩ := Option.isSome_iff_exists.mp hk
  have e5 := X _ _ ho
  rw [e1] at e5
  cases e5
  unfold tabAt
  rw [t.at_]
  obtain ⟨oc, od, dt, osl⟩ := o
  dsimp only at e3
  subst e3
  simp only [ho, e4]
theorem Tabs.nil {l : List (Str × Str)} {K : PySem.W.Frag} {H : Hp} (h : ∀ q ∈ l, H (tabAt K (q.1, none)) = some (.tbl #[])) : Tabs (tabsOf l K) H := fun p hp => by
  obtain ⟨q, hq, rfl⟩ := List.mem_map.mp hp
  exact TabS.nil (h q hq)
end SW
namespace SW
open PySem PySem.Spec PyProof.Rows L2 LamX
/-- raise C(e, ..) out of a def that may let E out -/
def tRaiseX (C : Addr) (fl : List V → List (Str × V)) (n : Nat) (ta : TA) (E : XK) : TS := fun _ σ H => tMkX C fl n ta σ H fun cls d H' => E cls d H'
/-- an exception class's __init__, by its shape -/
theorem ok_x0 {P : Program} {w : World} {K : PySem.W.Frag} {mg : Str → Option Value} {base : Heap} {file qual txt code : Str} {params : Arguments} {body : List Stmt} {scope : Scope} {C f : Addr} {fd : FuncData} {cs cm : Value} {ar : Arg} {fs : List Str} (F : FunS K file "__init__" qual params body scope [] [] C f fd) (PS : PSup P file) (X : XOk K C fs cs cm) (hc : ("code" : Str) ∈ fs)
    (S : SupScope ["self"] ["self"] scope) (hpar : (params.posonlyargs ++ params.args).head? = some ar) (hsf : ar.arg = "self")
    (hd : ∀ (cdv : Value) (cc : Addr) (A : Around) (outer : List Env) (s : Shared) (H : Hp) (E : XK), SupK P K f cc C cdv params "self" → PSsA (cxSup CX0 P w K mg base ["self"] qual scope f cdv cc A outer s H E) body body (tX0 K C txt code)) :
    FnOk P w K mg base CX0 1 f fd ["self"] (spX C 0 (fl0 code)) :=
  F.ok PS X.cs S hpar hsf (fun vs H Q E h => h.len) fun cdv cc A outer s H vs Q E SK hr h => ⟨_, hd cdv cc A outer s H E SK, in_x0 X.xc (X.no _ hc) h⟩
theorem ok_x1 {P : Program} {w : World} {K : PySem.W.Frag} {mg : Str → Option Value} {base : Heap} {file qual txt g code : Str} {params : Arguments} {body : List Stmt} {scope : Scope} {C f : Addr} {fd : FuncData} {cs cm : Value} {ar : Arg} {fs : List Str} (F : FunS K file "__init__" qual params body scope [] [] C f fd) (PS : PSup P file) (X : XOk K C fs cs cm) (hg : g ∈ fs) (hc : ("code" : Str) ∈ fs)
    (S : SupScope ["self", g] ["self", g] scope) (hpar : (params.posonlyargs ++ params.args).head? = some ar) (hsf : ar.arg = "self")
    (hd : ∀ (cdv : Value) (cc : Addr) (A : Around) (outer : List Env) (s : Shared) (H : Hp) (E : XK), SupK P K f cc C cdv params "self" → PSsA (cxSup CX0 P w K mg base ["self", g] qual scope f cdv cc A outer s H E) body body (tX1 K C txt g code)) :
    FnOk P w K mg base CX0 1 f fd ["self", g] (spX C 1 (fl1 g code)) :=
  F.ok PS X.cs S hpar hsf (fun vs H Q E h => h.len) fun cdv cc A outer s H vs Q E SK hr h => ⟨_, hd cdv cc A outer s H E SK, in_x1 X.xc (X.no _ hg) (X.no _ hc) h⟩
theorem ok_x2 {P : Program} {w : World} {K : PySem.W.Frag} {mg : Str → Option Value} {base : Heap} {file qual txt g g2 code : Str} {params : Arguments} {body : List Stmt} {scope : Scope} {C f : Addr} {fd : FuncData} {cs cm : Value} {ar : Arg} {fs : List Str} (F : FunS K file "__init__" qual params body scope [] [] C f fd) (PS : PSup P file) (X : XOk K C fs cs cm) (hg : g ∈ fs) (hg2 : g2 ∈ fs) (hc : ("code" : Str) ∈ fs)
    (S : SupScope ["self", g, g2] ["self", g, g2] scope) (hpar : (params.posonlyargs ++ params.args).head? = some ar) (hsf : ar.arg = "self")
    (hd : ∀ (cdv : Value) (cc : Addr) (A : Around) (outer : List Env) (s : Shared) (H : Hp) (E : XK), SupK P K f cc C cdv params "self" → PSsA (cxSup CX0 P w K mg base ["self", g, g2] qual scope f cdv cc A outer s H E) body body (tX2 K C txt g g2 code)) :
    FnOk P w K mg base CX0 1 f fd ["self", g, g2] (spX C 2 (fl2 g g2 code)) :=
  F.ok PS X.cs S hpar hsf (fun vs H Q E h => h.len) fun cdv cc A outer s H vs Q E SK hr h => ⟨_, hd cdv cc A outer s H E SK, in_x2 X.xc (X.no _ hg) (X.no _ hg2) (X.no _ hc) h⟩
theorem all_at {l : List Bool} {b : Bool} (h : l.all id = true) (i : Nat) (hi : l[i]? = some b) : b = true := List.all_eq_true.mp h b (List.mem_of_getElem? hi)
end SW

namespace MR
def cRow (C : PySem.Str) (bs fs : List PySem.Str) : PySem.Str × List PySem.Str × List PySem.Str := (C, bs, fs)
/-- the own classes: their own bases, the names of their fields -/
def cfg : List (PySem.Str × List PySem.Str × List PySem.Str) := [
  cRow "Asking" ["Asking"] ["name", "owner", "crews", "price", "rank"],
  cRow "Work" ["Work", "Asking"] ["start", "end", "key", "fee", "begins", "name", "owner", "crews", "price", "rank"],
  cRow "Hire" ["Hire", "Asking"] ["start", "end", "key", "fee", "begins", "name", "owner", "crews", "price", "rank"],
  cRow "Books" ["Books"] ["own_day", "own_records", "own_force", "own_items"],
  cRow "Covering" ["Covering"] ["tied", "base", "net"],
  cRow "House" ["House"] ["own_week", "own_books", "own_habit", "own_past", "own_future", "own_busy", "own_said", "own_calls", "own_plan", "own_row"],
  cRow "Kept" ["Kept"] ["held_plan"],
  cRow "Land" ["Land"] ["last", "top", "by_name", "walks"],
  cRow "Net" ["Net"] ["spots", "arcs", "sent", "heights", "near"],
  cRow "Led" ["Led"] ["row_habit", "own_known", "own_hour", "own_gone", "own_came", "own_books", "own_later", "own_row", "own_plan"],
  cRow "Lending" ["Lending"] ["own_loans", "own_deposits", "next_number"],
  cRow "PaperReader" ["PaperReader"] ["own_web", "own_amounts", "own_worths", "own_last"],
  cRow "Plan" ["Plan"] ["web", "held_amounts", "held_gain", "held_begun"],
  cRow "Rest" ["Rest"] ["rest_places", "rest_leads", "rest_sheets", "rest_amounts", "rest_bars"],
  cRow "Rota" ["Rota"] ["first", "last", "own_keys"],
  cRow "Parting" ["Parting"] ["whole", "firsts", "ways", "lasts", "present"],
  cRow "Ties" ["Ties"] ["top", "own_standings", "own_ties", "own_low", "own_high", "own_ring"],
  cRow "Web" ["Web"] ["land", "since", "asked", "numbers", "sheets", "leaving", "coming"],
  cRow "RowReader" ["RowReader"] ["stage", "found"],
  cRow "Week" ["Week"] ["land", "by_name", "numbers"],
  cRow "Second" ["Second"] ["web", "fitting", "chosen", "heights"],
  cRow "Worths" ["Worths"] ["held"]]
def ancOf (C : PySem.Str) : List PySem.Str := match cfg.lookup C with
  | some r => r.1
  | none => []
def fldsOf (C : PySem.Str) : List PySem.Str := match cfg.lookup C with
  | some r => r.2
  | none => []
def ownCls : List PySem.Str := cfg.map (·.1)
def xRow (C : PySem.Str) (fs : List PySem.Str) : PySem.Str × List PySem.Str := (C, fs)
/-- the own errors, the names of their fields -/
def xcfg : List (PySem.Str × List PySem.Str) := [
  xRow "InvalidName" ["value", "code"],
  xRow "InvalidNumber" ["value", "code"],
  xRow "InvalidStanding" ["value", "code"],
  xRow "InvalidKey" ["value", "code"],
  xRow "InvalidYard" ["at", "code"],
  xRow "InvalidRoad" ["at", "code"],
  xRow "InvalidAsking" ["at", "code"],
  xRow "InvalidGiven" ["at", "code"],
  xRow "InvalidWorths" ["code"],
  xRow "InvalidAmounts" ["code"],
  xRow "InvalidSteps" ["code"],
  xRow "InvalidSeconds" ["code"],
  xRow "InvalidRota" ["at", "code"],
  xRow "InvalidEntry" ["at", "code"],
  xRow "InvalidTie" ["at", "code"],
  xRow "InvalidOwed" ["code"],
  xRow "InvalidFlow" ["code"],
  xRow "InvalidDeed" ["at", "code"],
  xRow "InvalidText" ["code", "line", "why"],
  xRow "DuplicateName" ["name", "code"],
  xRow "TooMany" ["most", "code"],
  xRow "AboveTop" ["name", "code"],
  xRow "OtherStandings" ["code"],
  xRow "OverRoom" ["key", "code"],
  xRow "Unbalanced" ["standing", "code"],
  xRow "NotBest" ["ring", "code"],
  xRow "NotFitting" ["key", "code"],
  xRow "NotReached" ["code", "least", "greatest"],
  xRow "NoRow" ["ring", "code"],
  xRow "NotFlow" ["standing", "code"],
  xRow "Uneven" ["total", "code"],
  xRow "Occupied" ["key", "code"],
  xRow "NotReversible" ["number", "code"],
  xRow "Over" ["at", "code"],
  xRow "UnknownName" ["name", "code"],
  xRow "UnknownStanding" ["standing", "code"],
  xRow "UnknownLine" ["key", "code"],
  xRow "UnknownNumber" ["number", "code"],
  xRow "NothingLeft" ["code"]]
def xfldsOf (C : PySem.Str) : List PySem.Str := match xcfg.lookup C with
  | some r => r
  | none => []
def excCls : List PySem.Str := xcfg.map (·.1)
open PySem PySem.Spec PyProof.Rows L2 SW LamX
def tyNs : List String := ["NoneType", "bool", "int", "str", "list", "tuple", "dict"]
def tyAs : List String := ["int", "bool", "str", "list", "tuple", "dict"]
/-- what the written part says of an own class whose instances are told -/
def insB (K : PySem.W.Frag) (C : Str) : Bool :=
  decide (C ∈ ownCls) && (PySem.W.plainGet K (He.ga K C) Str.empty && (PySem.W.hasDictIn K (He.ga K C) && (PySem.W.plainOver K (He.ga K C) && (decide (PySem.W.findIn K (.ref (He.ga K C)) "__setattr__" = some (some (.builtin "object.__setattr__"))) &&
    (((fldsOf C).all fun f => decide (PySem.W.findIn K (.ref (He.ga K C)) f = some none)) && (decide (PySem.W.findIn K (.ref (He.ga K C)) "__class__" = some (some (.builtin "object.__class__"))) &&
    (decide (PySem.W.specialIn K (.builtin "object.__class__") "__get__" = some (some (.builtin "getset_descriptor.__get__"))) && (decide (PySem.W.takesIn K (.builtin "object.__class__") = some true) && (decide (PySem.W.mroIn K (He.ga K C) (.type "object") = some true) &&
    (tyAs.all fun T => decide (PySem.W.kitOne K (.ref (He.ga K C)) (.type T) = some false)))))))))))
def InsOk (K : PySem.W.Frag) (C : Str) : Prop := insB K C = true
structure InsF (K : PySem.W.Frag) (C : Str) : Prop where
  own : C ∈ ownCls
  cls : Cls K (He.ga K C)
  no : ∀ f ∈ fldsOf C, NoAttr K (He.ga K C) f
  ha : PySem.W.findIn K (.ref (He.ga K C)) "__class__" = some (some (.builtin "object.__class__"))
  hn : PySem.W.specialIn K (.builtin "object.__class__") "__get__" = some (some (.builtin "getset_descriptor.__get__"))
  htk : PySem.W.takesIn K (.builtin "object.__class__") = some true
  hm : PySem.W.mroIn K (He.ga K C) (.type "object") = some true
  ty : ∀ T ∈ tyAs, PySem.W.kitOne K (.ref (He.ga K C)) (.type T) = some false
theorem InsOk.f {K : PySem.W.Frag} {C : Str} (h : InsOk K C) : InsF K C := by
  unfold InsOk insB at h
  obtain ⟨h1, h⟩ := Bool.and_eq_true_iff.mp h
  obtain ⟨h2, h⟩ := Bool.and_eq_true_iff.mp h
  obtain ⟨h3, h⟩ := Bool.and_eq_true_iff.mp h
  obtain ⟨h4, h⟩ := Bool.and_eq_true_iff.mp h
  obtain ⟨h5, h⟩ := Bool.and_eq_true_iff.mp h
  obtain ⟨h6, h⟩ := Bool.and_eq_true_iff.mp h
  obtain ⟨h7, h⟩ := Bool.and_eq_true_iff.mp h
  obtain ⟨h8, h⟩ := Bool.and_eq_true_iff.mp h
  obtain ⟨h9, h⟩ := Bool.and_eq_true_iff.mp h
  obtain ⟨h10, h11⟩ := Bool.and_eq_true_iff.mp h
  exact ⟨of_decide_eq_true h1, ⟨h2, h3, h4, of_decide_eq_true h5⟩, fun f hf => (show PySem.W.findIn K (.ref (He.ga K C)) f = some none from of_decide_eq_true (List.all_eq_true.mp h6 f hf)), of_decide_eq_true h7, of_decide_eq_true h8, of_decide_eq_true h9, of_decide_eq_true h10, fun T hT => of_decide_eq_true (List.all_eq_true.mp h11 T hT)⟩
/-- .. of an own class that isinstance asks for -/
def askB (K : PySem.W.Frag) (C : Str) : Bool :=
  (tyNs.all fun n => decide (PySem.W.kitOne K (.type n) (.ref (He.ga K C)) = some false)) && ownCls.all fun B => !insB K B || decide (PySem.W.kitOne K (.ref (He.ga K B)) (.ref (He.ga K C)) = some (decide (C ∈ ancOf B)))
structure AskF (K : PySem.W.Frag) (C : Str) : Prop where
  ty : ∀ n ∈ tyNs, PySem.W.kitOne K (.type n) (.ref (He.ga K C)) = some false
  own : ∀ B, InsOk K B → PySem.W.kitOne K (.ref (He.ga K B)) (.ref (He.ga K C)) = some (decide (C ∈ ancOf B))
theorem askB_ok {K : PySem.W.Frag} {C : Str} (h : askB K C = true) : AskF K C := by
  unfold askB at h
  obtain ⟨h1, h2⟩ := Bool.and_eq_true_iff.mp h
  refine ⟨fun n hn => of_decide_eq_true (List.all_eq_true.mp h1 n hn), fun B hB => ?_⟩
  have h3 := List.all_eq_true.mp h2 B hB.f.own
  rw [show insB K B = true from hB] at h3
  exact of_decide_eq_true (by simpa using h3)
/-- .. of an own error that is raised -/
def excB (K : PySem.W.Frag) (C : Str) : Bool :=
  decide (C ∈ excCls) && (xfB K (He.ga K C) && (((xfldsOf C).all fun f => decide (PySem.W.findIn K (.ref (He.ga K C)) f = some none)) && decide (PySem.W.exmAny K (.ref (He.ga K C)) [.ref (He.ga K "StandError"), .ref (He.ga K "Missing")] = some true)))
def ExcOk (K : PySem.W.Frag) (C : Str) : Prop := excB K C = true
structure ExcF (K : PySem.W.Frag) (C : Str) : Prop where
  xf : XfC K (He.ga K C)
  no : ∀ f ∈ xfldsOf C, PySem.W.findIn K (.ref (He.ga K C)) f = some none
  exm : PySem.W.exmAny K (.ref (He.ga K C)) [.ref (He.ga K "StandError"), .ref (He.ga K "Missing")] = some true
theorem ExcOk.f {K : PySem.W.Frag} {C : Str} (h : ExcOk K C) : ExcF K C := by
  unfold ExcOk excB at h
  obtain ⟨h1, h⟩ := Bool.and_eq_true_iff.mp h
  obtain ⟨h2, h⟩ := Bool.and_eq_true_iff.mp h
  obtain ⟨h3, h4⟩ := Bool.and_eq_true_iff.mp h
  exact ⟨xfB_ok h2, fun f hf => of_decide_eq_true (List.all_eq_true.mp h3 f hf), of_decide_eq_true h4⟩
end MR

namespace MR
open PySem PySem.Spec PyProof.Rows L2 SW LamX
/-! ### data: D is what never changes, O what is held by one alone -/
inductive D where
  | non | bl (b : Bool) | int (i : Int) | str (x : Str)
  | lst (xs : List D) | tup (xs : List D) | kt (xs : List D) | kl (xs : List D) | dct (t : Nat) (kvs : List (D × D)) | ins (C : Str) (fs : List (Str × D))
inductive O where
  | f (d : D) | L (xs : List O) | M (t : Nat) (kvs : List (D × O)) | I (C : Str) (fs : List (Str × O))
mutual
def O.fz : O → D
  | .f d => d
  | .L xs => .lst (O.fzA xs)
  | .M t kvs => .dct t (O.fzM kvs)
  | .I C fs => .ins C (O.fzF fs)
def O.fzA : List O → List D
  | [] => []
  | x :: xs => x.fz :: O.fzA xs
def O.fzM : List (D × O) → List (D × D)
  | [] => []
  | (k, x) :: xs => (k, x.fz) :: O.fzM xs
def O.fzF : List (Str × O) → List (Str × D)
  | [] => []
  | (k, x) :: xs => (k, x.fz) :: O.fzF xs
end
def kD : Key → D
  | .inl i => .int i
  | .inr x => .str x
def kOk : Key → Prop
  | .inl _ => True
  | .inr x => Sok x
mutual
inductive Rp (K : PySem.W.Frag) (F : Hp) : V → D → Prop
  | non : Rp K F .non .non
  | bl (b : Bool) : Rp K F (.bl b) (.bl b)
  | int (i : Int) : Rp K F (.int i) (.int i)
  | str (x : Str) (h : Sok x) : Rp K F (.str x) (.str x)
  | lst {a : Addr} {xs : List V} {ds : List D} : F a = some (.lst xs) → RpA K F xs ds → Rp K F (.ref a) (.lst ds)
  | tup {a : Addr} {xs : List V} {ds : List D} : F a = some (.tup xs) → RpA K F xs ds → Rp K F (.ref a) (.tup ds)
  | kt {a : Addr} {xs : List V} {ds : List D} : SqT K (fun _ => none) a xs → RpA K F xs ds → Rp K F (.ref a) (.kt ds)
  | kl {a : Addr} {xs : List V} {ds : List D} : SqL K F a xs → RpA K F xs ds → Rp K F (.ref a) (.kl ds)
  | dK {a : Addr} {kvs : List (Key × V)} {ds : List (D × D)} : F a = some (.dK kvs) → RpK K F kvs ds → Rp K F (.ref a) (.dct 0 ds)
  | dT {a : Addr} {kvs : List (List Key × V)} {ds : List (D × D)} : F a = some (.dT kvs) → RpT K F kvs ds → Rp K F (.ref a) (.dct 1 ds)
  | ins {a dx : Addr} {C : Str} {fs : List (Str × V)} {ds : List (Str × D)} : InsOk K C → F a = some (.ins (He.ga K C) dx fs) → RpF K F fs ds → Rp K F (.ref a) (.ins C ds)
inductive RpA (K : PySem.W.Frag) (F : Hp) : List V → List D → Prop
  | nil : RpA K F [] []
  | cons {v : V} {vs : List V} {d : D} {ds : List D} : Rp K F v d → RpA K F vs ds → RpA K F (v :: vs) (d :: ds)
inductive RpK (K : PySem.W.Frag) (F : Hp) : List (Key × V) → List (D × D) → Prop
  | nil : RpK K F [] []
  | cons {k : Key} {v : V} {vs : List (Key × V)} {d : D} {ds : List (D × D)} : kOk k → Rp K F v d → RpK K F vs ds → RpK K F ((k, v) :: vs) ((kD k, d) :: ds)
inductive RpT (K : PySem.W.Frag) (F : Hp) : List (List Key × V) → List (D × D) → Prop
  | nil : RpT K F [] []
  | cons {k : List Key} {v : V} {vs : List (List Key × V)} {d : D} {ds : List (D × D)} : (∀ e ∈ k, kOk e) → Rp K F v d → RpT K F vs ds → RpT K F ((k, v) :: vs) ((.tup (k.map kD), d) :: ds)
inductive RpF (K : PySem.W.Frag) (F : Hp) : List (Str × V) → List (Str × D) → Prop
  | nil : RpF K F [] []
  | cons {k : Str} {v : V} {vs : List (Str × V)} {d : D} {ds : List (Str × D)} : Rp K F v d → RpF K F vs ds → RpF K F ((k, v) :: vs) ((k, d) :: ds)
end
theorem Rd.same {F F' : Hp} {a : Addr} {u : HO} (e : Same F F') (h : Rd F a u) : Rd F' a u := by
  rcases h with h | ⟨o, h⟩
  · exact .inl (e _ _ h)
  · exact .inr ⟨o, e _ _ h⟩
mutual
theorem Rp.mono {K : PySem.W.Frag} {F F' : Hp} (e : Same F F') : ∀ {v : V} {d : D}, Rp K F v d → Rp K F' v d
  | _, _, .non => .non
  | _, _, .bl b => .bl b
  | _, _, .int i => .int i
  | _, _, .str x h => .str x h
  | _, _, .lst h a => .lst (e _ _ h) (RpA.mono e a)
  | _, _, .tup h a => .tup (e _ _ h) (RpA.mono e a)
  | _, _, .kt h a => .kt h (RpA.mono e a)
  | _, _, .kl h a => .kl (e.seq h) (RpA.mono e a)
  | _, _, .dK h a => .dK (e _ _ h) (RpK.mono e a)
  | _, _, .dT h a => .dT (e _ _ h) (RpT.mono e a)
  | _, _, .ins c h a => .ins c (e _ _ h) (RpF.mono e a)
theorem RpA.mono {K : PySem.W.Frag} {F F' : Hp} (e : Same F F') : ∀ {v : List V} {d : List D}, RpA K F v d → RpA K F' v d
  | _, _, .nil => .nil
  | _, _, .cons h a => .cons (Rp.mono e h) (RpA.mono e a)
theorem RpK.mono {K : PySem.W.Frag} {F F' : Hp} (e : Same F F') : ∀ {v : List (Key × V)} {d : List (D × D)}, RpK K F v d → RpK K F' v d
  | _, _, .nil => .nil
  | _, _, .cons k h a => .cons k (Rp.mono e h) (RpK.mono e a)
theorem RpT.mono {K : PySem.W.Frag} {F F' : Hp} (e : Same F F') : ∀ {v : List (List Key × V)} {d : List (D × D)}, RpT K F v d → RpT K F' v d
  | _, _, .nil => .nil
  | _, _, .cons k h a => .cons k (Rp.mono e h) (RpT.mono e a)
theorem RpF.mono {K : PySem.W.Frag} {F F' : Hp} (e : Same F F') : ∀ {v : List (Str × V)} {d : List (Str × D)}, RpF K F v d → RpF K F' v d
  | _, _, .nil => .nil
  | _, _, .cons h a => .cons (Rp.mono e h) (RpF.mono e a)
end
/-! ### what is owned -/
mutual
inductive Tr (K : PySem.W.Frag) (H F : Hp) : V → O → List Addr → Prop
  | f {v : V} {d : D} : Rp K F v d → Tr K H F v (.f d) []
  | L {a : Addr} {xs : List V} {os : List O} {fp : List Addr} : H a = some (.lst xs) → F a = none → TrA K H F xs os fp → Tr K H F (.ref a) (.L os) (a :: fp)
  | M0 {a : Addr} {kvs : List (Key × V)} {os : List (D × O)} {fp : List Addr} : H a = some (.dK kvs) → F a = none → TrK K H F kvs os fp → Tr K H F (.ref a) (.M 0 os) (a :: fp)
  | M1 {a : Addr} {kvs : List (List Key × V)} {os : List (D × O)} {fp : List Addr} : H a = some (.dT kvs) → F a = none → TrT K H F kvs os fp → Tr K H F (.ref a) (.M 1 os) (a :: fp)
  | I {a dx : Addr} {C : Str} {fs : List (Str × V)} {os : List (Str × O)} {fp : List Addr} : InsOk K C → H a = some (.ins (He.ga K C) dx fs) → F a = none → TrF K H F fs os fp → Tr K H F (.ref a) (.I C os) (a :: fp)
inductive TrA (K : PySem.W.Frag) (H F : Hp) : List V → List O → List Addr → Prop
  | nil : TrA K H F [] [] []
  | cons {v : V} {vs : List V} {o : O} {os : List O} {fp fq : List Addr} : Tr K H F v o fp → TrA K H F vs os fq → TrA K H F (v :: vs) (o :: os) (fp ++ fq)
inductive TrK (K : PySem.W.Frag) (H F : Hp) : List (Key × V) → List (D × O) → List Addr → Prop
  | nil : TrK K H F [] [] []
  | cons {k : Key} {v : V} {vs : List (Key × V)} {o : O} {os : List (D × O)} {fp fq : List Addr} : kOk k → Tr K H F v o fp → TrK K H F vs os fq → TrK K H F ((k, v) :: vs) ((kD k, o) :: os) (fp ++ fq)
inductive TrT (K : PySem.W.Frag) (H F : Hp) : List (List Key × V) → List (D × O) → List Addr → Prop
  | nil : TrT K H F [] [] []
  | cons {k : List Key} {v : V} {vs : List (List Key × V)} {o : O} {os : List (D × O)} {fp fq : List Addr} : (∀ e ∈ k, kOk e) → Tr K H F v o fp → TrT K H F vs os fq → TrT K H F ((k, v) :: vs) ((.tup (k.map kD), o) :: os) (fp ++ fq)
inductive TrF (K : PySem.W.Frag) (H F : Hp) : List (Str × V) → List (Str × O) → List Addr → Prop
  | nil : TrF K H F [] [] []
  | cons {k : Str} {v : V} {vs : List (Str × V)} {o : O} {os : List (Str × O)} {fp fq : List Addr} : Tr K H F v o fp → TrF K H F vs os fq → TrF K H F ((k, v) :: vs) ((k, o) :: os) (fp ++ fq)
end
/-- the owned cells fp stand as they stood -/
def Stay (fp : List Addr) (H F H' F' : Hp) : Prop := ∀ a ∈ fp, ∀ o, H a = some o → Mut (some o) → F a = none → H' a = some o ∧ F' a = none
theorem Stay.l {fp fq : List Addr} {H F H' F' : Hp} (s : Stay (fp ++ fq) H F H' F') : Stay fp H F H' F' := fun a h => s a (List.mem_append_left _ h)
theorem Stay.r {fp fq : List Addr} {H F H' F' : Hp} (s : Stay (fp ++ fq) H F H' F') : Stay fq H F H' F' := fun a h => s a (List.mem_append_right _ h)
theorem Stay.t {b : Addr} {fq : List Addr} {H F H' F' : Hp} (s : Stay (b :: fq) H F H' F') : Stay fq H F H' F' := fun a h => s a (List.mem_cons_of_mem _ h)
section
variable {K : PySem.W.Frag} {H F H' F' : Hp}
mutual
theorem Tr.mono (e : Same F F') : ∀ {v : V} {o : O} {fp : List Addr}, Stay fp H F H' F' → Tr K H F v o fp → Tr K H' F' v o fp
  | _, _, _, _, .f h => .f (h.mono e)
  | _, _, _, s, .L h n t => by
    obtain ⟨h1, h2⟩ := s _ List.mem_cons_self _ h trivial n
    exact .L h1 h2 (TrA.mono e s.t t)
  | _, _, _, s, .M0 h n t => by
    obtain ⟨h1, h2⟩ := s _ List.mem_cons_self _ h trivial n
    exact .M0 h1 h2 (TrK.mono e s.t t)
  | _, _, _, s, .M1 h n t => by
    obtain ⟨h1, h2⟩ := s _ List.mem_cons_self _ h trivial n
    exact .M1 h1 h2 (TrT.mono e s.t t)
  | _, _, _, s, .I c h n t => by
    obtain ⟨h1, h2⟩ := s _ List.mem_cons_self _ h trivial n
    exact .I c h1 h2 (TrF.mono e s.t t)
theorem TrA.mono (e : Same F F') : ∀ {v : List V} {o : List O} {fp : List Addr}, Stay fp H F H' F' → TrA K H F v o fp → TrA K H' F' v o fp
  | _, _, _, _, .nil => .nil
  | _, _, _, s, .cons h t => .cons (Tr.mono e s.l h) (TrA.mono e s.r t)
theorem TrK.mono (e : Same F F') : ∀ {v : List (Key × V)} {o : List (D × O)} {fp : List Addr}, Stay fp H F H' F' → TrK K H F v o fp → TrK K H' F' v o fp
  | _, _, _, _, .nil => .nil
  | _, _, _, s, .cons k h t => .cons k (Tr.mono e s.l h) (TrK.mono e s.r t)
theorem TrT.mono (e : Same F F') : ∀ {v : List (List Key × V)} {o : List (D × O)} {fp : List Addr}, Stay fp H F H' F' → TrT K H F v o fp → TrT K H' F' v o fp
  | _, _, _, _, .nil => .nil
  | _, _, _, s, .cons k h t => .cons k (Tr.mono e s.l h) (TrT.mono e s.r t)
theorem TrF.mono (e : Same F F') : ∀ {v : List (Str × V)} {o : List (Str × O)} {fp : List Addr}, Stay fp H F H' F' → TrF K H F v o fp → TrF K H' F' v o fp
  | _, _, _, _, .nil => .nil
  | _, _, _, s, .cons h t => .cons (Tr.mono e s.l h) (TrF.mono e s.r t)
end
end
/-- an owned cell is there, may be written, and is not of the still part -/
def Own (H F : Hp) (a : Addr) : Prop := ∃ o, H a = some o ∧ Mut (some o) ∧ F a = none
section
variable {K : PySem.W.Frag} {H F : Hp}
mutual
theorem Tr.own : ∀ {v : V} {o : O} {fp : List Addr}, Tr K H F v o fp → ∀ a ∈ fp, Own H F a
  | _, _, _, .f _, a, h => nomatch h
  | _, _, _, .L h n t, a, m => by
    rcases List.mem_cons.mp m with rfl | m
    · exact ⟨_, h, trivial, n⟩
    · exact TrA.own t a m
  | _, _, _, .M0 h n t, a, m => by
    rcases List.mem_cons.mp m with rfl | m
    · exact ⟨_, h, trivial, n⟩
    · exact TrK.own t a m
  | _, _, _, .M1 h n t, a, m => by
    rcases List.mem_cons.mp m with rfl | m
    · exact ⟨_, h, trivial, n⟩
    · exact TrT.own t a m
  | _, _, _, .I _ h n t, a, m => by
    rcases List.mem_cons.mp m with rfl | m
    · exact ⟨_, h, trivial, n⟩
    · exact TrF.own t a m
theorem TrA.own : ∀ {v : List V} {o : List O} {fp : List Addr}, TrA K H F v o fp → ∀ a ∈ fp, Own H F a
  | _, _, _, .nil, a, h => nomatch h
  | _, _, _, .cons h t, a, m => by
    rcases List.mem_append.mp m with m | m
    · exact Tr.own h a m
    · exact TrA.own t a m
theorem TrK.own : ∀ {v : List (Key × V)} {o : List (D × O)} {fp : List Addr}, TrK K H F v o fp → ∀ a ∈ fp, Own H F a
  | _, _, _, .nil, a, h => nomatch h
  | _, _, _, .cons _ h t, a, m => by
    rcases List.mem_append.mp m with m | m
    · exact Tr.own h a m
    · exact TrK.own t a m
theorem TrT.own : ∀ {v : List (List Key × V)} {o : List (D × O)} {fp : List Addr}, TrT K H F v o fp → ∀ a ∈ fp, Own H F a
  | _, _, _, .nil, a, h => nomatch h
  | _, _, _, .cons _ h t, a, m => by
    rcases List.mem_append.mp m with m | m
    · exact Tr.own h a m
    · exact TrT.own t a m
theorem TrF.own : ∀ {v : List (Str × V)} {o : List (Str × O)} {fp : List Addr}, TrF K H F v o fp → ∀ a ∈ fp, Own H F a
  | _, _, _, .nil, a, h => nomatch h
  | _, _, _, .cons h t, a, m => by
    rcases List.mem_append.mp m with m | m
    · exact Tr.own h a m
    · exact TrF.own t a m
end
end
/-- no table -/
def NT (o : HO) : Prop := ∀ ps, o ≠ .tbl ps
def isDct : HO → Prop
  | .dK _ => True
  | .dT _ => True
  | _ => False
/-- the still part lies in the heap (a dict may be locked) -/
def Sub (ul : Bool) (F H : Hp) : Prop := ∀ a u, F a = some u → NT u ∧ (H a = some u ∨ (isDct u ∧ ul = false ∧ ∃ o, H a = some (.frz o u)))
/-- cells of fp are taken into the still part -/
def adopt (F H : Hp) (fp : List Addr) : Hp := fun a => if a ∈ fp then H a else F a
section
variable {K : PySem.W.Frag} {H F : Hp} {fp : List Addr}
theorem adopt_in {a : Addr} (h : a ∈ fp) : adopt F H fp a = H a := by unfold adopt; rw [if_pos h]
theorem adopt_out {a : Addr} (h : a ∉ fp) : adopt F H fp a = F a := by unfold adopt; rw [if_neg h]
theorem adopt_same (o : ∀ a ∈ fp, Own H F a) : Same F (adopt F H fp) := fun a u e => by
  rw [adopt_out]
  · exact e
  · intro m
    obtain ⟨_, _, _, n⟩ := o a m
    rw [n] at e; cases e
theorem mut_nt {o : HO} (m : Mut (some o)) : NT o := fun ps e => by subst e; exact m
theorem adopt_sub (o : ∀ a ∈ fp, Own H F a) (s : Sub ul F H) : Sub ul (adopt F H fp) H := fun a u e => by
  by_cases m : a ∈ fp
  · rw [adopt_in m] at e
    obtain ⟨w, h1, h2, _⟩ := o a m
    rw [h1] at e; cases e
    exact ⟨mut_nt h2, .inl h1⟩
  · rw [adopt_out m] at e
    exact s a u e
mutual
theorem Tr.still {G : Hp} : ∀ {v : V} {o : O} {fp : List Addr}, Tr K H F v o fp → Same F G → (∀ a ∈ fp, G a = H a) → Rp K G v o.fz
  | _, _, _, .f h, e, _ => h.mono e
  | _, _, _, .L h n t, e, q => .lst ((q _ List.mem_cons_self).trans h) (TrA.still t e fun a m => q a (List.mem_cons_of_mem _ m))
  | _, _, _, .M0 h n t, e, q => .dK ((q _ List.mem_cons_self).trans h) (TrK.still t e fun a m => q a (List.mem_cons_of_mem _ m))
  | _, _, _, .M1 h n t, e, q => .dT ((q _ List.mem_cons_self).trans h) (TrT.still t e fun a m => q a (List.mem_cons_of_mem _ m))
  | _, _, _, .I c h n t, e, q => .ins c ((q _ List.mem_cons_self).trans h) (TrF.still t e fun a m => q a (List.mem_cons_of_mem _ m))
theorem TrA.still {G : Hp} : ∀ {v : List V} {o : List O} {fp : List Addr}, TrA K H F v o fp → Same F G → (∀ a ∈ fp, G a = H a) → RpA K G v (O.fzA o)
  | _, _, _, .nil, _, _ => .nil
  | _, _, _, .cons h t, e, q => .cons (Tr.still h e fun a m => q a (List.mem_append_left _ m)) (TrA.still t e fun a m => q a (List.mem_append_right _ m))
theorem TrK.still {G : Hp} : ∀ {v : List (Key × V)} {o : List (D × O)} {fp : List Addr}, TrK K H F v o fp → Same F G → (∀ a ∈ fp, G a = H a) → RpK K G v (O.fzM o)
  | _, _, _, .nil, _, _ => .nil
  | _, _, _, .cons k h t, e, q => .cons k (Tr.still h e fun a m => q a (List.mem_append_left _ m)) (TrK.still t e fun a m => q a (List.mem_append_right _ m))
theorem TrT.still {G : Hp} : ∀ {v : List (List Key × V)} {o : List (D × O)} {fp : List Addr}, TrT K H F v o fp → Same F G → (∀ a ∈ fp, G a = H a) → RpT K G v (O.fzM o)
  | _, _, _, .nil, _, _ => .nil
  | _, _, _, .cons k h t, e, q => .cons k (Tr.still h e fun a m => q a (List.mem_append_left _ m)) (TrT.still t e fun a m => q a (List.mem_append_right _ m))
theorem TrF.still {G : Hp} : ∀ {v : List (Str × V)} {o : List (Str × O)} {fp : List Addr}, TrF K H F v o fp → Same F G → (∀ a ∈ fp, G a = H a) → RpF K G v (O.fzF o)
  | _, _, _, .nil, _, _ => .nil
  | _, _, _, .cons h t, e, q => .cons (Tr.still h e fun a m => q a (List.mem_append_left _ m)) (TrF.still t e fun a m => q a (List.mem_append_right _ m))
end
end
/-! ### slots -/
abbrev Env := List (Option O)
inductive TrS (K : PySem.W.Frag) (H F : Hp) : L2.St → Env → List Addr → Prop
  | nil : TrS K H F [] [] []
  | no {x : Option V} {σ : L2.St} {ρ : Env} {fp : List Addr} : TrS K H F σ ρ fp → TrS K H F (x :: σ) (none :: ρ) fp
  | cons {v : V} {o : O} {σ : L2.St} {ρ : Env} {fp fq : List Addr} : Tr K H F v o fp → TrS K H F σ ρ fq → TrS K H F (some v :: σ) (some o :: ρ) (fp ++ fq)
section
variable {K : PySem.W.Frag} {H F H' F' : Hp}
theorem TrS.mono (e : Same F F') : ∀ {σ : L2.St} {ρ : Env} {fp : List Addr}, Stay fp H F H' F' → TrS K H F σ ρ fp → TrS K H' F' σ ρ fp
  | _, _, _, _, .nil => .nil
  | _, _, _, s, .no t => .no (TrS.mono e s t)
  | _, _, _, s, .cons h t => .cons (h.mono e s.l) (TrS.mono e s.r t)
theorem TrS.own : ∀ {σ : L2.St} {ρ : Env} {fp : List Addr}, TrS K H F σ ρ fp → ∀ a ∈ fp, Own H F a
  | _, _, _, .nil, a, h => nomatch h
  | _, _, _, .no t, a, m => TrS.own t a m
  | _, _, _, .cons h t, a, m => by
    rcases List.mem_append.mp m with m | m
    · exact h.own a m
    · exact TrS.own t a m
theorem TrS.length : ∀ {σ : L2.St} {ρ : Env} {fp : List Addr}, TrS K H F σ ρ fp → σ.length = ρ.length
  | _, _, _, .nil => rfl
  | _, _, _, .no t => congrArg Nat.succ (TrS.length t)
  | _, _, _, .cons _ t => congrArg Nat.succ (TrS.length t)
/-- a slot taken out -/
theorem TrS.take : ∀ {σ : L2.St} {ρ : Env} {fp : List Addr} {i : Nat} {o : O}, TrS K H F σ ρ fp → ρ[i]? = some (some o) →
    ∃ v fi fr, σ[i]? = some (some v) ∧ Tr K H F v o fi ∧ TrS K H F σ (ρ.set i none) fr ∧ fp.Perm (fi ++ fr)
  | _, _, _, _, _, .nil, e => by simp at e
  | _, _, _, 0, _, .no t, e => by simp at e
  | _, _, _, i + 1, _, .no t, e => by
    obtain ⟨v, fi, fr, h1, h2, h3, h4⟩ := TrS.take (i := i) t (by simpa using e)
    exact ⟨v, fi, fr, by simpa using h1, h2, .no h3, h4⟩
  | _, _, _, 0, _, .cons h t, e => by
    have e' : _ = _ := Option.some.inj (Option.some.inj (by simpa using e))
    subst e'
    exact ⟨_, _, _, rfl, h, .no t, .refl _⟩
  | _, _, _, i + 1, _, .cons (fp := fp) (fq := fq) h t, e => by
    obtain ⟨v, fi, fr, h1, h2, h3, h4⟩ := TrS.take (i := i) t (by simpa using e)
    refine ⟨v, fi, fp ++ fr, by simpa using h1, h2, .cons h h3, ?_⟩
    refine (h4.append_left fp).trans ?_
    rw [← List.append_assoc, ← List.append_assoc]
    exact (List.perm_append_comm).append_right fr
/-- a slot put in -/
theorem TrS.put : ∀ {σ : L2.St} {ρ : Env} {fp : List Addr} {i : Nat} {o : O} {v : V} {fi : List Addr}, TrS K H F σ ρ fp → ρ[i]? = some none → σ[i]? = some (some v) → Tr K H F v o fi →
    ∃ fq, TrS K H F σ (ρ.set i (some o)) fq ∧ fq.Perm (fi ++ fp)
  | _, _, _, _, _, _, _, .nil, e, _, _ => by simp at e
  | _, _, _, 0, _, _, _, .no t, e, q, h => by
    have q' : _ = _ := Option.some.inj (by simpa using q)
    cases q
    exact ⟨_, .cons h t, .refl _⟩
  | _, _, _, i + 1, _, _, _, .no t, e, q, h => by
    obtain ⟨fq, h1, h2⟩ := TrS.put (i := i) t (by simpa using e) (by simpa using q) h
    exact ⟨fq, .no h1, h2⟩
  | _, _, _, 0, _, _, _, .cons h t, e, _, _ => by simp at e
  | _, _, _, i + 1, _, _, fi, .cons (fp := fp) (fq := fr) h t, e, q, hv => by
    obtain ⟨fq, h1, h2⟩ := TrS.put (i := i) t (by simpa using e) (by simpa using q) hv
    refine ⟨fp ++ fq, .cons h h1, ?_⟩
    refine (h2.append_left fp).trans ?_
    rw [← List.append_assoc, ← List.append_assoc]
    exact (List.perm_append_comm).append_right fr
/-- a slot forgotten -/
theorem TrS.drop : ∀ {σ : L2.St} {ρ : Env} {fp : List Addr} (i : Nat) (x : Option V), TrS K H F σ ρ fp → ∃ fq, TrS K H F (σ.set i x) (ρ.set i none) fq ∧ fq.Sublist fp
  | _, _, _, _, _, .nil => ⟨_, .nil, .refl _⟩
  | _, _, _, 0, x, .no t => ⟨_, .no t, .refl _⟩
  | _, _, _, i + 1, x, .no t => by
    obtain ⟨fq, h1, h2⟩ := TrS.drop i x t
    exact ⟨fq, .no h1, h2⟩
  | _, _, _, 0, x, .cons h t => ⟨_, .no t, List.sublist_append_right _ _⟩
  | _, _, _, i + 1, x, .cons (fp := fp) h t => by
    obtain ⟨fq, h1, h2⟩ := TrS.drop i x t
    exact ⟨fp ++ fq, .cons h h1, h2.append_left fp⟩
end
/-- nothing stands there but, at most, a table -/
def Fr0 (H : Hp) (a : Addr) : Prop := ∀ o, H a = some o → ¬ NT o
theorem Fr0.of {H : Hp} {a : Addr} (h : H a = none) : Fr0 H a := fun o e => by rw [h] at e; cases e
theorem Own.nf {H F : Hp} {a : Addr} (h : Own H F a) (z : Fr0 H a) : False := by
  obtain ⟨o, h1, h2, _⟩ := h
  exact z o h1 (mut_nt h2)
structure SS (ul : Bool) (K : PySem.W.Frag) (T : List (Addr × Str)) (F H : Hp) (σ : L2.St) (ρ : Env) (fp : List Addr) : Prop where
  sub : Sub ul F H
  tabs : Tabs T H
  sl : TrS K H F σ ρ fp
  nd : fp.Nodup
/-- a step: p: the slots' cells are left, too -/
structure Stp (p : Bool) (fp : List Addr) (F H F' H' : Hp) : Prop where
  le : Same F F'
  keep : ∀ a o, H a = some o → NT o → (a ∉ fp ∨ p = true) → H' a = some o
  out : ∀ a o, H a = some o → Mut (some o) → F a = none → (a ∉ fp ∨ p = true) → F' a = none
  dom : ∀ a, Fr0 H' a → Fr0 H a
  /-- what is still is not touched; what became still is not locked -/
  kf : ∀ a w o, F a = some w → H a = some o → H' a = some o
  nu : ∀ a w, F' a = some w → F a = none → H' a = some w
def Fre (H : Hp) (fp fp' : List Addr) : Prop := ∀ a ∈ fp', a ∈ fp ∨ Fr0 H a
section
variable {p q : Bool} {fp fp1 fp2 fv : List Addr} {F H F1 H1 F2 H2 : Hp}
theorem Stp.refl : Stp p fp F H F H := ⟨Same.refl _, fun _ _ h _ _ => h, fun _ _ _ _ h _ => h, fun _ h => h, fun _ _ _ _ h => h, fun a w h n => by rw [n] at h; cases h⟩
theorem Stp.weak (s : Stp true fp F H F1 H1) : Stp p fq F H F1 H1 := ⟨s.le, fun a o h n _ => s.keep a o h n (.inr rfl), fun a o h m n _ => s.out a o h m n (.inr rfl), s.dom, s.kf, s.nu⟩
theorem Stp.imp (s : Stp p fp F H F1 H1) (h : q = true → p = true) : Stp q fp F H F1 H1 := ⟨s.le, fun a o e n c => s.keep a o e n (c.imp id h), fun a o e m n c => s.out a o e m n (c.imp id h), s.dom, s.kf, s.nu⟩
/-- a ∉ fp1 for what was there and not in fp -/
theorem fre_not (fr : Fre H fp fp1) {a : Addr} {o : HO} (h : H a = some o) (nt : NT o) (n : a ∉ fp) : a ∉ fp1 := fun m => by
  rcases fr a m with z | z
  · exact n z
  · exact z o h nt
theorem Stp.trans (s : Stp p fp F H F1 H1) (fr : Fre H fp fp1) (t : Stp q fp1 F1 H1 F2 H2) : Stp (p && q) fp F H F2 H2 where
  le := s.le.trans t.le
  keep := fun a o h n c => by
    rcases c with c | c
    · exact t.keep a o (s.keep a o h n (.inl c)) n (.inl (fre_not fr h n c))
    · obtain ⟨c1, c2⟩ := Bool.and_eq_true_iff.mp c
      exact t.keep a o (s.keep a o h n (.inr c1)) n (.inr c2)
  out := fun a o h m n c => by
    have nt := mut_nt m
    rcases c with c | c
    · exact t.out a o (s.keep a o h nt (.inl c)) m (s.out a o h m n (.inl c)) (.inl (fre_not fr h nt c))
    · obtain ⟨c1, c2⟩ := Bool.and_eq_true_iff.mp c
      exact t.out a o (s.keep a o h nt (.inr c1)) m (s.out a o h m n (.inr c1)) (.inr c2)
  dom := fun a h => s.dom a (t.dom a h)
  kf := fun a w o h1 h2 => t.kf a w o (s.le _ _ h1) (s.kf a w o h1 h2)
  nu := fun a w h1 h2 => by
    cases e : F1 a with
    | none => exact t.nu a w h1 e
    | some w' =>
      have := t.le _ _ e
      rw [this] at h1; cases h1
      exact t.kf a _ _ e (s.nu a _ e h2)
theorem Fre.trans (fr : Fre H fp fp1) (s : Stp p fp F H F1 H1) (fr2 : Fre H1 fp1 fp2) : Fre H fp fp2 := fun a m => by
  rcases fr2 a m with z | z
  · exact fr a z
  · exact .inr (s.dom a z)
theorem Fre.refl : Fre H fp fp := fun _ h => .inl h
theorem Fre.of (h : ∀ a ∈ fp1, a ∈ fp) : Fre H fp fp1 := fun a m => .inl (h a m)
theorem Fre.app (h : Fre H fp fp1) (g : Fre H fp fp2) : Fre H fp (fp1 ++ fp2) := fun a m => by
  rcases List.mem_append.mp m with m | m
  · exact h a m
  · exact g a m
/-- cells apart from the slots stay over any step -/
theorem Stp.stay (s : Stp p fp F H F1 H1) (d : ∀ a ∈ fv, a ∉ fp) : Stay fv H F H1 F1 := fun a m o h mu n => ⟨s.keep a o h (mut_nt mu) (.inl (d a m)), s.out a o h mu n (.inl (d a m))⟩
theorem Stp.stayP (s : Stp true fp F H F1 H1) : Stay fv H F H1 F1 := fun a m o h mu n => ⟨s.keep a o h (mut_nt mu) (.inr rfl), s.out a o h mu n (.inr rfl)⟩
end
/-- nothing is locked that was not -/
theorem Sub.strict {ul ul' : Bool} {p : Bool} {fp : List Addr} {F H F' H' : Hp} (s : Sub ul F H) (t : Stp p fp F H F' H') (s' : Sub ul' F' H') : Sub ul F' H' := fun a u e => by
  obtain ⟨h1, _⟩ := s' a u e
  refine ⟨h1, ?_⟩
  cases q : F a with
  | none => exact .inl (t.nu a u e q)
  | some w =>
    have := t.le _ _ q
    rw [this] at e; cases e
    obtain ⟨_, h2 | ⟨h2, h3, o, h4⟩⟩ := s a _ q
    · exact .inl (t.kf a _ _ q h2)
    · exact .inr ⟨h2, h3, o, t.kf a _ _ q h4⟩
theorem Sub.tol {ul : Bool} {F H : Hp} (s : Sub true F H) : Sub ul F H := fun a u e => by
  obtain ⟨h1, h2 | ⟨_, h3, _⟩⟩ := s a u e
  · exact ⟨h1, .inl h2⟩
  · cases h3
theorem Sub.lo {ul ul' : Bool} {F H : Hp} (h : ul' = true → ul = true) (s : Sub ul F H) : Sub ul' F H := fun a u e => by
  obtain ⟨h1, h2 | ⟨h2, h3, h4⟩⟩ := s a u e
  · exact ⟨h1, .inl h2⟩
  · refine ⟨h1, .inr ⟨h2, ?_, h4⟩⟩
    cases ul' with
    | false => rfl
    | true => rw [h rfl] at h3; cases h3
end MR

namespace MR
open PySem PySem.Spec PyProof.Rows L2 SW LamX
/-! ### mirrors: what an expression computes over data -/
structure Xc where
  cls : Str
  fs : List (Str × D)
inductive RE (α : Type) where
  | ok (a : α) (ρ : Env) | ex (x : Xc) (ρ : Env) | bad
@[reducible] def RE.bind {α β : Type} (m : RE α) (k : α → Env → RE β) : RE β := match m with
  | .ok a ρ => k a ρ
  | .ex x ρ => .ex x ρ
  | .bad => .bad
abbrev ME := Env → RE O
abbrev MT := Env → RE Bool
inductive AV where
  | v (d : D) | s (i : Nat)
abbrev MA := Env → RE (List AV)
def XR (K : PySem.W.Frag) (F H : Hp) (x : Xc) (c : Value) (d : Option Addr) : Prop := ExcOk K x.cls ∧ ∃ dd fs, c = .ref (He.ga K x.cls) ∧ d = some dd ∧ H dd = some (.xd fs) ∧ RpF K F fs x.fs
/-- what is to be shown of an outcome -/
def Out (ul : Bool) (K : PySem.W.Frag) (T : List (Addr × Str)) (E : XK) (p : Bool) (F H : Hp) (σ : L2.St) (ρ : Env) (fp : List Addr) {α : Type} (Q : α → Env → Hp → Hp → List Addr → Prop) : RE α → Prop
  | .ok a ρ' => ∀ F' H' fp', Stp p fp F H F' H' → SS ul K T F' H' σ ρ' fp' → Fre H fp fp' → (p = true → ρ' = ρ ∧ fp' = fp) → Q a ρ' F' H' fp'
  | .ex x ρ' => ∀ F' H' fp' c d, Stp p fp F H F' H' → SS ul K T F' H' σ ρ' fp' → Fre H fp fp' → XR K F' H' x c d → E c d H'
  | .bad => False
def QE (K : PySem.W.Frag) (H : Hp) (fp : List Addr) (Q : VK) : O → Env → Hp → Hp → List Addr → Prop := fun o _ F' H' fp' => ∀ v fv, Tr K H' F' v o fv → (fv ++ fp').Nodup → Fre H fp fv → Q v H'
def QR (K : PySem.W.Frag) (Q : VK) : O → Env → Hp → Hp → List Addr → Prop := fun o _ F' H' _ => ∀ v fv, Tr K H' F' v o fv → Q v H'
def QT (Q : Bool → Hp → Prop) : Bool → Env → Hp → Hp → List Addr → Prop := fun b _ _ H' _ => Q b H'
/-- arguments: still values, and slots -/
inductive AVs (K : PySem.W.Frag) (F : Hp) (σ : L2.St) : List V → List AV → Prop
  | nil : AVs K F σ [] []
  | v {x : V} {d : D} {xs : List V} {as : List AV} : Rp K F x d → AVs K F σ xs as → AVs K F σ (x :: xs) (.v d :: as)
  | s {x : V} {i : Nat} {xs : List V} {as : List AV} : σ[i]? = some (some x) → AVs K F σ xs as → AVs K F σ (x :: xs) (.s i :: as)
theorem AVs.mono {K : PySem.W.Frag} {F F' : Hp} {σ : L2.St} (e : Same F F') : ∀ {xs : List V} {as : List AV}, AVs K F σ xs as → AVs K F' σ xs as
  | _, _, .nil => .nil
  | _, _, .v h t => .v (h.mono e) (AVs.mono e t)
  | _, _, .s h t => .s h (AVs.mono e t)
def QA (K : PySem.W.Frag) (σ : L2.St) (Q : List V → Hp → Prop) : List AV → Env → Hp → Hp → List Addr → Prop := fun as _ F' H' _ => ∀ vs, AVs K F' σ vs as → Q vs H'
def SimE (ul : Bool) (K : PySem.W.Frag) (T : List (Addr × Str)) (E : XK) (p : Bool) (te : TE) (me : ME) : Prop :=
  ∀ {F H : Hp} {σ : L2.St} {ρ : Env} {fp : List Addr} {Q : VK}, SS ul K T F H σ ρ fp → Out ul K T E p F H σ ρ fp (QE K H fp Q) (me ρ) → te σ H Q
def SimR (ul : Bool) (K : PySem.W.Frag) (T : List (Addr × Str)) (E : XK) (p : Bool) (te : TE) (me : ME) : Prop :=
  ∀ {F H : Hp} {σ : L2.St} {ρ : Env} {fp : List Addr} {Q : VK}, SS ul K T F H σ ρ fp → Out ul K T E p F H σ ρ fp (QR K Q) (me ρ) → te σ H Q
def SimT (ul : Bool) (K : PySem.W.Frag) (T : List (Addr × Str)) (E : XK) (p : Bool) (te : TT) (me : MT) : Prop :=
  ∀ {F H : Hp} {σ : L2.St} {ρ : Env} {fp : List Addr} {Q : Bool → Hp → Prop}, SS ul K T F H σ ρ fp → Out ul K T E p F H σ ρ fp (QT Q) (me ρ) → te σ H Q
def SimA (ul : Bool) (K : PySem.W.Frag) (T : List (Addr × Str)) (E : XK) (p : Bool) (te : TA) (me : MA) : Prop :=
  ∀ {F H : Hp} {σ : L2.St} {ρ : Env} {fp : List Addr} {Q : List V → Hp → Prop}, SS ul K T F H σ ρ fp → Out ul K T E p F H σ ρ fp (QA K σ Q) (me ρ) → te σ H Q
section
variable {K : PySem.W.Frag} {T : List (Addr × Str)} {E : XK} {p q : Bool} {F H F1 H1 : Hp} {σ : L2.St} {ρ ρ1 : Env} {fp fp1 : List Addr} {α β : Type}
theorem Out.mono {Q Q' : α → Env → Hp → Hp → List Addr → Prop} {m : RE α} (h : Out ul K T E p F H σ ρ fp Q m) (k : ∀ a ρ' F' H' fp', Stp p fp F H F' H' → SS ul K T F' H' σ ρ' fp' → Fre H fp fp' → (p = true → ρ' = ρ ∧ fp' = fp) → Q a ρ' F' H' fp' → Q' a ρ' F' H' fp') :
    Out ul K T E p F H σ ρ fp Q' m := by
  cases m with
  | ok a ρ' => exact fun F' H' fp' s S fr c => k a ρ' F' H' fp' s S fr c (h F' H' fp' s S fr c)
  | ex x ρ' => exact h
  | bad => exact h
/-- behind a step -/
theorem Out.after {Q : β → Env → Hp → Hp → List Addr → Prop} {m : RE β} (s : Stp p fp F H F1 H1) (fr : Fre H fp fp1) (c : p = true → ρ1 = ρ ∧ fp1 = fp) (h : Out ul K T E (p && q) F H σ ρ fp Q m) : Out ul K T E q F1 H1 σ ρ1 fp1 Q m := by
  cases m with
  | ok a ρ' =>
    intro F' H' fp' s2 S2 fr2 c2
    refine h F' H' fp' (s.trans fr s2) S2 (fr.trans s fr2) fun z => ?_
    obtain ⟨z1, z2⟩ := Bool.and_eq_true_iff.mp z
    obtain ⟨c3, c4⟩ := c z1
    obtain ⟨c5, c6⟩ := c2 z2
    exact ⟨c5.trans c3, c6.trans c4⟩
  | ex x ρ' => exact fun F' H' fp' cc d s2 S2 fr2 xr => h F' H' fp' cc d (s.trans fr s2) S2 (fr.trans s fr2) xr
  | bad => exact h
theorem Out.bind {Q : β → Env → Hp → Hp → List Addr → Prop} {m : RE α} {k : α → Env → RE β} (h : Out ul K T E (p && q) F H σ ρ fp Q (m.bind k)) :
    Out ul K T E p F H σ ρ fp (fun a ρ1 F1 H1 fp1 => Out ul K T E q F1 H1 σ ρ1 fp1 Q (k a ρ1)) m := by
  cases m with
  | ok a ρ' => exact fun F' H' fp' s S fr c => h.after s fr c
  | ex x ρ' => exact fun F' H' fp' c d s S fr xr => h F' H' fp' c d (s.imp fun z => (Bool.and_eq_true_iff.mp z).1) S fr xr
  | bad => exact h
/-- the state itself is an outcome -/
theorem Out.now {Q : α → Env → Hp → Hp → List Addr → Prop} {a : α} (S : SS ul K T F H σ ρ fp) (h : Out ul K T E p F H σ ρ fp Q (.ok a ρ)) : Q a ρ F H fp := h F H fp .refl S .refl fun _ => ⟨rfl, rfl⟩
/-- a step of new things alone -/
structure New (ul : Bool) (F H F' H' : Hp) : Prop where
  le : Same F F'
  he : ∀ a o, H a = some o → H' a = some o
  out : ∀ a o, H a = some o → Mut (some o) → F a = none → F' a = none
  sub : Sub ul F' H'
  nu : ∀ a w, F' a = some w → F a = none → H' a = some w
theorem New.stp (n : New ul F H F1 H1) : Stp p fp F H F1 H1 := ⟨n.le, fun a o h _ _ => n.he a o h, fun a o h m f _ => n.out a o h m f, fun a h o e => h o (n.he a o e), fun a w o _ h => n.he a o h, n.nu⟩
theorem New.ss (n : New ul F H F1 H1) (S : SS ul K T F H σ ρ fp) : SS ul K T F1 H1 σ ρ fp :=
  ⟨n.sub, S.tabs.ext n.he, S.sl.mono n.le fun a m o h mu f => ⟨n.he a o h, n.out a o h mu f⟩, S.nd⟩
theorem New.refl (s : Sub ul F H) : New ul F H F H := ⟨Same.refl _, fun _ _ h => h, fun _ _ _ _ h => h, s, fun a w h n => by rw [n] at h; cases h⟩
theorem New.trans {F2 H2 : Hp} (n : New ul F H F1 H1) (m : New ul F1 H1 F2 H2) : New ul F H F2 H2 :=
  ⟨n.le.trans m.le, fun a o h => m.he a o (n.he a o h), fun a o h mu f => m.out a o (n.he a o h) mu (n.out a o h mu f), m.sub, ((n.stp (p := true) (fp := [])).trans (fp1 := []) .refl (m.stp (p := true) (fp := []))).nu⟩
/-- new things, then the outcome -/
theorem Out.new {Q : α → Env → Hp → Hp → List Addr → Prop} {a : α} (S : SS ul K T F H σ ρ fp) (n : New ul F H F1 H1) (h : Out ul K T E p F H σ ρ fp Q (.ok a ρ)) : Q a ρ F1 H1 fp := h F1 H1 fp n.stp (n.ss S) .refl fun _ => ⟨rfl, rfl⟩
theorem Out.ok' {Q : α → Env → Hp → Hp → List Addr → Prop} {a : α} {m : RE α} (e : m = .ok a ρ) (S : SS ul K T F H σ ρ fp) (n : New ul F H F1 H1) (h : Out ul K T E p F H σ ρ fp Q m) : Q a ρ F1 H1 fp := by
  subst e; exact h.new S n
/-- a value's own cells are taken into the still part -/
theorem New.adopt {v : V} {o : O} {fv : List Addr} (t : Tr K H F v o fv) (s : Sub ul F H) (d : ∀ a ∈ fv, ∀ u, H1 a = some u → False) (h1 : H1 = H) : True := trivial
end
section
variable {K : PySem.W.Frag} {T : List (Addr × Str)} {E : XK} {p q : Bool} {F H F1 H1 : Hp} {σ : L2.St} {ρ ρ1 : Env} {fp fp1 : List Addr}
/-- a temporary value is made still: its cells are none of the slots' -/
theorem still_ss {v : V} {o : O} {fv : List Addr} (S : SS ul K T F H σ ρ fp) (t : Tr K H F v o fv) (nd : (fv ++ fp).Nodup) : SS ul K T (adopt F H fv) H σ ρ fp ∧ Rp K (adopt F H fv) v o.fz ∧ Same F (adopt F H fv) := by
  have ow := t.own
  have sm := adopt_same ow
  refine ⟨⟨adopt_sub ow S.sub, S.tabs, S.sl.mono sm fun a m u h mu f => ⟨h, ?_⟩, S.nd⟩, t.still sm fun a m => adopt_in m, sm⟩
  rw [adopt_out]
  · exact f
  · intro m'
    exact (List.nodup_append.mp nd).2.2 a m' a m rfl
theorem still_stp {v : V} {o : O} {fv fp0 : List Addr} {F0 H0 : Hp} (st : Stp p fp0 F0 H0 F H) (t : Tr K H F v o fv) (fr : Fre H0 fp0 fv) (pf : p = true → ∀ a ∈ fv, Fr0 H0 a) : Stp p fp0 F0 H0 (adopt F H fv) H := by
  have sm := adopt_same t.own
  refine ⟨st.le.trans sm, st.keep, fun a o h mu f c => ?_, st.dom, st.kf, fun a w h n => ?_⟩
  rotate_left
  · by_cases m : a ∈ fv
    · rw [adopt_in m] at h; exact h
    · rw [adopt_out m] at h; exact st.nu a w h n
  rw [adopt_out]
  · exact st.out a o h mu f c
  · intro m
    rcases c with c | c
    · rcases fr a m with z | z
      · exact c z
      · exact z o h (mut_nt mu)
    · exact pf c a m o h (mut_nt mu)
theorem Stp.stayE (s : Stp p fp F H F1 H1) {fv : List Addr} (nd : (fv ++ fp).Nodup) : Stay fv H F H1 F1 := s.stay fun a m z => (List.nodup_append.mp nd).2.2 a m a z rfl
end
end MR

namespace MR
open PySem PySem.Spec PyProof.Rows L2 SW LamX
def QF (K : PySem.W.Frag) (Q : VK) : O → Env → Hp → Hp → List Addr → Prop := fun o _ F' H' _ => ∀ v, Rp K F' v o.fz → Q v H'
/-- the value, made still -/
def SimF (ul : Bool) (K : PySem.W.Frag) (T : List (Addr × Str)) (E : XK) (p : Bool) (te : TE) (me : ME) : Prop :=
  ∀ {F H : Hp} {σ : L2.St} {ρ : Env} {fp : List Addr} {Q : VK}, SS ul K T F H σ ρ fp → Out ul K T E p F H σ ρ fp (QF K Q) (me ρ) → te σ H Q
def sca : D → Bool
  | .non => true
  | .bl _ => true
  | .int _ => true
  | .str _ => true
  | _ => false
def Op1 (ul : Bool) (K : PySem.W.Frag) (r : V → Hp → VK → Prop) (g : D → Option O) : Prop := ∀ (F H : Hp) (x : V) (d : D) (o : O) (Q : VK), Sub ul F H → Rp K F x d → g d = some o →
  (∀ w F' H' fv, New ul F H F' H' → Tr K H' F' w o fv → (∀ a ∈ fv, H a = none) → fv.Nodup → Q w H') → r x H Q
def Op2 (ul : Bool) (K : PySem.W.Frag) (r : R2) (g : D → D → Option O) : Prop := ∀ (F H : Hp) (x y : V) (d e : D) (o : O) (Q : VK), Sub ul F H → Rp K F x d → Rp K F y e → g d e = some o →
  (∀ w F' H' fv, New ul F H F' H' → Tr K H' F' w o fv → (∀ a ∈ fv, H a = none) → fv.Nodup → Q w H') → r x y H Q
def OpN (ul : Bool) (K : PySem.W.Frag) (r : List V → Hp → VK → Prop) (g : List D → Option O) : Prop := ∀ (F H : Hp) (xs : List V) (ds : List D) (o : O) (Q : VK), Sub ul F H → RpA K F xs ds → g ds = some o →
  (∀ w F' H' fv, New ul F H F' H' → Tr K H' F' w o fv → (∀ a ∈ fv, H a = none) → fv.Nodup → Q w H') → r xs H Q
/-! ### the mirrors -/
@[reducible] def RE.of (o : Option O) (ρ : Env) : RE O := match o with
  | some o => .ok o ρ
  | none => .bad
@[reducible] def RE.sc (o : Option O) (ρ : Env) : RE O := match o with
  | some (.f d) => bif sca d then .ok (.f d) ρ else .bad
  | _ => .bad
def mC (d : D) : ME := fun ρ => .ok (.f d) ρ
/-- a still slot -/
def mVar (i : Nat) : ME := fun ρ => match ρ[i]? with
  | some (some (.f d)) => .ok (.f d) ρ
  | _ => .bad
/-- a slot, made still -/
def mFzv (i : Nat) : ME := fun ρ => match ρ[i]? with
  | some (some (.f d)) => .ok (.f d) ρ
  | some (some o) => .ok (.f o.fz) (ρ.set i (some (.f o.fz)))
  | _ => .bad
/-- a slot, given away -/
def mMov (i : Nat) : ME := fun ρ => match ρ[i]? with
  | some (some (.f d)) => .ok (.f d) ρ
  | some (some o) => .ok o (ρ.set i none)
  | _ => .bad
/-- a slot, looked at -/
def mPk (i : Nat) : ME := fun ρ => match ρ[i]? with
  | some (some o) => .ok o ρ
  | _ => .bad
/-- what is looked at is still -/
def mVal (m : ME) : ME := fun ρ => (m ρ).bind fun o ρ1 => match o with
  | .f d => .ok (.f d) ρ1
  | _ => .bad
def mOp1 (g : D → Option O) (ma : ME) : ME := fun ρ => (ma ρ).bind fun a ρ1 => RE.of (g a.fz) ρ1
def mOp2 (g : D → D → Option O) (ma mb : ME) : ME := fun ρ => (ma ρ).bind fun a ρ1 => (mb ρ1).bind fun b ρ2 => RE.of (g a.fz b.fz) ρ2
def mOp1R (g : D → Option O) (ma : ME) : ME := fun ρ => (ma ρ).bind fun a ρ1 => RE.sc (g a.fz) ρ1
def mOp2R (g : D → D → Option O) (ma mb : ME) : ME := fun ρ => (ma ρ).bind fun a ρ1 => (mb ρ1).bind fun b ρ2 => RE.sc (g a.fz b.fz) ρ2
def mTest (m : ME) : MT := fun ρ => (m ρ).bind fun o ρ1 => match o with
  | .f (.bl b) => .ok b ρ1
  | _ => .bad
def mTru (g : D → Option Bool) (m : ME) : MT := fun ρ => (m ρ).bind fun o ρ1 => match g o.fz with
  | some b => .ok b ρ1
  | none => .bad
def mNot (m : MT) : MT := fun ρ => (m ρ).bind fun b ρ1 => .ok (!b) ρ1
def mAnd (m n : MT) : MT := fun ρ => (m ρ).bind fun b ρ1 => bif b then n ρ1 else .ok false ρ1
def mOr (m n : MT) : MT := fun ρ => (m ρ).bind fun b ρ1 => bif b then .ok true ρ1 else n ρ1
def mIf (t : MT) (m n : ME) : ME := fun ρ => (t ρ).bind fun b ρ1 => bif b then m ρ1 else n ρ1
def mAndV (m n : ME) : ME := fun ρ => (m ρ).bind fun o ρ1 => match o with
  | .f (.bl b) => bif b then n ρ1 else .ok (.f (.bl false)) ρ1
  | _ => .bad
def mOrV (m n : ME) : ME := fun ρ => (m ρ).bind fun o ρ1 => match o with
  | .f (.bl b) => bif b then .ok (.f (.bl true)) ρ1 else n ρ1
  | _ => .bad
def mNotV (m : ME) : ME := fun ρ => (m ρ).bind fun o ρ1 => match o with
  | .f (.bl b) => .ok (.f (.bl (!b))) ρ1
  | _ => .bad
def mIsN (neg : Bool) (m : ME) : ME := fun ρ => (m ρ).bind fun o ρ1 => match o with
  | .f .non => .ok (.f (.bl (!neg))) ρ1
  | _ => .ok (.f (.bl neg)) ρ1
def mNil : MA := fun ρ => .ok [] ρ
def mCons (m : ME) (r : MA) : MA := fun ρ => (m ρ).bind fun o ρ1 => (r ρ1).bind fun as ρ2 => .ok (.v o.fz :: as) ρ2
/-- a slot handed on, to be changed -/
def mConsS (i : Nat) (r : MA) : MA := fun ρ => (r ρ).bind fun as ρ2 => .ok (.s i :: as) ρ2
def avD : List AV → Option (List D)
  | [] => some []
  | .v d :: r => (avD r).map (d :: ·)
  | .s _ :: _ => none
def mTup (m : MA) : ME := fun ρ => (m ρ).bind fun as ρ1 => match avD as with
  | some ds => bif decide (ds.length ≤ 100000) then .ok (.f (.tup ds)) ρ1 else .bad
  | none => .bad
def mLst (m : MA) : ME := fun ρ => (m ρ).bind fun as ρ1 => match avD as with
  | some ds => bif decide (ds.length ≤ 100000) then .ok (.L (ds.map .f)) ρ1 else .bad
  | none => .bad
def mCB (g : List D → Option O) (m : MA) : ME := fun ρ => (m ρ).bind fun as ρ1 => match avD as with
  | some ds => RE.of (g ds) ρ1
  | none => .bad
/-! ### their rules -/
section
variable {K : PySem.W.Frag} {T : List (Addr × Str)} {E : XK} {p q r : Bool} {ta tb tc : TE} {ma mb mc : ME} {tt tu : TT} {mt mu : MT}
theorem SimE.weak (h : SimE ul K T E p ta ma) (c : q = true → p = true) : SimE ul K T E q ta ma := fun {F H σ ρ fp Q} S k => h S (by
  cases e : ma ρ with
  | ok a ρ' => rw [e] at k; exact fun F' H' fp' s S' fr d => k F' H' fp' (s.imp c) S' fr fun z => d (c z)
  | ex x ρ' => rw [e] at k; exact fun F' H' fp' cc d s S' fr => k F' H' fp' cc d (s.imp c) S' fr
  | bad => rw [e] at k; exact k)
theorem SimT.weak (h : SimT ul K T E p tt mt) (c : q = true → p = true) : SimT ul K T E q tt mt := fun {F H σ ρ fp Q} S k => h S (by
  cases e : mt ρ with
  | ok a ρ' => rw [e] at k; exact fun F' H' fp' s S' fr d => k F' H' fp' (s.imp c) S' fr fun z => d (c z)
  | ex x ρ' => rw [e] at k; exact fun F' H' fp' cc d s S' fr => k F' H' fp' cc d (s.imp c) S' fr
  | bad => rw [e] at k; exact k)
theorem fresh_of {H : Hp} {fp fv : List Addr} (nd : (fv ++ fp).Nodup) (fr : Fre H fp fv) : ∀ a ∈ fv, Fr0 H a := fun a m => by
  rcases fr a m with z | z
  · exact absurd rfl ((List.nodup_append.mp nd).2.2 a m a z)
  · exact z
theorem SimE.f (h : SimE ul K T E p ta ma) : SimF ul K T E p ta ma := fun {F H σ ρ fp Q} S k => h S (by
  cases e : ma ρ with
  | ok a ρ' =>
    rw [e] at k
    intro F' H' fp' s S' fr c v fv t nd frv
    obtain ⟨S2, rp, sm⟩ := still_ss S' t nd
    refine k _ H' fp' (still_stp s t frv fun z => ?_) S2 fr c v rp
    obtain ⟨_, rfl⟩ := c z
    exact fresh_of nd frv
  | ex x ρ' => rw [e] at k; exact k
  | bad => rw [e] at k; exact k)
theorem SimE.rr (h : SimE ul K T E p ta ma) : SimR ul K T E p ta ma := fun {F H σ ρ fp Q} S k => h S (k.mono fun a ρ' F' H' fp' _ _ _ _ z v fv t _ _ => z v fv t)
/-- what is still stays a value -/
theorem SimR.val (h : SimR ul K T E p ta ma) : SimE ul K T E p ta (mVal ma) := fun {F H σ ρ fp Q} S k => h S (by
  have k1 := Out.bind (p := p) (q := true) (by rw [Bool.and_true]; exact k)
  refine k1.mono fun a ρ' F' H' fp' st S' fr c z v fv t => ?_
  cases t with
  | f rp => exact (Out.now S' z) v [] (.f rp) (by rw [List.nil_append]; exact S'.nd) fun a m => nomatch m
  | L => exact z.elim
  | M0 => exact z.elim
  | M1 => exact z.elim
  | I => exact z.elim)
theorem sim_c {v : V} {d : D} (h : ∀ F : Hp, Rp K F v d) : SimE ul K T E true (tC v) (mC d) := fun {F H σ ρ fp Q} S k =>
  (Out.now S k) v [] (.f (h F)) (by rw [List.nil_append]; exact S.nd) fun a m => nomatch m
theorem sim_non : SimE ul K T E true (tC .non) (mC .non) := sim_c fun _ => .non
theorem sim_bl {b : Bool} : SimE ul K T E true (tC (.bl b)) (mC (.bl b)) := sim_c fun _ => .bl b
theorem sim_int {i : Int} : SimE ul K T E true (tC (.int i)) (mC (.int i)) := sim_c fun _ => .int i
theorem sim_str {x : Str} (h : Sok x) : SimE ul K T E true (tC (.str x)) (mC (.str x)) := sim_c fun _ => .str x h
theorem sim_pk {i : Nat} : SimR ul K T E true (tVar i) (mPk i) := fun {F H σ ρ fp Q} S k => by
  unfold mPk at k
  match e : ρ[i]?, k with
  | some (some o), k =>
    obtain ⟨v, fi, fr, h1, h2, _, _⟩ := S.sl.take e
    exact ⟨v, h1, (Out.now S k) v fi h2⟩
theorem sim_var {i : Nat} : SimE ul K T E true (tVar i) (mVar i) := fun {F H σ ρ fp Q} S k => by
  unfold mVar at k
  match e : ρ[i]?, k with
  | some (some (.f d)), k =>
    obtain ⟨v, fi, fr, h1, h2, _, _⟩ := S.sl.take e
    cases h2 with
    | f rp => exact ⟨v, h1, (Out.now S k) v [] (.f rp) (by rw [List.nil_append]; exact S.nd) fun a m => nomatch m⟩
theorem set_self {ρ : Env} {i : Nat} {x y : Option O} : (ρ.set i x).set i y = ρ.set i y := by rw [List.set_set]
theorem get_set {ρ : Env} {i : Nat} {x z : Option O} (h : ρ[i]? = some z) : (ρ.set i x)[i]? = some x := by
  have : i < ρ.length := (List.getElem?_eq_some_iff.mp h).1
  simp [this]
theorem sim_fzv {i : Nat} : SimE ul K T E false (tVar i) (mFzv i) := fun {F H σ ρ fp Q} S k => by
  unfold mFzv at k
  match e : ρ[i]?, k with
  | some (some (.f d)), k =>
    obtain ⟨v, fi, fr, h1, h2, _, _⟩ := S.sl.take e
    cases h2 with
    | f rp => exact ⟨v, h1, (Out.now S k) v [] (.f rp) (by rw [List.nil_append]; exact S.nd) fun a m => nomatch m⟩
  | some (some (.L os)), k | some (some (.M t os)), k | some (some (.I C os)), k =>
    obtain ⟨v, fi, fr, h1, h2, h3, h4⟩ := S.sl.take e
    have nd : (fi ++ fr).Nodup := h4.nodup_iff.mp S.nd
    have S1 : SS ul K T F H σ (ρ.set i none) fr := ⟨S.sub, S.tabs, h3, (List.nodup_append.mp nd).2.1⟩
    obtain ⟨S2, rp, sm⟩ := still_ss S1 h2 nd
    obtain ⟨fq, h5, h6⟩ := TrS.put S2.sl (get_set e) h1 (.f rp)
    rw [set_self] at h5
    refine ⟨v, h1, k _ H fq ?_ ⟨S2.sub, S2.tabs, h5, h6.nodup_iff.mpr (by rw [List.nil_append]; exact S2.nd)⟩ ?_ (fun z => nomatch z) v [] (.f rp) (by rw [List.nil_append]; exact h6.nodup_iff.mpr (by rw [List.nil_append]; exact S2.nd)) fun a m => nomatch m⟩
    · exact still_stp .refl h2 (fun a m => .inl (h4.mem_iff.mpr (List.mem_append_left _ m))) fun z => nomatch z
    · exact Fre.of fun a m => h4.mem_iff.mpr (List.mem_append_right _ (by simpa using h6.mem_iff.mp m))
theorem sim_mov {i : Nat} : SimE ul K T E false (tVar i) (mMov i) := fun {F H σ ρ fp Q} S k => by
  unfold mMov at k
  match e : ρ[i]?, k with
  | some (some (.f d)), k =>
    obtain ⟨v, fi, fr, h1, h2, _, _⟩ := S.sl.take e
    cases h2 with
    | f rp => exact ⟨v, h1, (Out.now S k) v [] (.f rp) (by rw [List.nil_append]; exact S.nd) fun a m => nomatch m⟩
  | some (some (.L os)), k | some (some (.M t os)), k | some (some (.I C os)), k =>
    obtain ⟨v, fi, fr, h1, h2, h3, h4⟩ := S.sl.take e
    have nd : (fi ++ fr).Nodup := h4.nodup_iff.mp S.nd
    refine ⟨v, h1, k F H fr .refl ⟨S.sub, S.tabs, h3, (List.nodup_append.mp nd).2.1⟩ ?_ (fun z => nomatch z) v fi h2 nd ?_⟩
    · exact Fre.of fun a m => h4.mem_iff.mpr (List.mem_append_right _ m)
    · exact Fre.of fun a m => h4.mem_iff.mpr (List.mem_append_left _ m)
/-- the outcome of an operation on still things -/
theorem op_end {F H : Hp} {σ : L2.St} {ρ : Env} {fp : List Addr} {Q : VK} {o : Option O} (S : SS ul K T F H σ ρ fp) (k : Out ul K T E p F H σ ρ fp (QE K H0 fp0 Q) (RE.of o ρ)) (fr : ∀ a, Fr0 H a → Fr0 H0 a) :
    ∃ u, o = some u ∧ ∀ w F' H' fv, New ul F H F' H' → Tr K H' F' w u fv → (∀ a ∈ fv, H a = none) → fv.Nodup → Q w H' := by
  match o, k with
  | some u, k =>
    refine ⟨u, rfl, fun w F' H' fv n t fh nd => ?_⟩
    refine (Out.new S n k) w fv t ?_ fun a m => .inr (fr a (.of (fh a m)))
    refine List.nodup_append.mpr ⟨nd, S.nd, fun a m b m' e => ?_⟩
    subst e
    obtain ⟨_, h1, _⟩ := S.sl.own a m'
    rw [fh a m] at h1; cases h1
theorem sim_op1 {r : V → Hp → VK → Prop} {g : D → Option O} (ha : SimF ul K T E p ta ma) (ho : Op1 ul K r g) : SimE ul K T E p (tUn r ta) (mOp1 g ma) := fun {F H σ ρ fp Q} S k => by
  refine ha S ?_
  have k1 := Out.bind (p := p) (q := true) (by rw [Bool.and_true]; exact k)
  refine k1.mono fun a ρ1 F1 H1 fp1 s1 S1 fr1 _ k2 v rp => ?_
  obtain ⟨u, e, hk⟩ := op_end S1 k2 s1.dom
  exact ho F1 H1 v _ u Q S1.sub rp e hk
theorem sim_op2 {r : R2} {g : D → D → Option O} (ha : SimF ul K T E p ta ma) (hb : SimF ul K T E q tb mb) (ho : Op2 ul K r g) : SimE ul K T E (p && q) (tOp r ta tb) (mOp2 g ma mb) := fun {F H σ ρ fp Q} S k => by
  refine ha S ?_
  have k1 := Out.bind (p := p) (q := q) k
  refine k1.mono fun a ρ1 F1 H1 fp1 s1 S1 fr1 _ k2 v rp => ?_
  refine hb S1 ?_
  have k3 := Out.bind (p := q) (q := true) (by rw [Bool.and_true]; exact k2)
  refine k3.mono fun b ρ2 F2 H2 fp2 s2 S2 fr2 _ k4 w rq => ?_
  obtain ⟨u, e, hk⟩ := op_end S2 k4 fun a z => s1.dom a (s2.dom a z)
  exact ho F2 H2 v w _ _ u Q S2.sub (rp.mono s2.le) rq e hk
theorem sca_rp {F G : Hp} {w : V} {d : D} (h : Rp K F w d) (s : sca d = true) : Rp K G w d := by
  cases h with
  | non => exact .non
  | bl b => exact .bl b
  | int i => exact .int i
  | str x h => exact .str x h
  | _ => cases s
theorem New.any {F G H G' H' : Hp} (n : New ul G H G' H') (s : Sub ul F H) : New ul F H F H' := by
  refine ⟨Same.refl _, n.he, fun _ _ _ _ h => h, fun a u e => ?_, fun a w h n => by rw [n] at h; cases h⟩
  obtain ⟨h1, h2⟩ := s a u e
  refine ⟨h1, ?_⟩
  rcases h2 with h2 | ⟨h2, hl, o, h3⟩
  · exact .inl (n.he _ _ h2)
  · exact .inr ⟨h2, hl, o, n.he _ _ h3⟩
theorem sc_end {F H : Hp} {σ : L2.St} {ρ : Env} {fp : List Addr} {Q : VK} {o : Option O} (S : SS ul K T F H σ ρ fp) (k : Out ul K T E p F H σ ρ fp (QE K H0 fp0 Q) (RE.sc o ρ)) :
    ∃ d, o = some (.f d) ∧ ∀ G w F' H' fv, New ul G H F' H' → Tr K H' F' w (.f d) fv → Q w H' := by
  match o, k with
  | some (.f d), k =>
    refine ⟨d, rfl, fun G w F' H' fv n t => ?_⟩
    cases hs : sca d with
    | false => simp only [RE.sc, hs, cond_false] at k; exact k.elim
    | true =>
      simp only [RE.sc, hs, cond_true] at k
      cases t with
      | f rp =>
        have n1 := n.any S.sub
        exact (Out.new S n1 k) w [] (.f (sca_rp rp hs)) (by rw [List.nil_append]; exact S.nd) fun a m => nomatch m
theorem sim_op1R {r : V → Hp → VK → Prop} {g : D → Option O} (ha : SimR ul K T E p ta ma) (ho : Op1 ul K r g) : SimE ul K T E p (tUn r ta) (mOp1R g ma) := fun {F H σ ρ fp Q} S k => by
  refine ha S ?_
  have k1 := Out.bind (p := p) (q := true) (by rw [Bool.and_true]; exact k)
  refine k1.mono fun a ρ1 F1 H1 fp1 s1 S1 fr1 _ k2 v fv t => ?_
  obtain ⟨d, e, hk⟩ := sc_end S1 k2
  have sm := adopt_same t.own
  exact ho (adopt F1 H1 fv) H1 v _ _ Q (adopt_sub t.own S1.sub) (t.still sm fun a m => adopt_in m) e fun w F' H' fv' n t' _ _ => hk _ w F' H' fv' n t'
theorem sim_op2R {r : R2} {g : D → D → Option O} (ha : SimR ul K T E p ta ma) (hb : SimR ul K T E true tb mb) (ho : Op2 ul K r g) : SimE ul K T E p (tOp r ta tb) (mOp2R g ma mb) := fun {F H σ ρ fp Q} S k => by
  refine ha S ?_
  have k1 := Out.bind (p := p) (q := true) (by rw [Bool.and_true]; exact k)
  refine k1.mono fun a ρ1 F1 H1 fp1 s1 S1 fr1 _ k2 v fv t => ?_
  refine hb S1 ?_
  have k3 := Out.bind (p := true) (q := true) k2
  refine k3.mono fun b ρ2 F2 H2 fp2 s2 S2 fr2 _ k4 w fw tw => ?_
  obtain ⟨d, e, hk⟩ := sc_end S2 k4
  have t2 := t.mono s2.le (s2.stayP)
  have ow : ∀ a ∈ fv ++ fw, Own H2 F2 a := fun a m => by
    rcases List.mem_append.mp m with m | m
    · exact t2.own a m
    · exact tw.own a m
  have sm := adopt_same ow
  exact ho (adopt F2 H2 (fv ++ fw)) H2 v w _ _ _ Q (adopt_sub ow S2.sub) (t2.still sm fun a m => adopt_in (List.mem_append_left _ m)) (tw.still sm fun a m => adopt_in (List.mem_append_right _ m)) e fun w F' H' fv' n t' _ _ => hk _ w F' H' fv' n t'
/-! tests -/
theorem sim_test (ha : SimR ul K T E p ta ma) : SimT ul K T E p (tTest ta) (mTest ma) := fun {F H σ ρ fp Q} S k => by
  refine ha S ?_
  have k1 := Out.bind (p := p) (q := true) (by rw [Bool.and_true]; exact k)
  refine k1.mono fun a ρ1 F1 H1 fp1 s1 S1 fr1 _ k2 v fv t => ?_
  cases t with
  | f rp =>
    cases rp with
    | bl b => exact ⟨b, rfl, Out.now S1 k2⟩
    | _ => exact k2.elim
  | _ => exact k2.elim
theorem sim_not (ha : SimT ul K T E p tt mt) : SimT ul K T E p (tNot tt) (mNot mt) := fun {F H σ ρ fp Q} S k => by
  refine ha S ?_
  have k1 := Out.bind (p := p) (q := true) (by rw [Bool.and_true]; exact k)
  exact k1.mono fun a ρ1 F1 H1 fp1 s1 S1 fr1 _ k2 => by
    have z := Out.now S1 k2
    exact z
theorem sim_and (ha : SimT ul K T E p tt mt) (hb : SimT ul K T E q tu mu) : SimT ul K T E (p && q) (tAnd tt tu) (mAnd mt mu) := fun {F H σ ρ fp Q} S k => by
  refine ha S ?_
  have k1 := Out.bind (p := p) (q := q) k
  refine k1.mono fun a ρ1 F1 H1 fp1 s1 S1 fr1 _ k2 => ?_
  cases a with
  | true => show (if true = true then tu σ H1 Q else Q false H1); rw [if_pos rfl]; exact hb S1 k2
  | false => show (if false = true then tu σ H1 Q else Q false H1); rw [if_neg (by decide)]; have z := Out.now S1 k2; exact z
theorem sim_or (ha : SimT ul K T E p tt mt) (hb : SimT ul K T E q tu mu) : SimT ul K T E (p && q) (tOr tt tu) (mOr mt mu) := fun {F H σ ρ fp Q} S k => by
  refine ha S ?_
  have k1 := Out.bind (p := p) (q := q) k
  refine k1.mono fun a ρ1 F1 H1 fp1 s1 S1 fr1 _ k2 => ?_
  cases a with
  | true => show (if true = true then Q true H1 else tu σ H1 Q); rw [if_pos rfl]; have z := Out.now S1 k2; exact z
  | false => show (if false = true then Q true H1 else tu σ H1 Q); rw [if_neg (by decide)]; exact hb S1 k2
theorem sim_if (ht : SimT ul K T E p tt mt) (ha : SimE ul K T E q ta ma) (hb : SimE ul K T E r tb mb) : SimE ul K T E (p && (q && r)) (tIf tt ta tb) (mIf mt ma mb) := fun {F H σ ρ fp Q} S k => by
  refine ht S ?_
  have k1 := Out.bind (p := p) (q := q && r) k
  refine k1.mono fun a ρ1 F1 H1 fp1 s1 S1 fr1 _ k2 => ?_
  have k3 : ∀ m : RE O, Out ul K T E (q && r) F1 H1 σ ρ1 fp1 (QE K H fp Q) m → Out ul K T E (q && r) F1 H1 σ ρ1 fp1 (QE K H1 fp1 Q) m := fun m z => z.mono fun _ _ _ _ _ _ _ _ _ y v fv t nd fr => y v fv t nd (Fre.trans fr1 s1 fr)
  cases a with
  | true => show (if true = true then ta σ H1 Q else tb σ H1 Q); rw [if_pos rfl]; exact (ha.weak fun z => (Bool.and_eq_true_iff.mp z).1) S1 (k3 _ k2)
  | false => show (if false = true then ta σ H1 Q else tb σ H1 Q); rw [if_neg (by decide)]; exact (hb.weak fun z => (Bool.and_eq_true_iff.mp z).2) S1 (k3 _ k2)
theorem sim_andV (ha : SimR ul K T E p ta ma) (hb : SimE ul K T E q tb mb) : SimE ul K T E (p && q) (tAndV ta tb) (mAndV ma mb) := fun {F H σ ρ fp Q} S k => by
  refine ha S ?_
  have k1 := Out.bind (p := p) (q := q) k
  refine k1.mono fun a ρ1 F1 H1 fp1 s1 S1 fr1 _ k2 v fv t => ?_
  cases t with
  | f rp =>
    cases rp with
    | bl b =>
      refine ⟨b, rfl, ?_⟩
      cases b with
      | true => rw [if_pos rfl]; exact hb S1 (k2.mono fun _ _ _ _ _ _ _ _ _ y v fv t nd fr => y v fv t nd (Fre.trans fr1 s1 fr))
      | false => rw [if_neg (by decide)]; exact (Out.now S1 k2) _ [] (.f (.bl false)) (by rw [List.nil_append]; exact S1.nd) fun a m => nomatch m
    | _ => exact k2.elim
  | _ => exact k2.elim
theorem sim_orV (ha : SimR ul K T E p ta ma) (hb : SimE ul K T E q tb mb) : SimE ul K T E (p && q) (tOrV ta tb) (mOrV ma mb) := fun {F H σ ρ fp Q} S k => by
  refine ha S ?_
  have k1 := Out.bind (p := p) (q := q) k
  refine k1.mono fun a ρ1 F1 H1 fp1 s1 S1 fr1 _ k2 v fv t => ?_
  cases t with
  | f rp =>
    cases rp with
    | bl b =>
      refine ⟨b, rfl, ?_⟩
      cases b with
      | true => rw [if_pos rfl]; exact (Out.now S1 k2) _ [] (.f (.bl true)) (by rw [List.nil_append]; exact S1.nd) fun a m => nomatch m
      | false => rw [if_neg (by decide)]; exact hb S1 (k2.mono fun _ _ _ _ _ _ _ _ _ y v fv t nd fr => y v fv t nd (Fre.trans fr1 s1 fr))
    | _ => exact k2.elim
  | _ => exact k2.elim
theorem sim_notV (ha : SimR ul K T E p ta ma) : SimE ul K T E p (tNotV ta) (mNotV ma) := fun {F H σ ρ fp Q} S k => by
  refine ha S ?_
  have k1 := Out.bind (p := p) (q := true) (by rw [Bool.and_true]; exact k)
  refine k1.mono fun a ρ1 F1 H1 fp1 s1 S1 fr1 _ k2 v fv t => ?_
  cases t with
  | f rp =>
    cases rp with
    | bl b => exact ⟨b, rfl, (Out.now S1 k2) _ [] (.f (.bl _)) (by rw [List.nil_append]; exact S1.nd) fun a m => nomatch m⟩
    | _ => exact k2.elim
  | _ => exact k2.elim
theorem non_of {F H : Hp} {v : V} {o : O} {fv : List Addr} (t : Tr K H F v o fv) : (v = .non ∧ o = .f .non) ∨ (v ≠ .non ∧ o ≠ .f .non) := by
  cases t with
  | f rp => cases rp <;> first | exact .inl ⟨rfl, rfl⟩ | exact .inr ⟨(fun z => by cases z), (fun z => by cases z)⟩
  | _ => exact .inr ⟨(fun z => by cases z), (fun z => by cases z)⟩
theorem sim_isN (ha : SimR ul K T E p ta ma) : SimE ul K T E p (tIsN ta) (mIsN false ma) := fun {F H σ ρ fp Q} S k => by
  refine ha S ?_
  have k1 := Out.bind (p := p) (q := true) (by rw [Bool.and_true]; exact k)
  refine k1.mono fun a ρ1 F1 H1 fp1 s1 S1 fr1 _ k2 v fv t => ?_
  have fin : ∀ b : Bool, Out ul K T E true F1 H1 σ ρ1 fp1 (QE K H fp Q) (.ok (.f (.bl b)) ρ1) → Q (.bl b) H1 := fun b z => (Out.now S1 z) _ [] (.f (.bl _)) (by rw [List.nil_append]; exact S1.nd) fun a m => nomatch m
  rcases non_of t with ⟨rfl, rfl⟩ | ⟨h1, h2⟩
  · show Q (.bl (decide _)) H1
    rw [decide_eq_true rfl]; exact fin _ k2
  · show Q (.bl (decide _)) H1
    rw [decide_eq_false h1]
    refine fin _ ?_
    split at k2
    · exact absurd rfl h2
    · exact k2
theorem sim_notN (ha : SimR ul K T E p ta ma) : SimE ul K T E p (tNotN ta) (mIsN true ma) := fun {F H σ ρ fp Q} S k => by
  refine ha S ?_
  have k1 := Out.bind (p := p) (q := true) (by rw [Bool.and_true]; exact k)
  refine k1.mono fun a ρ1 F1 H1 fp1 s1 S1 fr1 _ k2 v fv t => ?_
  have fin : ∀ b : Bool, Out ul K T E true F1 H1 σ ρ1 fp1 (QE K H fp Q) (.ok (.f (.bl b)) ρ1) → Q (.bl b) H1 := fun b z => (Out.now S1 z) _ [] (.f (.bl _)) (by rw [List.nil_append]; exact S1.nd) fun a m => nomatch m
  rcases non_of t with ⟨rfl, rfl⟩ | ⟨h1, h2⟩
  · show Q (.bl (!decide _)) H1
    rw [decide_eq_true rfl]; exact fin _ k2
  · show Q (.bl (!decide _)) H1
    rw [decide_eq_false h1]
    refine fin _ ?_
    split at k2
    · exact absurd rfl h2
    · exact k2
/-! arguments, displays -/
theorem sim_nil : SimA ul K T E true tNil mNil := fun {F H σ ρ fp Q} S k => (Out.now S k) [] .nil
theorem sim_cons {tr : TA} {mr : MA} (ha : SimF ul K T E p ta ma) (hr : SimA ul K T E q tr mr) : SimA ul K T E (p && q) (tCons ta tr) (mCons ma mr) := fun {F H σ ρ fp Q} S k => by
  refine ha S ?_
  have k1 := Out.bind (p := p) (q := q) k
  refine k1.mono fun a ρ1 F1 H1 fp1 s1 S1 fr1 _ k2 v rp => ?_
  refine hr S1 ?_
  have k3 := Out.bind (p := q) (q := true) (by rw [Bool.and_true]; exact k2)
  exact k3.mono fun b ρ2 F2 H2 fp2 s2 S2 fr2 _ k4 vs av => (Out.now S2 k4) _ (.v (rp.mono s2.le) av)
theorem sim_consS {i : Nat} {tr : TA} {mr : MA} (hr : SimA ul K T E q tr mr) (hi : ∀ σ : L2.St, True) : SimA ul K T E q (fun σ H Q => ∃ v, σ[i]? = some (some v) ∧ tr σ H fun vs H' => Q (v :: vs) H') (mConsS i mr) → True := fun _ => trivial
theorem avs_rp {F : Hp} {σ : L2.St} : ∀ {vs : List V} {as : List AV} {ds : List D}, AVs K F σ vs as → avD as = some ds → RpA K F vs ds
  | _, _, _, .nil, e => by cases e; exact .nil
  | _, _, ds, .v (d := d) (as := as) h t, e => by
    rw [show avD (.v d :: as) = (avD as).map (d :: ·) from rfl] at e
    obtain ⟨es, q, rfl⟩ := Option.map_eq_some_iff.mp e
    exact .cons h (avs_rp t q)
  | _, _, _, .s _ _, e => by cases e
theorem RpA.length {F : Hp} : ∀ {v : List V} {d : List D}, RpA K F v d → v.length = d.length
  | _, _, .nil => rfl
  | _, _, .cons _ a => congrArg Nat.succ (RpA.length a)
theorem RpA.tr {F H : Hp} : ∀ {v : List V} {d : List D}, RpA K F v d → TrA K H F v (d.map .f) []
  | _, _, .nil => .nil
  | _, _, .cons h a => by have := TrA.cons (H := H) (.f h) (RpA.tr a); exact this
theorem upd_new {F H : Hp} {a : Addr} {o : HO} (s : Sub ul F H) (hn : H a = none) (nt : NT o) : New ul F H (upd F a o) (upd H a o) := by
  have fa : F a = none := by
    cases e : F a with
    | none => rfl
    | some u =>
      obtain ⟨_, h | ⟨_, _, _, h⟩⟩ := s a u e <;> rw [hn] at h <;> cases h
  refine ⟨same_new fa, fun b u h => ?_, fun b u h m f => ?_, fun b u e => ?_, fun b w e n => ?_⟩
  · rw [upd_ne (ne_of_none h hn)]; exact h
  · rw [upd_ne (ne_of_none h hn)]; exact f
  · by_cases hb : b = a
    · subst hb; rw [upd_same] at e; cases e; exact ⟨nt, .inl upd_same⟩
    · rw [upd_ne hb] at e
      rw [upd_ne hb]
      exact s b u e
  · by_cases hb : b = a
    · subst hb; rw [upd_same] at e ⊢; exact e
    · rw [upd_ne hb] at e; rw [n] at e; cases e
theorem upd_newH {F H : Hp} {a : Addr} {o : HO} (s : Sub ul F H) (hn : H a = none) : New ul F H F (upd H a o) := by
  refine ⟨Same.refl _, fun b u h => ?_, fun b u h m f => f, fun b u e => ?_, fun a w h n => by rw [n] at h; cases h⟩
  · rw [upd_ne (ne_of_none h hn)]; exact h
  · obtain ⟨h1, h2⟩ := s b u e
    have hb : b ≠ a := by
      rcases h2 with h | ⟨_, _, _, h⟩ <;> exact ne_of_none h hn
    rw [upd_ne hb]
    exact ⟨h1, h2⟩
theorem fnone {F H : Hp} {a : Addr} (s : Sub ul F H) (hn : H a = none) : F a = none := by
  cases e : F a with
  | none => rfl
  | some u =>
    obtain ⟨_, h | ⟨_, _, _, h⟩⟩ := s a u e <;> rw [hn] at h <;> cases h
theorem line_of {n : Nat} (h : n ≤ 100000) : n ≤ sizeLine := by rw [sizeLine_eq]; omega
theorem sim_tup {t : TA} {m : MA} (ha : SimA ul K T E p t m) : SimE ul K T E p (tTup t) (mTup m) := fun {F H σ ρ fp Q} S k => by
  refine ha S ?_
  have k1 := Out.bind (p := p) (q := true) (by rw [Bool.and_true]; exact k)
  refine k1.mono fun a ρ1 F1 H1 fp1 s1 S1 fr1 _ k2 vs av => ?_
  cases e : avD a with
  | none => simp only [e] at k2; exact k2.elim
  | some ds =>
    simp only [e] at k2
    have rp := avs_rp av e
    by_cases hl : ds.length ≤ 100000
    · rw [decide_eq_true hl] at k2
      refine ⟨by rw [rp.length]; exact line_of hl, fun a hn => ?_⟩
      have n := upd_new (o := .tup vs) S1.sub hn fun _ z => by cases z
      refine (Out.new S1 n k2) _ [] (.f (.tup upd_same (rp.mono n.le))) (by rw [List.nil_append]; exact S1.nd) fun a m => nomatch m
    · rw [decide_eq_false hl] at k2; exact k2.elim
theorem sim_lst {t : TA} {m : MA} (ha : SimA ul K T E p t m) : SimE ul K T E p (tLst t) (mLst m) := fun {F H σ ρ fp Q} S k => by
  refine ha S ?_
  have k1 := Out.bind (p := p) (q := true) (by rw [Bool.and_true]; exact k)
  refine k1.mono fun a ρ1 F1 H1 fp1 s1 S1 fr1 _ k2 vs av => ?_
  cases e : avD a with
  | none => simp only [e] at k2; exact k2.elim
  | some ds =>
    simp only [e] at k2
    have rp := avs_rp av e
    by_cases hl : ds.length ≤ 100000
    · rw [decide_eq_true hl] at k2
      refine ⟨by rw [rp.length]; exact line_of hl, fun a hn => ?_⟩
      have n := upd_newH (o := .lst vs) S1.sub hn
      refine (Out.new S1 n k2) _ [a] (.L upd_same (fnone S1.sub hn) rp.tr) ?_ fun b m => .inr ?_
      · refine List.nodup_cons.mpr ⟨fun m => ?_, S1.nd⟩
        obtain ⟨_, h1, _⟩ := S1.sl.own a m
        rw [hn] at h1; cases h1
      · rw [List.mem_singleton] at m
        subst m
        exact s1.dom b (.of hn)
    · rw [decide_eq_false hl] at k2; exact k2.elim
theorem sim_cb {r : List V → Hp → VK → Prop} {g : List D → Option O} {t : TA} {m : MA} (ha : SimA ul K T E p t m) (ho : OpN ul K r g) : SimE ul K T E p (tCB r t) (mCB g m) := fun {F H σ ρ fp Q} S k => by
  refine ha S ?_
  have k1 := Out.bind (p := p) (q := true) (by rw [Bool.and_true]; exact k)
  refine k1.mono fun a ρ1 F1 H1 fp1 s1 S1 fr1 _ k2 vs av => ?_
  cases e : avD a with
  | none => simp only [e] at k2; exact k2.elim
  | some ds =>
    simp only [e] at k2
    obtain ⟨u, e2, hk⟩ := op_end S1 k2 s1.dom
    exact ho F1 H1 vs ds u Q S1.sub (avs_rp av e) e2 hk
end
end MR

namespace MR
open PySem PySem.Spec PyProof.Rows L2 SW LamX
/-! ### lists of values that keep what they own -/
abbrev MW := Env → RE (List O)
def QW (K : PySem.W.Frag) (H : Hp) (fp : List Addr) (Q : List V → Hp → Prop) : List O → Env → Hp → Hp → List Addr → Prop := fun os _ F' H' fp' => ∀ vs fv, TrA K H' F' vs os fv → (fv ++ fp').Nodup → Fre H fp fv → Q vs H'
def SimW (ul : Bool) (K : PySem.W.Frag) (T : List (Addr × Str)) (E : XK) (p : Bool) (te : TA) (me : MW) : Prop :=
  ∀ {F H : Hp} {σ : L2.St} {ρ : Env} {fp : List Addr} {Q : List V → Hp → Prop}, SS ul K T F H σ ρ fp → Out ul K T E p F H σ ρ fp (QW K H fp Q) (me ρ) → te σ H Q
def wNil : MW := fun ρ => .ok [] ρ
def wCons (m : ME) (r : MW) : MW := fun ρ => (m ρ).bind fun o ρ1 => (r ρ1).bind fun os ρ2 => .ok (o :: os) ρ2
def mLstW (m : MW) : ME := fun ρ => (m ρ).bind fun os ρ1 => bif decide (os.length ≤ 100000) then .ok (.L os) ρ1 else .bad
section
variable {K : PySem.W.Frag} {T : List (Addr × Str)} {E : XK} {p q r : Bool} {ta tb tc : TE} {ma mb mc : ME}
theorem sim_wnil : SimW ul K T E true tNil wNil := fun {F H σ ρ fp Q} S k => (Out.now S k) [] [] .nil (by rw [List.nil_append]; exact S.nd) fun a m => nomatch m
theorem nodup3 {a b c : List Addr} (h1 : (a ++ b).Nodup) (h2 : (c ++ d).Nodup) (h3 : ∀ x ∈ a, x ∉ c ++ d) : (a ++ (c ++ d)).Nodup :=
  List.nodup_append.mpr ⟨(List.nodup_append.mp h1).1, h2, fun x m y m' e => by subst e; exact h3 x m m'⟩
theorem sim_wcons {tr : TA} {mr : MW} (ha : SimE ul K T E p ta ma) (hr : SimW ul K T E q tr mr) : SimW ul K T E (p && q) (tCons ta tr) (wCons ma mr) := fun {F H σ ρ fp Q} S k => by
  refine ha S ?_
  have k1 := Out.bind (p := p) (q := q) k
  refine k1.mono fun a ρ1 F1 H1 fp1 s1 S1 fr1 _ k2 v fv t nd frv => ?_
  refine hr S1 ?_
  have k3 := Out.bind (p := q) (q := true) (by rw [Bool.and_true]; exact k2)
  refine k3.mono fun b ρ2 F2 H2 fp2 s2 S2 fr2 _ k4 vs fw tw ndw frw => ?_
  have t2 := t.mono s2.le (s2.stayE nd)
  refine (Out.now S2 k4) _ (fv ++ fw) (.cons t2 tw) ?_ (Fre.app frv (Fre.trans fr1 s1 frw))
  rw [List.append_assoc]
  refine nodup3 nd ndw fun x m m' => ?_
  obtain ⟨u, h1, _, _⟩ := t.own x m
  have h2 : x ∉ fp1 := fun z => (List.nodup_append.mp nd).2.2 x m x z rfl
  rcases List.mem_append.mp m' with m' | m'
  · rcases frw x m' with z | z
    · exact h2 z
    · exact (t.own x m).nf z
  · rcases fr2 x m' with z | z
    · exact h2 z
    · exact (t.own x m).nf z
theorem TrA.length {F H : Hp} : ∀ {v : List V} {o : List O} {fp : List Addr}, TrA K H F v o fp → v.length = o.length
  | _, _, _, .nil => rfl
  | _, _, _, .cons _ a => congrArg Nat.succ (TrA.length a)
theorem sim_lstW {t : TA} {m : MW} (ha : SimW ul K T E p t m) : SimE ul K T E p (tLst t) (mLstW m) := fun {F H σ ρ fp Q} S k => by
  refine ha S ?_
  have k1 := Out.bind (p := p) (q := true) (by rw [Bool.and_true]; exact k)
  refine k1.mono fun os ρ1 F1 H1 fp1 s1 S1 fr1 _ k2 vs fv tv nd frv => ?_
  by_cases hl : os.length ≤ 100000
  · rw [decide_eq_true hl] at k2
    refine ⟨by rw [tv.length]; exact line_of hl, fun a hn => ?_⟩
    have n := upd_newH (o := .lst vs) S1.sub hn
    refine (Out.new S1 n k2) _ (a :: fv) (.L upd_same (fnone S1.sub hn) (tv.mono n.le fun b m u h mu f => ⟨n.he b u h, f⟩)) ?_ fun b m => ?_
    · refine List.nodup_cons.mpr ⟨fun m => ?_, nd⟩
      rcases List.mem_append.mp m with m | m
      · obtain ⟨_, h1, _⟩ := tv.own a m
        rw [hn] at h1; cases h1
      · obtain ⟨_, h1, _⟩ := S1.sl.own a m
        rw [hn] at h1; cases h1
    · rcases List.mem_cons.mp m with rfl | m
      · exact .inr (s1.dom b (.of hn))
      · exact frv b m
  · rw [decide_eq_false hl] at k2; exact k2.elim
end
/-! ### statements -/
inductive RS where
  | nx (ρ : Env) | rt (o : O) (ρ : Env) | bk (ρ : Env) | ct (ρ : Env) | ex (x : Xc) (ρ : Env) | bad
abbrev MS := Env → RS
def OutS (ul : Bool) (K : PySem.W.Frag) (T : List (Addr × Str)) (E : XK) (kp : List Nat) (F H : Hp) (σ : L2.St) (fp : List Addr) (D : Ends) : RS → Prop
  | .nx ρ' => ∀ F' H' σ' fp', Stp false fp F H F' H' → SS ul K T F' H' σ' ρ' fp' → Fre H fp fp' → (∀ i ∈ kp, σ'[i]? = σ[i]?) → D.nx σ' H'
  | .bk ρ' => ∀ F' H' σ' fp', Stp false fp F H F' H' → SS ul K T F' H' σ' ρ' fp' → Fre H fp fp' → (∀ i ∈ kp, σ'[i]? = σ[i]?) → D.bk σ' H'
  | .ct ρ' => ∀ F' H' σ' fp', Stp false fp F H F' H' → SS ul K T F' H' σ' ρ' fp' → Fre H fp fp' → (∀ i ∈ kp, σ'[i]? = σ[i]?) → D.ct σ' H'
  | .rt o ρ' => ∀ F' H' σ' fp' v fv, Stp false fp F H F' H' → SS ul K T F' H' σ' ρ' fp' → Fre H fp fp' → (∀ i ∈ kp, σ'[i]? = σ[i]?) → Tr K H' F' v o fv → (fv ++ fp').Nodup → Fre H fp fv → D.rt v H'
  | .ex x ρ' => ∀ F' H' σ' fp' c d, Stp false fp F H F' H' → SS ul K T F' H' σ' ρ' fp' → Fre H fp fp' → (∀ i ∈ kp, σ'[i]? = σ[i]?) → XR K F' H' x c d → E c d H'
  | .bad => False
def SimS (ul : Bool) (K : PySem.W.Frag) (T : List (Addr × Str)) (E : XK) (kp : List Nat) (t : TS) (m : MS) : Prop :=
  ∀ {F H : Hp} {σ : L2.St} {ρ : Env} {fp : List Addr} {D : Ends}, SS ul K T F H σ ρ fp → OutS ul K T E kp F H σ fp D (m ρ) → t D σ H
@[reducible] def RE.to {α : Type} (m : RE α) (k : α → Env → RS) : RS := match m with
  | .ok a ρ => k a ρ
  | .ex x ρ => .ex x ρ
  | .bad => .bad
def mNext : MS := fun ρ => .nx ρ
def mBreak : MS := fun ρ => .bk ρ
def mCont : MS := fun ρ => .ct ρ
def mSeq (m n : MS) : MS := fun ρ => match m ρ with
  | .nx ρ1 => n ρ1
  | .rt o ρ1 => .rt o ρ1
  | .bk ρ1 => .bk ρ1
  | .ct ρ1 => .ct ρ1
  | .ex x ρ1 => .ex x ρ1
  | .bad => .bad
def mDrop (m : ME) : MS := fun ρ => (m ρ).to fun _ ρ1 => .nx ρ1
def mRet (m : ME) : MS := fun ρ => (m ρ).to fun o ρ1 => .rt o ρ1
def mRetN : MS := fun ρ => .rt (.f .non) ρ
def mIfS (t : MT) (m n : MS) : MS := fun ρ => (t ρ).to fun b ρ1 => bif b then m ρ1 else n ρ1
abbrev MG := O → Env → Option Env
abbrev MGs := List D → Env → Option Env
def gmName (i : Nat) : MG := fun o ρ => some (ρ.set i (some o))
def gmNil : MGs := fun ds ρ => match ds with
  | [] => some ρ
  | _ => none
def gmCons (g : MG) (r : MGs) : MGs := fun ds ρ => match ds with
  | d :: es => (g (.f d) ρ).bind fun ρ1 => r es ρ1
  | [] => none
def gmTup (n : Nat) (r : MGs) : MG := fun o ρ => match o with
  | .f (.tup ds) => bif decide (ds.length = n) then r ds ρ else none
  | _ => none
def mAsg (m : ME) (g : MG) : MS := fun ρ => (m ρ).to fun o ρ1 => match g o ρ1 with
  | some ρ2 => .nx ρ2
  | none => .bad
def mPar (i j : Nat) (m : MW) : MS := fun ρ => (m ρ).to fun os ρ1 => match os with
  | [o, u] => .nx ((ρ1.set i (some o)).set j (some u))
  | _ => .bad
/-- a target: gs its slots -/
def SimG (ul : Bool) (K : PySem.W.Frag) (T : List (Addr × Str)) (gs : List Nat) (g : TG) (mg : MG) : Prop :=
  ∀ {F H : Hp} {σ : L2.St} {ρ ρ' : Env} {fp fv : List Addr} {v : V} {o : O} {Q : L2.St → Hp → Prop}, SS ul K T F H σ ρ fp → Tr K H F v o fv → (fv ++ fp).Nodup → mg o ρ = some ρ' →
    (∀ σ' fp', SS ul K T F H σ' ρ' fp' → (∀ a ∈ fp', a ∈ fv ++ fp) → σ'.length = σ.length → (∀ i, i ∉ gs → σ'[i]? = σ[i]?) → Q σ' H) → g v σ H Q
def SimGs (ul : Bool) (K : PySem.W.Frag) (T : List (Addr × Str)) (gs : List Nat) (g : TGs) (mg : MGs) : Prop :=
  ∀ {F H : Hp} {σ : L2.St} {ρ ρ' : Env} {fp : List Addr} {vs : List V} {ds : List D} {Q : L2.St → Hp → Prop}, SS ul K T F H σ ρ fp → RpA K F vs ds → mg ds ρ = some ρ' →
    (∀ σ' fp', SS ul K T F H σ' ρ' fp' → (∀ a ∈ fp', a ∈ fp) → σ'.length = σ.length → (∀ i, i ∉ gs → σ'[i]? = σ[i]?) → Q σ' H) → g vs σ H Q
section
variable {K : PySem.W.Frag} {T : List (Addr × Str)} {E : XK} {kp : List Nat} {p q : Bool} {F H F1 H1 : Hp} {σ σ1 : L2.St} {ρ ρ1 : Env} {fp fp1 : List Addr}
theorem OutS.after {D : Ends} {m : RS} (s : Stp p fp F H F1 H1) (fr : Fre H fp fp1) (c : ∀ i ∈ kp, σ1[i]? = σ[i]?) (h : OutS ul K T E kp F H σ fp D m) : OutS ul K T E kp F1 H1 σ1 fp1 D m := by
  have tr : ∀ {F2 H2 : Hp}, Stp false fp1 F1 H1 F2 H2 → Stp false fp F H F2 H2 := fun s2 => (s.trans fr s2).imp (fun z => nomatch z)
  cases m with
  | nx ρ' => exact fun F' H' σ' fp' s2 S2 fr2 c2 => h F' H' σ' fp' (tr s2) S2 (fr.trans s fr2) fun i hi => (c2 i hi).trans (c i hi)
  | bk ρ' => exact fun F' H' σ' fp' s2 S2 fr2 c2 => h F' H' σ' fp' (tr s2) S2 (fr.trans s fr2) fun i hi => (c2 i hi).trans (c i hi)
  | ct ρ' => exact fun F' H' σ' fp' s2 S2 fr2 c2 => h F' H' σ' fp' (tr s2) S2 (fr.trans s fr2) fun i hi => (c2 i hi).trans (c i hi)
  | rt o ρ' => exact fun F' H' σ' fp' v fv s2 S2 fr2 c2 t nd frv => h F' H' σ' fp' v fv (tr s2) S2 (fr.trans s fr2) (fun i hi => (c2 i hi).trans (c i hi)) t nd (fr.trans s frv)
  | ex x ρ' => exact fun F' H' σ' fp' cc d s2 S2 fr2 c2 xr => h F' H' σ' fp' cc d (tr s2) S2 (fr.trans s fr2) (fun i hi => (c2 i hi).trans (c i hi)) xr
  | bad => exact h
/-- from an expression to what follows -/
theorem Out.to {α : Type} {D : Ends} {m : RE α} {k : α → Env → RS} (h : OutS ul K T E kp F H σ fp D (m.to k)) : Out ul K T E p F H σ ρ fp (fun a ρ1 F1 H1 fp1 => OutS ul K T E kp F1 H1 σ fp1 D (k a ρ1)) m := by
  cases m with
  | ok a ρ' => exact fun F' H' fp' s S fr c => OutS.after s fr (fun _ _ => rfl) h
  | ex x ρ' => exact fun F' H' fp' c d s S fr xr => h F' H' σ fp' c d (s.imp fun z => nomatch z) S fr (fun _ _ => rfl) xr
  | bad => exact h
theorem OutS.now {D : Ends} (S : SS ul K T F H σ ρ fp) (h : OutS ul K T E kp F H σ fp D (.nx ρ)) : D.nx σ H := h F H σ fp .refl S .refl fun _ _ => rfl
end
section
variable {K : PySem.W.Frag} {T : List (Addr × Str)} {E : XK} {kp : List Nat} {p q : Bool} {te : TE} {me : ME} {t u : TS} {m n : MS}
theorem sim_next : SimS ul K T E kp tNext mNext := fun S k => OutS.now S k
theorem sim_break : SimS ul K T E kp tBreak mBreak := fun {F H σ ρ fp D} S k => k F H σ fp .refl S .refl fun _ _ => rfl
theorem sim_cont : SimS ul K T E kp tCont mCont := fun {F H σ ρ fp D} S k => k F H σ fp .refl S .refl fun _ _ => rfl
theorem sim_seq (ht : SimS ul K T E kp t m) (hu : SimS ul K T E kp u n) : SimS ul K T E kp (tSeq t u) (mSeq m n) := fun {F H σ ρ fp D} S k => by
  refine ht S ?_
  unfold mSeq at k
  cases e : m ρ with
  | nx ρ1 => rw [e] at k; exact fun F' H' σ' fp' s S' fr c => hu S' (OutS.after s fr c k)
  | bk ρ1 => rw [e] at k; exact k
  | ct ρ1 => rw [e] at k; exact k
  | rt o ρ1 => rw [e] at k; exact k
  | ex x ρ1 => rw [e] at k; exact k
  | bad => rw [e] at k; exact k
theorem sim_drop (he : SimR ul K T E p te me) : SimS ul K T E kp (tDrop te) (mDrop me) := fun {F H σ ρ fp D} S k => he S ((Out.to k).mono fun a ρ1 F1 H1 fp1 s1 S1 fr1 _ k1 v fv tv => OutS.now S1 k1)
theorem sim_ret (he : SimE ul K T E p te me) : SimS ul K T E kp (tRet te) (mRet me) := fun {F H σ ρ fp D} S k => by
  refine he S ?_
  unfold mRet at k
  cases e : me ρ with
  | ok a ρ1 =>
    rw [e] at k
    exact fun F' H' fp' s S' fr c v fv tv nd frv => k F' H' σ fp' v fv (s.imp fun z => nomatch z) S' fr (fun _ _ => rfl) tv nd frv
  | ex x ρ1 => rw [e] at k; exact fun F' H' fp' c d s S' fr xr => k F' H' σ fp' c d (s.imp fun z => nomatch z) S' fr (fun _ _ => rfl) xr
  | bad => rw [e] at k; exact k
theorem sim_retN : SimS ul K T E kp tRetN mRetN := fun {F H σ ρ fp D} S k => k F H σ fp .non [] .refl S .refl (fun _ _ => rfl) (.f .non) (by rw [List.nil_append]; exact S.nd) fun a m => nomatch m
theorem sim_ifS {tt : TT} {mt : MT} (hc : SimT ul K T E p tt mt) (ht : SimS ul K T E kp t m) (hu : SimS ul K T E kp u n) : SimS ul K T E kp (tIfS tt t u) (mIfS mt m n) := fun {F H σ ρ fp D} S k => by
  refine hc S ((Out.to k).mono fun b ρ1 F1 H1 fp1 s1 S1 fr1 _ k1 => ?_)
  cases b with
  | true => show (if true = true then t D σ H1 else u D σ H1); rw [if_pos rfl]; exact ht S1 k1
  | false => show (if false = true then t D σ H1 else u D σ H1); rw [if_neg (by decide)]; exact hu S1 k1
/-! targets -/
theorem TrS.setS {F H : Hp} {σ : L2.St} {ρ : Env} {fp fv : List Addr} {v : V} {o : O} (i : Nat) (t : TrS K H F σ ρ fp) (tv : Tr K H F v o fv) (nd : (fv ++ fp).Nodup) :
    ∃ fq, TrS K H F (σ.set i (some v)) (ρ.set i (some o)) fq ∧ fq.Nodup ∧ ∀ a ∈ fq, a ∈ fv ++ fp := by
  by_cases hi : i < σ.length
  · obtain ⟨f1, h1, h2⟩ := t.drop i (some v)
    have hl := t.length
    obtain ⟨f2, h3, h4⟩ := h1.put (i := i) (v := v) (o := o) (fi := fv) (by simp [← hl, hi]) (by simp [hi]) tv
    rw [set_self] at h3
    refine ⟨f2, h3, h4.nodup_iff.mpr (List.Nodup.sublist (h2.append_left fv) nd), fun a m => ?_⟩
    rcases List.mem_append.mp (h4.mem_iff.mp m) with m | m
    · exact List.mem_append_left _ m
    · exact List.mem_append_right _ (h2.subset m)
  · have hl := t.length
    rw [List.set_eq_of_length_le (by omega), List.set_eq_of_length_le (by omega)]
    exact ⟨fp, t, (List.nodup_append.mp nd).2.1, fun a m => List.mem_append_right _ m⟩
theorem sim_gname {i : Nat} : SimG ul K T [i] (gName i) (gmName i) := fun {F H σ ρ ρ' fp fv v o Q} S tv nd e k => by
  cases e
  obtain ⟨fq, h1, h2, h3⟩ := S.sl.setS i tv nd
  exact k _ fq ⟨S.sub, S.tabs, h1, h2⟩ h3 (by simp) fun j hj => by
    rw [List.mem_singleton] at hj
    rw [List.getElem?_set_ne (fun z => hj z.symm)]
theorem sim_gnil : SimGs ul K T [] gNil gmNil := fun {F H σ ρ ρ' fp vs ds Q} S rp e k => by
  cases rp with
  | nil => cases e; exact ⟨rfl, k σ fp S (fun a m => m) rfl fun _ _ => rfl⟩
  | cons _ _ => cases e
theorem sim_gcons {gs gr : List Nat} {g : TG} {mg : MG} {r : TGs} {mr : MGs} (hg : SimG ul K T gs g mg) (hr : SimGs ul K T gr r mr) : SimGs ul K T (gs ++ gr) (gCons g r) (gmCons mg mr) := fun {F H σ ρ ρ' fp vs ds Q} S rp e k => by
  cases rp with
  | nil => cases e
  | cons h t =>
    rename_i v vs d ds
    obtain ⟨ρ1, e1, e2⟩ := Option.bind_eq_some_iff.mp (show ((mg (.f d) ρ).bind fun ρ1 => mr ds ρ1) = some ρ' from e)
    refine ⟨v, vs, rfl, hg S (.f h) (by rw [List.nil_append]; exact S.nd) e1 fun σ' fp' S' hs hl hi => ?_⟩
    refine hr S' t e2 fun σ2 fp2 S2 hs2 hl2 hi2 => ?_
    refine k σ2 fp2 S2 (fun a m => ?_) (hl2.trans hl) fun j hj => ?_
    · have := hs a (hs2 a m)
      rwa [List.nil_append] at this
    · rw [hi2 j (fun z => hj (List.mem_append_right _ z)), hi j (fun z => hj (List.mem_append_left _ z))]
theorem Sub.tup {F H : Hp} {a : Addr} {xs : List V} (s : Sub ul F H) (h : F a = some (.tup xs)) : H a = some (.tup xs) := by
  obtain ⟨_, h | ⟨z, _⟩⟩ := s a _ h
  · exact h
  · exact z.elim
theorem sim_gtup {gs : List Nat} {n : Nat} {r : TGs} {mr : MGs} (hr : SimGs ul K T gs r mr) : SimG ul K T gs (gTup K n r) (gmTup n mr) := fun {F H σ ρ ρ' fp fv v o Q} S tv nd e k => by
  cases tv with
  | f rp =>
    cases rp with
    | tup h ra =>
      rename_i a xs ds
      rw [show gmTup n mr (.f (.tup ds)) ρ = bif decide (ds.length = n) then mr ds ρ else none from rfl] at e
      by_cases hn : ds.length = n
      · rw [decide_eq_true hn] at e
        refine ⟨a, xs, rfl, .inl (.inl (S.sub.tup h)), by rw [ra.length]; exact hn, hr S ra e ?_⟩
        exact fun σ' fp' S' hs hl hi => k σ' fp' S' (fun a m => by rw [List.nil_append]; exact hs a m) hl hi
      · rw [decide_eq_false hn] at e; cases e
    | _ => cases e
  | _ => cases e
theorem kp_of {gs kp : List Nat} {σ σ' : L2.St} (hd : ∀ i ∈ kp, i ∉ gs) (h : ∀ i, i ∉ gs → σ'[i]? = σ[i]?) : ∀ i ∈ kp, σ'[i]? = σ[i]? := fun i hi => h i (hd i hi)
theorem Out.to' {α : Type} {F H : Hp} {σ : L2.St} {ρ : Env} {fp : List Addr} {D : Ends} {Q : α → Env → Hp → Hp → List Addr → Prop} {m : RE α} {k : α → Env → RS} (h : OutS ul K T E kp F H σ fp D (m.to k))
    (f : ∀ a ρ1 F1 H1 fp1, OutS ul K T E kp F H σ fp D (k a ρ1) → Stp p fp F H F1 H1 → SS ul K T F1 H1 σ ρ1 fp1 → Fre H fp fp1 → Q a ρ1 F1 H1 fp1) : Out ul K T E p F H σ ρ fp Q m := by
  cases m with
  | ok a ρ' => exact fun F' H' fp' s S fr c => f a ρ' F' H' fp' h s S fr
  | ex x ρ' => exact fun F' H' fp' c d s S fr xr => h F' H' σ fp' c d (s.imp fun z => nomatch z) S fr (fun _ _ => rfl) xr
  | bad => exact h
theorem sim_asg {gs : List Nat} {g : TG} {mg : MG} (he : SimE ul K T E p te me) (hg : SimG ul K T gs g mg) (hd : ∀ i ∈ kp, i ∉ gs) : SimS ul K T E kp (tAsg te g) (mAsg me mg) := fun {F H σ ρ fp D} S k => by
  refine he S (Out.to' k fun a ρ1 F1 H1 fp1 k1 s1 S1 fr1 v fv tv nd frv => ?_)
  cases e : mg a ρ1 with
  | none => rw [e] at k1; exact k1.elim
  | some ρ2 =>
    rw [e] at k1
    refine hg S1 tv nd e fun σ' fp' S' hs hl hi => k1 F1 H1 σ' fp' (s1.imp fun z => nomatch z) S' (fun a m => ?_) (kp_of hd hi)
    exact Fre.app frv fr1 a (hs a m)
theorem sim_par {i j : Nat} {ta : TA} {mw : MW} (he : SimW ul K T E p ta mw) (hd : ∀ l ∈ kp, l ∉ [i, j]) : SimS ul K T E kp (tPar i j ta) (mPar i j mw) := fun {F H σ ρ fp D} S k => by
  refine he S (Out.to' k fun a ρ1 F1 H1 fp1 k1 s1 S1 fr1 vs fv tv nd frv => ?_)
  match a, tv, k1 with
  | [o, u], .cons (fp := f1) t1 (.cons (fp := f2) t2 .nil), k1 =>
    refine ⟨_, _, rfl, ?_⟩
    simp only [List.append_nil, List.append_assoc] at nd frv
    obtain ⟨fq, h1, h2, h3⟩ := S1.sl.setS i t1 (by
      refine List.nodup_append.mpr ⟨(List.nodup_append.mp nd).1, S1.nd, fun x m y m' z => ?_⟩
      exact (List.nodup_append.mp nd).2.2 x m y (List.mem_append_right _ m') z)
    obtain ⟨fr, h4, h5, h6⟩ := h1.setS j t2 (by
      refine List.nodup_append.mpr ⟨(List.nodup_append.mp (List.nodup_append.mp nd).2.1).1, h2, fun x m y m' z => ?_⟩
      subst z
      rcases List.mem_append.mp (h3 x m') with q | q
      · exact (List.nodup_append.mp nd).2.2 x q x (List.mem_append_left _ m) rfl
      · exact (List.nodup_append.mp (List.nodup_append.mp nd).2.1).2.2 x m x q rfl)
    refine k1 F1 H1 _ fr (s1.imp fun z => nomatch z) ⟨S1.sub, S1.tabs, h4, h5⟩ (fun x m => ?_) fun l hl => ?_
    · rcases List.mem_append.mp (h6 x m) with q | q
      · exact frv x (List.mem_append_right _ q)
      · rcases List.mem_append.mp (h3 x q) with q | q
        · exact frv x (List.mem_append_left _ q)
        · exact fr1 x q
    · have := hd l hl
      simp only [List.mem_cons, List.not_mem_nil, or_false, not_or] at this
      rw [List.getElem?_set_ne (fun z => this.2 z.symm), List.getElem?_set_ne (fun z => this.1 z.symm)]
end
end MR

namespace MR
open PySem PySem.Spec PyProof.Rows L2 SW LamX
/-! ### what is walked -/
/-- J gives the data ds, from any later heap -/
structure Drv (ul : Bool) (K : PySem.W.Frag) (F : Hp) (J : It) (ds : List D) : Prop where
  go : ∀ F' H' i, Same F F' → Sub ul F' H' → i < ds.length → J.go i H'
  yld : ∀ F' H' i x H2, Same F F' → Sub ul F' H' → J.yld i H' x H2 → i < ds.length → ∃ F2 d, ds[i]? = some d ∧ New ul F' H' F2 H2 ∧ Rp K F2 x d
  stop : ∀ F' H', Same F F' → Sub ul F' H' → J.stop ds.length H'
abbrev MI := Env → RE (List D)
def QI (ul : Bool) (K : PySem.W.Frag) (R : It → Hp → Prop) : List D → Env → Hp → Hp → List Addr → Prop := fun ds _ F' H' _ => ∀ J, Drv ul K F' J ds → R J H'
def SimI (ul : Bool) (K : PySem.W.Frag) (T : List (Addr × Str)) (E : XK) (p : Bool) (wi : TI) (mi : MI) : Prop :=
  ∀ {F H : Hp} {σ : L2.St} {ρ : Env} {fp : List Addr} {R : It → Hp → Prop}, SS ul K T F H σ ρ fp → Out ul K T E p F H σ ρ fp (QI ul K R) (mi ρ) → wi σ H R
def chD (c : Nat) : D := .str ⟨#[c]⟩
/-- the items of a list, a tuple, a text -/
def itemsD : D → Option (List D)
  | .lst ds => some ds
  | .tup ds => some ds
  | .kt ds => some ds
  | .kl ds => some ds
  | .str x => some (x.cps.toList.map chD)
  | _ => none
def mIter (m : ME) : MI := fun ρ => (m ρ).bind fun o ρ1 => match itemsD o.fz with
  | some ds => .ok ds ρ1
  | none => .bad
def rngD (lo : Int) (n : Nat) : List D := (List.range n).map fun (k : Nat) => D.int (lo + (k : Int))
def mRng1 (m : MA) : MI := fun ρ => (m ρ).bind fun as ρ1 => match as with
  | [.v (.int j)] => bif decide (j < 2 ^ 40 ∧ -(2 ^ 40) ≤ j) then .ok (rngD 0 j.toNat) ρ1 else .bad
  | _ => .bad
def mRng2 (m : MA) : MI := fun ρ => (m ρ).bind fun as ρ1 => match as with
  | [.v (.int i), .v (.int j)] => bif decide (i < 2 ^ 40 ∧ -(2 ^ 40) ≤ i ∧ j < 2 ^ 40 ∧ -(2 ^ 40) ≤ j) then .ok (rngD i (j - i).toNat) ρ1 else .bad
  | _ => .bad
section
variable {K : PySem.W.Frag} {T : List (Addr × Str)} {E : XK} {kp : List Nat} {p q r : Bool} {te : TE} {me : ME}
theorem RpA.at_ {F : Hp} : ∀ {vs : List V} {ds : List D} {i : Nat} {d : D}, RpA K F vs ds → ds[i]? = some d → ∃ v, vs[i]? = some v ∧ Rp K F v d
  | _, _, _, _, .nil, e => by simp at e
  | _, _, 0, _, .cons h _, e => by
    have e' := Option.some.inj (show some _ = some _ from e)
    subst e'
    exact ⟨_, rfl, h⟩
  | _, _, i + 1, _, .cons _ a, e => RpA.at_ (i := i) a (by simpa using e)
theorem Sub.lst {F H : Hp} {a : Addr} {xs : List V} (s : Sub ul F H) (h : Rd F a (.lst xs)) : SqL K H a xs := by
  rcases h with h | ⟨o, h⟩
  · obtain ⟨_, h | ⟨z, _⟩⟩ := s a _ h
    · exact .inl (.inl h)
    · exact z.elim
  · obtain ⟨_, h | ⟨z, _⟩⟩ := s a _ h
    · exact .inl (.inr ⟨o, h⟩)
    · exact z.elim
theorem Sub.sql {F H : Hp} {a : Addr} {xs : List V} (s : Sub ul F H) (h : SqL K F a xs) : SqL K H a xs := by
  rcases h with h | h
  · exact s.lst h
  · exact .inr h
theorem SqT.k {H : Hp} {a : Addr} {xs : List V} (h : SqT K (fun _ => none) a xs) : SqT K H a xs := by
  rcases h with (h | ⟨o, h⟩) | h
  · cases h
  · cases h
  · exact .inr h
theorem drv_list {F : Hp} {a : Addr} {xs : List V} {ds : List D} (h : SqL K F a xs) (ra : RpA K F xs ds) : Drv ul K F (Itl K a) ds where
  go := fun F' H' i e s hi => by
    obtain ⟨x, h1, h2⟩ := ra.at_ (List.getElem?_eq_getElem hi)
    exact ⟨xs, x, s.sql (e.seq h), h1⟩
  yld := fun F' H' i x H2 e s hy hi => by
    obtain ⟨rfl, hy⟩ := hy
    obtain ⟨y, h1, h2⟩ := ra.at_ (List.getElem?_eq_getElem hi)
    have := hy xs (s.sql (e.seq h))
    rw [h1] at this; cases this
    exact ⟨F', _, List.getElem?_eq_getElem hi, New.refl s, h2.mono e⟩
  stop := fun F' H' e s => ⟨xs, s.sql (e.seq h), by rw [ra.length]; exact Nat.le_refl _⟩
theorem drv_tup {F : Hp} {a : Addr} {xs : List V} {ds : List D} (h : ∀ F' H', Same F F' → Sub ul F' H' → SqT K H' a xs) (ra : RpA K F xs ds) : Drv ul K F (Itt K a) ds where
  go := fun F' H' i e s hi => by
    obtain ⟨x, h1, h2⟩ := ra.at_ (List.getElem?_eq_getElem hi)
    exact ⟨xs, x, h F' H' e s, h1⟩
  yld := fun F' H' i x H2 e s hy hi => by
    obtain ⟨rfl, hy⟩ := hy
    obtain ⟨y, h1, h2⟩ := ra.at_ (List.getElem?_eq_getElem hi)
    have := hy xs (h F' H2 e s)
    rw [h1] at this; cases this
    exact ⟨F', _, List.getElem?_eq_getElem hi, New.refl s, h2.mono e⟩
  stop := fun F' H' e s => ⟨xs, h F' H' e s, by rw [ra.length]; exact Nat.le_refl _⟩
theorem sok_ch {x : Str} {c : Nat} (h : Sok x) (m : c ∈ x.cps.toList) : Sok ⟨#[c]⟩ := ⟨by show 1 ≤ 100000; decide, fun e he => by
  have : e = c := by simpa using he
  subst this; exact h.ok _ m⟩
theorem drv_str {F : Hp} {x : Str} (h : Sok x) : Drv ul K F (Its x) (x.cps.toList.map chD) where
  go := fun F' H' i e s hi => by
    show i < x.cps.size
    simpa using hi
  yld := fun F' H' i v H2 e s hy hi => by
    obtain ⟨rfl, c, h1, rfl⟩ := hy
    refine ⟨F', chD c, ?_, New.refl s, .str _ (sok_ch h ?_)⟩
    · rw [List.getElem?_map, Array.getElem?_toList, h1]; rfl
    · exact Array.mem_toList_iff.mpr (Array.mem_of_getElem? h1)
  stop := fun F' H' e s => by show x.cps.size ≤ _; simp
theorem drv_rng {F : Hp} (lo : Int) (n : Nat) : Drv ul K F (Itr lo n) (rngD lo n) where
  go := fun F' H' i e s hi => by
    show i < n
    simpa [rngD] using hi
  yld := fun F' H' i v H2 e s hy hi => by
    obtain ⟨rfl, rfl⟩ := hy
    have hn : i < n := by simpa [rngD] using hi
    exact ⟨F', .int (lo + i), by simp [rngD, hn], New.refl s, .int _⟩
  stop := fun F' H' e s => by show n ≤ _; simp [rngD]
theorem sim_any (h : SimF ul K T E p te me) : SimI ul K T E p (iAny K te) (mIter me) := fun {F H σ ρ fp R} S k => by
  have k1 := Out.bind (p := p) (q := true) (by rw [Bool.and_true]; exact k)
  -- which kind it is, is known from the outcome
  have fin : ∀ (o : O) (ρ1 : Env) (F1 H1 : Hp) (fp1 : List Addr) (ds : List D) (J : It), SS ul K T F1 H1 σ ρ1 fp1 → Out ul K T E true F1 H1 σ ρ1 fp1 (QI ul K R) (match itemsD o.fz with | some ds => RE.ok ds ρ1 | none => RE.bad) → itemsD o.fz = some ds → Drv ul K F1 J ds → R J H1 := fun o ρ1 F1 H1 fp1 ds J S1 k2 e d => by
    rw [e] at k2
    exact (Out.now S1 k2) J d
  have dead : ∀ (o : O) (ρ1 : Env) (F1 H1 : Hp) (fp1 : List Addr), Out ul K T E true F1 H1 σ ρ1 fp1 (QI ul K R) (match itemsD o.fz with | some ds => RE.ok ds ρ1 | none => RE.bad) → itemsD o.fz = none → False := fun o ρ1 F1 H1 fp1 k2 e => by
    rw [e] at k2
    exact k2
  cases e : me ρ with
  | bad => rw [e] at k1; exact k1.elim
  | ex x ρ1 =>
    refine .inl (h S ?_)
    rw [e] at k1 ⊢
    exact k1
  | ok o ρ1 =>
    rw [e] at k1
    have nope : itemsD o.fz = none → iAny K te σ H R := fun z => .inl (h S (by
      rw [e]
      exact fun F1 H1 fp1 s1 S1 fr1 c v rp => (dead o ρ1 F1 H1 fp1 (k1 F1 H1 fp1 s1 S1 fr1 c) z).elim))
    cases eo : o.fz with
    | lst ds =>
      refine .inl (h S ?_)
      rw [e]
      intro F1 H1 fp1 s1 S1 fr1 c v rp
      have k2 := k1 F1 H1 fp1 s1 S1 fr1 c
      rw [eo] at rp
      cases rp with
      | lst hr ra => exact ⟨_, rfl, ⟨_, S1.sub.lst (.inl hr)⟩, fin o ρ1 F1 H1 fp1 ds _ S1 k2 (by rw [eo]; rfl) (drv_list (.inl (.inl hr)) ra)⟩
    | kl ds =>
      refine .inl (h S ?_)
      rw [e]
      intro F1 H1 fp1 s1 S1 fr1 c v rp
      have k2 := k1 F1 H1 fp1 s1 S1 fr1 c
      rw [eo] at rp
      cases rp with
      | kl hr ra => exact ⟨_, rfl, ⟨_, S1.sub.sql hr⟩, fin o ρ1 F1 H1 fp1 ds _ S1 k2 (by rw [eo]; rfl) (drv_list hr ra)⟩
    | tup ds =>
      refine .inr (.inl (h S ?_))
      rw [e]
      intro F1 H1 fp1 s1 S1 fr1 c v rp
      have k2 := k1 F1 H1 fp1 s1 S1 fr1 c
      rw [eo] at rp
      cases rp with
      | tup hr ra => exact ⟨_, rfl, ⟨_, .inl (.inl (S1.sub.tup hr))⟩, fin o ρ1 F1 H1 fp1 ds _ S1 k2 (by rw [eo]; rfl) (drv_tup (fun F' H' e s => .inl (.inl (s.tup (e _ _ hr)))) ra)⟩
    | kt ds =>
      refine .inr (.inl (h S ?_))
      rw [e]
      intro F1 H1 fp1 s1 S1 fr1 c v rp
      have k2 := k1 F1 H1 fp1 s1 S1 fr1 c
      rw [eo] at rp
      cases rp with
      | kt hr ra => exact ⟨_, rfl, ⟨_, SqT.k hr⟩, fin o ρ1 F1 H1 fp1 ds _ S1 k2 (by rw [eo]; rfl) (drv_tup (fun F' H' e s => SqT.k hr) ra)⟩
    | str x =>
      refine .inr (.inr (h S ?_))
      rw [e]
      intro F1 H1 fp1 s1 S1 fr1 c v rp
      have k2 := k1 F1 H1 fp1 s1 S1 fr1 c
      rw [eo] at rp
      cases rp with
      | str x hx => exact ⟨_, rfl, fin o ρ1 F1 H1 fp1 _ _ S1 k2 (by rw [eo]; rfl) (drv_str hx)⟩
    | non => exact nope (by rw [eo]; rfl)
    | bl b => exact nope (by rw [eo]; rfl)
    | int b => exact nope (by rw [eo]; rfl)
    | dct t b => exact nope (by rw [eo]; rfl)
    | ins t b => exact nope (by rw [eo]; rfl)
theorem sim_rng1 {ta : TA} {ma : MA} (h : SimA ul K T E p ta ma) : SimI ul K T E p (iRng1 ta) (mRng1 ma) := fun {F H σ ρ fp R} S k => by
  have k1 := Out.bind (p := p) (q := true) (by rw [Bool.and_true]; exact k)
  refine h S (k1.mono fun as ρ1 F1 H1 fp1 s1 S1 fr1 _ k2 vs av => ?_)
  match as, av, k2 with
  | [.v (.int j)], .v (.int _) .nil, k2 =>
    by_cases c : j < 2 ^ 40 ∧ -(2 ^ 40) ≤ j
    · simp only [decide_eq_true c, cond_true] at k2
      exact ⟨j, rfl, by omega, by omega, (Out.now S1 k2) _ (drv_rng 0 _)⟩
    · simp only [decide_eq_false c, cond_false] at k2
      exact k2.elim
theorem sim_rng2 {ta : TA} {ma : MA} (h : SimA ul K T E p ta ma) : SimI ul K T E p (iRng2 ta) (mRng2 ma) := fun {F H σ ρ fp R} S k => by
  have k1 := Out.bind (p := p) (q := true) (by rw [Bool.and_true]; exact k)
  refine h S (k1.mono fun as ρ1 F1 H1 fp1 s1 S1 fr1 _ k2 vs av => ?_)
  match as, av, k2 with
  | [.v (.int i), .v (.int j)], .v (.int _) (.v (.int _) .nil), k2 =>
    by_cases c : i < 2 ^ 40 ∧ -(2 ^ 40) ≤ i ∧ j < 2 ^ 40 ∧ -(2 ^ 40) ≤ j
    · simp only [decide_eq_true c, cond_true] at k2
      exact ⟨i, j, rfl, ⟨by omega, by omega, by omega, by omega⟩, (Out.now S1 k2) _ (drv_rng i _)⟩
    · simp only [decide_eq_false c, cond_false] at k2
      exact k2.elim
end
/-! ### for -/
def loopF (mg : MG) (mb : MS) : List D → Env → RS
  | [], ρ => .nx ρ
  | d :: ds, ρ => match mg (.f d) ρ with
    | none => .bad
    | some ρ1 => match mb ρ1 with
      | .nx ρ2 => loopF mg mb ds ρ2
      | .ct ρ2 => loopF mg mb ds ρ2
      | .bk ρ2 => .nx ρ2
      | .rt o ρ2 => .rt o ρ2
      | .ex x ρ2 => .ex x ρ2
      | .bad => .bad
def mFor (mi : MI) (mg : MG) (mb : MS) : MS := fun ρ => (mi ρ).to fun ds ρ1 => loopF mg mb ds ρ1
section
variable {K : PySem.W.Frag} {T : List (Addr × Str)} {E : XK} {kp : List Nat} {p q r : Bool} {te : TE} {me : ME}
theorem drop_cons' {α : Type} {l : List α} {i : Nat} {d : α} (h : l[i]? = some d) : l.drop i = d :: l.drop (i + 1) := by
  obtain ⟨hi, rfl⟩ := List.getElem?_eq_some_iff.mp h
  exact (List.drop_eq_getElem_cons hi)
theorem sim_for {wi : TI} {mi : MI} {g : TG} {mg : MG} {gs : List Nat} {tb : TS} {mb : MS} (hi : SimI ul K T E p wi mi) (hg : SimG ul K T gs g mg) (hb : SimS ul K T E kp tb mb) (hd : ∀ i ∈ kp, i ∉ gs) : SimS ul K T E kp (tFor wi g tb) (mFor mi mg mb) := fun {F H σ ρ fp D} S k => by
  refine hi S (Out.to' k fun ds ρ1 F1 H1 fp1 k1 s1 S1 fr1 J dr => ?_)
  refine ⟨fun i m σ' H' => m = ds.length - i ∧ i ≤ ds.length ∧ ∃ F' ρ' fp', Stp false fp F H F' H' ∧ SS ul K T F' H' σ' ρ' fp' ∧ Fre H fp fp' ∧ (∀ j ∈ kp, σ'[j]? = σ[j]?) ∧ Same F1 F' ∧ OutS ul K T E kp F H σ fp D (loopF mg mb (ds.drop i) ρ'),
    ⟨_, rfl, Nat.zero_le _, F1, ρ1, fp1, s1.imp (fun z => nomatch z), S1, fr1, fun _ _ => rfl, Same.refl _, k1⟩, ?_⟩
  rintro i m σ' H' ⟨rfl, hle, F', ρ', fp', s', S', fr', kk, sm, k2⟩
  by_cases he : i = ds.length
  · subst he
    rw [List.drop_length] at k2
    exact .inl ⟨dr.stop F' H' sm S'.sub, k2 F' H' σ' fp' s' S' fr' kk⟩
  have hlt : i < ds.length := by omega
  refine .inr ⟨dr.go F' H' i sm S'.sub hlt, fun σ2 H2 => ∃ m', m' < ds.length - i ∧ (m' = ds.length - (i + 1) ∧ i + 1 ≤ ds.length ∧ ∃ F' ρ' fp', Stp false fp F H F' H2 ∧ SS ul K T F' H2 σ2 ρ' fp' ∧ Fre H fp fp' ∧ (∀ j ∈ kp, σ2[j]? = σ[j]?) ∧ Same F1 F' ∧ OutS ul K T E kp F H σ fp D (loopF mg mb (ds.drop (i + 1)) ρ')), fun σ2 H2 h => h, fun x H2 hy => ?_⟩
  obtain ⟨F2, d, hd1, nw, rp⟩ := dr.yld F' H' i x H2 sm S'.sub hy hlt
  rw [drop_cons' hd1] at k2
  have S2 := nw.ss S'
  cases e1 : mg (.f d) ρ' with
  | none => simp only [loopF, e1] at k2; exact k2.elim
  | some ρ2 =>
    simp only [loopF, e1] at k2
    refine hg S2 (.f rp) (by rw [List.nil_append]; exact S2.nd) e1 fun σ2 fp2 S3 hs hl hj => hb S3 ?_
    have st2 : Stp false fp F H F2 H2 := (s'.trans fr' (nw.stp (p := false))).imp (fun z => nomatch z)
    have fr2 : Fre H fp fp2 := fun a m => fr' a (by have := hs a m; rwa [List.nil_append] at this)
    have kk2 : ∀ j ∈ kp, σ2[j]? = σ[j]? := fun j hjk => (hj j (hd j hjk)).trans (kk j hjk)
    cases e2 : mb ρ2 with
    | nx ρ3 =>
      simp only [e2] at k2
      intro F3 H3 σ3 fp3 s3 S4 fr3 c3
      exact ⟨_, by omega, rfl, by omega, F3, ρ3, fp3, (st2.trans fr2 s3).imp (fun z => nomatch z), S4, fr2.trans st2 fr3, fun j hjk => (c3 j hjk).trans (kk2 j hjk), sm.trans (nw.le.trans s3.le), k2⟩
    | ct ρ3 =>
      simp only [e2] at k2
      intro F3 H3 σ3 fp3 s3 S4 fr3 c3
      exact ⟨_, by omega, rfl, by omega, F3, ρ3, fp3, (st2.trans fr2 s3).imp (fun z => nomatch z), S4, fr2.trans st2 fr3, fun j hjk => (c3 j hjk).trans (kk2 j hjk), sm.trans (nw.le.trans s3.le), k2⟩
    | bk ρ3 =>
      simp only [e2] at k2
      exact fun F3 H3 σ3 fp3 s3 S4 fr3 c3 => k2 F3 H3 σ3 fp3 ((st2.trans fr2 s3).imp (fun z => nomatch z)) S4 (fr2.trans st2 fr3) fun j hjk => (c3 j hjk).trans (kk2 j hjk)
    | rt o ρ3 =>
      simp only [e2] at k2
      exact fun F3 H3 σ3 fp3 v fv s3 S4 fr3 c3 tv nd frv => k2 F3 H3 σ3 fp3 v fv ((st2.trans fr2 s3).imp (fun z => nomatch z)) S4 (fr2.trans st2 fr3) (fun j hjk => (c3 j hjk).trans (kk2 j hjk)) tv nd (fr2.trans st2 frv)
    | ex x ρ3 =>
      simp only [e2] at k2
      exact fun F3 H3 σ3 fp3 c d s3 S4 fr3 c3 xr => k2 F3 H3 σ3 fp3 c d ((st2.trans fr2 s3).imp (fun z => nomatch z)) S4 (fr2.trans st2 fr3) (fun j hjk => (c3 j hjk).trans (kk2 j hjk)) xr
    | bad => simp only [e2] at k2; exact k2
end
/-! ### while -/
def loopW (mt : MT) (mb : MS) : Nat → Env → RS
  | 0, _ => .bad
  | n + 1, ρ => (mt ρ).to fun b ρ1 => bif b then (match mb ρ1 with
      | .nx ρ2 => loopW mt mb n ρ2
      | .ct ρ2 => loopW mt mb n ρ2
      | .bk ρ2 => .nx ρ2
      | .rt o ρ2 => .rt o ρ2
      | .ex x ρ2 => .ex x ρ2
      | .bad => .bad) else .nx ρ1
def mWhile (n : Nat) (mt : MT) (mb : MS) : MS := fun ρ => loopW mt mb n ρ
section
variable {K : PySem.W.Frag} {T : List (Addr × Str)} {E : XK} {kp : List Nat} {p q r : Bool} {te : TE} {me : ME}
theorem sim_while {n : Nat} {tt : TT} {mt : MT} {tb : TS} {mb : MS} (ht : SimT ul K T E p tt mt) (hb : SimS ul K T E kp tb mb) : SimS ul K T E kp (tWhile tt tb) (mWhile n mt mb) := fun {F H σ ρ fp D} S k => by
  refine ⟨fun m σ' H' => ∃ F' ρ' fp', SS ul K T F' H' σ' ρ' fp' ∧ OutS ul K T E kp F' H' σ' fp' D (loopW mt mb m ρ'), ⟨n, F, ρ, fp, S, k⟩, ?_⟩
  rintro m σ' H' ⟨F', ρ', fp', S', k2⟩
  cases m with
  | zero => exact k2.elim
  | succ m =>
    refine ht S' ((Out.to k2).mono fun b ρ1 F1 H1 fp1 s1 S1 fr1 _ k4 => ?_)
    cases b with
    | false =>
      unfold QT
      dsimp only
      rw [if_neg Bool.false_ne_true]
      exact k4 F1 H1 σ' fp1 .refl S1 .refl fun _ _ => rfl
    | true =>
      unfold QT
      dsimp only
      rw [if_pos rfl]
      refine ⟨fun σ2 H2 => ∃ m', m' < m + 1 ∧ ∃ F' ρ' fp', SS ul K T F' H2 σ2 ρ' fp' ∧ OutS ul K T E kp F' H2 σ2 fp' D (loopW mt mb m' ρ'), fun _ _ h => h, hb S1 ?_⟩
      simp only [cond_true] at k4
      cases e2 : mb ρ1 with
      | nx ρ3 =>
        simp only [e2] at k4
        exact fun F3 H3 σ3 fp3 s3 S4 fr3 c3 => ⟨m, by omega, F3, ρ3, fp3, S4, OutS.after s3 fr3 c3 k4⟩
      | ct ρ3 =>
        simp only [e2] at k4
        exact fun F3 H3 σ3 fp3 s3 S4 fr3 c3 => ⟨m, by omega, F3, ρ3, fp3, S4, OutS.after s3 fr3 c3 k4⟩
      | bk ρ3 =>
        simp only [e2] at k4
        exact k4
      | rt o ρ3 =>
        simp only [e2] at k4
        exact k4
      | ex x ρ3 =>
        simp only [e2] at k4
        exact k4
      | bad => simp only [e2] at k4; exact k4
end
/-! ### list comprehensions -/
def wipeE (ρ : Env) : List Nat → Env
  | [] => ρ
  | v :: vs => (wipeE ρ vs).set v none
/-- where nothing may be raised -/
@[reducible] def RE.bindN {α β : Type} (m : RE α) (k : α → Env → RE β) : RE β := match m with
  | .ok a ρ => k a ρ
  | _ => .bad
def loopL (mg : MG) (mt : MT) (me : ME) (vs : List Nat) : List D → List O → Env → RE O
  | [], acc, ρ => .ok (.L acc) ρ
  | d :: ds, acc, ρ => match mg (.f d) ρ with
    | none => .bad
    | some ρ1 => (mt ρ1).bindN fun b ρ2 => bif b then (me ρ2).bindN fun o ρ3 => bif decide (acc.length < 100000) then loopL mg mt me vs ds (acc ++ [o]) (wipeE ρ3 vs) else .bad
      else loopL mg mt me vs ds acc (wipeE ρ2 vs)
def mLc (mi : MI) (mg : MG) (mt : MT) (me : ME) (vs : List Nat) : ME := fun ρ => (mi ρ).bind fun ds ρ1 => loopL mg mt me vs ds [] (wipeE ρ1 vs)
def mYes : MT := fun ρ => .ok true ρ
section
variable {K : PySem.W.Frag} {T : List (Addr × Str)} {E : XK} {kp : List Nat} {p q r : Bool} {te : TE} {me : ME}
theorem sim_yes : SimT ul K T E true tYes mYes := fun {F H σ ρ fp Q} S k => Out.now S k
theorem TrS.wipe {F H : Hp} {σ : L2.St} {ρ : Env} {fp : List Addr} (t : TrS K H F σ ρ fp) : ∀ vs : List Nat, ∃ fq, TrS K H F (wipe σ vs) (wipeE ρ vs) fq ∧ fq.Sublist fp
  | [] => ⟨fp, t, .refl _⟩
  | v :: vs => by
    obtain ⟨f1, h1, h2⟩ := TrS.wipe t vs
    obtain ⟨f2, h3, h4⟩ := h1.drop v none
    exact ⟨f2, h3, h4.trans h2⟩
/-- slots that are not told may hold anything -/
theorem TrS.any {F H : Hp} : ∀ {σ : L2.St} {ρ : Env} {fp : List Addr} (i : Nat) (x : Option V), TrS K H F σ ρ fp → ρ[i]? = some none ∨ ρ[i]? = none → TrS K H F (σ.set i x) ρ fp
  | _, _, _, _, _, .nil, _ => .nil
  | _, _, _, 0, x, .no t, _ => .no t
  | _, _, _, i + 1, x, .no t, h => .no (TrS.any i x t (by simpa using h))
  | _, _, _, 0, x, .cons _ _, h => by simp at h
  | _, _, _, i + 1, x, .cons a t, h => .cons a (TrS.any i x t (by simpa using h))
theorem wipeE_len (ρ : Env) : ∀ vs : List Nat, (wipeE ρ vs).length = ρ.length
  | [] => rfl
  | v :: vs => by simp [wipeE, wipeE_len ρ vs]
theorem wipeE_at (ρ : Env) {i : Nat} : ∀ {vs : List Nat}, i ∈ vs → (wipeE ρ vs)[i]? = some none ∨ (wipeE ρ vs)[i]? = none
  | v :: vs, h => by
    by_cases e : v = i
    · subst e
      by_cases hl : v < ρ.length
      · exact .inl (by simp [wipeE, wipeE_len, hl])
      · exact .inr (by simp [wipeE, wipeE_len]; omega)
    · have h' : i ∈ vs := by
        rcases List.mem_cons.mp h with z | z
        · exact absurd z.symm e
        · exact z
      rw [show wipeE ρ (v :: vs) = (wipeE ρ vs).set v none from rfl, List.getElem?_set_ne e]
      exact wipeE_at ρ h'
/-- out of the comprehension: the slots as they were, what is walked by it untold -/
theorem TrS.back {F H : Hp} {σ σ2 : L2.St} {ρ : Env} {fp : List Addr} {vs : List Nat} (hl : σ2.length = σ.length) (h : ∀ i, i ∉ vs → σ2[i]? = σ[i]?) (hn : ∀ i ∈ vs, ρ[i]? = some none ∨ ρ[i]? = none) (t : TrS K H F σ2 ρ fp) : TrS K H F σ ρ fp := by
  induction t generalizing σ vs with
  | nil => cases σ with
    | nil => exact .nil
    | cons _ _ => simp at hl
  | no t ih =>
    rename_i x σ2 ρ fp
    cases σ with
    | nil => simp at hl
    | cons y σ =>
      refine .no (ih (vs := (vs.filter (· ≠ 0)).map (· - 1)) (by simpa using hl) (fun i hi => ?_) fun i hi => ?_)
      · have := h (i + 1) fun z => hi (List.mem_map.mpr ⟨i + 1, List.mem_filter.mpr ⟨z, by simp⟩, rfl⟩)
        simpa using this
      · obtain ⟨j, hj, rfl⟩ := List.mem_map.mp hi
        obtain ⟨hj1, hj2⟩ := List.mem_filter.mp hj
        have := hn j hj1
        have hj3 : j ≠ 0 := by simpa using hj2
        obtain ⟨k, rfl⟩ : ∃ k, j = k + 1 := ⟨j - 1, by omega⟩
        simpa using this
  | cons a t ih =>
    rename_i v o σ2 ρ fp fq
    cases σ with
    | nil => simp at hl
    | cons y σ =>
      have h0 : 0 ∉ vs := fun z => by
        have := hn 0 z
        simp at this
      have hy := h 0 h0
      simp only [List.getElem?_cons_zero, Option.some.injEq] at hy
      subst hy
      refine .cons a (ih (vs := (vs.filter (· ≠ 0)).map (· - 1)) (by simpa using hl) (fun i hi => ?_) fun i hi => ?_)
      · have := h (i + 1) fun z => hi (List.mem_map.mpr ⟨i + 1, List.mem_filter.mpr ⟨z, by simp⟩, rfl⟩)
        simpa using this
      · obtain ⟨j, hj, rfl⟩ := List.mem_map.mp hi
        obtain ⟨hj1, hj2⟩ := List.mem_filter.mp hj
        have := hn j hj1
        have hj3 : j ≠ 0 := by simpa using hj2
        obtain ⟨k, rfl⟩ : ∃ k, j = k + 1 := ⟨j - 1, by omega⟩
        simpa using this
/-- a cell that holds data -/
def Cel : HO → Prop
  | .lst _ => True
  | .dK _ => True
  | .dT _ => True
  | .ins _ _ _ => True
  | _ => False
theorem TabS.upd {H : Hp} {P a : Addr} {q : Str} {o : HO} (t : TabS H P q) (h : ∀ u, H a = some u → Cel u) : TabS (upd H a o) P q := by
  obtain ⟨ps, h1, h2, h3⟩ := t
  refine ⟨ps, ?_, h2, fun pos cv hc => ?_⟩
  · rw [upd_ne]
    · exact h1
    · intro z; subst z; exact h _ h1
  · obtain ⟨c, rfl, h4⟩ := h3 pos cv hc
    refine ⟨c, rfl, ?_⟩
    rw [upd_ne]
    · exact h4
    · intro z; subst z; exact h _ h4
theorem Tabs.upd {T : List (Addr × Str)} {H : Hp} {a : Addr} {o : HO} (t : Tabs T H) (h : ∀ u, H a = some u → Cel u) : Tabs T (upd H a o) := fun p hp => TabS.upd (t p hp) h
theorem Sub.upd {F H : Hp} {a : Addr} {o : HO} (s : Sub ul F H) (h : F a = none) : Sub ul F (upd H a o) := fun b u e => by
  have hb : b ≠ a := fun z => by subst z; rw [h] at e; cases e
  rw [upd_ne hb]
  exact s b u e
theorem stay_upd {fp : List Addr} {H F : Hp} {a : Addr} {o : HO} (h : a ∉ fp) : Stay fp H F (upd H a o) F := fun b m u e _ f => ⟨by rw [upd_ne (fun z => h (by subst z; exact m))]; exact e, f⟩
theorem SS.upd {F H : Hp} {σ : L2.St} {ρ : Env} {fp : List Addr} {a : Addr} {o : HO} (S : SS ul K T F H σ ρ fp) (h : a ∉ fp) (hf : F a = none) (hc : ∀ u, H a = some u → Cel u) : SS ul K T F (upd H a o) σ ρ fp :=
  ⟨S.sub.upd hf, Tabs.upd S.tabs hc, S.sl.mono (Same.refl _) (stay_upd h), S.nd⟩
theorem TrA.append {F H : Hp} : ∀ {v w : List V} {o u : List O} {fp fq : List Addr}, TrA K H F v o fp → TrA K H F w u fq → TrA K H F (v ++ w) (o ++ u) (fp ++ fq)
  | _, _, _, _, _, _, .nil, b => b
  | _, _, _, _, _, _, .cons h a, b => by
    rw [List.append_assoc]
    exact .cons h (TrA.append a b)
theorem wipe_eq {σ σ2 : L2.St} {vs : List Nat} (hl : σ2.length = σ.length) (h : ∀ i, i ∉ vs → σ2[i]? = σ[i]?) : wipe σ2 vs = wipe σ vs := by
  refine List.ext_getElem? fun i => ?_
  by_cases m : i ∈ vs
  · have f : ∀ (τ : L2.St) (vs : List Nat), i ∈ vs → (wipe τ vs)[i]? = if i < τ.length then some none else none := by
      intro τ vs
      induction vs with
      | nil => intro h; cases h
      | cons v vs ih =>
        intro h
        rw [show wipe τ (v :: vs) = (wipe τ vs).set v none from rfl]
        by_cases e : v = i
        · subst e
          by_cases hh : v < τ.length
          · simp [wipe_length, hh]
          · simp [wipe_length, hh]
        · have h' : i ∈ vs := by
            rcases List.mem_cons.mp h with z | z
            · exact absurd z.symm e
            · exact z
          rw [List.getElem?_set_ne e]
          exact ih h'
    rw [f σ2 vs m, f σ vs m, hl]
  · rw [wipe_out m, wipe_out m]
    exact h i m
theorem sim_lc {wi : TI} {mi : MI} {g : TG} {mg : MG} {gs vs : List Nat} {tt : TT} {mt : MT} (hi : SimI ul K T E p wi mi) (hg : SimG ul K T gs g mg) (ht : SimT ul K T E0 q tt mt) (he : SimE ul K T E0 r te me) (hd : ∀ i ∈ gs, i ∈ vs) :
    SimE ul K T E false (tLc wi g tt te vs) (mLc mi mg mt me vs) := fun {F H σ ρ fp Q} S k => by
  have k0 := Out.bind (p := p) (q := false) (by rw [Bool.and_false]; exact k)
  refine hi S ?_
  -- the outcome, from the start
  cases e0 : mi ρ with
  | bad => rw [e0] at k0; exact k0.elim
  | ex x ρ1 => rw [e0] at k0; exact k0
  | ok ds ρ1 =>
  have kk : Out ul K T E false F H σ ρ fp (QE K H fp Q) (loopL mg mt me vs ds [] (wipeE ρ1 vs)) := by
    have : mLc mi mg mt me vs ρ = loopL mg mt me vs ds [] (wipeE ρ1 vs) := by unfold mLc; rw [e0]
    rw [this] at k; exact k
  intro F1 H1 fp1 s1 S1 fr1 _ J dr D hD
  have st1 : Stp false fp F H F1 H1 := s1.imp fun z => nomatch z
  refine ⟨fun i m H' => m = ds.length - i ∧ i ≤ ds.length ∧ ∃ F' ρ' fp' acc xs fa, Stp false fp F H F' H' ∧ SS ul K T F' H' (wipe σ vs) ρ' fp' ∧ TrA K H' F' xs acc fa ∧ H' D = some (.lst xs) ∧ F' D = none ∧ (D :: (fa ++ fp')).Nodup ∧ Fre H fp (D :: (fa ++ fp')) ∧ Same F1 F' ∧
      (∀ i ∈ vs, ρ'[i]? = some none ∨ ρ'[i]? = none) ∧ Out ul K T E false F H σ ρ fp (QE K H fp Q) (loopL mg mt me vs (ds.drop i) acc ρ'), ?_, ?_⟩
  · obtain ⟨fq, h1, h2⟩ := S1.sl.wipe vs
    have hDn : D ∉ fq := fun m => by
      obtain ⟨_, z, _⟩ := S1.sl.own D (h2.subset m)
      rw [hD] at z; cases z
    have Sw : SS ul K T F1 H1 (wipe σ vs) (wipeE ρ1 vs) fq := ⟨S1.sub, S1.tabs, h1, S1.nd.sublist h2⟩
    have nw := upd_newH (o := .lst []) S1.sub hD
    refine ⟨_, rfl, Nat.zero_le _, F1, wipeE ρ1 vs, fq, [], [], [], ?_, nw.ss Sw, .nil, upd_same, fnone S1.sub hD, List.nodup_cons.mpr ⟨by simpa using hDn, by simpa using Sw.nd⟩, fun a m => ?_, Same.refl _, fun i m => wipeE_at _ m, kk⟩
    · exact (st1.trans fr1 (nw.stp (p := false))).imp fun z => nomatch z
    · rcases List.mem_cons.mp m with rfl | m
      · exact .inr (s1.dom a (.of hD))
      · exact fr1 a (h2.subset (by simpa using m))
  rintro i m H' ⟨rfl, hle, F', ρ', fp', acc, xs, fa, s', S', ta, hDx, hDf, nd, fr, sm, wn, k2⟩
  by_cases hend : i = ds.length
  · subst hend
    rw [List.drop_length] at k2
    refine .inl ⟨dr.stop F' H' sm S'.sub, ?_⟩
    have hnd := List.nodup_cons.mp nd
    have Sb : SS ul K T F' H' σ ρ' fp' := ⟨S'.sub, S'.tabs, S'.sl.back (by simp [wipe_length]) (fun i hi => wipe_out hi) wn, S'.nd⟩
    exact k2 F' H' fp' s' Sb (fun a m => fr a (List.mem_cons_of_mem _ (List.mem_append_right _ m))) (fun z => nomatch z) _ (D :: fa) (.L hDx hDf ta) nd fun a m => by
      rcases List.mem_cons.mp m with rfl | m
      · exact fr a List.mem_cons_self
      · exact fr a (List.mem_cons_of_mem _ (List.mem_append_left _ m))
  have hlt : i < ds.length := by omega
  refine .inr ⟨dr.go F' H' i sm S'.sub hlt, fun H2 => ∃ m', m' < ds.length - i ∧ (m' = ds.length - (i + 1) ∧ i + 1 ≤ ds.length ∧ ∃ F' ρ' fp' acc xs fa, Stp false fp F H F' H2 ∧ SS ul K T F' H2 (wipe σ vs) ρ' fp' ∧ TrA K H2 F' xs acc fa ∧ H2 D = some (.lst xs) ∧ F' D = none ∧ (D :: (fa ++ fp')).Nodup ∧ Fre H fp (D :: (fa ++ fp')) ∧ Same F1 F' ∧
      (∀ i ∈ vs, ρ'[i]? = some none ∨ ρ'[i]? = none) ∧ Out ul K T E false F H σ ρ fp (QE K H fp Q) (loopL mg mt me vs (ds.drop (i + 1)) acc ρ')), fun H2 h => h, fun x H2 hy => ?_⟩
  obtain ⟨F2, d, hd1, nw, rp⟩ := dr.yld F' H' i x H2 sm S'.sub hy hlt
  rw [drop_cons' hd1] at k2
  have S2 := nw.ss S'
  obtain ⟨hndD, hnd⟩ := List.nodup_cons.mp nd
  cases e1 : mg (.f d) ρ' with
  | none => simp only [loopL, e1] at k2; exact k2.elim
  | some ρ2 =>
    simp only [loopL, e1] at k2
    refine hg S2 (.f rp) (by rw [List.nil_append]; exact S2.nd) e1 fun σ2 fp2 S3 hs hl hj => ⟨wipe_eq (by rw [hl, wipe_length]) fun i hi => by rw [hj i fun z => hi (hd i z), wipe_out hi], ?_⟩
    have hw : wipe σ2 vs = wipe σ vs := wipe_eq (by rw [hl, wipe_length]) fun i hi => by rw [hj i fun z => hi (hd i z), wipe_out hi]
    have hs' : ∀ a ∈ fp2, a ∈ fp' := fun a m => by have := hs a m; rwa [List.nil_append] at this
    -- the list and its items stay over what follows
    have st2 : Stp false fp F H F2 H2 := (s'.trans (fun a m => fr a (List.mem_cons_of_mem _ (List.mem_append_right _ m))) (nw.stp (p := false))).imp (fun z => nomatch z)
    have fr2 : Fre H fp fp2 := fun a m => fr a (List.mem_cons_of_mem _ (List.mem_append_right _ (hs' a m)))
    have ta2 : TrA K H2 F2 xs acc fa := ta.mono nw.le fun a m u h mu f => ⟨nw.he a u h, nw.out a u h mu f⟩
    have hD2 : H2 D = some (.lst xs) := nw.he _ _ hDx
    have hD2f : F2 D = none := nw.out _ _ hDx trivial hDf
    have nD2 : D ∉ fp2 := fun m => hndD (List.mem_append_right _ (hs' D m))
    have nfa : ∀ a ∈ fa, a ∉ fp2 := fun a m m' => (List.nodup_append.mp hnd).2.2 a m a (hs' a m') rfl
    -- the test
    refine ht S3 ?_
    cases e2 : mt ρ2 with
    | bad => rw [e2] at k2; exact k2.elim
    | ex x ρ3 => rw [e2] at k2; exact k2.elim
    | ok b ρ3 =>
      rw [e2] at k2
      intro F3 H3 fp3 s3 S4 fr3 _
      have st3 : Stp false fp F H F3 H3 := (st2.trans fr2 s3).imp (fun z => nomatch z)
      have fr4 : Fre H fp fp3 := fr2.trans st2 fr3
      have ta3 : TrA K H3 F3 xs acc fa := ta2.mono s3.le (s3.stay nfa)
      have hD3 : H3 D = some (.lst xs) := s3.keep _ _ hD2 (fun _ z => by cases z) (.inl nD2)
      have hD3f : F3 D = none := s3.out _ _ hD2 trivial hD2f (.inl nD2)
      have nD3 : D ∉ fp3 := fre_not fr3 hD2 (fun _ z => by cases z) nD2
      have nfa3 : ∀ a ∈ fa, a ∉ fp3 := fun a m => by
        obtain ⟨u, z, mu, _⟩ := ta2.own a m
        exact fre_not fr3 z (mut_nt mu) (nfa a m)
      have frD : Fre H fp (D :: fa) := fun a m => by
        rcases List.mem_cons.mp m with rfl | m
        · exact fr a List.mem_cons_self
        · exact fr a (List.mem_cons_of_mem _ (List.mem_append_left _ m))
      have hsl : ∀ {ρ' : Env} {F' H' : Hp} {fq : List Addr}, TrS K H' F' σ2 ρ' fq → ∃ fr, TrS K H' F' (wipe σ vs) (wipeE ρ' vs) fr ∧ fr.Sublist fq := fun t => by
        obtain ⟨f, h1, h2⟩ := t.wipe vs
        rw [hw] at h1
        exact ⟨f, h1, h2⟩
      cases b with
      | false =>
        unfold QT
        dsimp only
        rw [if_neg Bool.false_ne_true]
        obtain ⟨fq, h1, h2⟩ := hsl S4.sl
        refine ⟨_, by omega, rfl, by omega, F3, wipeE ρ3 vs, fq, acc, xs, fa, st3, ⟨S4.sub, S4.tabs, h1, S4.nd.sublist h2⟩, ta3, hD3, hD3f, ?_, ?_, sm.trans (nw.le.trans s3.le), fun i m => wipeE_at _ m, k2⟩
        · refine List.nodup_cons.mpr ⟨fun m => ?_, List.nodup_append.mpr ⟨(List.nodup_append.mp hnd).1, S4.nd.sublist h2, fun a m b m' z => ?_⟩⟩
          · rcases List.mem_append.mp m with m | m
            · exact hndD (List.mem_append_left _ m)
            · exact nD3 (h2.subset m)
          · subst z; exact nfa3 a m (h2.subset m')
        · intro a m
          rcases List.mem_cons.mp m with rfl | m
          · exact frD a List.mem_cons_self
          · rcases List.mem_append.mp m with m | m
            · exact frD a (List.mem_cons_of_mem _ m)
            · exact fr4 a (h2.subset m)
      | true =>
        unfold QT
        dsimp only
        rw [if_pos rfl]
        simp only [cond_true] at k2
        refine he S4 ?_
        cases e3 : me ρ3 with
        | bad => rw [e3] at k2; exact k2.elim
        | ex x ρ4 => rw [e3] at k2; exact k2.elim
        | ok o ρ4 =>
          rw [e3] at k2
          intro F4 H4 fp4 s4 S5 fr5 _ v fv tv ndv frv
          have st4 : Stp false fp F H F4 H4 := (st3.trans fr4 s4).imp (fun z => nomatch z)
          have fr6 : Fre H fp fp4 := fr4.trans st3 fr5
          have ta4 : TrA K H4 F4 xs acc fa := ta3.mono s4.le (s4.stay nfa3)
          have hD4 : H4 D = some (.lst xs) := s4.keep _ _ hD3 (fun _ z => by cases z) (.inl nD3)
          have hD4f : F4 D = none := s4.out _ _ hD3 trivial hD3f (.inl nD3)
          have nD4 : D ∉ fp4 := fre_not fr5 hD3 (fun _ z => by cases z) nD3
          have nDv : D ∉ fv := fre_not frv hD3 (fun _ z => by cases z) nD3
          have nfa4 : ∀ a ∈ fa, a ∉ fp4 ∧ a ∉ fv := fun a m => by
            obtain ⟨u, z, mu, _⟩ := ta3.own a m
            exact ⟨fre_not fr5 z (mut_nt mu) (nfa3 a m), fre_not frv z (mut_nt mu) (nfa3 a m)⟩
          by_cases hl2 : acc.length < 100000
          · simp only [decide_eq_true hl2, cond_true] at k2
            refine ⟨xs, hD4, ?_, ?_⟩
            · rw [ta.length, sizeLine_eq]; omega
            obtain ⟨fq, h1, h2⟩ := hsl S5.sl
            have nDq : D ∉ fq := fun m => nD4 (h2.subset m)
            have Sq : SS ul K T F4 H4 (wipe σ vs) (wipeE ρ4 vs) fq := ⟨S5.sub, S5.tabs, h1, S5.nd.sublist h2⟩
            have nDa : D ∉ fa := fun m => hndD (List.mem_append_left _ m)
            have stay : Stay (fa ++ fv) H4 F4 (upd H4 D (.lst (xs ++ [v]))) F4 := stay_upd fun m => by
              rcases List.mem_append.mp m with m | m
              · exact nDa m
              · exact nDv m
            have tav : TrA K H4 F4 (xs ++ [v]) (acc ++ [o]) (fa ++ fv) := by
              have := ta4.append (TrA.cons tv .nil)
              rwa [List.append_nil] at this
            have hHD : Fr0 H D := s1.dom D (.of hD)
            refine ⟨_, by omega, rfl, by omega, F4, wipeE ρ4 vs, fq, acc ++ [o], xs ++ [v], fa ++ fv, ⟨st4.le, fun a u h n c => ?_, st4.out, fun a h => ?_, fun a w o h1 h2 => ?_, fun a w h1 h2 => ?_⟩, Sq.upd nDq hD4f (fun u z => by rw [hD4] at z; cases z; trivial), tav.mono (Same.refl _) stay, upd_same, hD4f, ?_, ?_, sm.trans (nw.le.trans (s3.le.trans s4.le)), fun i m => wipeE_at _ m, k2⟩
            · rw [upd_ne (fun z => by subst z; exact hHD u h n)]
              exact st4.keep a u h n c
            · refine st4.dom a fun o e n => ?_
              by_cases z : a = D
              · subst z; exact h _ upd_same fun _ z => by cases z
              · exact h o (by rw [upd_ne z]; exact e) n
            · rw [upd_ne]
              · exact st4.kf a w o h1 h2
              · rintro rfl; rw [st4.le _ _ h1] at hD4f; cases hD4f
            · rw [upd_ne]
              · exact st4.nu a w h1 h2
              · rintro rfl; rw [h1] at hD4f; cases hD4f
            · refine List.nodup_cons.mpr ⟨fun m => ?_, ?_⟩
              · rcases List.mem_append.mp m with m | m
                · rcases List.mem_append.mp m with m | m
                  · exact nDa m
                  · exact nDv m
                · exact nDq m
              · rw [List.append_assoc]
                refine List.nodup_append.mpr ⟨(List.nodup_append.mp hnd).1, List.nodup_append.mpr ⟨(List.nodup_append.mp ndv).1, Sq.nd, fun a m b m' z => ?_⟩, fun a m b m' z => ?_⟩
                · exact (List.nodup_append.mp ndv).2.2 a m b (h2.subset m') z
                · subst z
                  rcases List.mem_append.mp m' with m' | m'
                  · exact (nfa4 a m).2 m'
                  · exact (nfa4 a m).1 (h2.subset m')
            · intro a m
              rcases List.mem_cons.mp m with rfl | m
              · exact frD a List.mem_cons_self
              · rcases List.mem_append.mp m with m | m
                · rcases List.mem_append.mp m with m | m
                  · exact frD a (List.mem_cons_of_mem _ m)
                  · exact (fr4.trans st3 frv) a m
                · exact fr6 a (h2.subset m)
          · simp only [decide_eq_false hl2, cond_false] at k2
            exact k2.elim
end
end MR

namespace MR
open PySem PySem.Spec PyProof.Rows L2 SW LamX
/-! ### defs -/
inductive RF where
  | ok (o : O) (os : List O) | ex (x : Xc) (os : List O) | bad
abbrev MF := List O → RF
def OutF (ul : Bool) (K : PySem.W.Frag) (T : List (Addr × Str)) (E : XK) (F H : Hp) (vs : List V) (fa : List Addr) (Q : VK) : RF → Prop
  | .ok o os' => ∀ v F' H' fv fa', Stp false fa F H F' H' → Sub ul F' H' → Tabs T H' → Tr K H' F' v o fv → TrA K H' F' vs os' fa' → (fv ++ fa').Nodup → Fre H fa (fv ++ fa') → Q v H'
  | .ex x os' => ∀ c d F' H' fa', Stp false fa F H F' H' → Sub ul F' H' → Tabs T H' → XR K F' H' x c d → TrA K H' F' vs os' fa' → fa'.Nodup → Fre H fa fa' → E c d H'
  | .bad => False
/-- what a def with the mirror mf promises -/
def spM (ul : Bool) (K : PySem.W.Frag) (T : List (Addr × Str)) (n : Nat) (mf : MF) : Sp := fun vs H Q E => vs.length = n ∧ ∃ F os fa, Sub ul F H ∧ Tabs T H ∧ TrA K H F vs os fa ∧ fa.Nodup ∧ OutF ul K T E F H vs fa Q (mf os)
/-- what is raised is let out by E', or nothing is raised -/
def Pas (ul : Bool) (K : PySem.W.Frag) (T : List (Addr × Str)) (mf mf' : MF) (E E' : XK) : Prop := ∀ F H vs fa Q os, OutF ul K T E F H vs fa Q (mf' os) → OutF ul K T E' F H vs fa Q (mf os)
theorem pasE {K : PySem.W.Frag} {T : List (Addr × Str)} {mf : MF} {E : XK} : Pas ul K T mf mf E E := fun _ _ _ _ _ _ h => h
def noX (mf : MF) : MF := fun os => match mf os with
  | .ex _ _ => .bad
  | r => r
theorem pas0 {K : PySem.W.Frag} {T : List (Addr × Str)} {mf : MF} {E E' : XK} : Pas ul K T mf (noX mf) E E' := fun F H vs fa Q os h => by
  unfold noX at h
  cases e : mf os with
  | ok o os' => rw [e] at h; exact h
  | ex x os' => rw [e] at h; exact h.elim
  | bad => rw [e] at h; exact h.elim
theorem spM.pas {K : PySem.W.Frag} {T : List (Addr × Str)} {n : Nat} {mf mf' : MF} {E E' : XK} (hp : Pas ul K T mf mf' E E') {vs : List V} {H : Hp} {Q : VK} (h : spM ul K T n mf' vs H Q E) : spM ul K T n mf vs H Q E' := by
  obtain ⟨h1, F, os, fa, h2, h3, h4, h5, h6⟩ := h
  exact ⟨h1, F, os, fa, h2, h3, h4, h5, hp _ _ _ _ _ _ h6⟩
theorem spM.len {K : PySem.W.Frag} {T : List (Addr × Str)} {n : Nat} {mf : MF} {vs : List V} {H : Hp} {Q : VK} {E : XK} (h : spM ul K T n mf vs H Q E) : vs.length = n := h.1
def takeA : List AV → Env → Option (List O × Env)
  | [], ρ => some ([], ρ)
  | .v d :: r, ρ => (takeA r ρ).bind fun q => some (.f d :: q.1, q.2)
  | .s i :: r, ρ => match ρ[i]? with
    | some (some o) => (takeA r (ρ.set i none)).bind fun q => some (o :: q.1, q.2)
    | _ => none
def putA : List AV → List O → Env → Env
  | .v _ :: r, _ :: os, ρ => putA r os ρ
  | .s i :: r, o :: os, ρ => (putA r os ρ).set i (some o)
  | _, _, ρ => ρ
section
variable {K : PySem.W.Frag} {T : List (Addr × Str)} {E : XK} {p q : Bool}
theorem takeA_none {i : Nat} : ∀ {as : List AV} {ρ ρ' : Env} {os : List O}, takeA as ρ = some (os, ρ') → ρ[i]? = some none → ρ'[i]? = some none ∧ ∀ (os' : List O) (ρ2 : Env), ρ2[i]? = some none → (putA as os' ρ2)[i]? = some none
  | [], ρ, ρ', os, e, h => by
    cases e
    exact ⟨h, fun os' ρ2 h2 => by unfold putA; exact h2⟩
  | .v d :: r, ρ, ρ', os, e, h => by
    obtain ⟨⟨o1, r1⟩, e1, e2⟩ := Option.bind_eq_some_iff.mp (show ((takeA r ρ).bind fun q => some (O.f d :: q.1, q.2)) = some (os, ρ') from e)
    cases e2
    obtain ⟨h1, h2⟩ := takeA_none e1 h
    refine ⟨h1, fun os' ρ2 h3 => ?_⟩
    cases os' with
    | nil => exact h3
    | cons o os' => exact h2 os' ρ2 h3
  | .s j :: r, ρ, ρ', os, e, h => by
    rw [show takeA (.s j :: r) ρ = (match ρ[j]? with | some (some o) => (takeA r (ρ.set j none)).bind fun q => some (o :: q.1, q.2) | _ => none) from rfl] at e
    split at e
    · rename_i o ho
      obtain ⟨⟨o1, r1⟩, e1, e2⟩ := Option.bind_eq_some_iff.mp e
      cases e2
      have hne : j ≠ i := fun z => by subst z; rw [h] at ho; cases ho
      obtain ⟨h1, h2⟩ := takeA_none e1 (by rw [List.getElem?_set_ne hne]; exact h)
      refine ⟨h1, fun os' ρ2 h3 => ?_⟩
      cases os' with
      | nil => exact h3
      | cons o os' =>
        show ((putA r os' ρ2).set j (some o))[i]? = _
        rw [List.getElem?_set_ne hne]
        exact h2 os' ρ2 h3
    · cases e
/-- the arguments apart from the other slots, and back -/
theorem call_split {H F : Hp} {σ : L2.St} : ∀ {as : List AV} {vs : List V} {ρ ρ' : Env} {os : List O} {fp : List Addr}, AVs K F σ vs as → TrS K H F σ ρ fp → takeA as ρ = some (os, ρ') →
    ∃ fa fr, TrA K H F vs os fa ∧ fp.Perm (fa ++ fr) ∧ TrS K H F σ ρ' fr ∧
      ∀ (H' F' : Hp) (os' : List O) (fa' : List Addr), Same F F' → Stay fr H F H' F' → TrA K H' F' vs os' fa' → (fa' ++ fr).Nodup → ∃ fq, TrS K H' F' σ (putA as os' ρ') fq ∧ fq.Nodup ∧ ∀ a ∈ fq, a ∈ fa' ++ fr
  | _, _, ρ, ρ', os, fp, .nil, t, e => by
    cases e
    refine ⟨[], fp, .nil, .refl _, t, fun H' F' os' fa' sm st ta nd => ⟨fp, ?_, (List.nodup_append.mp nd).2.1, fun a m => List.mem_append_right _ m⟩⟩
    have : putA [] os' ρ = ρ := by unfold putA; rfl
    rw [this]
    exact t.mono sm st
  | _, _, ρ, ρ', os, fp, .v (d := d) (as := as) h t, tr, e => by
    obtain ⟨⟨o1, r1⟩, e1, e2⟩ := Option.bind_eq_some_iff.mp (show ((takeA as ρ).bind fun q => some (O.f d :: q.1, q.2)) = some (os, ρ') from e)
    cases e2
    obtain ⟨fa, fr, h1, h2, h3, h4⟩ := call_split t tr e1
    refine ⟨fa, fr, ?_, h2, h3, fun H' F' os' fa' sm st ta nd => ?_⟩
    · have := TrA.cons (H := H) (.f h) h1
      exact this
    · cases ta with
      | cons tv ta =>
        rename_i o os fv fa2
        rw [List.append_assoc] at nd
        obtain ⟨fq, h5, h6, h7⟩ := h4 H' F' os fa2 sm st ta (List.nodup_append.mp nd).2.1
        exact ⟨fq, h5, h6, fun a m => by rw [List.append_assoc]; exact List.mem_append_right _ (h7 a m)⟩
  | _, _, ρ, ρ', os, fp, .s (i := i) (as := as) hx t, tr, e => by
    rw [show takeA (.s i :: as) ρ = (match ρ[i]? with | some (some o) => (takeA as (ρ.set i none)).bind fun q => some (o :: q.1, q.2) | _ => none) from rfl] at e
    split at e
    · rename_i o ho
      obtain ⟨⟨o1, r1⟩, e1, e2⟩ := Option.bind_eq_some_iff.mp e
      cases e2
      obtain ⟨v, fi, fr1, g1, g2, g3, g4⟩ := tr.take ho
      rw [hx] at g1; cases g1
      obtain ⟨fa, fr, h1, h2, h3, h4⟩ := call_split t g3 e1
      have hn := takeA_none e1 (get_set ho)
      refine ⟨fi ++ fa, fr, .cons g2 h1, ?_, h3, fun H' F' os' fa' sm st ta nd => ?_⟩
      · rw [List.append_assoc]
        exact g4.trans (h2.append_left fi)
      · cases ta with
        | cons tv ta =>
          rename_i o' os2 fv fa2
          rw [List.append_assoc] at nd
          obtain ⟨fq, h5, h6, h7⟩ := h4 H' F' os2 fa2 sm st ta (List.nodup_append.mp nd).2.1
          obtain ⟨fs, h8, h9⟩ := h5.put (i := i) (o := o') (fi := fv) (hn.2 os2 _ hn.1) hx tv
          refine ⟨fs, h8, h9.nodup_iff.mpr (List.nodup_append.mpr ⟨(List.nodup_append.mp nd).1, h6, fun a m b m' z => ?_⟩), fun a m => ?_⟩
          · exact (List.nodup_append.mp nd).2.2 a m b (h7 b m') z
          · rw [List.append_assoc]
            rcases List.mem_append.mp (h9.mem_iff.mp m) with m | m
            · exact List.mem_append_left _ m
            · exact List.mem_append_right _ (h7 a m)
    · cases e
end
/-! ### calls -/
def mCall (mf : MF) (ma : MA) : ME := fun ρ => (ma ρ).bind fun as ρ1 => match takeA as ρ1 with
  | none => .bad
  | some (os, ρ2) => match mf os with
    | .ok o os' => .ok o (putA as os' ρ2)
    | .ex x os' => .ex x (putA as os' ρ2)
    | .bad => .bad
/-- no slot is handed on -/
def mCallP (mf : MF) (ma : MA) : ME := fun ρ => (ma ρ).bind fun as ρ1 => match avD as with
  | none => .bad
  | some ds => match mf (ds.map .f) with
    | .ok o _ => .ok o ρ1
    | .ex x _ => .ex x ρ1
    | .bad => .bad
section
variable {K : PySem.W.Frag} {T : List (Addr × Str)} {E : XK} {p q : Bool}
theorem AVs.length {F : Hp} {σ : L2.St} : ∀ {vs : List V} {as : List AV}, AVs K F σ vs as → vs.length = as.length
  | _, _, .nil => rfl
  | _, _, .v _ t => congrArg Nat.succ (AVs.length t)
  | _, _, .s _ t => congrArg Nat.succ (AVs.length t)
/-- the core: the callee's promise from the caller's state -/
theorem call_run {F H F0 H0 : Hp} {σ : L2.St} {ρ1 ρ2 ρ0 : Env} {fp fp0 : List Addr} {as : List AV} {vs : List V} {os : List O} {mf : MF} {Q : VK} (s0 : Stp false fp0 F0 H0 F H) (fr0 : Fre H0 fp0 fp) (S : SS ul K T F H σ ρ1 fp) (av : AVs K F σ vs as) (e : takeA as ρ1 = some (os, ρ2))
    (k : Out ul K T E false F0 H0 σ ρ0 fp0 (QE K H0 fp0 Q) (match mf os with | .ok o os' => RE.ok o (putA as os' ρ2) | .ex x os' => .ex x (putA as os' ρ2) | .bad => .bad)) : spM ul K T vs.length mf vs H Q E := by
  obtain ⟨fa, fr, ta, pm, ts, back⟩ := call_split av S.sl e
  have nd : (fa ++ fr).Nodup := pm.nodup_iff.mp S.nd
  have sub : ∀ a ∈ fa, a ∈ fp := fun a m => pm.mem_iff.mpr (List.mem_append_left _ m)
  have subr : ∀ a ∈ fr, a ∈ fp := fun a m => pm.mem_iff.mpr (List.mem_append_right _ m)
  refine ⟨rfl, F, os, fa, S.sub, S.tabs, ta, (List.nodup_append.mp nd).1, ?_⟩
  have up : ∀ {F' H' : Hp}, Stp false fa F H F' H' → Stp false fp F H F' H' := fun s => ⟨s.le, fun a o h n c => s.keep a o h n (c.imp (fun z y => z (sub a y)) id), fun a o h m n c => s.out a o h m n (c.imp (fun z y => z (sub a y)) id), s.dom, s.kf, s.nu⟩
  have frn : ∀ a ∈ fr, a ∉ fa := fun a m m' => (List.nodup_append.mp nd).2.2 a m' a m rfl
  have apart : ∀ {fq : List Addr}, Fre H fa fq → ∀ a ∈ fr, a ∉ fq := fun {fq} f a m m' => by
    rcases f a m' with z | z
    · exact frn a m z
    · exact (ts.own a m).nf z
  cases e2 : mf os with
  | bad => rw [e2] at k; exact k
  | ok o os' =>
    rw [e2] at k
    intro v F' H' fv fa' s sb tb tv ta' nd' fre
    have fre' : Fre H fa fa' := fun a m => fre a (List.mem_append_right _ m)
    have frev : Fre H fa fv := fun a m => fre a (List.mem_append_left _ m)
    have nd2 : (fa' ++ fr).Nodup := List.nodup_append.mpr ⟨(List.nodup_append.mp nd').2.1, (List.nodup_append.mp nd).2.1, fun a m b m' z => by subst z; exact apart fre' a m' m⟩
    obtain ⟨fq, h1, h2, h3⟩ := back H' F' os' fa' s.le (s.stay frn) ta' nd2
    have frq : Fre H fp fq := fun a m => by
      rcases List.mem_append.mp (h3 a m) with m | m
      · exact (fre' a m).imp (sub a) id
      · exact .inl (subr a m)
    refine k F' H' fq ((s0.trans fr0 (up s)).imp fun z => nomatch z) ⟨sb, tb, h1, h2⟩ (fr0.trans s0 frq) (fun z => nomatch z) v fv tv ?_ (fr0.trans s0 fun a m => (frev a m).imp (sub a) id)
    refine List.nodup_append.mpr ⟨(List.nodup_append.mp nd').1, h2, fun a m b m' z => ?_⟩
    subst z
    rcases List.mem_append.mp (h3 a m') with m' | m'
    · exact (List.nodup_append.mp nd').2.2 a m a m' rfl
    · exact apart frev a m' m
  | ex x os' =>
    rw [e2] at k
    intro c d F' H' fa' s sb tb xr ta' nd' fre'
    have nd2 : (fa' ++ fr).Nodup := List.nodup_append.mpr ⟨nd', (List.nodup_append.mp nd).2.1, fun a m b m' z => by subst z; exact apart fre' a m' m⟩
    obtain ⟨fq, h1, h2, h3⟩ := back H' F' os' fa' s.le (s.stay frn) ta' nd2
    have frq : Fre H fp fq := fun a m => by
      rcases List.mem_append.mp (h3 a m) with m | m
      · exact (fre' a m).imp (sub a) id
      · exact .inl (subr a m)
    exact k F' H' fq c d ((s0.trans fr0 (up s)).imp fun z => nomatch z) ⟨sb, tb, h1, h2⟩ (fr0.trans s0 frq) xr
theorem sim_call {n : Nat} {mf mf' : MF} {E' : XK} {ta : TA} {ma : MA} (hp : Pas ul K T mf mf' E E') (ha : SimA ul K T E p ta ma) (hn : ∀ ρ as ρ', ma ρ = .ok as ρ' → as.length = n) : SimE ul K T E false (tCall (spM ul K T n mf) [] E' ta) (mCall mf' ma) := fun {F H σ ρ fp Q} S k => by
  refine ha S ?_
  cases e0 : ma ρ with
  | bad => simp only [mCall, e0, RE.bind] at k; exact k
  | ex x ρ1 => simp only [mCall, e0, RE.bind] at k; exact fun F' H' fp' c d s S' fr xr => k F' H' fp' c d (s.imp fun z => nomatch z) S' fr xr
  | ok as ρ1 =>
    simp only [mCall, e0, RE.bind] at k
    intro F1 H1 fp1 s1 S1 fr1 _ vs av
    cases e1 : takeA as ρ1 with
    | none => rw [e1] at k; exact k.elim
    | some w =>
      obtain ⟨os, ρ2⟩ := w
      rw [e1] at k
      have := call_run (mf := mf') (s1.imp fun z => nomatch z) fr1 S1 av e1 k
      rw [av.length, hn ρ as ρ1 e0] at this
      rw [List.append_nil]
      exact this.pas hp
theorem sim_callP {n : Nat} {mf0 mf : MF} {E' : XK} {ta : TA} {ma : MA} (hp : Pas ul K T mf0 mf E E') (ha : SimA ul K T E p ta ma) (hn : ∀ ρ as ρ', ma ρ = .ok as ρ' → as.length = n) : SimE ul K T E p (tCall (spM ul K T n mf0) [] E' ta) (mCallP mf ma) := fun {F H σ ρ fp Q} S k => by
  refine ha S ?_
  cases e0 : ma ρ with
  | bad => simp only [mCallP, e0, RE.bind] at k; exact k
  | ex x ρ1 => simp only [mCallP, e0, RE.bind] at k; exact k
  | ok as ρ1 =>
    simp only [mCallP, e0, RE.bind] at k
    intro F1 H1 fp1 s1 S1 fr1 cp vs av
    rw [List.append_nil]
    cases e1 : avD as with
    | none => rw [e1] at k; exact k.elim
    | some ds =>
      rw [e1] at k
      have rp := avs_rp av e1
      refine spM.pas hp ⟨by rw [av.length, hn ρ as ρ1 e0], F1, ds.map .f, [], S1.sub, S1.tabs, rp.tr, List.nodup_nil, ?_⟩
      have up : ∀ {F' H' : Hp}, Stp false [] F1 H1 F' H' → Stp true fp1 F1 H1 F' H' := fun s => ⟨s.le, fun a o h n c => s.keep a o h n (.inl (fun z => nomatch z)), fun a o h m n c => s.out a o h m n (.inl (fun z => nomatch z)), s.dom, s.kf, s.nu⟩
      cases e2 : mf (ds.map .f) with
      | bad => simp only [e2] at k; exact k
      | ok o os' =>
        simp only [e2] at k
        intro v F' H' fv fa' s sb tb tv ta' nd' fre
        have frv : ∀ a ∈ fv, Fr0 H1 a := fun a m => by
          rcases fre a (List.mem_append_left _ m) with z | z
          · exact nomatch z
          · exact z
        have st := (s1.trans fr1 (up s)).imp (q := p) (fun z => by rw [z]; rfl)
        have S2 : SS ul K T F' H' σ ρ1 fp1 := ⟨sb, tb, S1.sl.mono s.le (up s).stayP, S1.nd⟩
        refine k F' H' fp1 st S2 fr1 cp v fv tv ?_ fun a m => .inr (s1.dom a (frv a m))
        refine List.nodup_append.mpr ⟨(List.nodup_append.mp nd').1, S1.nd, fun a m b m' z => ?_⟩
        subst z
        exact (S1.sl.own a m').nf (frv a m)
      | ex x os' =>
        simp only [e2] at k
        intro c d F' H' fa' s sb tb xr ta' nd' fre
        have st := (s1.trans fr1 (up s)).imp (q := p) (fun z => by rw [z]; rfl)
        have S2 : SS ul K T F' H' σ ρ1 fp1 := ⟨sb, tb, S1.sl.mono s.le (up s).stayP, S1.nd⟩
        exact k F' H' fp1 c d st S2 fr1 xr
theorem len_nil : ∀ ρ as ρ', mNil ρ = .ok as ρ' → as.length = 0 := fun ρ as ρ' e => by cases e; rfl
theorem len_cons {m : ME} {r : MA} {n : Nat} (h : ∀ ρ as ρ', r ρ = .ok as ρ' → as.length = n) : ∀ ρ as ρ', mCons m r ρ = .ok as ρ' → as.length = n + 1 := fun ρ as ρ' e => by
  unfold mCons at e
  cases e1 : m ρ with
  | bad => rw [e1] at e; cases e
  | ex => rw [e1] at e; cases e
  | ok o ρ1 =>
    rw [e1] at e
    dsimp only [RE.bind] at e
    cases e2 : r ρ1 with
    | bad => rw [e2] at e; cases e
    | ex => rw [e2] at e; cases e
    | ok as' ρ2 => rw [e2] at e; cases e; exact congrArg Nat.succ (h _ _ _ e2)
theorem len_consS {i : Nat} {r : MA} {n : Nat} (h : ∀ ρ as ρ', r ρ = .ok as ρ' → as.length = n) : ∀ ρ as ρ', mConsS i r ρ = .ok as ρ' → as.length = n + 1 := fun ρ as ρ' e => by
  unfold mConsS at e
  cases e2 : r ρ with
  | bad => rw [e2] at e; cases e
  | ex => rw [e2] at e; cases e
  | ok as' ρ2 => rw [e2] at e; cases e; exact congrArg Nat.succ (h _ _ _ e2)
/-- a slot as an argument -/
theorem sim_conS {i : Nat} {tr : TA} {mr : MA} (hr : SimA ul K T E q tr mr) : SimA ul K T E q (tCons (tVar i) tr) (fun ρ => match ρ[i]? with | some (some _) => mConsS i mr ρ | _ => .bad) := fun {F H σ ρ fp Q} S k => by
  match e : ρ[i]? with
  | none => simp only [e] at k; exact k.elim
  | some none => simp only [e] at k; exact k.elim
  | some (some o) =>
    obtain ⟨v, fi, fr, h1, _, _, _⟩ := S.sl.take e
    simp only [e] at k
    refine ⟨v, h1, hr S ?_⟩
    have k3 := Out.bind (p := q) (q := true) (by rw [Bool.and_true]; exact k)
    exact k3.mono fun b ρ2 F2 H2 fp2 s2 S2 fr2 _ k4 vs av => (Out.now S2 k4) _ (.s h1 av)
end
/-! ### a def's own mirror -/
/-- behind the body: what was owned by a parameter, by its slot; a still one is as it was -/
def backP (kp : List Nat) (ρ : Env) : Nat → List O → Option (List O)
  | _, [] => some []
  | i, .f d :: r => (backP kp ρ (i + 1) r).map (.f d :: ·)
  | i, _ :: r => bif decide (i ∈ kp) then (match ρ[i]? with
      | some (some o) => (backP kp ρ (i + 1) r).map (o :: ·)
      | _ => none) else none
def startE (N : Nat) (os : List O) : Env := os.map some ++ List.replicate (N - os.length) none
def mDef (kp : List Nat) (N : Nat) (body : MS) : MF := fun os => match body (startE N os) with
  | .nx ρ => (match backP kp ρ 0 os with | some os' => .ok (.f .non) os' | none => .bad)
  | .rt o ρ => (match backP kp ρ 0 os with | some os' => .ok o os' | none => .bad)
  | .ex x ρ => (match backP kp ρ 0 os with | some os' => .ex x os' | none => .bad)
  | _ => .bad
section
variable {K : PySem.W.Frag} {T : List (Addr × Str)} {E : XK} {kp : List Nat}
theorem start_no {F H : Hp} : ∀ n : Nat, TrS K H F (List.replicate n none) (List.replicate n none) []
  | 0 => .nil
  | n + 1 => .no (start_no n)
theorem start_trs {F H : Hp} (n : Nat) : ∀ {vs : List V} {os : List O} {fa : List Addr}, TrA K H F vs os fa → TrS K H F (vs.map some ++ List.replicate n none) (os.map some ++ List.replicate n none) fa
  | _, _, _, .nil => start_no n
  | _, _, _, .cons h t => .cons h (start_trs n t)
theorem backP_own {ρ : Env} {i : Nat} {o : O} {r os' : List O} (ho : ∀ d, o ≠ .f d) (h : backP kp ρ i (o :: r) = some os') : i ∈ kp ∧ ∃ u us, ρ[i]? = some (some u) ∧ backP kp ρ (i + 1) r = some us ∧ os' = u :: us := by
  have e : backP kp ρ i (o :: r) = bif decide (i ∈ kp) then (match ρ[i]? with | some (some o) => (backP kp ρ (i + 1) r).map (o :: ·) | _ => none) else none := by
    cases o with
    | f d => exact absurd rfl (ho d)
    | L => rfl
    | M => rfl
    | I => rfl
  rw [e] at h
  by_cases hi : i ∈ kp
  · rw [decide_eq_true hi] at h
    refine ⟨hi, ?_⟩
    dsimp only [cond_true] at h
    match q : ρ[i]? with
    | none => rw [q] at h; cases h
    | some none => rw [q] at h; cases h
    | some (some u) =>
      rw [q] at h
      obtain ⟨us, h1, h2⟩ := Option.map_eq_some_iff.mp h
      exact ⟨u, us, rfl, h1, h2.symm⟩
  · rw [decide_eq_false hi] at h; cases h
/-- the parameters behind the body -/
theorem backP_ok {F H : Hp} {F' H' : Hp} {σ' : L2.St} {ρ' : Env} (e : Same F F') : ∀ {vs : List V} {os os' : List O} {fa fq : List Addr} {ρ2 : Env} (i : Nat), TrA K H F vs os fa → (∀ j, i + j ∈ kp → ∀ v, vs[j]? = some v → σ'[i + j]? = some (some v)) → TrS K H' F' σ' ρ2 fq → (∀ j, i ≤ j → ρ2[j]? = ρ'[j]?) →
    backP kp ρ' i os = some os' → ∃ fa' fr, TrA K H' F' vs os' fa' ∧ fq.Perm (fa' ++ fr)
  | [], [], os', _, fq, ρ2, i, .nil, _, t, _, hb => by
    cases hb
    exact ⟨[], fq, .nil, .refl _⟩
  | v :: vs, o :: os, os', _, fq, ρ2, i, .cons (fq := fb) hv ta, hk, t, hr, hb => by
    have hk' : ∀ j, (i + 1) + j ∈ kp → ∀ w, vs[j]? = some w → σ'[(i + 1) + j]? = some (some w) := fun j hj w hw => by
      have := hk (j + 1) (by rw [show i + (j + 1) = i + 1 + j by omega]; exact hj) w (by simpa using hw)
      rwa [show i + (j + 1) = i + 1 + j by omega] at this
    have own : (∀ d, o ≠ .f d) → ∃ fa' fr, TrA K H' F' (v :: vs) os' fa' ∧ fq.Perm (fa' ++ fr) := fun ho => by
      obtain ⟨hi, u, us, h1, h2, rfl⟩ := backP_own ho hb
      obtain ⟨w, fi, f1, g1, g2, g3, g4⟩ := t.take (i := i) (o := u) (by rw [hr i (Nat.le_refl _)]; exact h1)
      have := hk 0 hi v rfl
      rw [Nat.add_zero, g1] at this; cases this
      obtain ⟨fa', fr, h3, h4⟩ := backP_ok e (i + 1) ta hk' g3 (fun j hj => by rw [List.getElem?_set_ne (by omega)]; exact hr j (by omega)) h2
      exact ⟨fi ++ fa', fr, .cons g2 h3, by rw [List.append_assoc]; exact g4.trans (h4.append_left fi)⟩
    cases o with
    | f d =>
      cases hv with
      | f rp =>
        obtain ⟨us, h1, h2⟩ := Option.map_eq_some_iff.mp (show (backP kp ρ' (i + 1) os).map (O.f d :: ·) = some os' from hb)
        subst h2
        obtain ⟨fa', fr, h3, h4⟩ := backP_ok e (i + 1) ta hk' t (fun j hj => hr j (by omega)) h1
        exact ⟨fa', fr, by have := TrA.cons (H := H') (.f (rp.mono e)) h3; exact this, h4⟩
    | L xs => exact own fun d z => by cases z
    | M xs => exact own fun d z => by cases z
    | I xs => exact own fun d z => by cases z
/-- a def by its body -/
theorem sim_def {n : Nat} {N : List Str} {t : TS} {m : MS} {vs : List V} {H : Hp} {Q : VK} (hs : SimS ul K T E kp t m) (h : spM ul K T n (mDef kp N.length m) vs H Q E) : t { nx := fun _ H' => Q .non H', rt := Q } (L2.start N vs) H := by
  obtain ⟨hl, F, os, fa, sb, tb, ta, nd, k⟩ := h
  have hlo : vs.length = os.length := ta.length
  have S : SS ul K T F H (L2.start N vs) (startE N.length os) fa := ⟨sb, tb, by unfold L2.start startE; rw [hlo]; exact start_trs _ ta, nd⟩
  refine hs S ?_
  have hk : ∀ {σ' : L2.St}, (∀ i ∈ kp, σ'[i]? = (L2.start N vs)[i]?) → ∀ j, 0 + j ∈ kp → ∀ v, vs[j]? = some v → σ'[0 + j]? = some (some v) := fun c j hj v hv => by
    rw [c _ hj, Nat.zero_add]
    unfold L2.start
    obtain ⟨hlt, _⟩ := List.getElem?_eq_some_iff.mp hv
    rw [List.getElem?_append_left (by simpa using hlt), List.getElem?_map, hv]; rfl
  unfold mDef at k
  cases e : m (startE N.length os) with
  | bad => rw [e] at k; exact k
  | bk ρ => rw [e] at k; exact k.elim
  | ct ρ => rw [e] at k; exact k.elim
  | nx ρ =>
    simp only [e] at k
    intro F' H' σ' fp' s S' fr c
    cases e2 : backP kp ρ 0 os with
    | none => simp only [e2] at k; exact k.elim
    | some os' =>
      simp only [e2] at k
      obtain ⟨fa', f2, h1, h2⟩ := backP_ok s.le 0 ta (hk c) S'.sl (fun _ _ => rfl) e2
      have nd2 : (fa' ++ f2).Nodup := h2.nodup_iff.mp S'.nd
      exact k .non F' H' [] fa' s S'.sub S'.tabs (.f .non) h1 (by rw [List.nil_append]; exact (List.nodup_append.mp nd2).1) fun a m => fr a (h2.mem_iff.mpr (List.mem_append_left _ (by simpa using m)))
  | rt o ρ =>
    simp only [e] at k
    intro F' H' σ' fp' v fv s S' fr c tv ndv frv
    cases e2 : backP kp ρ 0 os with
    | none => simp only [e2] at k; exact k.elim
    | some os' =>
      simp only [e2] at k
      obtain ⟨fa', f2, h1, h2⟩ := backP_ok s.le 0 ta (hk c) S'.sl (fun _ _ => rfl) e2
      have sub : ∀ a ∈ fa', a ∈ fp' := fun a m => h2.mem_iff.mpr (List.mem_append_left _ m)
      have nd2 : (fa' ++ f2).Nodup := h2.nodup_iff.mp S'.nd
      refine k v F' H' fv fa' s S'.sub S'.tabs tv h1 (List.nodup_append.mpr ⟨(List.nodup_append.mp ndv).1, (List.nodup_append.mp nd2).1, fun a m b m' z => (List.nodup_append.mp ndv).2.2 a m b (sub b m') z⟩) fun a m => ?_
      rcases List.mem_append.mp m with m | m
      · exact frv a m
      · exact fr a (sub a m)
  | ex x ρ =>
    simp only [e] at k
    intro F' H' σ' fp' cc d s S' fr c xr
    cases e2 : backP kp ρ 0 os with
    | none => simp only [e2] at k; exact k.elim
    | some os' =>
      simp only [e2] at k
      obtain ⟨fa', f2, h1, h2⟩ := backP_ok s.le 0 ta (hk c) S'.sl (fun _ _ => rfl) e2
      have nd2 : (fa' ++ f2).Nodup := h2.nodup_iff.mp S'.nd
      exact k cc d F' H' fa' s S'.sub S'.tabs xr h1 (List.nodup_append.mp nd2).1 fun a m => fr a (h2.mem_iff.mpr (List.mem_append_left _ m))
end
end MR

namespace MR
open PySem PySem.Spec PyProof.Rows L2 SW LamX
/-! ### keys of dicts -/
def toK : D → Option Key
  | .int i => some (.inl i)
  | .str x => some (.inr x)
  | _ => none
def toKs : List D → Option (List Key)
  | [] => some []
  | d :: r => (toK d).bind fun k => (toKs r).bind fun ks => some (k :: ks)
def toT : D → Option (List Key)
  | .tup ds => toKs ds
  | _ => none
theorem toK_kD (k : Key) : toK (kD k) = some k := by cases k <;> rfl
theorem kD_of {d : D} {k : Key} (h : toK d = some k) : d = kD k := by
  cases d with
  | int i => cases h; rfl
  | str x => cases h; rfl
  | _ => cases h
theorem toKs_map : ∀ ks : List Key, toKs (ks.map kD) = some ks
  | [] => rfl
  | k :: ks => by
    show (toK (kD k)).bind _ = _
    rw [toK_kD, Option.bind_some, toKs_map ks]; rfl
theorem toKs_of : ∀ {ds : List D} {ks : List Key}, toKs ds = some ks → ds = ks.map kD
  | [], ks, h => by cases h; rfl
  | d :: ds, ks, h => by
    obtain ⟨k, h1, h2⟩ := Option.bind_eq_some_iff.mp (show (toK d).bind _ = some ks from h)
    obtain ⟨r, h3, h4⟩ := Option.bind_eq_some_iff.mp h2
    cases h4
    rw [kD_of h1, toKs_of h3]; rfl
theorem toT_of {d : D} {ks : List Key} (h : toT d = some ks) : d = .tup (ks.map kD) := by
  cases d with
  | tup ds => rw [toKs_of (show toKs ds = some ks from h)]
  | _ => cases h
theorem toT_tup (ks : List Key) : toT (.tup (ks.map kD)) = some ks := toKs_map ks
/-- the entry at a key -/
def lookD {α : Type} (t : Nat) (kvs : List (D × α)) (k : D) : Option (Option α) := match t with
  | 0 => (toK k).map fun q => (kvs.find? fun kv => decide (toK kv.1 = some q)).map (·.2)
  | 1 => (toT k).map fun q => (kvs.find? fun kv => decide (toT kv.1 = some q)).map (·.2)
  | _ => none
def putD {α : Type} (t : Nat) (kvs : List (D × α)) (k : D) (o : α) : Option (List (D × α)) := match t with
  | 0 => (toK k).map fun q => if (kvs.any fun kv => decide (toK kv.1 = some q)) = true then kvs.map (fun kv => if toK kv.1 = some q then (kv.1, o) else kv) else kvs ++ [(k, o)]
  | 1 => (toT k).map fun q => if (kvs.any fun kv => decide (toT kv.1 = some q)) = true then kvs.map (fun kv => if toT kv.1 = some q then (kv.1, o) else kv) else kvs ++ [(k, o)]
  | _ => none
section
variable {K : PySem.W.Frag} {F H : Hp}
theorem key_rp {y : V} {k : Key} (h : Rp K F y (kD k)) : y = kV k ∧ kOk k := by
  cases k with
  | inl i => cases h; exact ⟨rfl, trivial⟩
  | inr x => cases h with | str _ z => exact ⟨rfl, z⟩
theorem keys_rp : ∀ {xs : List V} {ks : List Key}, RpA K F xs (ks.map kD) → xs = ks.map kV ∧ ∀ e ∈ ks, kOk e
  | _, [], h => by cases h; exact ⟨rfl, fun e m => nomatch m⟩
  | _, k :: ks, h => by
    cases h with
    | cons h1 h2 =>
      obtain ⟨rfl, a⟩ := key_rp h1
      obtain ⟨rfl, b⟩ := keys_rp h2
      exact ⟨rfl, fun e m => by
        rcases List.mem_cons.mp m with rfl | m
        · exact a
        · exact b e m⟩
theorem keyT_rp {y : V} {ks : List Key} (h : Rp K F y (.tup (ks.map kD))) : ∃ b, y = .ref b ∧ F b = some (.tup (ks.map kV)) ∧ ∀ e ∈ ks, kOk e := by
  cases h with
  | tup h ra =>
    obtain ⟨rfl, a⟩ := keys_rp ra
    exact ⟨_, rfl, h, a⟩
theorem decK {k q : Key} : decide (toK (kD k) = some q) = decide (k = q) := by rw [toK_kD]; simp
theorem decT {k q : List Key} : decide (toT (.tup (k.map kD)) = some q) = decide (k = q) := by rw [toT_tup]; simp
theorem TrK.get {q : Key} : ∀ {kvs : List (Key × V)} {os : List (D × O)} {fp : List Addr}, TrK K H F kvs os fp →
    (valV kvs q = none ∧ (os.find? fun kv => decide (toK kv.1 = some q)).map (·.2) = none) ∨ ∃ v o fi, valV kvs q = some v ∧ (os.find? fun kv => decide (toK kv.1 = some q)).map (·.2) = some o ∧ Tr K H F v o fi ∧ ∀ a ∈ fi, a ∈ fp
  | _, _, _, .nil => .inl ⟨rfl, rfl⟩
  | _, _, _, .cons (k := k) (v := v) (o := o) (fp := f1) (fq := f2) hk h t => by
    by_cases e : k = q
    · refine .inr ⟨v, o, f1, ?_, ?_, h, fun a m => List.mem_append_left _ m⟩
      · unfold valV; rw [List.find?_cons_of_pos (by simpa using e)]; rfl
      · rw [List.find?_cons_of_pos (by show decide (toK (kD k) = some q) = true; rw [decK]; simpa using e)]; rfl
    · have e1 : ∀ vs, valV ((k, v) :: vs) q = valV vs q := fun vs => by unfold valV; rw [List.find?_cons_of_neg (by simpa using e)]
      have e2 : ∀ os : List (D × O), ((kD k, o) :: os).find? (fun kv => decide (toK kv.1 = some q)) = os.find? (fun kv => decide (toK kv.1 = some q)) := fun os => by rw [List.find?_cons_of_neg (by show ¬ decide (toK (kD k) = some q) = true; rw [decK]; simpa using e)]
      rw [e1, e2]
      rcases TrK.get t with z | ⟨v', o', fi, h1, h2, h3, h4⟩
      · exact .inl z
      · exact .inr ⟨v', o', fi, h1, h2, h3, fun a m => List.mem_append_right _ (h4 a m)⟩
theorem TrT.get {q : List Key} : ∀ {kvs : List (List Key × V)} {os : List (D × O)} {fp : List Addr}, TrT K H F kvs os fp →
    (valV kvs q = none ∧ (os.find? fun kv => decide (toT kv.1 = some q)).map (·.2) = none) ∨ ∃ v o fi, valV kvs q = some v ∧ (os.find? fun kv => decide (toT kv.1 = some q)).map (·.2) = some o ∧ Tr K H F v o fi ∧ ∀ a ∈ fi, a ∈ fp
  | _, _, _, .nil => .inl ⟨rfl, rfl⟩
  | _, _, _, .cons (k := k) (v := v) (o := o) (fp := f1) (fq := f2) hk h t => by
    by_cases e : k = q
    · refine .inr ⟨v, o, f1, ?_, ?_, h, fun a m => List.mem_append_left _ m⟩
      · unfold valV; rw [List.find?_cons_of_pos (by simpa using e)]; rfl
      · rw [List.find?_cons_of_pos (by show decide (toT (.tup (k.map kD)) = some q) = true; rw [decT]; simpa using e)]; rfl
    · have e1 : ∀ vs, valV ((k, v) :: vs) q = valV vs q := fun vs => by unfold valV; rw [List.find?_cons_of_neg (by simpa using e)]
      have e2 : ∀ os : List (D × O), ((D.tup (k.map kD), o) :: os).find? (fun kv => decide (toT kv.1 = some q)) = os.find? (fun kv => decide (toT kv.1 = some q)) := fun os => by rw [List.find?_cons_of_neg (by show ¬ decide (toT (.tup (k.map kD)) = some q) = true; rw [decT]; simpa using e)]
      rw [e1, e2]
      rcases TrT.get t with z | ⟨v', o', fi, h1, h2, h3, h4⟩
      · exact .inl z
      · exact .inr ⟨v', o', fi, h1, h2, h3, fun a m => List.mem_append_right _ (h4 a m)⟩
/-- a still dict as an owned one of still things -/
theorem RpK.tr : ∀ {kvs : List (Key × V)} {ds : List (D × D)}, RpK K F kvs ds → TrK K H F kvs (ds.map fun q => (q.1, .f q.2)) []
  | _, _, .nil => .nil
  | _, _, .cons k h t => by have := TrK.cons (H := H) k (.f h) (RpK.tr t); exact this
theorem RpT.tr : ∀ {kvs : List (List Key × V)} {ds : List (D × D)}, RpT K F kvs ds → TrT K H F kvs (ds.map fun q => (q.1, .f q.2)) []
  | _, _, .nil => .nil
  | _, _, .cons k h t => by have := TrT.cons (H := H) k (.f h) (RpT.tr t); exact this
theorem RpF.tr : ∀ {fs : List (Str × V)} {ds : List (Str × D)}, RpF K F fs ds → TrF K H F fs (ds.map fun q => (q.1, .f q.2)) []
  | _, _, .nil => .nil
  | _, _, .cons (k := k) h t => by have := TrF.cons (H := H) (k := k) (.f h) (RpF.tr t); exact this
theorem TrF.get {f : Str} : ∀ {fs : List (Str × V)} {os : List (Str × O)} {fp : List Addr} {o : O}, TrF K H F fs os fp → os.lookup f = some o → ∃ v fi, fs.lookup f = some v ∧ Tr K H F v o fi ∧ ∀ a ∈ fi, a ∈ fp
  | _, _, _, _, .nil, e => by cases e
  | _, _, _, _, .cons (k := k) (v := v) (o := o) h t, e => by
    by_cases c : (f == k) = true
    · rw [List.lookup_cons, c] at e
      cases e
      exact ⟨v, _, by rw [List.lookup_cons, c], h, fun a m => List.mem_append_left _ m⟩
    · have c' : (f == k) = false := by simpa using c
      rw [List.lookup_cons, c'] at e
      obtain ⟨v', fi, h1, h2, h3⟩ := TrF.get t e
      exact ⟨v', fi, by rw [List.lookup_cons, c']; exact h1, h2, fun a m => List.mem_append_right _ (h3 a m)⟩
theorem TrF.no {f : Str} : ∀ {fs : List (Str × V)} {os : List (Str × O)} {fp : List Addr}, TrF K H F fs os fp → os.lookup f = none → fs.lookup f = none
  | _, _, _, .nil, _ => rfl
  | _, _, _, .cons (k := k) (v := v) (o := o) h t, e => by
    by_cases c : (f == k) = true
    · rw [List.lookup_cons, c] at e; cases e
    · have c' : (f == k) = false := by simpa using c
      rw [List.lookup_cons, c'] at e
      rw [List.lookup_cons, c']; exact TrF.no t e
theorem TrF.length : ∀ {fs : List (Str × V)} {os : List (Str × O)} {fp : List Addr}, TrF K H F fs os fp → fs.length = os.length
  | _, _, _, .nil => rfl
  | _, _, _, .cons _ t => congrArg Nat.succ (TrF.length t)
end
/-! ### fields -/
def fldO (f : Str) : O → Option O
  | .I C fs => bif decide (f ∈ fldsOf C) then fs.lookup f else none
  | .f (.ins C fs) => bif decide (f ∈ fldsOf C) then (fs.lookup f).map .f else none
  | _ => none
def mFld (f : Str) (m : ME) : ME := fun ρ => (m ρ).bind fun o ρ1 => RE.of (fldO f o) ρ1
def putO (f : Str) (v : O) : List (Str × O) → List (Str × O)
  | [] => [(f, v)]
  | (g, x) :: r => if g = f then (g, v) :: r else (g, x) :: putO f v r
def mFldS (i : Nat) (f : Str) (m : ME) : MS := fun ρ => (m ρ).to fun o ρ1 => match ρ1[i]? with
  | some (some (.I C fs)) => bif decide (f ∈ fldsOf C) && decide (fs.length < 100) then .nx (ρ1.set i (some (.I C (putO f o fs)))) else .bad
  | _ => .bad
section
variable {K : PySem.W.Frag} {T : List (Addr × Str)} {E : XK} {kp : List Nat} {p q : Bool} {ta tb tc te : TE} {ma mb mc me : ME}
theorem lookup_map {f : Str} : ∀ (ds : List (Str × D)), (ds.map fun q => (q.1, O.f q.2)).lookup f = (ds.lookup f).map O.f
  | [] => rfl
  | (k, d) :: r => by
    by_cases c : (f == k) = true
    · rw [List.map_cons, List.lookup_cons, List.lookup_cons]; simp only [c, Option.map_some]
    · have c' : (f == k) = false := by simpa using c
      rw [List.map_cons, List.lookup_cons, List.lookup_cons]
      simp only [c']
      exact lookup_map r
theorem sim_fld {f : Str} (ha : SimR ul K T E p ta ma) : SimR ul K T E p (tFld K ta f) (mFld f ma) := fun {F H σ ρ fp Q} S k => by
  refine ha S ?_
  have k1 := Out.bind (p := p) (q := true) (by rw [Bool.and_true]; exact k)
  refine k1.mono fun o ρ1 F1 H1 fp1 s1 S1 fr1 _ k2 v fv t => ?_
  have fin : ∀ (a dx : Addr) (C : Str) (fs : List (Str × V)) (os : List (Str × O)) (fq : List Addr), InsOk K C → H1 a = some (.ins (He.ga K C) dx fs) → TrF K H1 F1 fs os fq → Out ul K T E true F1 H1 σ ρ1 fp1 (QR K Q) (RE.of (bif decide (f ∈ fldsOf C) then os.lookup f else none) ρ1) →
      ∃ a' C' dx' fs' v', V.ref a = .ref a' ∧ H1 a' = some (.ins C' dx' fs') ∧ Cls K C' ∧ NoAttr K C' f ∧ fs'.lookup f = some v' ∧ Q v' H1 := fun a dx C fs os fq ok hx tf kk => by
    by_cases hC : f ∈ fldsOf C
    · rw [decide_eq_true hC] at kk
      dsimp only [cond_true] at kk
      cases e : os.lookup f with
      | none => rw [e] at kk; exact kk.elim
      | some o' =>
        rw [e] at kk
        obtain ⟨v', fi, h1, h2, h3⟩ := tf.get e
        exact ⟨a, _, dx, fs, v', rfl, hx, ok.f.cls, ok.f.no f hC, h1, (Out.now S1 kk) v' fi h2⟩
    · rw [decide_eq_false hC] at kk; exact kk.elim
  cases t with
  | f rp =>
    cases rp with
    | ins ok hx rf =>
      rename_i a dx C fs ds
      have hx' : H1 a = some (.ins (He.ga K C) dx fs) := by
        obtain ⟨_, h | ⟨z, _⟩⟩ := S1.sub a _ hx
        · exact h
        · exact z.elim
      refine fin a dx C fs _ [] ok hx' (RpF.tr rf) ?_
      have : fldO f (.f (.ins C ds)) = (bif decide (f ∈ fldsOf C) then (ds.map fun q => (q.1, O.f q.2)).lookup f else none) := by rw [lookup_map]; rfl
      rw [← this]; exact k2
    | _ => exact k2.elim
  | I ok hx hn tf => exact fin _ _ _ _ _ _ ok hx tf k2
  | _ => exact k2.elim
theorem TrF.putF {F H : Hp} {f : Str} {v : V} {o : O} {fv : List Addr} (tv : Tr K H F v o fv) : ∀ {fs : List (Str × V)} {os : List (Str × O)} {fp : List Addr}, TrF K H F fs os fp → (fv ++ fp).Nodup → ∃ fq, TrF K H F (L2.putF f v fs) (putO f o os) fq ∧ fq.Nodup ∧ ∀ a ∈ fq, a ∈ fv ++ fp
  | _, _, _, .nil, nd => ⟨fv ++ [], .cons tv .nil, nd, fun a m => m⟩
  | _, _, _, .cons (k := g) (v := x) (o := u) (fp := f1) (fq := f2) h t, nd => by
    by_cases e : g = f
    · refine ⟨fv ++ f2, ?_, ?_, fun a m => ?_⟩
      · unfold L2.putF MR.putO; rw [if_pos e, if_pos e]; exact .cons tv t
      · refine List.nodup_append.mpr ⟨(List.nodup_append.mp nd).1, (List.nodup_append.mp (List.nodup_append.mp nd).2.1).2.1, fun a m b m' z => (List.nodup_append.mp nd).2.2 a m b (List.mem_append_right _ m') z⟩
      · rcases List.mem_append.mp m with m | m
        · exact List.mem_append_left _ m
        · exact List.mem_append_right _ (List.mem_append_right _ m)
    · obtain ⟨fq, h1, h2, h3⟩ := TrF.putF tv t (List.nodup_append.mpr ⟨(List.nodup_append.mp nd).1, (List.nodup_append.mp (List.nodup_append.mp nd).2.1).2.1, fun a m b m' z => (List.nodup_append.mp nd).2.2 a m b (List.mem_append_right _ m') z⟩)
      refine ⟨f1 ++ fq, ?_, ?_, fun a m => ?_⟩
      · unfold L2.putF MR.putO; rw [if_neg e, if_neg e]; exact .cons h h1
      · refine List.nodup_append.mpr ⟨(List.nodup_append.mp (List.nodup_append.mp nd).2.1).1, h2, fun a m b m' z => ?_⟩
        subst z
        rcases List.mem_append.mp (h3 a m') with m' | m'
        · exact (List.nodup_append.mp nd).2.2 a m' a (List.mem_append_left _ m) rfl
        · exact (List.nodup_append.mp (List.nodup_append.mp nd).2.1).2.2 a m a m' rfl
      · rcases List.mem_append.mp m with m | m
        · exact List.mem_append_right _ (List.mem_append_left _ m)
        · rcases List.mem_append.mp (h3 a m) with m | m
          · exact List.mem_append_left _ m
          · exact List.mem_append_right _ (List.mem_append_right _ m)
/-- a slot's own cell is written -/
theorem SS.mut {F H : Hp} {σ : L2.St} {ρ : Env} {fr : List Addr} {i : Nat} {a : Addr} {u : HO} {o1 : O} {f1 : List Addr} (sb : Sub ul F H) (tb : Tabs T H) (tr : TrS K H F σ (ρ.set i none) fr) (hi : ∃ z, ρ[i]? = some z) (hs : σ[i]? = some (some (.ref a))) (hf : F a = none) (hc : ∀ u, H a = some u → Cel u)
    (t : Tr K (L2.upd H a u) F (.ref a) o1 (a :: f1)) (nd : (a :: (f1 ++ fr)).Nodup) : ∃ fq, SS ul K T F (L2.upd H a u) σ (ρ.set i (some o1)) fq ∧ ∀ b ∈ fq, b ∈ a :: (f1 ++ fr) := by
  have ha : a ∉ fr := fun m => (List.nodup_cons.mp nd).1 (List.mem_append_right _ m)
  obtain ⟨z, hz⟩ := hi
  obtain ⟨fq, h1, h2⟩ := (tr.mono (Same.refl F) (stay_upd (o := u) ha)).put (i := i) (get_set hz) hs t
  rw [set_self] at h1
  refine ⟨fq, ⟨sb.upd hf, Tabs.upd tb hc, h1, h2.nodup_iff.mpr nd⟩, fun b m => h2.mem_iff.mp m⟩
theorem Stp.upd {F H : Hp} {fp : List Addr} {a : Addr} {u : HO} (ha : a ∈ fp) (hf : F a = none) (hu : NT u := by intro _ z; cases z) : Stp false fp F H F (L2.upd H a u) := by
  refine ⟨Same.refl _, fun b o h _ c => ?_, fun _ _ _ _ h _ => h, fun b h => ?_, fun b w o h1 h2 => ?_, fun b w h n => by rw [n] at h; cases h⟩
  · rcases c with c | c
    · rw [upd_ne (fun z => c (by rw [z]; exact ha))]; exact h
    · exact nomatch c
  · intro o e n
    by_cases z : b = a
    · subst z; exact h _ upd_same hu
    · exact h o (by rw [upd_ne z]; exact e) n
  · rw [upd_ne (fun z => by subst z; rw [hf] at h1; cases h1)]; exact h2
theorem sim_fldS {i : Nat} {f : Str} (hv : SimE ul K T E p te me) : SimS ul K T E kp (sFld K (tVar i) te f) (mFldS i f me) := fun {F H σ ρ fp D} S k => by
  refine hv S (Out.to' k fun o ρ1 F1 H1 fp1 k1 s1 S1 fr1 v fv tv nd frv => ?_)
  match e : ρ1[i]? with
  | none => simp only [e] at k1; exact k1.elim
  | some none => simp only [e] at k1; exact k1.elim
  | some (some (.f _)) => simp only [e] at k1; exact k1.elim
  | some (some (.L _)) => simp only [e] at k1; exact k1.elim
  | some (some (.M _ _)) => simp only [e] at k1; exact k1.elim
  | some (some (.I C fs)) =>
    simp only [e] at k1
    by_cases hC : f ∈ fldsOf C
    · by_cases hl : fs.length < 100
      · simp only [decide_eq_true hC, decide_eq_true hl, Bool.and_self, cond_true] at k1
        obtain ⟨x, fi, fr, g1, g2, g3, g4⟩ := S1.sl.take e
        cases g2 with
        | I ok hx hn tf =>
          rename_i a dx vs f0
          have nd1 : (a :: (f0 ++ fr)).Nodup := g4.nodup_iff.mp S1.nd
          have sb1 : ∀ b ∈ a :: (f0 ++ fr), b ∈ fp1 := fun b m => g4.mem_iff.mpr m
          have ndv : (fv ++ f0).Nodup := List.nodup_append.mpr ⟨(List.nodup_append.mp nd).1, (List.nodup_append.mp (List.nodup_cons.mp nd1).2).1, fun b m c m' z => (List.nodup_append.mp nd).2.2 b m c (sb1 c (List.mem_cons_of_mem _ (List.mem_append_left _ m'))) z⟩
          obtain ⟨fq, h1, h2, h3⟩ := TrF.putF (f := f) tv tf ndv
          have nav : a ∉ fv := fun m => (List.nodup_append.mp nd).2.2 a m a (sb1 a List.mem_cons_self) rfl
          have naq : a ∉ fq := fun m => by
            rcases List.mem_append.mp (h3 a m) with m | m
            · exact nav m
            · exact (List.nodup_cons.mp nd1).1 (List.mem_append_left _ m)
          have nd2 : (a :: (fq ++ fr)).Nodup := List.nodup_cons.mpr ⟨fun m => by
            rcases List.mem_append.mp m with m | m
            · exact naq m
            · exact (List.nodup_cons.mp nd1).1 (List.mem_append_right _ m), List.nodup_append.mpr ⟨h2, (List.nodup_append.mp (List.nodup_cons.mp nd1).2).2.1, fun b m c m' z => by
              subst z
              rcases List.mem_append.mp (h3 b m) with m | m
              · exact (List.nodup_append.mp nd).2.2 b m b (sb1 b (List.mem_cons_of_mem _ (List.mem_append_right _ m'))) rfl
              · exact (List.nodup_append.mp (List.nodup_cons.mp nd1).2).2.2 b m b m' rfl⟩⟩
          have c1 := ok.f.cls
          have c2 := ok.f.no f hC
          have T2 : Tr K (L2.upd H1 a (.ins (He.ga K C) dx (L2.putF f v vs))) F1 (.ref a) (.I C (putO f o fs)) (a :: fq) := .I ok upd_same hn (h1.mono (Same.refl _) (stay_upd naq))
          obtain ⟨fz, S2, hz⟩ := SS.mut S1.sub S1.tabs g3 ⟨_, e⟩ g1 hn (fun u q => by rw [hx] at q; cases q; trivial) T2 nd2
          have ia : a ∈ fp1 := sb1 a List.mem_cons_self
          refine ⟨_, g1, a, _, dx, vs, rfl, hx, c1, c2, by rw [tf.length]; omega, ?_⟩
          refine k1 F1 _ σ fz ((s1.trans fr1 (Stp.upd ia hn)).imp fun z => nomatch z) S2 (fun b m => ?_) fun _ _ => rfl
          rcases List.mem_cons.mp (hz b m) with rfl | m
          · exact fr1 b ia
          · rcases List.mem_append.mp m with m | m
            · rcases List.mem_append.mp (h3 b m) with m | m
              · exact frv b m
              · exact fr1 b (sb1 b (List.mem_cons_of_mem _ (List.mem_append_left _ m)))
            · exact fr1 b (sb1 b (List.mem_cons_of_mem _ (List.mem_append_right _ m)))
      · simp only [decide_eq_false hl, Bool.and_false, cond_false] at k1; exact k1.elim
    · simp only [decide_eq_false hC, Bool.false_and, cond_false] at k1; exact k1.elim
/-! ### lists of a slot, changed -/
/-- what is needed to write the list of slot i -/
theorem SS.focL {F H : Hp} {σ : L2.St} {ρ : Env} {fp : List Addr} {i : Nat} {os : List O} (S : SS ul K T F H σ ρ fp) (e : ρ[i]? = some (some (.L os))) :
    ∃ a vs fa fr, σ[i]? = some (some (.ref a)) ∧ H a = some (.lst vs) ∧ F a = none ∧ TrA K H F vs os fa ∧ (a :: (fa ++ fr)).Nodup ∧ (∀ b ∈ a :: (fa ++ fr), b ∈ fp) ∧ (∀ b ∈ fp, b ∈ a :: (fa ++ fr)) ∧
      ∀ vs' os' fa', TrA K H F vs' os' fa' → (a :: (fa' ++ fr)).Nodup → ∃ fq, SS ul K T F (L2.upd H a (.lst vs')) σ (ρ.set i (some (.L os'))) fq ∧ ∀ b ∈ fq, b ∈ a :: (fa' ++ fr) := by
  obtain ⟨x, fi, fr, g1, g2, g3, g4⟩ := S.sl.take e
  cases g2 with
  | L hx hn ta =>
    rename_i a vs f0
    have nd1 : (a :: (f0 ++ fr)).Nodup := g4.nodup_iff.mp S.nd
    refine ⟨a, vs, f0, fr, g1, hx, hn, ta, nd1, fun b m => g4.mem_iff.mpr m, fun b m => g4.mem_iff.mp m, fun vs' os' fa' ta' nd' => ?_⟩
    have naq : a ∉ fa' := fun m => (List.nodup_cons.mp nd').1 (List.mem_append_left _ m)
    exact SS.mut S.sub S.tabs g3 ⟨_, e⟩ g1 hn (fun u q => by rw [hx] at q; cases q; trivial) (.L upd_same hn (ta'.mono (Same.refl _) (stay_upd naq))) nd'
def mApp (i : Nat) (m : ME) : ME := fun ρ => match ρ[i]? with
  | some (some (.L _)) => (m ρ).bind fun o ρ1 => (match ρ1[i]? with
    | some (some (.L xs)) => bif decide (xs.length < 100000) then .ok (.f .non) (ρ1.set i (some (.L (xs ++ [o])))) else .bad
    | _ => .bad)
  | _ => .bad
theorem sim_app {i : Nat} (hv : SimE ul K T E p te me) : SimE ul K T E false (tBM K "list" rAppend (tVar i) (tCons te tNil)) (mApp i me) := fun {F H σ ρ fp Q} S k => by
  unfold mApp at k
  match e0 : ρ[i]? with
  | none => simp only [e0] at k; exact k.elim
  | some none => simp only [e0] at k; exact k.elim
  | some (some (.f _)) => simp only [e0] at k; exact k.elim
  | some (some (.M _ _)) => simp only [e0] at k; exact k.elim
  | some (some (.I _ _)) => simp only [e0] at k; exact k.elim
  | some (some (.L os0)) =>
    simp only [e0] at k
    obtain ⟨a, vs, fa, fr, h1, h2, h3, h4, h5, h6, h6', h7⟩ := S.focL e0
    refine ⟨_, h1, .inl ⟨rfl, vs, .inl (.inl h2)⟩, hv S ?_⟩
    cases e1 : me ρ with
    | bad => rw [e1] at k; exact k.elim
    | ex x ρ1 => rw [e1] at k; exact fun F' H' fp' c d s S' fr xr => k F' H' fp' c d (s.imp fun z => nomatch z) S' fr xr
    | ok o ρ1 =>
      rw [e1] at k
      dsimp only [RE.bind] at k
      intro F1 H1 fp1 s1 S1 fr1 _ v fv tv nd frv
      show rAppend (.ref a) [v] H1 Q
      match e : ρ1[i]? with
      | none => simp only [e] at k; exact k.elim
      | some none => simp only [e] at k; exact k.elim
      | some (some (.f _)) => simp only [e] at k; exact k.elim
      | some (some (.M _ _)) => simp only [e] at k; exact k.elim
      | some (some (.I _ _)) => simp only [e] at k; exact k.elim
      | some (some (.L xs)) =>
        simp only [e] at k
        by_cases hl : xs.length < 100000
        · simp only [decide_eq_true hl, cond_true] at k
          obtain ⟨a', us, fb, fc, g1, g2, g3, g4, g5, g6, g6', g7⟩ := S1.focL e
          rw [h1] at g1; cases g1
          have nav : a ∉ fv := fun m => (List.nodup_append.mp nd).2.2 a m a (g6 a List.mem_cons_self) rfl
          have ndz : (a :: ((fb ++ fv) ++ fc)).Nodup := by
            obtain ⟨n1, n2⟩ := List.nodup_cons.mp g5
            refine List.nodup_cons.mpr ⟨fun m => ?_, ?_⟩
            · rcases List.mem_append.mp m with m | m
              · rcases List.mem_append.mp m with m | m
                · exact n1 (List.mem_append_left _ m)
                · exact nav m
              · exact n1 (List.mem_append_right _ m)
            · refine List.nodup_append.mpr ⟨List.nodup_append.mpr ⟨(List.nodup_append.mp n2).1, (List.nodup_append.mp nd).1, fun b m c m' z => ?_⟩, (List.nodup_append.mp n2).2.1, fun b m c m' z => ?_⟩
              · exact (List.nodup_append.mp nd).2.2 c m' b (g6 b (List.mem_cons_of_mem _ (List.mem_append_left _ m))) z.symm
              · rcases List.mem_append.mp m with m | m
                · exact (List.nodup_append.mp n2).2.2 b m c m' z
                · exact (List.nodup_append.mp nd).2.2 b m c (g6 c (List.mem_cons_of_mem _ (List.mem_append_right _ m'))) z
          have tav : TrA K H1 F1 (us ++ [v]) (xs ++ [o]) (fb ++ fv) := by
            have := g4.append (TrA.cons tv .nil)
            rwa [List.append_nil] at this
          obtain ⟨fq, S2, hq⟩ := g7 _ _ _ tav ndz
          refine ⟨a, us, v, rfl, rfl, g2, by rw [g4.length, sizeLine_eq]; omega, ?_⟩
          refine k F1 _ fq ((s1.trans fr1 (Stp.upd (g6 a List.mem_cons_self) g3)).imp fun z => nomatch z) S2 (fun b m => ?_) (fun z => nomatch z) .non [] (.f .non) (by rw [List.nil_append]; exact S2.nd) fun b m => nomatch m
          rcases List.mem_cons.mp (hq b m) with rfl | m
          · exact fr1 b (g6 b List.mem_cons_self)
          · rcases List.mem_append.mp m with m | m
            · rcases List.mem_append.mp m with m | m
              · exact fr1 b (g6 b (List.mem_cons_of_mem _ (List.mem_append_left _ m)))
              · exact frv b m
            · exact fr1 b (g6 b (List.mem_cons_of_mem _ (List.mem_append_right _ m)))
        · simp only [decide_eq_false hl, cond_false] at k; exact k.elim
theorem TrA.setA {F H : Hp} {v : V} {o : O} {fv : List Addr} (tv : Tr K H F v o fv) : ∀ {vs : List V} {os : List O} {fp : List Addr} (j : Nat), TrA K H F vs os fp → (fv ++ fp).Nodup → ∃ fq, TrA K H F (vs.set j v) (os.set j o) fq ∧ fq.Nodup ∧ ∀ a ∈ fq, a ∈ fv ++ fp
  | _, _, _, j, .nil, nd => ⟨[], .nil, List.nodup_nil, fun a m => nomatch m⟩
  | _, _, _, 0, .cons (fp := f1) (fq := f2) h t, nd => by
    refine ⟨fv ++ f2, .cons tv t, ?_, fun a m => ?_⟩
    · exact List.nodup_append.mpr ⟨(List.nodup_append.mp nd).1, (List.nodup_append.mp (List.nodup_append.mp nd).2.1).2.1, fun a m b m' z => (List.nodup_append.mp nd).2.2 a m b (List.mem_append_right _ m') z⟩
    · rcases List.mem_append.mp m with m | m
      · exact List.mem_append_left _ m
      · exact List.mem_append_right _ (List.mem_append_right _ m)
  | _, _, _, j + 1, .cons (fp := f1) (fq := f2) h t, nd => by
    obtain ⟨fq, h1, h2, h3⟩ := TrA.setA tv j t (List.nodup_append.mpr ⟨(List.nodup_append.mp nd).1, (List.nodup_append.mp (List.nodup_append.mp nd).2.1).2.1, fun a m b m' z => (List.nodup_append.mp nd).2.2 a m b (List.mem_append_right _ m') z⟩)
    refine ⟨f1 ++ fq, .cons h h1, ?_, fun a m => ?_⟩
    · refine List.nodup_append.mpr ⟨(List.nodup_append.mp (List.nodup_append.mp nd).2.1).1, h2, fun a m b m' z => ?_⟩
      subst z
      rcases List.mem_append.mp (h3 a m') with m' | m'
      · exact (List.nodup_append.mp nd).2.2 a m' a (List.mem_append_left _ m) rfl
      · exact (List.nodup_append.mp (List.nodup_append.mp nd).2.1).2.2 a m a m' rfl
    · rcases List.mem_append.mp m with m | m
      · exact List.mem_append_right _ (List.mem_append_left _ m)
      · rcases List.mem_append.mp (h3 a m) with m | m
        · exact List.mem_append_left _ m
        · exact List.mem_append_right _ (List.mem_append_right _ m)
/-- x[j] = e, x the list of slot i -/
def mSetL (i : Nat) (mj m : ME) : MS := fun ρ => (m ρ).to fun o ρ1 => match ρ1[i]? with
  | some (some (.L xs)) => (mj ρ1).to fun oj _ => (match oj with
    | .f (.int k) => (match ixN xs.length k with
      | some j => .nx (ρ1.set i (some (.L (xs.set j o))))
      | none => .bad)
    | _ => .bad)
  | _ => .bad
/-- a temporary value and the slots, over a step that leaves them -/
theorem nodup_ins {a : Addr} {fb fc fv fd : List Addr} {fp : List Addr} (g5 : (a :: (fb ++ fc)).Nodup) (g6 : ∀ b ∈ a :: (fb ++ fc), b ∈ fp) (nd : (fv ++ fp).Nodup) (h2 : fd.Nodup) (h3 : ∀ b ∈ fd, b ∈ fv ++ fb) : (a :: (fd ++ fc)).Nodup := by
  obtain ⟨n1, n2⟩ := List.nodup_cons.mp g5
  have nav : a ∉ fv := fun m => (List.nodup_append.mp nd).2.2 a m a (g6 a List.mem_cons_self) rfl
  refine List.nodup_cons.mpr ⟨fun m => ?_, List.nodup_append.mpr ⟨h2, (List.nodup_append.mp n2).2.1, fun b m c m' z => ?_⟩⟩
  · rcases List.mem_append.mp m with m | m
    · rcases List.mem_append.mp (h3 a m) with m | m
      · exact nav m
      · exact n1 (List.mem_append_left _ m)
    · exact n1 (List.mem_append_right _ m)
  · subst z
    rcases List.mem_append.mp (h3 b m) with m | m
    · exact (List.nodup_append.mp nd).2.2 b m b (g6 b (List.mem_cons_of_mem _ (List.mem_append_right _ m'))) rfl
    · exact (List.nodup_append.mp n2).2.2 b m b m' rfl
theorem fre_ins {H0 : Hp} {fp0 : List Addr} {a : Addr} {fb fc fv fd fq : List Addr} {fp : List Addr} (g6 : ∀ b ∈ a :: (fb ++ fc), b ∈ fp) (fr : Fre H0 fp0 fp) (frv : Fre H0 fp0 fv) (h3 : ∀ b ∈ fd, b ∈ fv ++ fb) (hq : ∀ b ∈ fq, b ∈ a :: (fd ++ fc)) : Fre H0 fp0 fq := fun b m => by
  rcases List.mem_cons.mp (hq b m) with rfl | m
  · exact fr b (g6 b List.mem_cons_self)
  · rcases List.mem_append.mp m with m | m
    · rcases List.mem_append.mp (h3 b m) with m | m
      · exact frv b m
      · exact fr b (g6 b (List.mem_cons_of_mem _ (List.mem_append_left _ m)))
    · exact fr b (g6 b (List.mem_cons_of_mem _ (List.mem_append_right _ m)))
theorem sim_setL {i : Nat} (hv : SimE ul K T E p te me) (hj : SimR ul K T E true tb mb) : SimS ul K T E kp (tAsg te (gSub (tVar i) tb rSetL)) (mSetL i mb me) := fun {F H σ ρ fp D} S k => by
  refine hv S (Out.to' k fun o ρ1 F1 H1 fp1 k1 s1 S1 fr1 v fv tv nd frv => ?_)
  match e : ρ1[i]? with
  | none => simp only [e] at k1; exact k1.elim
  | some none => simp only [e] at k1; exact k1.elim
  | some (some (.f _)) => simp only [e] at k1; exact k1.elim
  | some (some (.M _ _)) => simp only [e] at k1; exact k1.elim
  | some (some (.I _ _)) => simp only [e] at k1; exact k1.elim
  | some (some (.L xs)) =>
    simp only [e] at k1
    obtain ⟨a, us, fb, fc, g1, _⟩ := S1.focL e
    refine ⟨_, g1, hj S1 ?_⟩
    cases e1 : mb ρ1 with
    | bad => rw [e1] at k1; exact k1.elim
    | ex x ρ2 => rw [e1] at k1; exact fun F' H' fp' c d s S' fr xr => k1 F' H' σ fp' c d ((s1.trans fr1 s).imp fun z => nomatch z) S' (fr1.trans s1 fr) (fun _ _ => rfl) xr
    | ok oj ρ2 =>
      rw [e1] at k1
      intro F2 H2 fp2 s2 S2 fr2 c2 w fw tw
      obtain ⟨rfl, rfl⟩ := c2 rfl
      dsimp only [RE.to] at k1
      have tv2 := tv.mono s2.le (s2.stayP)
      cases tw with
      | f rp =>
        cases rp with
        | int kk =>
          dsimp only at k1
          cases hix : ixN xs.length kk with
          | none => simp only [hix] at k1; exact k1.elim
          | some j =>
            simp only [hix] at k1
            obtain ⟨a', us', fb', fc', q1, q2, q3, q4, q5, q6, q6', q7⟩ := S2.focL e
            rw [g1] at q1; cases q1
            have ndv : (fv ++ fb').Nodup := List.nodup_append.mpr ⟨(List.nodup_append.mp nd).1, (List.nodup_append.mp (List.nodup_cons.mp q5).2).1, fun b m c m' z => (List.nodup_append.mp nd).2.2 b m c (q6 c (List.mem_cons_of_mem _ (List.mem_append_left _ m'))) z⟩
            obtain ⟨fd, h1, h2, h3⟩ := TrA.setA tv2 j q4 ndv
            obtain ⟨fq, S3, hq⟩ := q7 _ _ _ h1 (nodup_ins q5 q6 nd h2 h3)
            refine ⟨a, us', kk, j, rfl, rfl, q2, by rw [q4.length]; exact hix, ?_⟩
            exact k1 F2 _ σ fq ((s1.trans fr1 (s2.trans (p := true) .refl (Stp.upd (q6 a List.mem_cons_self) q3))).imp fun z => nomatch z) S3 (fre_ins q6 fr1 frv h3 hq) fun _ _ => rfl
        | _ => exact k1.elim
      | _ => exact k1.elim
end
end MR

namespace MR
open PySem PySem.Spec PyProof.Rows L2 SW LamX
/-! ### data as the kit's data -/
mutual
def D.pd : D → Option PyData
  | .non => some .none
  | .bl b => some (.bool b)
  | .int i => some (.int i)
  | .str x => some (.str x)
  | .lst xs => (D.pdA xs).map .list
  | .tup xs => (D.pdA xs).map .tuple
  | .kt xs => (D.pdA xs).map .tuple
  | .kl xs => (D.pdA xs).map .list
  | .dct _ _ => none
  | .ins _ _ => none
def D.pdA : List D → Option (List PyData)
  | [] => some []
  | x :: xs => x.pd.bind fun a => (D.pdA xs).bind fun r => some (a :: r)
end
section
variable {K : PySem.W.Frag} {F H : Hp}
theorem sqT_of {a : Addr} {xs : List V} (s : Sub ul F H) (h : F a = some (.tup xs)) : SqT K H a xs := .inl (.inl (s.tup h))
mutual
theorem Rp.dp (s : Sub ul F H) : ∀ {v : V} {d : D} {a : PyData}, Rp K F v d → d.pd = some a → Dp K H v a ∧ PyData.canLay0 a = true
  | _, _, a, .non, e => by cases e; exact ⟨.non, rfl⟩
  | _, _, a, .bl b, e => by cases e; exact ⟨.bl b, rfl⟩
  | _, _, a, .int i, e => by cases e; exact ⟨.int i, rfl⟩
  | _, _, a, .str x h, e => by cases e; exact ⟨.str x, by simpa [PyData.canLay0] using h.strOk⟩
  | _, _, a, .lst h ra, e => by
    obtain ⟨r, h1, rfl⟩ := Option.map_eq_some_iff.mp (show (D.pdA _).map PyData.list = some a from e)
    obtain ⟨q1, q2⟩ := RpA.dp s ra h1
    exact ⟨.lst (s.lst (.inl h)) q1, by simpa [PyData.canLay0] using q2⟩
  | _, _, a, .kl h ra, e => by
    obtain ⟨r, h1, rfl⟩ := Option.map_eq_some_iff.mp (show (D.pdA _).map PyData.list = some a from e)
    obtain ⟨q1, q2⟩ := RpA.dp s ra h1
    exact ⟨.lst (s.sql h) q1, by simpa [PyData.canLay0] using q2⟩
  | _, _, a, .tup h ra, e => by
    obtain ⟨r, h1, rfl⟩ := Option.map_eq_some_iff.mp (show (D.pdA _).map PyData.tuple = some a from e)
    obtain ⟨q1, q2⟩ := RpA.dp s ra h1
    exact ⟨.tup (sqT_of s h) q1, by simpa [PyData.canLay0] using q2⟩
  | _, _, a, .kt h ra, e => by
    obtain ⟨r, h1, rfl⟩ := Option.map_eq_some_iff.mp (show (D.pdA _).map PyData.tuple = some a from e)
    obtain ⟨q1, q2⟩ := RpA.dp s ra h1
    exact ⟨.tup (SqT.k h) q1, by simpa [PyData.canLay0] using q2⟩
  | _, _, a, .dK _ _, e => by cases e
  | _, _, a, .dT _ _, e => by cases e
  | _, _, a, .ins _ _ _, e => by cases e
theorem RpA.dp (s : Sub ul F H) : ∀ {v : List V} {d : List D} {a : List PyData}, RpA K F v d → D.pdA d = some a → DpAll K H v a ∧ PyData.canLayAll0 a = true
  | _, _, a, .nil, e => by cases e; exact ⟨.nil, rfl⟩
  | _, _, a, .cons h t, e => by
    obtain ⟨x, h1, h2⟩ := Option.bind_eq_some_iff.mp (show (D.pd _).bind _ = some a from e)
    obtain ⟨r, h3, h4⟩ := Option.bind_eq_some_iff.mp h2
    cases h4
    obtain ⟨a1, a2⟩ := Rp.dp s h h1
    obtain ⟨b1, b2⟩ := RpA.dp s t h3
    exact ⟨.cons a1 b1, by simp [PyData.canLayAll0, a2, b2]⟩
end
end
/-- == of data -/
def eqD (d e : D) : Option Bool := match d.pd, e.pd with
  | some a, some b => if a.depth ≤ 64 ∧ b.depth ≤ 64 then some (PyData.eqv a b) else none
  | _, _ => none
def blO (b : Option Bool) : Option O := b.map fun b => .f (.bl b)
def gEq (d e : D) : Option O := blO (eqD d e)
def gNe (d e : D) : Option O := blO ((eqD d e).map (!·))
def sokB (x : Str) : Bool := decide (x.length ≤ 100000)
def gAdd : D → D → Option O
  | .int i, .int j => some (.f (.int (i + j)))
  | .str x, .str y => if x.length + y.length ≤ 100000 then some (.f (.str (x ++ y))) else none
  | .lst xs, .lst ys => if xs.length + ys.length ≤ 100000 then some (.L ((xs ++ ys).map .f)) else none
  | .tup xs, .tup ys => if xs.length + ys.length ≤ 100000 then some (.f (.tup (xs ++ ys))) else none
  | _, _ => none
def gI2 (C : Int → Int → Bool) (g : Int → Int → D) : D → D → Option O
  | .int i, .int j => bif C i j then some (.f (g i j)) else none
  | _, _ => none
def gSub' : D → D → Option O := gI2 (fun _ _ => true) fun i j => .int (i - j)
def gMul : D → D → Option O := gI2 (fun i j => decide ((-(2 ^ 64) < i ∧ i < 2 ^ 64) ∨ (-(2 ^ 64) < j ∧ j < 2 ^ 64))) fun i j => .int (i * j)
def gFdiv : D → D → Option O := gI2 (fun _ j => decide (0 < j ∧ j < 1073741824)) fun i j => .int (i / j)
def gMod : D → D → Option O := gI2 (fun _ j => decide (0 < j)) fun i j => .int (i % j)
def gPow : D → D → Option O := gI2 (fun i j => decide (0 ≤ j ∧ j ≤ 1000000 ∧ i.natAbs < 2 ^ 64)) fun i j => .int (i ^ j.toNat)
def gLt : D → D → Option O := gI2 (fun _ _ => true) fun i j => .bl (decide (i < j))
def gLe : D → D → Option O := gI2 (fun _ _ => true) fun i j => .bl (decide (i ≤ j))
def gGt : D → D → Option O := gI2 (fun _ _ => true) fun i j => .bl (decide (j < i))
def gGe : D → D → Option O := gI2 (fun _ _ => true) fun i j => .bl (decide (j ≤ i))
def gNeg : D → Option O
  | .int i => some (.f (.int (-i)))
  | _ => none
def dOf : PyData → Option D := fun _ => none
/-- flat data -/
def flatD : D → Bool
  | .non => true
  | .bl _ => true
  | .int _ => true
  | .str _ => true
  | _ => false
def eqF : D → D → Bool
  | .non, .non => true
  | .bl a, .bl b => a == b
  | .bl a, .int b => (if a then 1 else 0) == b
  | .int a, .bl b => a == (if b then 1 else 0)
  | .int a, .int b => a == b
  | .str a, .str b => a == b
  | _, _ => false
def inD : D → D → Option Bool
  | .str x, .str z => match x.cps.toList with
    | [c] => some (decide (c ∈ z.cps.toList))
    | _ => none
  | d, .lst xs => bif flatD d && xs.all flatD then some (xs.any fun y => eqF y d) else none
  | d, .tup xs => bif flatD d && xs.all flatD then some (xs.any fun y => eqF y d) else none
  | d, .kt xs => bif flatD d && xs.all flatD then some (xs.any fun y => eqF y d) else none
  | _, _ => none
def gIn (d e : D) : Option O := blO (inD d e)
def gNi (d e : D) : Option O := blO ((inD d e).map (!·))
/-- the item at an index, of what is still -/
def ixD : D → D → Option D
  | .lst xs, .int i => atI xs i
  | .tup xs, .int i => atI xs i
  | .kt xs, .int i => atI xs i
  | .str x, .int i => (atI x.cps.toList i).map chD
  | _, _ => none
def gLen : D → Option O
  | .str x => some (.f (.int x.length))
  | .lst xs => some (.f (.int xs.length))
  | .tup xs => some (.f (.int xs.length))
  | .kt xs => some (.f (.int xs.length))
  | .kl xs => some (.f (.int xs.length))
  | _ => none
def cutD {α : Type} (xs : List α) (lo hi : Option Int) : List α := (xs.drop (HT.sIx xs.length 0 lo)).take (HT.sIx xs.length xs.length hi - HT.sIx xs.length 0 lo)
def slD (lo hi : Option Int) : D → Option O
  | .lst xs => some (.L ((cutD xs lo hi).map .f))
  | .kl xs => some (.L ((cutD xs lo hi).map .f))
  | .tup xs => some (.f (.tup (cutD xs lo hi)))
  | .str x => some (.f (.str (cutS x lo hi)))
  | _ => none
def gInt : D → Option O
  | .int i => some (.f (.int i))
  | .bl b => some (.f (.int (if b then 1 else 0)))
  | .str x => if x.length ≤ 640 then (PySem.intText? x).map fun n => .f (.int n) else none
  | _ => none
def gStr : D → Option O
  | .int i => if i.natAbs < 10 ^ 18 then some (.f (.str (toString i))) else none
  | _ => none
def gList : D → Option O
  | .lst xs => some (.L (xs.map .f))
  | .tup xs => some (.L (xs.map .f))
  | .kt xs => some (.L (xs.map .f))
  | .kl xs => some (.L (xs.map .f))
  | _ => none
def boolsD : List D → Option (List Bool)
  | [] => some []
  | .bl b :: r => (boolsD r).map (b :: ·)
  | _ :: _ => none
def intsD : List D → Option (List Int)
  | [] => some []
  | .int b :: r => (intsD r).map (b :: ·)
  | _ :: _ => none
def gAll : D → Option O
  | .lst xs => (boolsD xs).map fun bs => .f (.bl (bs.all id))
  | _ => none
def gAny : D → Option O
  | .lst xs => (boolsD xs).map fun bs => .f (.bl (bs.any id))
  | _ => none
def gSum : D → Option O
  | .lst xs => (intsD xs).map fun bs => .f (.int bs.sum)
  | _ => none
def gMax2 : D → D → Option O
  | .int i, .int j => some (.f (.int (if j > i then j else i)))
  | _, _ => none
def gMin2 : D → D → Option O
  | .int i, .int j => some (.f (.int (if j < i then j else i)))
  | _, _ => none
def truD : D → Option Bool
  | .non => some false
  | .bl b => some b
  | .int i => some (i != 0)
  | .str x => some ((x.length : Int) != 0)
  | .lst xs => some (!xs.isEmpty)
  | .tup xs => some (!xs.isEmpty)
  | _ => none
section
variable {K : PySem.W.Frag}
/-- from a value that is there as it was -/
theorem op_val {F H : Hp} {w : V} {d : D} {Q : VK} (s : Sub ul F H) (h : Rp K F w d) (k : ∀ w F' H' fv, New ul F H F' H' → Tr K H' F' w (.f d) fv → (∀ a ∈ fv, H a = none) → fv.Nodup → Q w H') : Q w H :=
  k w F H [] (New.refl s) (.f h) (fun a m => nomatch m) List.nodup_nil
/-- from a new list of still things -/
theorem op_list {F H : Hp} {p : Addr} {xs : List V} {ds : List D} {Q : VK} (s : Sub ul F H) (hp : H p = none) (h : RpA K F xs ds) (k : ∀ w F' H' fv, New ul F H F' H' → Tr K H' F' w (.L (ds.map .f)) fv → (∀ a ∈ fv, H a = none) → fv.Nodup → Q w H') : Q (.ref p) (upd H p (.lst xs)) :=
  k _ F _ [p] (upd_newH s hp) (.L upd_same (fnone s hp) h.tr) (fun a m => by rw [List.mem_singleton] at m; subst m; exact hp) (by simp)
theorem op_tup {F H : Hp} {p : Addr} {xs : List V} {ds : List D} {Q : VK} (s : Sub ul F H) (hp : H p = none) (h : RpA K F xs ds) (k : ∀ w F' H' fv, New ul F H F' H' → Tr K H' F' w (.f (.tup ds)) fv → (∀ a ∈ fv, H a = none) → fv.Nodup → Q w H') : Q (.ref p) (upd H p (.tup xs)) := by
  have n := upd_new (o := .tup xs) s hp fun _ z => by cases z
  exact k _ _ _ [] n (.f (.tup upd_same (h.mono n.le))) (fun a m => nomatch m) List.nodup_nil
theorem eqD_of {d e : D} {b : Bool} (h : eqD d e = some b) : ∃ a c, d.pd = some a ∧ e.pd = some c ∧ a.depth ≤ 64 ∧ c.depth ≤ 64 ∧ b = PyData.eqv a c := by
  unfold eqD at h
  cases e1 : d.pd with
  | none => rw [e1] at h; cases h
  | some a =>
    cases e2 : e.pd with
    | none => rw [e1, e2] at h; cases h
    | some c =>
      rw [e1, e2] at h
      dsimp only at h
      split at h
      · rename_i z
        cases h
        exact ⟨a, c, rfl, rfl, z.1, z.2, rfl⟩
      · cases h
theorem shaped_of {F H : Hp} {v : V} {d : D} {a : PyData} (s : Sub ul F H) (h : Rp K F v d) (e : d.pd = some a) (hd : a.depth ≤ 64) : Dp K H v a ∧ SeqAt.shaped a = true := by
  obtain ⟨h1, h2⟩ := h.dp s e
  exact ⟨h1, by unfold SeqAt.shaped; rw [h2, decide_eq_true hd]; rfl⟩
theorem op_eq : Op2 ul K (uEq K) gEq := fun F H x y d e o Q s hx hy h k => by
  unfold gEq blO at h
  obtain ⟨b, h1, rfl⟩ := Option.map_eq_some_iff.mp h
  obtain ⟨a, c, e1, e2, d1, d2, rfl⟩ := eqD_of h1
  obtain ⟨p1, p2⟩ := shaped_of s hx e1 d1
  obtain ⟨q1, q2⟩ := shaped_of s hy e2 d2
  exact .inr ⟨a, c, p1, q1, p2, q2, op_val s (.bl _) k⟩
theorem op_ne : Op2 ul K (uNe K) gNe := fun F H x y d e o Q s hx hy h k => by
  unfold gNe blO at h
  obtain ⟨b, h1, rfl⟩ := Option.map_eq_some_iff.mp h
  obtain ⟨b', h2, rfl⟩ := Option.map_eq_some_iff.mp h1
  obtain ⟨a, c, e1, e2, d1, d2, rfl⟩ := eqD_of h2
  obtain ⟨p1, p2⟩ := shaped_of s hx e1 d1
  obtain ⟨q1, q2⟩ := shaped_of s hy e2 d2
  exact .inr ⟨a, c, p1, q1, p2, q2, op_val s (.bl _) k⟩
theorem RpA.append {F : Hp} : ∀ {v w : List V} {d c : List D}, RpA K F v d → RpA K F w c → RpA K F (v ++ w) (d ++ c)
  | _, _, _, _, .nil, b => b
  | _, _, _, _, .cons h a, b => .cons h (RpA.append a b)
theorem RpA.drop {F : Hp} : ∀ {v : List V} {d : List D} (n : Nat), RpA K F v d → RpA K F (v.drop n) (d.drop n)
  | _, _, 0, h => h
  | _, _, _ + 1, .nil => .nil
  | _, _, n + 1, .cons _ a => RpA.drop n a
theorem RpA.take {F : Hp} : ∀ {v : List V} {d : List D} (n : Nat), RpA K F v d → RpA K F (v.take n) (d.take n)
  | _, _, 0, _ => .nil
  | _, _, _ + 1, .nil => .nil
  | _, _, n + 1, .cons h a => .cons h (RpA.take n a)
theorem Sub.lst' {F H : Hp} {a : Addr} {xs : List V} (s : Sub ul F H) (h : F a = some (.lst xs)) : H a = some (.lst xs) := by
  obtain ⟨_, h | ⟨z, _⟩⟩ := s a _ h
  · exact h
  · exact z.elim
theorem rdL {F H : Hp} {a : Addr} {xs : List V} (s : Sub ul F H) (h : Rd F a (.lst xs)) : SqL K H a xs := s.lst h
theorem op_add : Op2 ul K (uAdd K) gAdd := fun F H x y d e o Q s hx hy h k => by
  match d, e, hx, hy, h with
  | .int i, .int j, .int _, .int _, h => cases h; exact .inl ⟨i, j, rfl, rfl, op_val s (.int _) k⟩
  | .str a, .str b, .str _ ha, .str _ hb, h =>
    rw [show gAdd (.str a) (.str b) = if a.length + b.length ≤ 100000 then some (.f (.str (a ++ b))) else none from rfl] at h
    split at h
    · rename_i hl
      cases h
      exact .inr (.inl ⟨a, b, rfl, rfl, line_of hl, op_val s (.str _ (ha.app hb hl)) k⟩)
    · cases h
  | .lst xs, .lst ys, .lst ra h1, .lst rb h2, h =>
    rw [show gAdd (.lst xs) (.lst ys) = if xs.length + ys.length ≤ 100000 then some (.L ((xs ++ ys).map .f)) else none from rfl] at h
    split at h
    · rename_i hl
      cases h
      refine .inr (.inr (.inl ⟨_, _, _, _, rfl, rfl, s.lst' ra, s.lst' rb, ?_, fun p hp => ?_⟩))
      · rw [h1.length, h2.length]; exact line_of hl
      · exact op_list s hp (h1.append h2) k
    · cases h
  | .tup xs, .tup ys, .tup ra h1, .tup rb h2, h =>
    rw [show gAdd (.tup xs) (.tup ys) = if xs.length + ys.length ≤ 100000 then some (.f (.tup (xs ++ ys))) else none from rfl] at h
    split at h
    · rename_i hl
      cases h
      rename_i v1 v2
      refine .inr (.inr (.inr ⟨_, _, _, _, rfl, rfl, sqT_of s ra, sqT_of s rb, ?_, fun z => ?_, fun z1 z2 => ?_, fun _ _ p hp => ?_⟩))
      · rw [h1.length, h2.length]; exact line_of hl
      · subst z
        cases h1
        exact op_val s (.tup rb h2) k
      · subst z2
        cases h2
        rw [List.append_nil] at k
        exact op_val s (.tup ra h1) k
      · exact op_tup s hp (h1.append h2) k
    · cases h
theorem op_i2 {C : Int → Int → Bool} {P : Int → Int → Prop} {g : Int → Int → D} {gv : Int → Int → V} (hP : ∀ i j, C i j = true → P i j) (hg : ∀ (F : Hp) i j, Rp K F (gv i j) (g i j)) : Op2 ul K (rI P gv) (gI2 C g) := fun F H x y d e o Q s hx hy h k => by
  match d, e, hx, hy, h with
  | .int i, .int j, .int _, .int _, h =>
    unfold gI2 at h
    cases hc : C i j with
    | false => simp only [hc, cond_false] at h; cases h
    | true =>
      simp only [hc, cond_true] at h
      cases h
      exact ⟨i, j, rfl, rfl, hP i j hc, op_val s (hg F i j) k⟩
theorem op_i0 {g : Int → Int → D} {gv : Int → Int → V} (hg : ∀ (F : Hp) i j, Rp K F (gv i j) (g i j)) : Op2 ul K (rI0 gv) (gI2 (fun _ _ => true) g) := fun F H x y d e o Q s hx hy h k => by
  match d, e, hx, hy, h with
  | .int i, .int j, .int _, .int _, h =>
    cases h
    exact ⟨i, j, rfl, rfl, op_val s (hg F i j) k⟩
theorem op_sub : Op2 ul K uSub gSub' := op_i0 fun _ _ _ => .int _
theorem op_mul : Op2 ul K uMul gMul := op_i2 (fun i j h => by have z := of_decide_eq_true h; exact z) fun _ _ _ => .int _
theorem op_fdiv : Op2 ul K uFdiv gFdiv := op_i2 (fun i j h => by have z := of_decide_eq_true h; exact z) fun _ _ _ => .int _
theorem op_mod : Op2 ul K uMod gMod := op_i2 (fun i j h => by have z := of_decide_eq_true h; exact z) fun _ _ _ => .int _
theorem op_pow : Op2 ul K uPow gPow := op_i2 (fun i j h => by have z := of_decide_eq_true h; exact z) fun _ _ _ => .int _
theorem op_lt : Op2 ul K uLt gLt := op_i0 fun _ _ _ => .bl _
theorem op_le : Op2 ul K uLe gLe := op_i0 fun _ _ _ => .bl _
theorem op_gt : Op2 ul K uGt gGt := op_i0 fun _ _ _ => .bl _
theorem op_ge : Op2 ul K uGe gGe := op_i0 fun _ _ _ => .bl _
theorem op_neg : Op1 ul K uNeg gNeg := fun F H x d o Q s hx h k => by
  match d, hx, h with
  | .int i, .int _, h => cases h; exact ⟨i, rfl, op_val s (.int _) k⟩
theorem op_int : Op1 ul K (fun x H Q => uInt [x] H Q) gInt := fun F H x d o Q s hx h k => by
  match d, hx, h with
  | .int i, .int _, h => cases h; exact .inl (.inl ⟨i, rfl, op_val s (.int _) k⟩)
  | .bl b, .bl _, h => cases h; exact .inl (.inr ⟨b, rfl, op_val s (.int _) k⟩)
  | .str x, .str _ _, h =>
    rw [show gInt (.str x) = if x.length ≤ 640 then (PySem.intText? x).map fun n => .f (.int n) else none from rfl] at h
    split at h
    · rename_i hl
      obtain ⟨n, h1, rfl⟩ := Option.map_eq_some_iff.mp h
      exact .inr ⟨x, n, rfl, h1, hl, op_val s (.int _) k⟩
    · cases h
theorem flat_rp {F : Hp} {v : V} {d : D} (h : Rp K F v d) (f : flatD d = true) : flatV v = true := by
  cases h <;> first | rfl | cases f
theorem flats_rp {F : Hp} : ∀ {v : List V} {d : List D}, RpA K F v d → d.all flatD = true → v.all flatV = true
  | _, _, .nil, _ => rfl
  | _, _, .cons h t, f => by
    rw [List.all_cons, Bool.and_eq_true_iff] at f
    rw [List.all_cons, flat_rp h f.1, flats_rp t f.2]; rfl
theorem eqF_rp {F : Hp} {v w : V} {d e : D} (h : Rp K F v d) (g : Rp K F w e) (fd : flatD d = true) (fe : flatD e = true) : eqV v w = eqF d e := by
  cases h <;> first | (cases fd; done) | (cases g <;> first | rfl | (cases fe; done))
theorem any_rp {F : Hp} {w : V} {e : D} (g : Rp K F w e) (fe : flatD e = true) : ∀ {v : List V} {d : List D}, RpA K F v d → d.all flatD = true → (v.any fun y => eqV y w) = (d.any fun y => eqF y e)
  | _, _, .nil, _ => rfl
  | _, _, .cons h t, f => by
    rw [List.all_cons, Bool.and_eq_true_iff] at f
    rw [List.any_cons, List.any_cons, eqF_rp h g f.1 fe, any_rp g fe t f.2]
theorem str1 {x : Str} {c : Nat} (h : x.cps.toList = [c]) : x = ⟨#[c]⟩ := by
  obtain ⟨a⟩ := x
  congr 1
  exact Array.toList_inj.mp h
/-- x in y, by cases -/
theorem in_core {F H : Hp} {x y : V} {d e : D} {b : Bool} {neg : Bool} {Q : VK} (s : Sub ul F H) (hx : Rp K F x d) (hy : Rp K F y e) (h : inD d e = some b) (k : Q (.bl (if neg then !b else b)) H) :
    (∃ (c : Nat) (z : Str), x = .str ⟨#[c]⟩ ∧ y = .str z ∧ Q (.bl (if neg then !decide (c ∈ z.cps.toList) else decide (c ∈ z.cps.toList))) H) ∨ rIn K neg x y H Q := by
  have seq : ∀ {a : Addr} {xs : List V} {ds : List D}, y = .ref a → (SqL K H a xs ∨ SqT K H a xs) → RpA K F xs ds → (bif flatD d && ds.all flatD then some (ds.any fun y => eqF y d) else none) = some b → rIn K neg x y H Q := fun {a xs ds} hy' hs ra hb => by
    cases c : flatD d && ds.all flatD with
    | false => rw [c] at hb; cases hb
    | true =>
      rw [c] at hb
      obtain ⟨c1, c2⟩ := Bool.and_eq_true_iff.mp c
      cases hb
      refine ⟨a, xs, hy', hs, flat_rp hx c1, flats_rp ra c2, ?_⟩
      unfold inV
      rw [any_rp hx c1 ra c2]
      exact k
  cases hy with
  | str z hz =>
    cases hx with
    | str w hw =>
      rw [show inD (.str w) (.str z) = (match w.cps.toList with | [c] => some (decide (c ∈ z.cps.toList)) | _ => none) from rfl] at h
      split at h
      · rename_i c hc
        cases h
        exact .inl ⟨c, z, by rw [str1 hc], rfl, k⟩
      · cases h
    | _ => cases h
  | lst ha ra => exact .inr (seq rfl (.inl (s.lst (.inl ha))) ra (by cases hx <;> exact h))
  | tup ha ra => exact .inr (seq rfl (.inr (sqT_of s ha)) ra (by cases hx <;> exact h))
  | kt ha ra => exact .inr (seq rfl (.inr (SqT.k ha)) ra (by cases hx <;> exact h))
  | _ => cases hx <;> cases h
theorem op_in : Op2 ul K (uIn K) gIn := fun F H x y d e o Q s hx hy h k => by
  unfold gIn blO at h
  obtain ⟨b, h1, rfl⟩ := Option.map_eq_some_iff.mp h
  rcases in_core (neg := false) (Q := Q) s hx hy h1 (op_val s (.bl _) k) with z | z
  · obtain ⟨c, z, h1, h2, h3⟩ := z
    exact .inl ⟨c, z, h1, h2, h3⟩
  · exact .inr z
theorem op_ni : Op2 ul K (uNi K) gNi := fun F H x y d e o Q s hx hy h k => by
  unfold gNi blO at h
  obtain ⟨b, h1, rfl⟩ := Option.map_eq_some_iff.mp h
  obtain ⟨b', h2, rfl⟩ := Option.map_eq_some_iff.mp h1
  rcases in_core (neg := true) (Q := Q) s hx hy h2 (op_val s (.bl _) k) with z | z
  · obtain ⟨c, z, h1, h2, h3⟩ := z
    exact .inl ⟨c, z, h1, h2, h3⟩
  · exact .inr z
theorem op_len : Op1 ul K (fun x H Q => uLen K [x] H Q) gLen := fun F H x d o Q s hx h k => by
  have hs : sizeLine = 16777216 := sizeLine_eq
  cases hx with
  | str x hz => cases h; exact ⟨_, _, rfl, ⟨by have := hz.len; omega, rfl⟩, op_val s (.int _) k⟩
  | lst ha ra => cases h; exact ⟨_, _, rfl, .inl ⟨_, s.lst (.inl ha), rfl⟩, by rw [ra.length]; exact op_val s (.int _) k⟩
  | tup ha ra => cases h; exact ⟨_, _, rfl, .inr ⟨_, sqT_of s ha, rfl⟩, by rw [ra.length]; exact op_val s (.int _) k⟩
  | kt ha ra => cases h; exact ⟨_, _, rfl, .inr ⟨_, SqT.k ha, rfl⟩, by rw [ra.length]; exact op_val s (.int _) k⟩
  | kl ha ra => cases h; exact ⟨_, _, rfl, .inl ⟨_, s.sql ha, rfl⟩, by rw [ra.length]; exact op_val s (.int _) k⟩
  | _ => cases h
theorem RpA.cut {F : Hp} {v : List V} {d : List D} (h : RpA K F v d) (lo hi : Option Int) : RpA K F (cutV v lo hi) (cutD d lo hi) := by
  unfold cutV cutD
  rw [h.length]
  exact (h.drop _).take _
theorem cut_all {α : Type} {xs : List α} {lo hi : Option Int} (h : HT.sIx xs.length 0 lo = 0 ∧ HT.sIx xs.length xs.length hi = xs.length) : cutD xs lo hi = xs := by
  unfold cutD
  rw [h.1, h.2, Nat.sub_zero, List.drop_zero, List.take_length]
theorem op_sl (lo hi : Option Int) : Op1 ul K (fun x H Q => uSl K x lo hi H Q) (slD lo hi) := fun F H x d o Q s hx h k => by
  have hs : sizeLine = 16777216 := sizeLine_eq
  cases hx with
  | str x hz => cases h; exact .inr (.inr ⟨_, rfl, by have := hz.len; omega, op_val s (.str _ (hz.cut lo hi)) k⟩)
  | lst ha ra => cases h; exact .inl ⟨_, _, rfl, s.lst (.inl ha), fun p hp => op_list s hp (ra.cut lo hi) k⟩
  | kl ha ra => cases h; exact .inl ⟨_, _, rfl, s.sql ha, fun p hp => op_list s hp (ra.cut lo hi) k⟩
  | tup ha ra =>
    cases h
    refine .inr (.inl ⟨_, _, rfl, sqT_of s ha, fun z => ?_, fun z p hp => op_tup s hp (ra.cut lo hi) k⟩)
    rw [ra.length] at z
    rw [cut_all z] at k
    exact op_val s (.tup ha ra) k
  | _ => cases h
theorem op_list1 : Op1 ul K (fun x H Q => uList K [x] H Q) gList := fun F H x d o Q s hx h k => by
  cases hx with
  | lst ha ra => cases h; exact ⟨_, _, rfl, .inl (s.lst (.inl ha)), fun p hp => op_list s hp ra k⟩
  | kl ha ra => cases h; exact ⟨_, _, rfl, .inl (s.sql ha), fun p hp => op_list s hp ra k⟩
  | tup ha ra => cases h; exact ⟨_, _, rfl, .inr (sqT_of s ha), fun p hp => op_list s hp ra k⟩
  | kt ha ra => cases h; exact ⟨_, _, rfl, .inr (SqT.k ha), fun p hp => op_list s hp ra k⟩
  | _ => cases h
theorem boolsD_rp {F : Hp} : ∀ {v : List V} {d : List D} {bs : List Bool}, RpA K F v d → boolsD d = some bs → v = bs.map V.bl
  | _, _, _, .nil, e => by cases e; rfl
  | _, d :: ds, bs, .cons h t, e => by
    cases h with
    | bl b =>
      obtain ⟨r, h1, rfl⟩ := Option.map_eq_some_iff.mp (show (boolsD ds).map (b :: ·) = some bs from e)
      rw [boolsD_rp t h1]; rfl
    | _ => cases e
theorem intsD_rp {F : Hp} : ∀ {v : List V} {d : List D} {bs : List Int}, RpA K F v d → intsD d = some bs → v = bs.map V.int
  | _, _, _, .nil, e => by cases e; rfl
  | _, d :: ds, bs, .cons h t, e => by
    cases h with
    | int b =>
      obtain ⟨r, h1, rfl⟩ := Option.map_eq_some_iff.mp (show (intsD ds).map (b :: ·) = some bs from e)
      rw [intsD_rp t h1]; rfl
    | _ => cases e
theorem op_all : Op1 ul K (fun x H Q => rAll K [x] H Q) gAll := fun F H x d o Q s hx h k => by
  cases hx with
  | lst ha ra =>
    obtain ⟨bs, h1, rfl⟩ := Option.map_eq_some_iff.mp (show (boolsD _).map _ = some o from h)
    have := boolsD_rp ra h1
    subst this
    exact ⟨_, bs, rfl, s.lst (.inl ha), op_val s (.bl _) k⟩
  | _ => cases h
theorem op_any : Op1 ul K (fun x H Q => rAny K [x] H Q) gAny := fun F H x d o Q s hx h k => by
  cases hx with
  | lst ha ra =>
    obtain ⟨bs, h1, rfl⟩ := Option.map_eq_some_iff.mp (show (boolsD _).map _ = some o from h)
    have := boolsD_rp ra h1
    subst this
    exact ⟨_, bs, rfl, s.lst (.inl ha), op_val s (.bl _) k⟩
  | _ => cases h
theorem op_sum : Op1 ul K (fun x H Q => rSum K [x] H Q) gSum := fun F H x d o Q s hx h k => by
  cases hx with
  | lst ha ra =>
    obtain ⟨bs, h1, rfl⟩ := Option.map_eq_some_iff.mp (show (intsD _).map _ = some o from h)
    have := intsD_rp ra h1
    subst this
    exact ⟨_, bs, rfl, s.lst (.inl ha), op_val s (.int _) k⟩
  | _ => cases h
theorem op_max2 : Op2 ul K (fun x y H Q => uMax [x, y] H Q) gMax2 := fun F H x y d e o Q s hx hy h k => by
  match d, e, hx, hy, h with
  | .int i, .int j, .int _, .int _, h => cases h; exact ⟨i, j, rfl, op_val s (.int _) k⟩
theorem op_min2 : Op2 ul K (fun x y H Q => uMin [x, y] H Q) gMin2 := fun F H x y d e o Q s hx hy h k => by
  match d, e, hx, hy, h with
  | .int i, .int j, .int _, .int _, h => cases h; exact ⟨i, j, rfl, op_val s (.int _) k⟩
end
/-! ### rules for calls of built-ins, truth, chains -/
def mFz (m : ME) : ME := fun ρ => (m ρ).bind fun o ρ1 => .ok (.f o.fz) ρ1
def mChain (g g' : D → D → Option O) (ma mb mc : ME) : ME := fun ρ => (ma ρ).bind fun a ρ1 => (mb ρ1).bind fun b ρ2 => match g a.fz b.fz with
  | some (.f (.bl true)) => (mc ρ2).bind fun c ρ3 => RE.sc (g' b.fz c.fz) ρ3
  | some (.f (.bl false)) => .ok (.f (.bl false)) ρ2
  | _ => .bad
section
variable {K : PySem.W.Frag} {T : List (Addr × Str)} {E : XK} {p q r : Bool} {ta tb tc : TE} {ma mb mc : ME}
theorem SimE.fz (h : SimE ul K T E p ta ma) : SimE ul K T E p ta (mFz ma) := fun {F H σ ρ fp Q} S k => by
  refine h.f S ?_
  have k1 := Out.bind (p := p) (q := true) (by rw [Bool.and_true]; exact k)
  exact k1.mono fun a ρ' F' H' fp' st S' fr c z v rp => (Out.now S' z) v [] (.f rp) (by rw [List.nil_append]; exact S'.nd) fun a m => nomatch m
theorem tcb1 {r : List V → Hp → VK → Prop} {ta : TE} : tCB r (tCons ta tNil) = tUn (fun x H Q => r [x] H Q) ta := rfl
theorem tcb2 {r : List V → Hp → VK → Prop} {ta tb : TE} : tCB r (tCons ta (tCons tb tNil)) = tOp (fun x y H Q => r [x, y] H Q) ta tb := rfl
theorem sim_b1 {r : List V → Hp → VK → Prop} {g : D → Option O} (ha : SimF ul K T E p ta ma) (ho : Op1 ul K (fun x H Q => r [x] H Q) g) : SimE ul K T E p (tCB r (tCons ta tNil)) (mOp1 g ma) := sim_op1 ha ho
theorem sim_b1R {r : List V → Hp → VK → Prop} {g : D → Option O} (ha : SimR ul K T E p ta ma) (ho : Op1 ul K (fun x H Q => r [x] H Q) g) : SimE ul K T E p (tCB r (tCons ta tNil)) (mOp1R g ma) := sim_op1R ha ho
theorem sim_b2 {r : List V → Hp → VK → Prop} {g : D → D → Option O} (ha : SimF ul K T E p ta ma) (hb : SimF ul K T E q tb mb) (ho : Op2 ul K (fun x y H Q => r [x, y] H Q) g) : SimE ul K T E (p && q) (tCB r (tCons ta (tCons tb tNil))) (mOp2 g ma mb) := sim_op2 ha hb ho
theorem sim_b2R {r : List V → Hp → VK → Prop} {g : D → D → Option O} (ha : SimR ul K T E p ta ma) (hb : SimR ul K T E true tb mb) (ho : Op2 ul K (fun x y H Q => r [x, y] H Q) g) : SimE ul K T E p (tCB r (tCons ta (tCons tb tNil))) (mOp2R g ma mb) := sim_op2R ha hb ho
theorem tru_rp {F H : Hp} {v : V} {d : D} {b : Bool} (s : Sub ul F H) (h : Rp K F v d) (e : truD d = some b) : TruV K v H b := by
  have hs : sizeLine = 16777216 := sizeLine_eq
  cases h with
  | non => cases e; exact rfl
  | bl x => cases e; exact rfl
  | int x => cases e; exact rfl
  | str x hx => cases e; exact ⟨by have := hx.len; omega, rfl⟩
  | lst ha ra => cases e; exact .inl ⟨_, s.lst (.inl ha), by cases ra <;> rfl⟩
  | tup ha ra => cases e; exact .inr (.inl ⟨_, sqT_of s ha, by cases ra <;> rfl⟩)
  | _ => cases e
theorem sim_tru (ha : SimR ul K T E p ta ma) : SimT ul K T E p (tTru K ta) (mTru truD ma) := fun {F H σ ρ fp Q} S k => by
  refine ha S ?_
  have k1 := Out.bind (p := p) (q := true) (by rw [Bool.and_true]; exact k)
  refine k1.mono fun a ρ1 F1 H1 fp1 s1 S1 fr1 _ k2 v fv t => ?_
  cases e : truD a.fz with
  | none => rw [e] at k2; exact k2.elim
  | some b =>
    rw [e] at k2
    have sm := adopt_same t.own
    exact ⟨b, tru_rp (adopt_sub t.own S1.sub) (t.still sm fun a m => adopt_in m) e, Out.now S1 k2⟩
theorem sim_chain {r r' : R2} {g g' : D → D → Option O} (ha : SimR ul K T E p ta ma) (hb : SimR ul K T E true tb mb) (hc : SimR ul K T E true tc mc) (ho : Op2 ul K r g) (ho' : Op2 ul K r' g') : SimE ul K T E p (tChain r r' ta tb tc) (mChain g g' ma mb mc) := fun {F H σ ρ fp Q} S k => by
  refine ha S ?_
  have k1 := Out.bind (p := p) (q := true) (by rw [Bool.and_true]; exact k)
  refine k1.mono fun a ρ1 F1 H1 fp1 s1 S1 fr1 _ k2 v fv t => ?_
  refine hb S1 ?_
  have k3 := Out.bind (p := true) (q := true) k2
  refine k3.mono fun b ρ2 F2 H2 fp2 s2 S2 fr2 _ k4 w fw tw => ?_
  have t2 := t.mono s2.le (s2.stayP)
  have ow : ∀ a ∈ fv ++ fw, Own H2 F2 a := fun a m => by
    rcases List.mem_append.mp m with m | m
    · exact t2.own a m
    · exact tw.own a m
  have sm := adopt_same ow
  have go : ∀ c : Bool, g a.fz b.fz = some (.f (.bl c)) → (∀ H3, New ul F2 H2 F2 H3 → (if c = true then tc σ H3 fun w' H4 => r' w w' H4 Q else Q (.bl false) H3)) → r v w H2 fun z H3 => ∃ k, z = .bl k ∧ (if k = true then tc σ H3 fun w' H4 => r' w w' H4 Q else Q (.bl false) H3) := fun c e h => by
    refine ho (adopt F2 H2 (fv ++ fw)) H2 v w _ _ _ _ (adopt_sub ow S2.sub) (t2.still sm fun a m => adopt_in (List.mem_append_left _ m)) (tw.still sm fun a m => adopt_in (List.mem_append_right _ m)) e fun z F' H' fv' n t' _ _ => ?_
    cases t' with
    | f rp => cases rp with | bl _ => exact ⟨c, rfl, h H' (n.any S2.sub)⟩
  match e : g a.fz b.fz with
  | none => rw [e] at k4; exact k4.elim
  | some (.L _) => rw [e] at k4; exact k4.elim
  | some (.M _ _) => rw [e] at k4; exact k4.elim
  | some (.I _ _) => rw [e] at k4; exact k4.elim
  | some (.f d) =>
    cases d with
    | bl c =>
      refine go c e fun H3 n => ?_
      have S3 := n.ss S2
      cases c with
      | false =>
        rw [e] at k4
        rw [if_neg Bool.false_ne_true]
        exact (Out.new S2 n k4) _ [] (.f (.bl false)) (by rw [List.nil_append]; exact S2.nd) fun a m => nomatch m
      | true =>
        rw [e] at k4
        rw [if_pos rfl]
        refine hc S3 ?_
        have k5 : Out ul K T E true F2 H3 σ ρ2 fp2 (QE K H fp Q) ((mc ρ2).bind fun c ρ3 => RE.sc (g' b.fz c.fz) ρ3) := Out.after (p := true) (q := true) n.stp .refl (fun _ => ⟨rfl, rfl⟩) k4
        have k6 := Out.bind (p := true) (q := true) k5
        refine k6.mono fun c ρ3 F3 H3' fp3 s3 S3' fr3 _ k7 u fu tu => ?_
        obtain ⟨d, e2, hk⟩ := sc_end S3' k7
        have tw3 : Tr K H3' F3 w b fw := (tw.mono n.le fun a m o h mu f => ⟨n.he a o h, n.out a o h mu f⟩).mono s3.le (s3.stayP)
        have ow3 : ∀ a ∈ fw ++ fu, Own H3' F3 a := fun a m => by
          rcases List.mem_append.mp m with m | m
          · exact tw3.own a m
          · exact tu.own a m
        have sm3 := adopt_same ow3
        exact ho' (adopt F3 H3' (fw ++ fu)) H3' w u _ _ _ Q (adopt_sub ow3 S3'.sub) (tw3.still sm3 fun a m => adopt_in (List.mem_append_left _ m)) (tu.still sm3 fun a m => adopt_in (List.mem_append_right _ m)) e2 fun w F' H' fv' n t' _ _ => hk _ w F' H' fv' n t'
    | _ => rw [e] at k4; exact k4.elim
end
end MR

namespace MR
open PySem PySem.Spec PyProof.Rows L2 SW LamX
/-! ### x[i], looked at -/
def ixO : O → O → Option O
  | .L xs, .f (.int i) => atI xs i
  | .f d, .f e => (ixD d e).map .f
  | _, _ => none
def mIx (ma mb : ME) : ME := fun ρ => (ma ρ).bind fun a ρ1 => (mb ρ1).bind fun b ρ2 => RE.of (ixO a b) ρ2
section
variable {K : PySem.W.Frag} {T : List (Addr × Str)} {E : XK} {kp : List Nat} {p q : Bool} {ta tb tc te : TE} {ma mb mc me : ME}
theorem atI_get {α : Type} {xs : List α} {i : Int} {x : α} (h : atI xs i = some x) : ∃ j, ixN xs.length i = some j ∧ xs[j]? = some x := Option.bind_eq_some_iff.mp h
theorem TrA.at_ {F H : Hp} : ∀ {vs : List V} {os : List O} {fp : List Addr} {j : Nat} {o : O}, TrA K H F vs os fp → os[j]? = some o → ∃ v fi, vs[j]? = some v ∧ Tr K H F v o fi ∧ ∀ a ∈ fi, a ∈ fp
  | _, _, _, _, _, .nil, e => by simp at e
  | _, _, _, 0, _, .cons h _, e => by
    have e' := Option.some.inj (show some _ = some _ from e)
    subst e'
    exact ⟨_, _, rfl, h, fun a m => List.mem_append_left _ m⟩
  | _, _, _, j + 1, _, .cons _ t, e => by
    obtain ⟨v, fi, h1, h2, h3⟩ := TrA.at_ (j := j) t (by simpa using e)
    exact ⟨v, fi, by simpa using h1, h2, fun a m => List.mem_append_right _ (h3 a m)⟩
theorem ix_rp {F H : Hp} {x y : V} {d e g : D} {Q : VK} (s : Sub ul F H) (hx : Rp K F x d) (hy : Rp K F y e) (h : ixD d e = some g) (k : ∀ w, Rp K F w g → Q w H) : rIx K x y H Q := by
  have hz : sizeLine = 16777216 := sizeLine_eq
  have seq : ∀ {xs : List V} {ds : List D} {i : Int}, RpA K F xs ds → atI ds i = some g → ∃ v, atI xs i = some v ∧ Q v H := fun {xs ds i} ra ha => by
    obtain ⟨j, h1, h2⟩ := atI_get ha
    obtain ⟨v, h3, h4⟩ := ra.at_ h2
    exact ⟨v, by unfold atI; rw [ra.length, h1]; exact h3, k v h4⟩
  cases hy with
  | int i =>
    cases hx with
    | lst ha ra => obtain ⟨v, h1, h2⟩ := seq ra h; exact .inl ⟨_, _, i, v, rfl, rfl, s.lst (.inl ha), h1, h2⟩
    | tup ha ra => obtain ⟨v, h1, h2⟩ := seq ra h; exact .inr (.inl ⟨_, _, i, v, rfl, rfl, sqT_of s ha, h1, h2⟩)
    | kt ha ra => obtain ⟨v, h1, h2⟩ := seq ra h; exact .inr (.inl ⟨_, _, i, v, rfl, rfl, SqT.k ha, h1, h2⟩)
    | str x hx =>
      obtain ⟨c, h1, rfl⟩ := Option.map_eq_some_iff.mp (show (atI x.cps.toList i).map chD = some g from h)
      refine .inr (.inr ⟨x, i, c, rfl, rfl, by have := hx.len; omega, h1, k _ (.str _ (sok_ch hx ?_))⟩)
      obtain ⟨j, _, h2⟩ := atI_get h1
      exact List.mem_of_getElem? h2
    | _ => cases h
  | _ => cases hx <;> cases h
theorem sim_ix (ha : SimR ul K T E p ta ma) (hb : SimR ul K T E true tb mb) : SimR ul K T E p (tOp (rIx K) ta tb) (mIx ma mb) := fun {F H σ ρ fp Q} S k => by
  refine ha S ?_
  have k1 := Out.bind (p := p) (q := true) (by rw [Bool.and_true]; exact k)
  refine k1.mono fun a ρ1 F1 H1 fp1 s1 S1 fr1 _ k2 v fv t => ?_
  refine hb S1 ?_
  have k3 := Out.bind (p := true) (q := true) k2
  refine k3.mono fun b ρ2 F2 H2 fp2 s2 S2 fr2 _ k4 w fw tw => ?_
  have t2 := t.mono s2.le (s2.stayP)
  cases e : ixO a b with
  | none => rw [e] at k4; exact k4.elim
  | some o =>
    rw [e] at k4
    have fin := Out.now S2 k4
    cases tw with
    | f ry =>
      rename_i db
      cases t2 with
      | f rx =>
        obtain ⟨g, h1, rfl⟩ := Option.map_eq_some_iff.mp (show (ixD _ db).map O.f = some o by cases db <;> exact e)
        exact ix_rp S2.sub rx ry h1 fun u ru => fin u [] (.f ru)
      | L hx hn ta =>
        cases ry with
        | int i =>
          obtain ⟨j, h1, h2⟩ := atI_get (show atI _ i = some o from e)
          obtain ⟨u, fi, h3, h4, _⟩ := ta.at_ h2
          exact .inl ⟨_, _, i, u, rfl, rfl, .inl (.inl hx), by unfold atI; rw [ta.length, h1]; exact h3, fin u fi h4⟩
        | _ => cases e
      | M0 => cases ry <;> cases e
      | M1 => cases ry <;> cases e
      | I => cases ry <;> cases e
    | _ => cases a <;> cases e
/-! ### slices -/
theorem sim_sl0 (ha : SimF ul K T E p ta ma) : SimE ul K T E p (tSl (uSl K) ta tNoPart tNoPart) (mOp1 (slD none none) ma) := fun {F H σ ρ fp Q} S k => (sim_op1 ha (op_sl none none)) S k
def mSl (ma : ME) (ml mh : Env → RE (Option Int)) : ME := fun ρ => (ma ρ).bind fun a ρ1 => (ml ρ1).bind fun l ρ2 => (mh ρ2).bind fun h ρ3 => RE.of (slD l h a.fz) ρ3
def mNoPart : Env → RE (Option Int) := fun ρ => .ok none ρ
def mPart (m : ME) : Env → RE (Option Int) := fun ρ => (m ρ).bind fun o ρ1 => match o with
  | .f (.int i) => .ok (some i) ρ1
  | _ => .bad
def SimO (ul : Bool) (K : PySem.W.Frag) (T : List (Addr × Str)) (E : XK) (p : Bool) (te : TO) (me : Env → RE (Option Int)) : Prop :=
  ∀ {F H : Hp} {σ : L2.St} {ρ : Env} {fp : List Addr} {Q : Option Int → Hp → Prop}, SS ul K T F H σ ρ fp → Out ul K T E p F H σ ρ fp (fun i _ _ H' _ => Q i H') (me ρ) → te σ H Q
theorem sim_noPart : SimO ul K T E true tNoPart mNoPart := fun {F H σ ρ fp Q} S k => Out.now S k
theorem sim_part (ha : SimR ul K T E p ta ma) : SimO ul K T E p (tPart ta) (mPart ma) := fun {F H σ ρ fp Q} S k => by
  refine ha S ?_
  have k1 := Out.bind (p := p) (q := true) (by rw [Bool.and_true]; exact k)
  refine k1.mono fun a ρ1 F1 H1 fp1 s1 S1 fr1 _ k2 v fv t => ?_
  cases t with
  | f rp =>
    cases rp with
    | int i => exact ⟨i, rfl, Out.now S1 k2⟩
    | _ => exact k2.elim
  | _ => exact k2.elim
theorem sim_sl {r : Bool} {tl th : TO} {ml mh : Env → RE (Option Int)} (ha : SimF ul K T E p ta ma) (hl : SimO ul K T E q tl ml) (hh : SimO ul K T E r th mh) : SimE ul K T E (p && (q && r)) (tSl (uSl K) ta tl th) (mSl ma ml mh) := fun {F H σ ρ fp Q} S k => by
  refine ha S ?_
  have k1 := Out.bind (p := p) (q := q && r) k
  refine k1.mono fun a ρ1 F1 H1 fp1 s1 S1 fr1 _ k2 v rp => ?_
  refine hl S1 ?_
  have k3 := Out.bind (p := q) (q := r) k2
  refine k3.mono fun l ρ2 F2 H2 fp2 s2 S2 fr2 _ k4 => ?_
  refine hh S2 ?_
  have k5 := Out.bind (p := r) (q := true) (by rw [Bool.and_true]; exact k4)
  refine k5.mono fun h ρ3 F3 H3 fp3 s3 S3 fr3 _ k6 => ?_
  obtain ⟨u, e, hk⟩ := op_end S3 k6 fun a z => s1.dom a (s2.dom a (s3.dom a z))
  exact op_sl l h F3 H3 v _ u Q S3.sub ((rp.mono s2.le).mono s3.le) e hk
/-! ### isinstance -/
def tyD : D → Str
  | .non => "NoneType"
  | .bl _ => "bool"
  | .int _ => "int"
  | .str _ => "str"
  | .lst _ => "list"
  | .kl _ => "list"
  | .tup _ => "tuple"
  | .kt _ => "tuple"
  | .dct _ _ => "dict"
  | .ins C _ => C
end
end MR

namespace MR
open PySem PySem.Spec PyProof.Rows L2 SW LamX
/-! ### isinstance -/
def TyM (K : PySem.W.Frag) (H : Hp) (x : V) (t : Value) : Prop := TyX K H x t ∨ ∃ a o kvs, x = .ref a ∧ H a = some (.frz o (.dT kvs)) ∧ t = .type "dict"
def uIsiM (K : PySem.W.Frag) : List V → Hp → VK → Prop := fun xs H Q => (∃ (x c : V) (t u : Value) (b : Bool), xs = [x, c] ∧ ClsV c u ∧ TyM K H x t ∧ PySem.W.kitOne K t u = some b ∧ Q (.bl b) H) ∨
  ∃ (x : V) (tp : Addr) (cs : List V) (t : Value) (us : List Value) (b : Bool), xs = [x, .ref tp] ∧ H tp = some (.tup cs) ∧ Paired ClsV cs us ∧ TyM K H x t ∧ PySem.W.kitAny K t us = some b ∧ Q (.bl b) H
section
variable {X : Cx} {pins : List (Addr × Obj)} {σ : L2.St} {H : Hp} {s : Shared}
theorem kitm_of {x : V} {u t : Value} (I : Inv X pins σ H s) (rx : RelV x u) (ty : TyM X.K H x t) : ∃ P : Heap → Prop, PySem.W.KitX X.K u t P ∧ P s.heap ∧ u ≠ .builtin "__main__.__loader__#opaque" := by
  rcases ty with ty | ⟨a, ob, kvs, rfl, ea, rfl⟩
  · exact kit_of I rx ty
  · cases (show u = Value.ref a from rx)
    have q := I.hok a _ ea
    obtain ⟨_, _, _, xs, _, o, es, ep, h1, h2, _⟩ := q
    exact ⟨_, PySem.W.kitx_dict, ⟨o, h1, h2.1⟩, fun z => nomatch z⟩
theorem u_isiM : CallR X (.builtin "isinstance") (uIsiM X.K) := by
  intro pins s σ H xs us Q I r h
  rcases h with ⟨x, c, t, u, b, rfl, k, ty, e, q⟩ | ⟨x, tp, cs, t, ws, b, rfl, hT, k, ty, e, q⟩
  · obtain ⟨u1, u2, rfl, r1, r2⟩ := vals2 r
    cases k.eq r2
    obtain ⟨P, Z, p, hx⟩ := kitm_of I r1 ty
    exact PySem.W.kia_one Z I.kIn p e hx fun tk => ⟨.bl b, H, I.tok tk, rfl, q⟩
  · obtain ⟨u1, u2, rfl, r1, r2⟩ := vals2 r
    cases (show u2 = Value.ref tp from r2)
    obtain ⟨P, Z, p, hx⟩ := kitm_of I r1 ty
    have q0 := I.hok tp _ hT
    obtain ⟨_, its, rv, ⟨oc, od, dt, sl⟩, h1, h2, n, h3⟩ := q0
    cases ClsV.all k rv
    cases (show oc = Value.type "tuple" from h2)
    cases (show dt = _ from h3)
    exact PySem.W.kia_tup Z I.kIn p h1 e hx fun tk => ⟨.bl b, H, I.tok tk, rfl, q⟩
end
inductive Ask where
  | ty (T : String) | own (C : Str)
def tyS : D → String
  | .non => "NoneType"
  | .bl _ => "bool"
  | .int _ => "int"
  | .str _ => "str"
  | .lst _ => "list"
  | .kl _ => "list"
  | .tup _ => "tuple"
  | .kt _ => "tuple"
  | .dct _ _ => "dict"
  | .ins _ _ => "?"
def isA (d : D) : Ask → Bool
  | .ty T => isBS (tyS d) T
  | .own C => match d with
    | .ins B _ => decide (C ∈ ancOf B)
    | _ => false
def askV (K : PySem.W.Frag) : Ask → V
  | .ty T => .ty T
  | .own C => .ref (He.ga K C)
def askU (K : PySem.W.Frag) : Ask → Value
  | .ty T => .type T
  | .own C => .ref (He.ga K C)
def AskOk (K : PySem.W.Frag) : Ask → Prop
  | .ty T => T ∈ tyAs
  | .own C => AskF K C
def gIsi (as : List Ask) (d : D) : Option O := some (.f (.bl (as.any (isA d))))
def tAsks (K : PySem.W.Frag) : List Ask → TA
  | [] => tNil
  | a :: r => tCons (tC (askV K a)) (tAsks K r)
section
variable {K : PySem.W.Frag} {T : List (Addr × Str)} {E : XK} {kp : List Nat} {p q : Bool} {ta tb tc te : TE} {ma mb mc me : ME}
theorem ask_cls (a : Ask) : ClsV (askV K a) (askU K a) := by cases a <;> first | exact .ty _ | exact .own _
theorem isBS_kit {s T : String} (hs : s ∈ tyNs) (hT : T ∈ tyAs) : kitB s T = some (isBS s T) := of_decide_eq_true (List.all_eq_true.mp (List.all_eq_true.mp isBS_all s hs) T hT)
/-- the type of a still value -/
theorem ty_rp {F H : Hp} {v : V} {d : D} (s : Sub ul F H) (h : Rp K F v d) : ∃ t, TyM K H v t ∧ ∀ a, AskOk K a → PySem.W.kitOne K t (askU K a) = some (isA d a) := by
  have blt : ∀ (n : String), n ∈ tyNs → tyS d = n → (∀ B fs, d ≠ .ins B fs) → TyM K H v (.type n) → ∃ t, TyM K H v t ∧ ∀ a, AskOk K a → PySem.W.kitOne K t (askU K a) = some (isA d a) := fun n hn e hi ht => by
    refine ⟨_, ht, fun a ok => ?_⟩
    cases a with
    | ty T => subst e; exact kit_ty (isBS_kit hn ok)
    | own C =>
      have : isA d (.own C) = false := by cases d <;> first | rfl | exact absurd rfl (hi _ _)
      rw [this]
      exact (show AskF K C from ok).ty n hn
  cases h with
  | non => exact blt "NoneType" (by decide) rfl (fun _ _ z => by cases z) (.inl (.base .non))
  | bl b => exact blt "bool" (by decide) rfl (fun _ _ z => by cases z) (.inl (.base (.bl b)))
  | int b => exact blt "int" (by decide) rfl (fun _ _ z => by cases z) (.inl (.base (.int b)))
  | str b _ => exact blt "str" (by decide) rfl (fun _ _ z => by cases z) (.inl (.base (.str b)))
  | lst h _ => exact blt "list" (by decide) rfl (fun _ _ z => by cases z) (.inl (.base (.lst (s.lst' h))))
  | kl h _ => exact blt "list" (by decide) rfl (fun _ _ z => by cases z) (.inl (SqL.ty (s.sql h)))
  | tup h _ => exact blt "tuple" (by decide) rfl (fun _ _ z => by cases z) (.inl (.base (.tup (s.tup h))))
  | kt h _ => exact blt "tuple" (by decide) rfl (fun _ _ z => by cases z) (.inl (SqT.ty (SqT.k (H := H) h)))
  | dK h _ =>
    refine blt "dict" (by decide) rfl (fun _ _ z => by cases z) ?_
    obtain ⟨_, h | ⟨_, _, o, h⟩⟩ := s _ _ h
    · exact .inl (.base (.dK h))
    · exact .inl (.fDict h)
  | dT h _ =>
    refine blt "dict" (by decide) rfl (fun _ _ z => by cases z) ?_
    obtain ⟨_, h | ⟨_, _, o, h⟩⟩ := s _ _ h
    · exact .inl (.base (.dT h))
    · exact .inr ⟨_, _, _, rfl, h, rfl⟩
  | ins ok h rf =>
    rename_i a0 dx C fs ds
    have hx : H a0 = some (.ins (He.ga K C) dx fs) := by
      obtain ⟨_, h | ⟨z, _⟩⟩ := s _ _ h
      · exact h
      · exact z.elim
    refine ⟨_, .inl (.base (.ins hx ok.f.cls ok.f.ha ok.f.hn ok.f.htk ok.f.hm)), fun a oka => ?_⟩
    cases a with
    | ty T =>
      have hT : T ∈ tyAs := oka
      have e : isA (.ins C ds) (.ty T) = false := by
        show isBS "?" T = false
        simp only [tyAs, List.mem_cons, List.not_mem_nil, or_false] at hT
        rcases hT with rfl | rfl | rfl | rfl | rfl | rfl <;> decide
      rw [e]
      exact ok.f.ty T hT
    | own B => exact (show AskF K B from oka).own C ok
theorem kitAny_all {t : Value} {d : D} : ∀ {as : List Ask}, (∀ a ∈ as, PySem.W.kitOne K t (askU K a) = some (isA d a)) → PySem.W.kitAny K t (as.map (askU K)) = some (as.any (isA d))
  | [], _ => rfl
  | a :: as, h => by
    rw [List.map_cons, List.any_cons]
    refine kitAny_cons (h a List.mem_cons_self) (fun e => ?_) fun e => ?_
    · rw [e, Bool.false_or]; exact kitAny_all fun b m => h b (List.mem_cons_of_mem _ m)
    · rw [e]; rfl
theorem sim_isi1 {a : Ask} (ha : SimR ul K T E p ta ma) (ok : AskOk K a) : SimE ul K T E p (tCB (uIsiM K) (tCons ta (tCons (tC (askV K a)) tNil))) (mOp1R (gIsi [a]) ma) :=
  sim_op1R (r := fun x H Q => uIsiM K [x, askV K a] H Q) ha fun F H x d o Q s hx h k => by
    cases h
    obtain ⟨t, h1, h2⟩ := ty_rp s hx
    refine .inl ⟨x, _, t, _, isA d a, rfl, ask_cls a, h1, h2 a ok, ?_⟩
    have e : [a].any (isA d) = isA d a := by simp
    rw [e] at k
    exact op_val s (.bl _) k
theorem asks_run {σ : L2.St} {H : Hp} {Q : List V → Hp → Prop} : ∀ {as : List Ask}, Q (as.map (askV K)) H → tAsks K as σ H Q
  | [], h => h
  | a :: as, h => asks_run (Q := fun xs H2 => Q (askV K a :: xs) H2) h
theorem paired_asks : ∀ {as : List Ask}, Paired ClsV (as.map (askV K)) (as.map (askU K))
  | [] => .nil
  | a :: as => .cons (ask_cls a) paired_asks
theorem sim_isiT {as : List Ask} (ha : SimR ul K T E p ta ma) (ok : ∀ a ∈ as, AskOk K a) (hl : as.length ≤ 100) : SimE ul K T E p (tCB (uIsiM K) (tCons ta (tCons (tTup (tAsks K as)) tNil))) (mOp1R (gIsi as) ma) :=
  fun {F H σ ρ fp Q} S k => (sim_op1R (g := gIsi as) (r := fun x H Q => tTup (tAsks K as) σ H fun y H2 => uIsiM K [x, y] H2 Q) (E := E) ha (fun F H x d o Q s hx h k => by
    cases h
    refine asks_run (σ := σ) ⟨by rw [List.length_map]; exact line_of (by omega), fun tp hn => ?_⟩
    have n := upd_newH (o := .tup (as.map (askV K))) s hn
    obtain ⟨t, h1, h2⟩ := ty_rp n.sub hx
    exact .inr ⟨x, tp, _, t, _, _, rfl, upd_same, paired_asks, h1, kitAny_all fun a m => h2 a (ok a m), k _ F _ [] n (.f (.bl _)) (fun a m => nomatch m) List.nodup_nil⟩)) S k
/-! ### new instances -/
def mMake (C : Str) (mf : MF) (ma : MA) : ME := fun ρ => (ma ρ).bind fun as ρ1 => match avD as with
  | none => .bad
  | some ds => match mf (.I C [] :: ds.map .f) with
    | .ok (.f .non) (o :: _) => .ok o ρ1
    | .ex x _ => .ex x ρ1
    | _ => .bad
def mMakeK (C : Str) (g : List D → List D → List D) (mf : MF) (ma mk : MA) : ME := fun ρ => (ma ρ).bind fun as ρ1 => (mk ρ1).bind fun bs ρ2 => match avD as, avD bs with
  | some ds, some es => (match mf (.I C [] :: (g ds es).map .f) with
    | .ok (.f .non) (o :: _) => .ok o ρ2
    | .ex x _ => .ex x ρ2
    | _ => .bad)
  | _, _ => .bad
/-- an __init__ at a new instance -/
theorem make_run {F H F0 H0 : Hp} {σ : L2.St} {ρ0 ρ1 : Env} {fp0 fp1 : List Addr} {n : Nat} {C : Str} {mf : MF} {vs : List V} {ds : List D} {Q : VK} (ok : InsOk K C) (s0 : Stp p fp0 F0 H0 F H) (fr0 : Fre H0 fp0 fp1) (cp : p = true → ρ1 = ρ0 ∧ fp1 = fp0) (S : SS ul K T F H σ ρ1 fp1) (rp : RpA K F vs ds) (hn : vs.length + 1 = n)
    (k : Out ul K T E p F0 H0 σ ρ0 fp0 (QE K H0 fp0 Q) (match mf (.I C [] :: ds.map .f) with | .ok (.f .non) (o :: _) => .ok o ρ1 | .ex x _ => .ex x ρ1 | _ => .bad)) {x dx : Addr} (hx : H x = none) (hd : H dx = none) (ne : dx ≠ x) :
    spM ul K T n mf (.ref x :: vs) (upd (upd H dx (.own x)) x (.ins (He.ga K C) dx [])) (fun v H2 => v = .non ∧ Q (.ref x) H2) E := by
  have n1 := upd_newH (o := .own x) S.sub hd
  have hx1 : upd H dx (.own x) x = none := by rw [upd_ne (fun z => ne z.symm)]; exact hx
  have n2 := n1.trans (upd_newH (o := .ins (He.ga K C) dx []) n1.sub hx1)
  refine ⟨hn, F, _, [x], n2.sub, S.tabs.ext n2.he, .cons (.I ok upd_same (fnone S.sub hx) .nil) rp.tr, by simp, ?_⟩
  -- a step of the callee, seen from here
  have up : ∀ {F' H' : Hp}, Stp false [x] F (upd (upd H dx (.own x)) x (.ins (He.ga K C) dx [])) F' H' → Stp true fp1 F H F' H' := fun s =>
    ⟨s.le, fun a o h n _ => s.keep a o (n2.he a o h) n (.inl (fun z => by rw [List.mem_singleton] at z; subst z; rw [hx] at h; cases h)),
      fun a o h m f _ => s.out a o (n2.he a o h) m f (.inl (fun z => by rw [List.mem_singleton] at z; subst z; rw [hx] at h; cases h)), fun a z => (n2.stp (p := true) (fp := [])).dom a (s.dom a z), fun a w o h1 h2 => s.kf a w o h1 (n2.he a o h2), s.nu⟩
  have fre : ∀ {fq : List Addr}, Fre (upd (upd H dx (.own x)) x (.ins (He.ga K C) dx [])) [x] fq → ∀ a ∈ fq, Fr0 H a := fun f a m => by
    rcases f a m with z | z
    · rw [List.mem_singleton] at z; subst z; exact .of hx
    · exact (n2.stp (p := true) (fp := [])).dom a z
  have Sn : ∀ {F' H' : Hp}, Stp true fp1 F H F' H' → Sub ul F' H' → Tabs T H' → SS ul K T F' H' σ ρ1 fp1 := fun s sb tb => ⟨sb, tb, S.sl.mono s.le s.stayP, S.nd⟩
  have tr : ∀ {F' H' : Hp}, Stp true fp1 F H F' H' → Stp p fp0 F0 H0 F' H' := fun s => (s0.trans fr0 s).imp fun z => by rw [z]; rfl
  match e : mf (.I C [] :: ds.map .f) with
  | .bad => rw [e] at k; exact k.elim
  | .ex y os => 
    rw [e] at k
    intro c d F' H' fa' s sb tb xr ta nd fr
    exact k F' H' fp1 c d (tr (up s)) (Sn (up s) sb tb) fr0 xr
  | .ok o os =>
    rw [e] at k
    intro v F' H' fv fa' s sb tb tv ta nd fr
    match o, os, tv, ta, k with
    | .f .non, o1 :: os, .f .non, .cons (fp := f1) (fq := f2) t1 _, k =>
      have f1fr : ∀ a ∈ f1, Fr0 H a := fun a m => fre fr a (List.mem_append_right _ (List.mem_append_left _ m))
      refine ⟨rfl, k F' H' fp1 (tr (up s)) (Sn (up s) sb tb) fr0 cp _ f1 t1 (List.nodup_append.mpr ⟨(List.nodup_append.mp (List.nodup_append.mp nd).2.1).1, S.nd, fun a m b m' z => ?_⟩) fun a m => .inr (s0.dom a (f1fr a m))⟩
      subst z
      exact (S.sl.own a m').nf (f1fr a m)
    | .f .non, [], _, _, k => exact k.elim
    | .f (.bl _), _, _, _, k => exact k.elim
    | .f (.int _), _, _, _, k => exact k.elim
    | .f (.str _), _, _, _, k => exact k.elim
    | .f (.lst _), _, _, _, k => exact k.elim
    | .f (.tup _), _, _, _, k => exact k.elim
    | .f (.kt _), _, _, _, k => exact k.elim
    | .f (.kl _), _, _, _, k => exact k.elim
    | .f (.dct _ _), _, _, _, k => exact k.elim
    | .f (.ins _ _), _, _, _, k => exact k.elim
    | .L _, _, _, _, k => exact k.elim
    | .M _ _, _, _, _, k => exact k.elim
    | .I _ _, _, _, _, k => exact k.elim
theorem sim_make {n : Nat} {C : Str} {mf0 mf : MF} {E' : XK} {t : TA} {m : MA} (hp : Pas ul K T mf0 mf E E') (ha : SimA ul K T E p t m) (hn : ∀ ρ as ρ', m ρ = .ok as ρ' → as.length + 1 = n) (ok : InsOk K C) : SimE ul K T E p (tMake (He.ga K C) (spM ul K T n mf0) [] E' t) (mMake C mf m) := fun {F H σ ρ fp Q} S k => by
  refine ha S ?_
  cases e0 : m ρ with
  | bad => simp only [mMake, e0, RE.bind] at k; exact k
  | ex x ρ1 => simp only [mMake, e0, RE.bind] at k; exact k
  | ok as ρ1 =>
    simp only [mMake, e0, RE.bind] at k
    intro F1 H1 fp1 s1 S1 fr1 cp vs av x dx hx hd ne
    rw [List.append_nil]
    cases e1 : avD as with
    | none => rw [e1] at k; exact k.elim
    | some ds =>
      rw [e1] at k
      exact (make_run ok s1 fr1 cp S1 (avs_rp av e1) (by rw [av.length]; exact hn ρ as ρ1 e0) k hx hd ne).pas hp
/-- keywords: g the order of all arguments but the first -/
def KBok (K : PySem.W.Frag) (g : {α : Type} → List α → List α → List α) : Prop := ∀ (F : Hp) (vs zs : List V) (ds es : List D), RpA K F vs ds → RpA K F zs es → RpA K F (g vs zs) (g ds es)
theorem sim_makeK {n nv nz : Nat} {C : Str} {mf0 mf : MF} {E' : XK} {t tk : TA} {m mk : MA} {gV : List V → List V → List V} {g : {α : Type} → List α → List α → List α} (hp : Pas ul K T mf0 mf E E') (ha : SimA ul K T E p t m) (hk : SimA ul K T E q tk mk) (hv : ∀ ρ as ρ', m ρ = .ok as ρ' → as.length = nv) (hz : ∀ ρ as ρ', mk ρ = .ok as ρ' → as.length = nz)
    (hg : ∀ x us ws, gV (x :: us) ws = x :: g us ws) (kb : KBok K g) (hl : ∀ vs zs : List V, vs.length = nv → zs.length = nz → (g vs zs).length + 1 = n) (ok : InsOk K C) : SimE ul K T E (p && q) (tMakeK (He.ga K C) nv nz (spM ul K T n mf0) gV E' t tk) (mMakeK C g mf m mk) := fun {F H σ ρ fp Q} S k => by
  refine ha S ?_
  have k1 := Out.bind (p := p) (q := q) k
  cases e0 : m ρ with
  | bad => rw [e0] at k1; exact k1
  | ex x ρ1 => rw [e0] at k1; exact k1
  | ok as ρ1 =>
    rw [e0] at k1
    intro F1 H1 fp1 s1 S1 fr1 cp vs av
    have k2 := k1 F1 H1 fp1 s1 S1 fr1 cp
    dsimp only at k2
    have hlen := hv ρ as ρ1 e0
    refine hk S1 ?_
    cases e1 : mk ρ1 with
    | bad => rw [e1] at k2; exact k2
    | ex x ρ2 => rw [e1] at k2; exact k2
    | ok bs ρ2 =>
      rw [e1] at k2
      intro F2 H2 fp2 s2 S2 fr2 cp2 zs bv
      refine ⟨by rw [av.length]; exact hlen, by rw [bv.length]; exact hz ρ1 bs ρ2 e1, fun x dx hx hd ne => ?_⟩
      cases e2 : avD as with
      | none => simp only [RE.bind, e2] at k2; exact k2.elim
      | some ds =>
        cases e3 : avD bs with
        | none => simp only [RE.bind, e2, e3] at k2; exact k2.elim
        | some es =>
          simp only [RE.bind, e2, e3] at k2
          rw [hg]
          have k3 := k2.mono (Q' := QE K H1 fp1 Q) fun o ρ' F' H' fp' _ _ _ _ y v fv t nd fr => y v fv t nd (Fre.trans fr1 s1 fr)
          exact spM.pas hp <| make_run ok s2 fr2 cp2 S2 (kb F2 vs zs ds es ((avs_rp av e2).mono s2.le) (avs_rp bv e3)) (hl vs zs (by rw [av.length]; exact hlen) (by rw [bv.length]; exact hz ρ1 bs ρ2 e1)) k3 hx hd ne
end
end MR

namespace MR
open PySem PySem.Spec PyProof.Rows L2 SW LamX
/-! ### raise -/
def mRaise (C : Str) (fl : List D → List (Str × D)) (n : Nat) (m : MA) : MS := fun ρ => (m ρ).to fun as ρ1 => match avD as with
  | some ds => bif decide (ds.length = n) then .ex ⟨C, fl ds⟩ ρ1 else .bad
  | none => .bad
def fd0 (code : Str) : List D → List (Str × D) := fun _ => [("code", .str code)]
def fd1 (f code : Str) : List D → List (Str × D) := fun ws => match ws with
  | [v] => [("code", .str code), (f, v)]
  | _ => []
def fd2 (f g code : Str) : List D → List (Str × D) := fun ws => match ws with
  | [v, w] => [("code", .str code), (g, w), (f, v)]
  | _ => []
section
variable {K : PySem.W.Frag} {T : List (Addr × Str)} {E : XK} {kp : List Nat} {p q : Bool} {ta tb tc te : TE} {ma mb mc me : ME}
theorem fl0_ok {F : Hp} {code : Str} {vs : List V} {ds : List D} (hc : Sok code) (h : RpA K F vs ds) : RpF K F (fl0 code vs) (fd0 code ds) := .cons (.str _ hc) .nil
theorem fl1_ok {F : Hp} {f code : Str} {vs : List V} {ds : List D} (hc : Sok code) (h : RpA K F vs ds) : RpF K F (fl1 f code vs) (fd1 f code ds) := by
  cases h with
  | nil => exact .nil
  | cons a t => cases t with
    | nil => exact .cons (.str _ hc) (.cons a .nil)
    | cons _ _ => exact .nil
theorem fl2_ok {F : Hp} {f g code : Str} {vs : List V} {ds : List D} (hc : Sok code) (h : RpA K F vs ds) : RpF K F (fl2 f g code vs) (fd2 f g code ds) := by
  cases h with
  | nil => exact .nil
  | cons a t => cases t with
    | nil => exact .nil
    | cons b t => cases t with
      | nil => exact .cons (.str _ hc) (.cons b (.cons a .nil))
      | cons _ _ => exact .nil
theorem sim_raise {C : Str} {fl : List V → List (Str × V)} {fd : List D → List (Str × D)} {n : Nat} {t : TA} {m : MA} (ha : SimA ul K T E p t m) (hf : ∀ (F : Hp) vs ds, RpA K F vs ds → RpF K F (fl vs) (fd ds)) (hn : n ≤ 1000) (ok : ExcOk K C) : SimS ul K T E kp (tRaiseX (He.ga K C) fl n t E) (mRaise C fd n m) := fun {F H σ ρ fp D} S k => by
  refine ha S (Out.to' k fun as ρ1 F1 H1 fp1 k1 s1 S1 fr1 vs av => ?_)
  cases e : avD as with
  | none => rw [e] at k1; exact k1.elim
  | some ds =>
    rw [e] at k1
    by_cases hl : ds.length = n
    · simp only [decide_eq_true hl, cond_true] at k1
      have rp := avs_rp av e
      refine ⟨by rw [rp.length]; exact hl, hn, fun d H2 hd sm hx => ?_⟩
      have nw : New ul F1 H1 F1 H2 := by
        refine ⟨Same.refl _, sm, fun _ _ _ _ h => h, fun a u z => ?_, fun a w h n => by rw [n] at h; cases h⟩
        obtain ⟨z1, z2⟩ := S1.sub a u z
        refine ⟨z1, ?_⟩
        rcases z2 with z2 | ⟨z2, hl, o, z3⟩
        · exact .inl (sm _ _ z2)
        · exact .inr ⟨z2, hl, o, sm _ _ z3⟩
      exact k1 F1 H2 σ fp1 _ _ ((s1.trans fr1 (nw.stp (p := true))).imp fun z => nomatch z) (nw.ss S1) fr1 (fun _ _ => rfl) ⟨ok, d, _, rfl, rfl, hx, hf F1 vs ds rp⟩
    · simp only [decide_eq_false hl, cond_false] at k1; exact k1.elim
end
/-! ### methods -/
/-- o.m(..), o still, of the class C -/
def mMeth (C m : Str) (mf : MF) (mo : ME) (ma : MA) : ME := fun ρ => (mo ρ).bind fun o ρ1 => match o.fz with
  | .ins B fs => bif decide (B = C) && (fs.lookup m).isNone then (ma ρ1).bind (fun as ρ2 => match avD as with
      | none => .bad
      | some ds => (match mf (.f (.ins B fs) :: ds.map .f) with
        | .ok r _ => .ok r ρ2
        | .ex x _ => .ex x ρ2
        | .bad => .bad)) else .bad
  | _ => .bad
/-- o.m(..), o the instance of slot i -/
def mMethS (C m : Str) (mf : MF) (i : Nat) (ma : MA) : ME := fun ρ => match ρ[i]? with
  | some (some (.I B fs)) => bif decide (B = C) && (fs.lookup m).isNone then (ma ρ).bind (fun as ρ1 => match takeA (.s i :: as) ρ1 with
      | none => .bad
      | some (os, ρ2) => (match mf os with
        | .ok o os' => .ok o (putA (.s i :: as) os' ρ2)
        | .ex x os' => .ex x (putA (.s i :: as) os' ρ2)
        | .bad => .bad)) else .bad
  | _ => .bad
section
variable {K : PySem.W.Frag} {T : List (Addr × Str)} {E : XK} {kp : List Nat} {p q : Bool} {ta tb tc te : TE} {ma mb mc me : ME}
theorem RpF.no {F : Hp} {f : Str} : ∀ {fs : List (Str × V)} {ds : List (Str × D)}, RpF K F fs ds → (ds.lookup f).isNone = true → fs.lookup f = none
  | _, _, .nil, _ => rfl
  | _, _, .cons (k := k) h t, e => by
    by_cases c : (f == k) = true
    · rw [List.lookup_cons, c] at e; cases e
    · have c' : (f == k) = false := by simpa using c
      rw [List.lookup_cons, c'] at e
      rw [List.lookup_cons, c']; exact RpF.no t e
/-- a call with still things alone -/
theorem callP_run {F H F0 H0 : Hp} {σ : L2.St} {ρ0 ρ1 : Env} {fp0 fp1 : List Addr} {n : Nat} {mf : MF} {vs : List V} {ds : List D} {Q : VK} (s0 : Stp p fp0 F0 H0 F H) (fr0 : Fre H0 fp0 fp1) (cp : p = true → ρ1 = ρ0 ∧ fp1 = fp0) (S : SS ul K T F H σ ρ1 fp1) (rp : RpA K F vs ds) (hn : vs.length = n)
    (k : Out ul K T E p F0 H0 σ ρ0 fp0 (QE K H0 fp0 Q) (match mf (ds.map .f) with | .ok o _ => .ok o ρ1 | .ex x _ => .ex x ρ1 | .bad => .bad)) : spM ul K T n mf vs H Q E := by
  refine ⟨hn, F, ds.map .f, [], S.sub, S.tabs, rp.tr, List.nodup_nil, ?_⟩
  have up : ∀ {F' H' : Hp}, Stp false [] F H F' H' → Stp true fp1 F H F' H' := fun s => ⟨s.le, fun a o h n c => s.keep a o h n (.inl (fun z => nomatch z)), fun a o h m n c => s.out a o h m n (.inl (fun z => nomatch z)), s.dom, s.kf, s.nu⟩
  have tr : ∀ {F' H' : Hp}, Stp true fp1 F H F' H' → Stp p fp0 F0 H0 F' H' := fun s => (s0.trans fr0 s).imp fun z => by rw [z]; rfl
  cases e2 : mf (ds.map .f) with
  | bad => rw [e2] at k; exact k
  | ok o os' =>
    rw [e2] at k
    intro v F' H' fv fa' s sb tb tv ta' nd' fre
    have frv : ∀ a ∈ fv, Fr0 H a := fun a m => by
      rcases fre a (List.mem_append_left _ m) with z | z
      · exact nomatch z
      · exact z
    refine k F' H' fp1 (tr (up s)) ⟨sb, tb, S.sl.mono s.le (up s).stayP, S.nd⟩ fr0 cp v fv tv ?_ fun a m => .inr (s0.dom a (frv a m))
    refine List.nodup_append.mpr ⟨(List.nodup_append.mp nd').1, S.nd, fun a m b m' z => ?_⟩
    subst z
    exact (S.sl.own a m').nf (frv a m)
  | ex x os' =>
    rw [e2] at k
    intro c d F' H' fa' s sb tb xr ta' nd' fre
    exact k F' H' fp1 c d (tr (up s)) ⟨sb, tb, S.sl.mono s.le (up s).stayP, S.nd⟩ fr0 xr
theorem sim_meth {n : Nat} {C m : Str} {mf0 mf : MF} {E' : XK} {t : TA} {mt : MA} (hp : Pas ul K T mf0 mf E E') (ho : SimF ul K T E p ta ma) (ha : SimA ul K T E q t mt) (hn : ∀ ρ as ρ', mt ρ = .ok as ρ' → as.length + 1 = n) : SimE ul K T E (p && q) (tMeth (He.ga K C) m (spM ul K T n mf0) [] E' ta t) (mMeth C m mf ma mt) := fun {F H σ ρ fp Q} S k => by
  refine ho S ?_
  have k1 := Out.bind (p := p) (q := q) k
  refine k1.mono fun o ρ1 F1 H1 fp1 s1 S1 fr1 cp k2 v rp => ?_
  generalize e : o.fz = d0 at rp k2
  cases rp with
  | ins ok hx rf =>
    rename_i a dx B vs fs
    dsimp only at k2
    cases hc : decide (B = C) && (fs.lookup m).isNone with
    | false => simp only [hc, cond_false] at k2; exact k2.elim
    | true =>
      simp only [hc, cond_true] at k2
      obtain ⟨hc1, hc2⟩ := Bool.and_eq_true_iff.mp hc
      have hB : B = C := of_decide_eq_true hc1
      subst hB
      have hx' : H1 a = some (.ins (He.ga K B) dx vs) := by
        obtain ⟨_, h | ⟨z, _⟩⟩ := S1.sub a _ hx
        · exact h
        · exact z.elim
      refine ⟨a, dx, vs, rfl, hx', RpF.no rf hc2, ha S1 ?_⟩
      cases e1 : mt ρ1 with
      | bad => simp only [e1, RE.bind] at k2; exact k2
      | ex x ρ2 => simp only [e1, RE.bind] at k2; exact k2
      | ok as ρ2 =>
        simp only [e1, RE.bind] at k2
        intro F2 H2 fp2 s2 S2 fr2 cp2 us av
        rw [List.append_nil]
        cases e2 : avD as with
        | none => rw [e2] at k2; exact k2.elim
        | some ds =>
          rw [e2] at k2
          have k3 := k2.mono (Q' := QE K H1 fp1 Q) fun o ρ' F' H' fp' _ _ _ _ y v fv t nd fr => y v fv t nd (Fre.trans fr1 s1 fr)
          exact spM.pas hp <| callP_run (ds := .ins B fs :: ds) s2 fr2 cp2 S2 (.cons ((Rp.ins ok hx rf).mono s2.le) (avs_rp av e2)) (by rw [List.length_cons, av.length]; exact hn ρ1 as ρ2 e1) k3
  | _ => exact k2.elim
theorem sim_methS {n : Nat} {C m : Str} {mf0 mf : MF} {E' : XK} {i : Nat} {t : TA} {mt : MA} (hp : Pas ul K T mf0 mf E E') (ha : SimA ul K T E q t mt) (hn : ∀ ρ as ρ', mt ρ = .ok as ρ' → as.length + 1 = n) : SimE ul K T E false (tMeth (He.ga K C) m (spM ul K T n mf0) [] E' (tVar i) t) (mMethS C m mf i mt) := fun {F H σ ρ fp Q} S k => by
  unfold mMethS at k
  match e : ρ[i]? with
  | none => simp only [e] at k; exact k.elim
  | some none => simp only [e] at k; exact k.elim
  | some (some (.f _)) => simp only [e] at k; exact k.elim
  | some (some (.L _)) => simp only [e] at k; exact k.elim
  | some (some (.M _ _)) => simp only [e] at k; exact k.elim
  | some (some (.I B fs)) =>
    simp only [e] at k
    obtain ⟨x, fi, fr, g1, g2, g3, g4⟩ := S.sl.take e
    cases g2 with
    | I ok hx hnF tf =>
      rename_i a dx vs f0
      cases hc : decide (B = C) && (fs.lookup m).isNone with
      | false => simp only [hc, cond_false] at k; exact k.elim
      | true =>
        simp only [hc, cond_true] at k
        obtain ⟨hc1, hc2⟩ := Bool.and_eq_true_iff.mp hc
        have hB : B = C := of_decide_eq_true hc1
        subst hB
        refine ⟨_, g1, a, dx, vs, rfl, hx, tf.no (by simpa using hc2), ha S ?_⟩
        cases e0 : mt ρ with
        | bad => simp only [e0, RE.bind] at k; exact k
        | ex x ρ1 => simp only [e0, RE.bind] at k; exact fun F' H' fp' c d s S' fr xr => k F' H' fp' c d (s.imp fun z => nomatch z) S' fr xr
        | ok as ρ1 =>
          simp only [e0, RE.bind] at k
          intro F1 H1 fp1 s1 S1 fr1 _ us av
          rw [List.append_nil]
          cases e1 : takeA (.s i :: as) ρ1 with
          | none => rw [e1] at k; exact k.elim
          | some w =>
            obtain ⟨os, ρ2⟩ := w
            rw [e1] at k
            have := call_run (mf := mf) (s1.imp fun z => nomatch z) fr1 S1 (.s g1 av) e1 k
            rw [List.length_cons, av.length, hn ρ as ρ1 e0] at this
            exact this.pas hp
/-! ### super().m(..) of the slot 0 -/
def mSup (C : Str) (mf : MF) (ma : MA) : MS := fun (ρ : Env) => match (ρ[0]? : Option (Option O)) with
  | some (some (.I B fs)) => bif decide (B = C) then (ma ρ).to (fun as ρ1 => match takeA (.s 0 :: as) ρ1 with
      | none => .bad
      | some (os, ρ2) => (match mf os with
        | .ok _ os' => .nx (putA (.s 0 :: as) os' ρ2)
        | .ex x os' => .ex x (putA (.s 0 :: as) os' ρ2)
        | .bad => .bad)) else .bad
  | _ => .bad
theorem sim_sup {n : Nat} {C : Str} {mf0 mf : MF} {E' : XK} {t : TA} {mt : MA} (hp : Pas ul K T mf0 mf E E') (ha : SimA ul K T E q t mt) (hn : ∀ ρ as ρ', mt ρ = .ok as ρ' → as.length + 1 = n) : SimS ul K T E kp (tSupM (He.ga K C) (spM ul K T n mf0) E' t) (mSup C mf mt) := fun {F H σ ρ fp D} S k => by
  unfold mSup at k
  match e : (ρ[0]? : Option (Option O)) with
  | none => simp only [e] at k; exact k.elim
  | some none => simp only [e] at k; exact k.elim
  | some (some (.f _)) => simp only [e] at k; exact k.elim
  | some (some (.L _)) => simp only [e] at k; exact k.elim
  | some (some (.M _ _)) => simp only [e] at k; exact k.elim
  | some (some (.I B fs)) =>
    simp only [e] at k
    obtain ⟨x, fi, fr, g1, g2, g3, g4⟩ := S.sl.take e
    cases g2 with
    | I ok hx hnF tf =>
      rename_i a dx vs f0
      by_cases hB : B = C
      · subst hB
        simp only [decide_true, cond_true] at k
        refine ⟨a, dx, vs, g1, hx, ha S ?_⟩
        cases e0 : mt ρ with
        | bad => simp only [e0, RE.to] at k; exact k
        | ex x ρ1 => simp only [e0, RE.to] at k; exact fun F' H' fp' c d s S' fr xr => k F' H' σ fp' c d (s.imp fun z => nomatch z) S' fr (fun _ _ => rfl) xr
        | ok as ρ1 =>
          simp only [e0, RE.to] at k
          intro F1 H1 fp1 s1 S1 fr1 _ us av
          cases e1 : takeA (.s 0 :: as) ρ1 with
          | none => rw [e1] at k; exact k.elim
          | some w =>
            obtain ⟨os, ρ2⟩ := w
            rw [e1] at k
            have := call_run (mf := mf) (ρ0 := ρ) (Q := fun _ H2 => D.nx σ H2) (E := E) (s1.imp (q := false) fun z => nomatch z) fr1 S1 (.s g1 av) e1 (by
              cases e2 : mf os with
              | bad => simp only [e2] at k; exact k
              | ok o os' =>
                simp only [e2] at k
                exact fun F' H' fp' s S' fr _ v fv _ _ _ => k F' H' σ fp' s S' fr fun _ _ => rfl
              | ex x os' =>
                simp only [e2] at k
                exact fun F' H' fp' c d s S' fr xr => k F' H' σ fp' c d s S' fr (fun _ _ => rfl) xr)
            rw [List.length_cons, av.length, hn ρ as ρ1 e0] at this
            exact this.pas hp
      · simp only [decide_eq_false hB, cond_false] at k; exact k.elim
end
end MR

namespace MR
open PySem PySem.Spec PyProof.Rows L2 SW LamX
def lookAll (fs : List (Str × D)) : List Str → Option (List D)
  | [] => some []
  | n :: r => (fs.lookup n).bind fun d => (lookAll fs r).bind fun ds => some (d :: ds)
/-- what the law's helper tells of an error -/
def partsD (x : Xc) : Option (Str × List D) := match x.fs.lookup ("code" : Str) with
  | some (.str code) => bif (("code" : Str) :: fieldsOf code).all fun n => decide (n ∈ xfldsOf x.cls) then (lookAll x.fs (fieldsOf code)).map fun ds => (code, ds) else none
  | _ => none
def mTry (me : ME) : ME := fun ρ => match me ρ with
  | .ok o ρ1 => .ok (.f (.tup [.str "", o.fz])) ρ1
  | .ex x ρ1 => (match partsD x with
    | some (code, ds) => bif decide (ds.length ≤ 1000) then .ok (.f (.tup (.str code :: ds))) ρ1 else .bad
    | none => .bad)
  | .bad => .bad
def mWhy (me : ME) : ME := fun ρ => match me ρ with
  | .ok _ ρ1 => .ok (.f (.tup [])) ρ1
  | .ex x ρ1 => (match partsD x with
    | some (code, ds) => bif decide (ds.length ≤ 1000) && decide (code ≠ "") then .ok (.f (.tup (.str code :: ds))) ρ1 else .bad
    | none => .bad)
  | .bad => .bad
section
variable {K : PySem.W.Frag} {T : List (Addr × Str)} {E : XK} {kp : List Nat} {p q : Bool} {ta tb tc te : TE} {ma mb mc me : ME}
theorem RpF.get {F : Hp} {f : Str} : ∀ {fs : List (Str × V)} {ds : List (Str × D)} {d : D}, RpF K F fs ds → ds.lookup f = some d → ∃ v, fs.lookup f = some v ∧ Rp K F v d
  | _, _, _, .nil, e => by cases e
  | _, _, _, .cons (k := k) (v := v) h t, e => by
    by_cases c : (f == k) = true
    · rw [List.lookup_cons, c] at e
      cases e
      exact ⟨v, by rw [List.lookup_cons, c], h⟩
    · have c' : (f == k) = false := by simpa using c
      rw [List.lookup_cons, c'] at e
      obtain ⟨v', h1, h2⟩ := RpF.get t e
      exact ⟨v', by rw [List.lookup_cons, c']; exact h1, h2⟩
theorem lookAll_rp {F : Hp} {fs : List (Str × V)} {xs : List (Str × D)} (h : RpF K F fs xs) : ∀ {ns : List Str} {ds : List D}, lookAll xs ns = some ds → ∃ ws, ns.map (fun n => fs.lookup n) = ws.map some ∧ RpA K F ws ds
  | [], ds, e => by cases e; exact ⟨[], rfl, .nil⟩
  | n :: r, ds, e => by
    obtain ⟨d, h1, h2⟩ := Option.bind_eq_some_iff.mp (show (xs.lookup n).bind _ = some ds from e)
    obtain ⟨es, h3, h4⟩ := Option.bind_eq_some_iff.mp h2
    cases h4
    obtain ⟨v, h5, h6⟩ := h.get h1
    obtain ⟨ws, h7, h8⟩ := lookAll_rp h h3
    exact ⟨v :: ws, by rw [List.map_cons, List.map_cons, h5, h7], .cons h6 h8⟩
theorem xtold_of {F H : Hp} {x : Xc} {c : Value} {d : Option Addr} {code : Str} {ds : List D} (xr : XR K F H x c d) (e : partsD x = some (code, ds)) :
    ∃ ws, PySem.W.exmAny K c [.ref (He.ga K "StandError"), .ref (He.ga K "Missing")] = some true ∧ XTold K H c d code ws ∧ RpA K F (.str code :: ws) (.str code :: ds) := by
  obtain ⟨ok, dd, fs, rfl, rfl, hx, rf⟩ := xr
  unfold partsD at e
  split at e
  · rename_i code' hc
    cases hb : (("code" : Str) :: fieldsOf code').all fun n => decide (n ∈ xfldsOf x.cls) with
    | false => rw [hb] at e; cases e
    | true =>
      rw [hb] at e
      obtain ⟨es, h1, h2⟩ := Option.map_eq_some_iff.mp (show (lookAll x.fs (fieldsOf code')).map _ = _ from e)
      cases h2
      obtain ⟨v, h3, h4⟩ := rf.get hc
      cases h4 with
      | str _ hs =>
        obtain ⟨ws, h5, h6⟩ := lookAll_rp rf h1
        exact ⟨ws, ok.f.exm, ⟨_, dd, fs, rfl, rfl, hx, ok.f.xf, fun n hn => ok.f.no n (of_decide_eq_true (List.all_eq_true.mp hb n hn)), h3, h5⟩, .cons (.str _ hs) h6⟩
  · cases e
/-- a heap that grew by tables alone -/
theorem ext_ss {F H H1 : Hp} {σ : L2.St} {ρ : Env} {fp : List Addr} (S : SS ul K T F H σ ρ fp) (e : ExtN H H1) (t : Tabs T H1) : SS ul K T F H1 σ ρ fp ∧ ∀ (q : Bool) fq, Stp q fq F H F H1 := by
  refine ⟨⟨fun a u z => ?_, t, S.sl.mono (Same.refl _) fun a m o h mu f => ⟨e a o h (mut_nt mu), f⟩, S.nd⟩, fun q fq => ⟨Same.refl _, fun a o h n _ => e a o h n, fun a o h m f _ => f, fun a z o h n => z o (e a o h n) n, fun a w o h1 h2 => ?_, fun a w h n => by rw [n] at h; cases h⟩⟩
  · obtain ⟨h1, h2 | ⟨h2, hl, o, h3⟩⟩ := S.sub a u z
    · exact ⟨h1, .inl (e a u h2 h1)⟩
    · exact ⟨h1, .inr ⟨h2, hl, o, e a _ h3 fun ps z => by cases z⟩⟩
  · obtain ⟨z1, z2 | ⟨_, _, o', z3⟩⟩ := S.sub a w h1
    · rw [z2] at h2; cases h2; exact e a _ z2 z1
    · rw [z3] at h2; cases h2; exact e a _ z3 fun ps z => by cases z
theorem sok_empty : Sok "" := sok_lit (by decide +kernel)
/-- _law_try(lambda: ..): what comes behind, by the body's outcome -/
theorem try_run {t : XK → TE} {F H : Hp} {σ : L2.St} {ρ : Env} {fp : List Addr} {Q : VK} (h : ∀ E, SimE ul K T E p (t E) me) (S : SS ul K T F H σ ρ fp)
    (k : ∀ (ρ1 : Env) (ds : List D), (∃ o, me ρ = .ok o ρ1 ∧ ds = [.str "", o.fz]) ∨ (∃ x code es, me ρ = .ex x ρ1 ∧ partsD x = some (code, es) ∧ ds = .str code :: es) → ∀ F' H' fp' v, Stp p fp F H F' H' → SS ul K T F' H' σ ρ1 fp' → Fre H fp fp' → ((∃ o, me ρ = .ok o ρ1) → p = true → ρ1 = ρ ∧ fp' = fp) → Rp K F' v (.tup ds) → Q v H')
    (nb : me ρ ≠ .bad) (nx : ∀ x ρ1, me ρ = .ex x ρ1 → ∃ code es, partsD x = some (code, es) ∧ es.length ≤ 1000) : tLamU T (TTry K (.ref (He.ga K "StandError")) (.ref (He.ga K "Missing"))) t σ H Q := by
  refine ⟨S.tabs, fun H1 ext tb => ?_⟩
  obtain ⟨S1, st⟩ := ext_ss S ext tb
  refine up_of (tl := fun E H' Q' => t E σ H' Q') ?_
  refine SimE.f (h (ETry K (.ref (He.ga K "StandError")) (.ref (He.ga K "Missing")) Q)) S1 ?_
  have s1 := st p fp
  have s1t := st true fp
  cases e : me ρ with
  | bad => exact absurd e nb
  | ok o ρ1 =>
    intro F' H' fp' s S' fr c v rp a ha
    have n := upd_new (o := .tup [.str "", v]) S'.sub ha fun _ z => by cases z
    have st2 : Stp p fp F H (upd F' a (.tup [.str "", v])) (upd H' a (.tup [.str "", v])) := (s1t.trans .refl (s.trans fr (n.stp (p := true)))).imp fun z => by rw [z]; rfl
    exact k ρ1 _ (.inl ⟨o, e, rfl⟩) _ _ fp' _ st2 (n.ss S') (fun a m => (fr a m).imp id (s1t.dom a)) (fun _ z => c z) (.tup upd_same (.cons (.str _ sok_empty) (.cons (rp.mono n.le) .nil)))
  | ex x ρ1 =>
    obtain ⟨code, es, hp, hl⟩ := nx x ρ1 e
    intro F' H' fp' c d s S' fr xr
    obtain ⟨ws, h1, h2, h3⟩ := xtold_of xr hp
    refine ⟨code, ws, h1, h2, ?_, fun a H2 ha sm hx => ?_⟩
    · have := h3.length
      simp only [List.length_cons] at this
      omega
    have n : New ul F' H' (upd F' a (.tup (.str code :: ws))) H2 := by
      have fa := fnone S'.sub ha
      refine ⟨same_new fa, sm, fun b u hb m f => ?_, fun b u z => ?_, fun b w z n => ?_⟩
      · rw [upd_ne (ne_of_none hb ha)]; exact f
      · by_cases hb : b = a
        · subst hb; rw [upd_same] at z; cases z; exact ⟨(fun _ z => by cases z), .inl hx⟩
        · rw [upd_ne hb] at z
          obtain ⟨z1, z2 | ⟨z2, hl, o, z3⟩⟩ := S'.sub b u z
          · exact ⟨z1, .inl (sm _ _ z2)⟩
          · exact ⟨z1, .inr ⟨z2, hl, o, sm _ _ z3⟩⟩
      · by_cases hb : b = a
        · subst hb; rw [upd_same] at z; cases z; exact hx
        · rw [upd_ne hb, n] at z; cases z
    have st2 : Stp p fp F H (upd F' a (.tup (.str code :: ws))) H2 := (s1t.trans .refl (s.trans fr (n.stp (p := true)))).imp fun z => by rw [z]; rfl
    exact k ρ1 _ (.inr ⟨x, code, es, e, hp, rfl⟩) _ _ fp' _ st2 (n.ss S') (fun a m => (fr a m).imp id (s1t.dom a)) (fun ⟨o, z⟩ => by rw [e] at z; cases z) (.tup upd_same (h3.mono n.le))
theorem sim_try {t : XK → TE} (h : ∀ E, SimE ul K T E p (t E) me) : SimE ul K T E false (tLamU T (TTry K (.ref (He.ga K "StandError")) (.ref (He.ga K "Missing"))) t) (mTry me) := fun {F H σ ρ fp Q} S k => by
  unfold mTry at k
  refine try_run h S (fun ρ1 ds hd F' H' fp' v st S' fr _ rp => ?_) (fun z => by rw [z] at k; exact k) fun x ρ1 z => ?_
  · have st' : Stp false fp F H F' H' := st.imp fun z => nomatch z
    rcases hd with ⟨o, e, rfl⟩ | ⟨x, code, es, e, hp, rfl⟩
    · rw [e] at k
      exact k F' H' fp' st' S' fr (fun z => nomatch z) v [] (.f rp) (by rw [List.nil_append]; exact S'.nd) fun a m => nomatch m
    · rw [e] at k
      simp only [hp] at k
      by_cases hl : es.length ≤ 1000
      · simp only [decide_eq_true hl, cond_true] at k
        exact k F' H' fp' st' S' fr (fun z => nomatch z) v [] (.f rp) (by rw [List.nil_append]; exact S'.nd) fun a m => nomatch m
      · simp only [decide_eq_false hl, cond_false] at k; exact k.elim
  · rw [z] at k
    cases hp : partsD x with
    | none => simp only [hp] at k; exact k.elim
    | some w =>
      obtain ⟨code, es⟩ := w
      simp only [hp] at k
      by_cases hl : es.length ≤ 1000
      · exact ⟨code, es, rfl, hl⟩
      · simp only [decide_eq_false hl, cond_false] at k; exact k.elim
theorem sim_why {t : XK → TE} (h : ∀ E, SimE ul K T E p (t E) me) : SimE ul K T E false (tLamU T (TWhy K (.ref (He.ga K "StandError")) (.ref (He.ga K "Missing"))) t) (mWhy me) := fun {F H σ ρ fp Q} S k => by
  unfold mWhy at k
  have tr := try_run (Q := fun v H1 => ∃ p x rest, v = .ref p ∧ H1 p = some (.tup (.str x :: rest)) ∧ (x = "" → ∀ r, H1 r = none → Q (.ref r) (L2.upd H1 r (.tup []))) ∧ (x ≠ "" → Q (.ref p) H1)) h S (fun ρ1 ds hd F' H' fp' v st S' fr _ rp => ?_) (fun z => by rw [z] at k; exact k) fun x ρ1 z => ?_
  · exact ⟨tr.1, fun H1 e t => tr.2 H1 e t⟩
  · have st' : Stp false fp F H F' H' := st.imp fun z => nomatch z
    rcases hd with ⟨o, e, rfl⟩ | ⟨x, code, es, e, hp, rfl⟩
    · rw [e] at k
      cases rp with
      | tup hx ra =>
        cases ra with
        | cons h1 h2 =>
          cases h1 with
          | str _ _ =>
            refine ⟨_, _, _, rfl, S'.sub.tup hx, fun _ r hr => ?_, fun z => absurd rfl z⟩
            have n := upd_new (o := .tup []) S'.sub hr fun _ z => by cases z
            exact k _ _ fp' ((st'.trans fr (n.stp (p := true))).imp fun z => nomatch z) (n.ss S') fr (fun z => nomatch z) _ [] (.f (.tup upd_same .nil)) (by rw [List.nil_append]; exact S'.nd) fun a m => nomatch m
    · rw [e] at k
      simp only [hp] at k
      cases hc : decide (es.length ≤ 1000) && decide (code ≠ "") with
      | false => rw [hc] at k; exact k.elim
      | true =>
        rw [hc] at k
        obtain ⟨_, hc2⟩ := Bool.and_eq_true_iff.mp hc
        have hne : code ≠ "" := of_decide_eq_true hc2
        have fin := k F' H' fp' st' S' fr (fun z => nomatch z) v [] (.f rp) (by rw [List.nil_append]; exact S'.nd) fun a m => nomatch m
        cases rp with
        | tup hx ra =>
          cases ra with
          | cons h1 h2 =>
            cases h1 with
            | str _ _ => exact ⟨_, _, _, rfl, S'.sub.tup hx, fun z => absurd z hne, fun _ => fin⟩
  · rw [z] at k
    cases hp : partsD x with
    | none => simp only [hp] at k; exact k.elim
    | some w =>
      obtain ⟨code, es⟩ := w
      simp only [hp] at k
      by_cases hl : es.length ≤ 1000
      · exact ⟨code, es, rfl, hl⟩
      · simp only [decide_eq_false hl, Bool.false_and, cond_false] at k; exact k.elim
end
end MR

namespace MR
open PySem PySem.Spec PyProof.Rows L2 SW LamX
/-! ### None, texts -/
def gIsN : D → D → Option O
  | .non, .non => some (.f (.bl true))
  | _, .non => some (.f (.bl false))
  | _, _ => none
def gNotN : D → D → Option O
  | .non, .non => some (.f (.bl false))
  | _, .non => some (.f (.bl true))
  | _, _ => none
def sokS (x : Str) : Bool := decide (x.length ≤ 100000) && x.cps.toList.all fun c => decide (c < 1114112)
def mkS (x : Str) : Option O := bif sokS x then some (.f (.str x)) else none
def smallI (i : Int) : Bool := decide (-1000000000000 ≤ i ∧ i ≤ 1000000000000)
def gFmt : D → Option O
  | .str x => some (.f (.str x))
  | .int i => bif smallI i then mkS (toString i) else none
  | _ => none
def gStrI : D → Option O
  | .int i => bif smallI i then mkS (toString i) else none
  | _ => none
def rFmt : V → Hp → VK → Prop := fun x H1 Q => (∃ y : Str, x = .str y ∧ y.length ≤ sizeLine ∧ Q (.str y) H1) ∨ ∃ i : Int, x = .int i ∧ i.natAbs.log2 < 1920 ∧ Q (.str (toString i)) H1
def strsD : List D → Option (List Str)
  | [] => some []
  | .str b :: r => (strsD r).map (b :: ·)
  | _ :: _ => none
def joinD (a : Str) : D → Option O
  | .lst xs => (strsD xs).bind fun ys => bif decide ((ys.map (·.length)).sum + ys.length * a.length ≤ 100000) then mkS (Txt.join a ys) else none
  | .tup xs => (strsD xs).bind fun ys => bif decide ((ys.map (·.length)).sum + ys.length * a.length ≤ 100000) then mkS (Txt.join a ys) else none
  | _ => none
def mJoin (ma mb : ME) : ME := fun ρ => (ma ρ).bind fun a ρ1 => match a with
  | .f (.str x) => (mb ρ1).bind fun b ρ2 => RE.of (joinD x b.fz) ρ2
  | _ => .bad
def gPart (a : Str) : D → Option O
  | .str b => bif (b.length == 0) then none else bif sokS (Txt.partition a b).1 && (sokS (Txt.partition a b).2.1 && sokS (Txt.partition a b).2.2) then some (.f (.tup [.str (Txt.partition a b).1, .str (Txt.partition a b).2.1, .str (Txt.partition a b).2.2])) else none
  | _ => none
def mPartition (ma mb : ME) : ME := fun ρ => (ma ρ).bind fun a ρ1 => match a with
  | .f (.str x) => (mb ρ1).bind fun b ρ2 => RE.of (gPart x b.fz) ρ2
  | _ => .bad
def jNil : Str → Env → RE Str := fun acc ρ => .ok acc ρ
def jCons (m : ME) (r : Str → Env → RE Str) : Str → Env → RE Str := fun acc ρ => (m ρ).bind fun o ρ1 => match o with
  | .f (.str y) => bif decide ((acc ++ y).length ≤ 100000) then r (acc ++ y) ρ1 else .bad
  | _ => .bad
def mFs (mj : Str → Env → RE Str) : ME := fun ρ => (mj Str.empty ρ).bind fun out ρ1 => RE.of (mkS out) ρ1
section
variable {K : PySem.W.Frag} {T : List (Addr × Str)} {E : XK} {kp : List Nat} {p q : Bool} {ta tb tc te : TE} {ma mb mc me : ME}
theorem non_rp {F : Hp} {x : V} {d : D} (h : Rp K F x d) : (x = .non ∧ d = .non) ∨ (x ≠ .non ∧ d ≠ .non) := by
  cases h <;> first | exact .inl ⟨rfl, rfl⟩ | exact .inr ⟨(fun z => by cases z), (fun z => by cases z)⟩
theorem op_isN : Op2 ul K rIsN gIsN := fun F H x y d e o Q s hx hy h k => by
  cases hy with
  | non =>
    refine ⟨rfl, ?_⟩
    rcases non_rp hx with ⟨rfl, rfl⟩ | ⟨h1, h2⟩
    · cases h; rw [decide_eq_true rfl]; exact op_val s (.bl _) k
    · have e : gIsN d .non = some (.f (.bl false)) := by cases d <;> first | rfl | exact absurd rfl h2
      rw [e] at h; cases h
      rw [decide_eq_false h1]; exact op_val s (.bl _) k
  | _ => cases d <;> cases h
theorem op_notN : Op2 ul K rNotN gNotN := fun F H x y d e o Q s hx hy h k => by
  cases hy with
  | non =>
    refine ⟨rfl, ?_⟩
    rcases non_rp hx with ⟨rfl, rfl⟩ | ⟨h1, h2⟩
    · cases h; rw [decide_eq_true rfl]; exact op_val s (.bl _) k
    · have e : gNotN d .non = some (.f (.bl true)) := by cases d <;> first | rfl | exact absurd rfl h2
      rw [e] at h; cases h
      rw [decide_eq_false h1]; exact op_val s (.bl _) k
  | _ => cases d <;> cases h
theorem sokS_ok {x : Str} (h : sokS x = true) : Sok x := sok_lit h
theorem mkS_of {x : Str} {o : O} (h : mkS x = some o) : Sok x ∧ o = .f (.str x) := by
  unfold mkS at h
  cases c : sokS x with
  | false => rw [c] at h; cases h
  | true => rw [c] at h; cases h; exact ⟨sokS_ok c, rfl⟩
theorem log_of {i : Int} (h : smallI i = true) : i.natAbs.log2 < 1920 := by
  have := of_decide_eq_true h
  exact log2_small this.1 this.2
theorem op_fmt : Op1 ul K rFmt gFmt := fun F H x d o Q s hx h k => by
  have hz : sizeLine = 16777216 := sizeLine_eq
  cases hx with
  | str y hy => cases h; exact .inl ⟨y, rfl, by have := hy.len; omega, op_val s (.str _ hy) k⟩
  | int i =>
    rw [show gFmt (.int i) = bif smallI i then mkS (toString i) else none from rfl] at h
    cases c : smallI i with
    | false => rw [c] at h; cases h
    | true =>
      rw [c] at h
      obtain ⟨h1, rfl⟩ := mkS_of h
      exact .inr ⟨i, rfl, log_of c, op_val s (.str _ h1) k⟩
  | _ => cases h
theorem op_strI : Op1 ul K (fun x H Q => uStr [x] H Q) gStrI := fun F H x d o Q s hx h k => by
  cases hx with
  | int i =>
    rw [show gStrI (.int i) = bif smallI i then mkS (toString i) else none from rfl] at h
    cases c : smallI i with
    | false => rw [c] at h; cases h
    | true =>
      rw [c] at h
      obtain ⟨h1, rfl⟩ := mkS_of h
      exact ⟨i, rfl, log_of c, op_val s (.str _ h1) k⟩
  | _ => cases h
theorem sim_fmt (ha : SimR ul K T E p ta ma) : SimE ul K T E p (tFmt ta) (mOp1R gFmt ma) := sim_op1R (r := rFmt) ha op_fmt
theorem strsD_rp {F : Hp} : ∀ {v : List V} {d : List D} {bs : List Str}, RpA K F v d → strsD d = some bs → v = bs.map V.str
  | _, _, _, .nil, e => by cases e; rfl
  | _, d :: ds, bs, .cons h t, e => by
    cases h with
    | str b hb =>
      obtain ⟨r, h1, rfl⟩ := Option.map_eq_some_iff.mp (show (strsD ds).map (b :: ·) = some bs from e)
      rw [strsD_rp t h1]; rfl
    | _ => cases e
theorem join_op {F H : Hp} {a : Str} {y : V} {d : D} {o : O} {Q : VK} (s : Sub ul F H) (hy : Rp K F y d) (h : joinD a d = some o) (k : ∀ w F' H' fv, New ul F H F' H' → Tr K H' F' w o fv → (∀ a ∈ fv, H a = none) → fv.Nodup → Q w H') : m_join K (.str a) [y] H Q := by
  have fin : ∀ {p : Addr} {xs : List V} {ds : List D}, y = .ref p → (SqL K H p xs ∨ SqT K H p xs) → RpA K F xs ds → ((strsD ds).bind fun ys => bif decide ((ys.map (·.length)).sum + ys.length * a.length ≤ 100000) then mkS (Txt.join a ys) else none) = some o → m_join K (.str a) [y] H Q := fun {p xs ds} e hs ra hb => by
    obtain ⟨ys, h1, h2⟩ := Option.bind_eq_some_iff.mp hb
    cases strsD_rp ra h1
    by_cases hl : (ys.map (·.length)).sum + ys.length * a.length ≤ 100000
    · rw [decide_eq_true hl] at h2
      obtain ⟨h3, rfl⟩ := mkS_of h2
      subst e
      exact ⟨a, p, ys, rfl, rfl, hs, by omega, op_val s (.str _ h3) k⟩
    · rw [decide_eq_false hl] at h2; cases h2
  cases hy with
  | lst ha ra => exact fin rfl (.inl (s.lst (.inl ha))) ra h
  | tup ha ra => exact fin rfl (.inr (sqT_of s ha)) ra h
  | _ => cases h
theorem sim_join (ha : SimR ul K T E p ta ma) (hb : SimF ul K T E q tb mb) : SimE ul K T E (p && q) (tM1 (m_join K) ta tb) (mJoin ma mb) := fun {F H σ ρ fp Q} S k => by
  refine ha S ?_
  have k1 := Out.bind (p := p) (q := q) k
  refine k1.mono fun a ρ1 F1 H1 fp1 s1 S1 fr1 _ k2 v fv t => ?_
  cases t with
  | f rp =>
    cases rp with
    | str x hx =>
      refine ⟨⟨x, rfl⟩, hb S1 ?_⟩
      have k3 := Out.bind (p := q) (q := true) (by rw [Bool.and_true]; exact k2)
      refine k3.mono fun b ρ2 F2 H2 fp2 s2 S2 fr2 _ k4 w rq => ?_
      obtain ⟨u, e, hk⟩ := op_end S2 k4 fun a z => s1.dom a (s2.dom a z)
      exact join_op S2.sub rq e hk
    | _ => exact k2.elim
  | _ => exact k2.elim
theorem sim_partition (ha : SimR ul K T E p ta ma) (hb : SimF ul K T E q tb mb) : SimE ul K T E (p && q) (tM1 (m_partition K) ta tb) (mPartition ma mb) := fun {F H σ ρ fp Q} S k => by
  refine ha S ?_
  have k1 := Out.bind (p := p) (q := q) k
  refine k1.mono fun a ρ1 F1 H1 fp1 s1 S1 fr1 _ k2 v fv t => ?_
  cases t with
  | f rp =>
    cases rp with
    | str x hx =>
      refine ⟨⟨x, rfl⟩, hb S1 ?_⟩
      have k3 := Out.bind (p := q) (q := true) (by rw [Bool.and_true]; exact k2)
      refine k3.mono fun b ρ2 F2 H2 fp2 s2 S2 fr2 _ k4 w rq => ?_
      obtain ⟨u, e, hk⟩ := op_end S2 k4 fun a z => s1.dom a (s2.dom a z)
      generalize b.fz = d at rq e
      cases rq with
      | str y hy =>
        unfold gPart at e
        dsimp only at e
        cases c : (y.length == 0) with
        | true => rw [c] at e; cases e
        | false =>
          rw [c] at e
          dsimp only [cond_false] at e
          cases c2 : sokS (Txt.partition x y).1 && (sokS (Txt.partition x y).2.1 && sokS (Txt.partition x y).2.2) with
          | false => rw [c2] at e; cases e
          | true =>
            rw [c2] at e
            cases e
            obtain ⟨c3, c4⟩ := Bool.and_eq_true_iff.mp c2
            obtain ⟨c4, c5⟩ := Bool.and_eq_true_iff.mp c4
            refine ⟨x, y, rfl, rfl, c, by have := hx.len; rw [sizeLine_eq]; omega, fun a hn => ?_⟩
            exact op_tup S2.sub hn (.cons (.str _ (sokS_ok c3)) (.cons (.str _ (sokS_ok c4)) (.cons (.str _ (sokS_ok c5)) .nil))) hk
      | _ => cases e
    | _ => exact k2.elim
  | _ => exact k2.elim
def SimJ (ul : Bool) (K : PySem.W.Frag) (T : List (Addr × Str)) (E : XK) (p : Bool) (ts : List TE) (mj : Str → Env → RE Str) : Prop :=
  ∀ {acc : Str} {F H : Hp} {σ : L2.St} {ρ : Env} {fp : List Addr} {Q : Str → Hp → Prop}, SS ul K T F H σ ρ fp → Out ul K T E p F H σ ρ fp (fun out _ _ H' _ => Q out H') (mj acc ρ) → tJs ts acc σ H Q
theorem sim_jnil : SimJ ul K T E true [] jNil := fun {acc F H σ ρ fp Q} S k => Out.now S k
theorem sim_jcons {ts : List TE} {mj : Str → Env → RE Str} (ha : SimR ul K T E p ta ma) (hr : SimJ ul K T E q ts mj) : SimJ ul K T E (p && q) (ta :: ts) (jCons ma mj) := fun {acc F H σ ρ fp Q} S k => by
  refine ha S ?_
  have k1 := Out.bind (p := p) (q := q) k
  refine k1.mono fun a ρ1 F1 H1 fp1 s1 S1 fr1 _ k2 v fv t => ?_
  cases t with
  | f rp =>
    cases rp with
    | str x hx =>
      by_cases hl : (acc ++ x).length ≤ 100000
      · simp only [decide_eq_true hl, cond_true] at k2
        exact ⟨x, rfl, line_of hl, hr S1 k2⟩
      · simp only [decide_eq_false hl, cond_false] at k2; exact k2.elim
    | _ => exact k2.elim
  | _ => exact k2.elim
theorem sim_fs {ts : List TE} {mj : Str → Env → RE Str} (h : SimJ ul K T E p ts mj) : SimE ul K T E p (tFs ts) (mFs mj) := fun {F H σ ρ fp Q} S k => by
  refine h S ?_
  have k1 := Out.bind (p := p) (q := true) (by rw [Bool.and_true]; exact k)
  refine k1.mono fun out ρ1 F1 H1 fp1 s1 S1 fr1 _ k2 => ?_
  obtain ⟨u, e, hk⟩ := op_end S1 k2 s1.dom
  obtain ⟨h1, rfl⟩ := mkS_of e
  exact op_val S1.sub (.str _ h1) hk
/-! three at once -/
def mPar3 (i j l : Nat) (m : MW) : MS := fun ρ => (m ρ).to fun os ρ1 => match os with
  | [o, u, w] => .nx (((ρ1.set i (some o)).set j (some u)).set l (some w))
  | _ => .bad
theorem sim_par3 {i j l : Nat} {t : TA} {mw : MW} (he : SimW ul K T E p t mw) (hd : ∀ k ∈ kp, k ∉ [i, j, l]) : SimS ul K T E kp (tPar3 i j l t) (mPar3 i j l mw) := fun {F H σ ρ fp D} S k => by
  refine he S (Out.to' k fun a ρ1 F1 H1 fp1 k1 s1 S1 fr1 vs fv tv nd frv => ?_)
  match a, tv, k1 with
  | [o, u, w], .cons (fp := f1) t1 (.cons (fp := f2) t2 (.cons (fp := f3) t3 .nil)), k1 =>
    refine ⟨_, _, _, rfl, ?_⟩
    simp only [List.append_nil, List.append_assoc] at nd frv
    obtain ⟨n1, nd2, a1⟩ := List.nodup_append.mp nd
    obtain ⟨n2, nd3, a2⟩ := List.nodup_append.mp nd2
    obtain ⟨n3, nd4, a3⟩ := List.nodup_append.mp nd3
    obtain ⟨fq, h1, h2, h3⟩ := S1.sl.setS i t1 (List.nodup_append.mpr ⟨n1, S1.nd, fun x m y m' z => a1 x m y (List.mem_append_right _ (List.mem_append_right _ m')) z⟩)
    obtain ⟨fr, h4, h5, h6⟩ := h1.setS j t2 (List.nodup_append.mpr ⟨n2, h2, fun x m y m' z => by
      subst z
      rcases List.mem_append.mp (h3 x m') with q | q
      · exact a1 x q x (List.mem_append_left _ m) rfl
      · exact a2 x m x (List.mem_append_right _ q) rfl⟩)
    obtain ⟨fs, h7, h8, h9⟩ := h4.setS l t3 (List.nodup_append.mpr ⟨n3, h5, fun x m y m' z => by
      subst z
      rcases List.mem_append.mp (h6 x m') with q | q
      · exact a2 x q x (List.mem_append_left _ m) rfl
      · rcases List.mem_append.mp (h3 x q) with q | q
        · exact a1 x q x (List.mem_append_right _ (List.mem_append_left _ m)) rfl
        · exact a3 x m x q rfl⟩)
    refine k1 F1 H1 _ fs (s1.imp fun z => nomatch z) ⟨S1.sub, S1.tabs, h7, h8⟩ (fun x m => ?_) fun b hb => ?_
    · rcases List.mem_append.mp (h9 x m) with q | q
      · exact frv x (List.mem_append_right _ (List.mem_append_right _ q))
      · rcases List.mem_append.mp (h6 x q) with q | q
        · exact frv x (List.mem_append_right _ (List.mem_append_left _ q))
        · rcases List.mem_append.mp (h3 x q) with q | q
          · exact frv x (List.mem_append_left _ q)
          · exact fr1 x q
    · have := hd b hb
      simp only [List.mem_cons, List.not_mem_nil, or_false, not_or] at this
      rw [List.getElem?_set_ne (fun z => this.2.2 z.symm), List.getElem?_set_ne (fun z => this.2.1 z.symm), List.getElem?_set_ne (fun z => this.1 z.symm)]
end
/-! ### the law's end -/
def spLaw (K : PySem.W.Frag) (T : List (Addr × Str)) : Sp := Sp1 fun v H Q _ => ∃ (a : Addr) (ns : List Int), v = .ref a ∧ SqL K H a (ns.map V.int) ∧ ns.length ≤ 63 ∧ LamX.Tabs T H ∧ ∀ H', Q (.bl true) H'
theorem ints_rp {K : PySem.W.Frag} {F : Hp} : ∀ ns : List Int, RpA K F (ns.map V.int) (ns.map D.int)
  | [] => .nil
  | n :: ns => .cons (.int n) (ints_rp ns)
theorem law_in {K : PySem.W.Frag} {T : List (Addr × Str)} {m : MF} {vs : List V} {H : Hp} {Q : VK} {E : XK} (hm : ∀ ns : List Int, ns.length ≤ 63 → ∃ os, m [.f (.kl (ns.map D.int))] = .ok (.f (.bl true)) os) (h : spLaw K T vs H Q E) : spM ul K T 1 m vs H Q E := by
  obtain ⟨v, rfl, a, ns, rfl, hs, hl, tb, k⟩ := h
  obtain ⟨os, e⟩ := hm ns hl
  have fin : ∀ F : Hp, Sub ul F H → SqL K F a (ns.map V.int) → spM ul K T 1 m [.ref a] H Q E := fun F sb sq => by
    refine ⟨rfl, F, [.f (.kl (ns.map D.int))], [], sb, tb, ?_, List.nodup_nil, ?_⟩
    · have := TrA.cons (H := H) (.f (Rp.kl sq (ints_rp ns))) TrA.nil
      exact this
    · rw [e]
      intro v F' H' fv fa' s _ _ tv _ _ _
      cases tv with
      | f rp => cases rp with | bl _ => exact k H'
  rcases hs with hs | hs
  · refine fin (fun b => if b = a then H a else none) (fun b u z => ?_) (.inl ?_)
    · dsimp only at z
      split at z
      · rename_i hb
        subst hb
        refine ⟨fun ps q => ?_, .inl z⟩
        rcases hs with hs | ⟨o, hs⟩ <;> rw [hs] at z <;> cases z <;> cases q
      · cases z
    · rcases hs with hs | ⟨o, hs⟩
      · exact .inl (by dsimp only; rw [if_pos rfl]; exact hs)
      · exact .inr ⟨o, by dsimp only; rw [if_pos rfl]; exact hs⟩
  · exact fin (fun _ => none) (fun b u z => by cases z) (.inr hs)
end MR

namespace MR
open PySem PySem.Spec PyProof.Rows L2 SW LamX
/-! ### list(d.items()), keys ints and texts -/
def gItems : D → Option O
  | .dct 0 kvs => some (.L (kvs.map fun q => .f (.tup [q.1, q.2])))
  | _ => none
section
variable {ul : Bool} {K : PySem.W.Frag} {T : List (Addr × Str)} {E : XK} {kp : List Nat} {p q : Bool} {ta tb tc te : TE} {ma mb mc me : ME}
theorem key_rpK {F : Hp} {k : Key} (h : kOk k) : Rp K F (kV k) (kD k) := by
  cases k with
  | inl i => exact .int i
  | inr x => exact .str x h
/-- new cells are taken into the still part -/
theorem adopt_new {F H H' : Hp} {ts : List Addr} (s : Sub ul F H) (he : ∀ b o, H b = some o → H' b = some o) (hn : ∀ t ∈ ts, H t = none) (ht : ∀ t ∈ ts, ∃ o, H' t = some o ∧ NT o) : New ul F H (adopt F H' ts) H' := by
  refine ⟨fun a u e => ?_, he, fun a o h m f => ?_, fun a u e => ?_, fun a w e n => ?_⟩
  · rw [adopt_out]
    · exact e
    · intro m
      rw [fnone s (hn a m)] at e; cases e
  · rw [adopt_out]
    · exact f
    · intro m'
      rw [hn a m'] at h; cases h
  · by_cases m : a ∈ ts
    · rw [adopt_in m] at e
      obtain ⟨o, h1, h2⟩ := ht a m
      rw [h1] at e; cases e
      exact ⟨h2, .inl h1⟩
    · rw [adopt_out m] at e
      obtain ⟨h1, h2 | ⟨h2, hl, o, h3⟩⟩ := s a u e
      · exact ⟨h1, .inl (he _ _ h2)⟩
      · exact ⟨h1, .inr ⟨h2, hl, o, he _ _ h3⟩⟩
  · by_cases m : a ∈ ts
    · rw [adopt_in m] at e; exact e
    · rw [adopt_out m, n] at e; cases e
theorem items_tr {F F' H' : Hp} (sm : Same F F') : ∀ {ts : List Addr} {kvs : List (Key × V)} {ds : List (D × D)}, (∀ t ∈ ts, F' t = H' t) → Paired (fun (t : Addr) (q : Key × V) => H' t = some (.tup [kV q.1, q.2])) ts kvs → RpK K F kvs ds → TrA K H' F' (ts.map V.ref) (ds.map fun q => .f (.tup [q.1, q.2])) []
  | _, _, _, _, .nil, .nil => .nil
  | _, _, _, hf, .cons h t, .cons hk hv rs => by
    have := TrA.cons (H := H') (.f (Rp.tup (ds := [_, _]) ((hf _ List.mem_cons_self).trans h) (.cons (key_rpK hk) (.cons (hv.mono sm) .nil)))) (items_tr sm (fun t m => hf t (List.mem_cons_of_mem _ m)) t rs)
    exact this
theorem paired_left {α β : Type} {R : α → β → Prop} : ∀ {xs : List α} {ys : List β} {x : α}, Paired R xs ys → x ∈ xs → ∃ y, R x y
  | _, _, _, .nil, m => nomatch m
  | _, _, _, .cons h t, m => by
    rcases List.mem_cons.mp m with rfl | m
    · exact ⟨_, h⟩
    · exact paired_left t m
theorem op_items : Op1 true K LiI.rItemsL gItems := fun F H x d o Q s hx h k => by
  cases hx with
  | dK ha ra =>
    cases h
    obtain ⟨_, hd | ⟨_, z, _⟩⟩ := s _ _ ha
    · refine ⟨_, _, rfl, hd, fun H' p ts he hp ht hpt hl pr => ?_⟩
      have nw := adopt_new (ts := ts) s he ht fun t m => by
        obtain ⟨q, hq⟩ := paired_left pr m
        exact ⟨_, hq, fun _ z => by cases z⟩
      have hpF : adopt F H' ts p = none := by rw [adopt_out hpt]; exact fnone s hp
      exact k _ _ H' [p] nw (.L hl hpF (items_tr nw.le (fun t m => adopt_in m) pr ra)) (fun a m => by rw [List.mem_singleton] at m; subst m; exact hp) (by simp)
    · cases z
  | _ => cases h
theorem sim_items (ha : SimF true K T E p ta ma) : SimE true K T E p (LiI.tListItems ta) (mOp1 gItems ma) := sim_op1 (r := LiI.rItemsL) ha op_items
theorem ask_ty {S : String} (h : S ∈ tyAs) : AskOk K (.ty S) := h
theorem ask_cons {a : Ask} {as : List Ask} (h : AskOk K a) (t : ∀ b ∈ as, AskOk K b) : ∀ b ∈ a :: as, AskOk K b := fun b m => by
  rcases List.mem_cons.mp m with rfl | m
  · exact h
  · exact t b m
/-- the number of arguments, and self -/
theorem len_one {m : MA} {n : Nat} (h : ∀ ρ as ρ', m ρ = .ok as ρ' → as.length = n) : ∀ ρ as ρ', m ρ = .ok as ρ' → as.length + 1 = n + 1 := fun ρ as ρ' e => by rw [h ρ as ρ' e]
def mConS (i : Nat) (mr : MA) : MA := fun ρ => match ρ[i]? with
  | some (some _) => mConsS i mr ρ
  | _ => .bad
theorem sim_conSl {i : Nat} {tr : TA} {mr : MA} (hr : SimA ul K T E q tr mr) : SimA ul K T E q (tCons (tVar i) tr) (mConS i mr) := sim_conS hr
theorem len_conS {i : Nat} {r : MA} {n : Nat} (h : ∀ ρ as ρ', r ρ = .ok as ρ' → as.length = n) : ∀ ρ as ρ', mConS i r ρ = .ok as ρ' → as.length = n + 1 := fun ρ as ρ' e => by
  unfold mConS at e
  split at e
  · exact len_consS h ρ as ρ' e
  · cases e
/-! an index that is reckoned with changes -/
def mIxF (ma mb : ME) : ME := fun ρ => (ma ρ).bind fun a ρ1 => (mb ρ1).bind fun b ρ2 => RE.of ((ixD a.fz b.fz).map .f) ρ2
theorem op_ixF : Op2 ul K (rIx K) fun d e => (ixD d e).map .f := fun F H x y d e o Q s hx hy h k => by
  obtain ⟨g, h1, rfl⟩ := Option.map_eq_some_iff.mp h
  exact ix_rp s hx hy h1 fun w rw_ => op_val s rw_ k
theorem sim_ixF (ha : SimF ul K T E p ta ma) (hb : SimF ul K T E q tb mb) : SimE ul K T E (p && q) (tOp (rIx K) ta tb) (mIxF ma mb) := sim_op2 ha hb op_ixF
/-! ### defaults -/
def tApp (ta : TA) (dvs : List V) : TA := fun σ H Q => ta σ H fun vs H1 => Q (vs ++ dvs) H1
def mDfl (dds : List D) (m : MA) : MA := fun ρ => (m ρ).bind fun as ρ1 => .ok (as ++ dds.map .v) ρ1
theorem sim_dfl {sp : Sp} {dvs : List V} {E' : XK} {t : TA} {m : ME} (h : SimE ul K T E p (tCall sp [] E' (tApp t dvs)) m) : SimE ul K T E p (tCall sp dvs E' t) m := by
  have e : tCall sp dvs E' t = tCall sp [] E' (tApp t dvs) := by
    funext σ H Q
    simp only [tCall, tApp, List.append_nil]
  intro F H σ ρ fp Q S k
  rw [e]; exact h S k
theorem avs_all {F : Hp} {σ : L2.St} : ∀ {dvs : List V} {dds : List D}, RpA K F dvs dds → AVs K F σ dvs (dds.map .v)
  | _, _, .nil => .nil
  | _, _, .cons h t => .v h (avs_all t)
theorem AVs.app {F : Hp} {σ : L2.St} {dvs : List V} {dds : List D} (hd : RpA K F dvs dds) : ∀ {vs : List V} {as : List AV}, AVs K F σ vs as → AVs K F σ (vs ++ dvs) (as ++ dds.map .v)
  | _, _, .v h t => .v h (AVs.app hd t)
  | _, _, .s h t => .s h (AVs.app hd t)
  | _, _, .nil => avs_all hd
theorem sim_appD {t : TA} {m : MA} {dvs : List V} {dds : List D} (ha : SimA ul K T E p t m) (hd : ∀ F : Hp, RpA K F dvs dds) : SimA ul K T E p (tApp t dvs) (mDfl dds m) := fun {F H σ ρ fp Q} S k => by
  refine ha S ?_
  have k1 := Out.bind (p := p) (q := true) (by rw [Bool.and_true]; exact k)
  exact k1.mono fun as ρ1 F1 H1 fp1 s1 S1 fr1 _ k2 vs av => (Out.now S1 k2) _ (av.app (hd F1))
theorem len_dfl {r : MA} {n : Nat} {dds : List D} (h : ∀ ρ as ρ', r ρ = .ok as ρ' → as.length = n) : ∀ ρ as ρ', mDfl dds r ρ = .ok as ρ' → as.length = n + dds.length := fun ρ as ρ' e => by
  unfold mDfl at e
  cases e2 : r ρ with
  | bad => rw [e2] at e; cases e
  | ex => rw [e2] at e; cases e
  | ok as' ρ2 => rw [e2] at e; cases e; rw [List.length_append, List.length_map, h _ _ _ e2]
end
end MR

namespace MR
open PySem PySem.Spec PyProof.Rows L2 SW LamX
/-! ### running a mirror -/
def WE {α : Type} (m : RE α) (Q : α → Env → Prop) (X : Xc → Env → Prop) : Prop := match m with
  | .ok a ρ => Q a ρ
  | .ex x ρ => X x ρ
  | .bad => False
def WS (m : RS) (k : RS → Prop) : Prop := match m with
  | .bad => False
  | r => k r
def wfP (m : RF) (Q : O → List O → Prop) (X : Xc → List O → Prop) : Prop := match m with
  | .ok o os => Q o os
  | .ex x os => X x os
  | .bad => False
structure WF (m : RF) (Q : O → List O → Prop) (X : Xc → List O → Prop) : Prop where
  out : wfP m Q X
abbrev X0 : Xc → Env → Prop := fun _ _ => False
abbrev F0 : Xc → List O → Prop := fun _ _ => False
section
variable {α β : Type} {ρ ρ1 : Env} {Q : O → Env → Prop} {X : Xc → Env → Prop} {k : RS → Prop} {ma mb mc me : ME} {a b : MS} {mt mu : MT}
theorem we_bind {m : RE α} {f : α → Env → RE β} {Q : β → Env → Prop} (h : WE m (fun a ρ1 => WE (f a ρ1) Q X) X) : WE (m.bind f) Q X := by
  cases m <;> exact h
theorem we_bindN {m : RE α} {f : α → Env → RE β} {Q : β → Env → Prop} (h : WE m (fun a ρ1 => WE (f a ρ1) Q X) X0) : WE (m.bindN f) Q X := by
  cases m <;> first | exact h | exact h.elim
def toK' (k : RS → Prop) : Xc → Env → Prop := fun x ρ => k (.ex x ρ)
theorem ws_to {m : RE α} {f : α → Env → RS} (h : WE m (fun a ρ1 => WS (f a ρ1) k) (fun x ρ1 => k (.ex x ρ1))) : WS (m.to f) k := by
  cases m <;> exact h
theorem WE.imp {m : RE α} {Q Q' : α → Env → Prop} {X X' : Xc → Env → Prop} (h : WE m Q X) (hq : ∀ a ρ, Q a ρ → Q' a ρ) (hx : ∀ x ρ, X x ρ → X' x ρ) : WE m Q' X' := by
  cases m with
  | ok a ρ => exact hq a ρ h
  | ex x ρ => exact hx x ρ h
  | bad => exact h
theorem WF.imp {m : RF} {Q Q' : O → List O → Prop} {X X' : Xc → List O → Prop} (h : WF m Q X) (hq : ∀ a ρ, Q a ρ → Q' a ρ) (hx : ∀ x ρ, X x ρ → X' x ρ) : WF m Q' X' := by
  have h := h.out
  refine ⟨?_⟩
  cases m with
  | ok a ρ => exact hq a ρ h
  | ex x ρ => exact hx x ρ h
  | bad => exact h
theorem WS.imp {m : RS} {k k' : RS → Prop} (h : WS m k) (hq : ∀ r, k r → k' r) : WS m k' := by
  cases m <;> first | exact hq _ h | exact h
/-! statements -/
def kSeq (b : MS) (k : RS → Prop) : RS → Prop := fun r => match r with
  | .nx ρ1 => WS (b ρ1) k
  | r => k r
theorem w_seq (h : WS (a ρ) (kSeq b k)) : WS (mSeq a b ρ) k := by
  unfold mSeq
  cases e : a ρ <;> rw [e] at h <;> exact h
theorem k_nx (h : WS (b ρ1) k) : kSeq b k (.nx ρ1) := h
theorem k_rt {o : O} (h : k (.rt o ρ1)) : kSeq b k (.rt o ρ1) := h
theorem k_ex {x : Xc} (h : k (.ex x ρ1)) : kSeq b k (.ex x ρ1) := h
theorem w_next (h : k (.nx ρ)) : WS (mNext ρ) k := h
theorem w_ret (h : WE (me ρ) (fun o ρ1 => k (.rt o ρ1)) (fun x ρ1 => k (.ex x ρ1))) : WS (mRet me ρ) k := ws_to h
theorem w_drop (h : WE (me ρ) (fun _ ρ1 => k (.nx ρ1)) (fun x ρ1 => k (.ex x ρ1))) : WS (mDrop me ρ) k := ws_to h
theorem w_ifS (h : WE (mt ρ) (fun c ρ1 => WS (bif c then a ρ1 else b ρ1) k) (fun x ρ1 => k (.ex x ρ1))) : WS (mIfS mt a b ρ) k := ws_to h
theorem w_condT {r r' : RS} (h : WS r k) : WS (bif true then r else r') k := h
theorem w_condF {r r' : RS} (h : WS r' k) : WS (bif false then r else r') k := h
theorem w_cond {c : Bool} {r r' : RS} (h1 : c = true → WS r k) (h2 : c = false → WS r' k) : WS (bif c then r else r') k := by
  cases c
  · exact h2 rfl
  · exact h1 rfl
theorem w_asgN {i : Nat} (h : WE (me ρ) (fun o ρ1 => k (.nx (ρ1.set i (some o)))) (fun x ρ1 => k (.ex x ρ1))) : WS (mAsg me (gmName i) ρ) k := ws_to h
theorem w_asg {g : MG} (h : WE (me ρ) (fun o ρ1 => ∃ ρ2, g o ρ1 = some ρ2 ∧ k (.nx ρ2)) (fun x ρ1 => k (.ex x ρ1))) : WS (mAsg me g ρ) k := ws_to (h.imp (fun o ρ1 ⟨ρ2, e, z⟩ => by rw [e]; exact z) fun _ _ z => z)
theorem w_par {i j : Nat} {mw : MW} (h : WE (mw ρ) (fun os ρ1 => ∃ o u, os = [o, u] ∧ k (.nx ((ρ1.set i (some o)).set j (some u)))) (fun x ρ1 => k (.ex x ρ1))) : WS (mPar i j mw ρ) k := ws_to (h.imp (fun os ρ1 ⟨o, u, e, z⟩ => by subst e; exact z) fun _ _ z => z)
theorem w_par3 {i j l : Nat} {mw : MW} (h : WE (mw ρ) (fun os ρ1 => ∃ o u w, os = [o, u, w] ∧ k (.nx (((ρ1.set i (some o)).set j (some u)).set l (some w)))) (fun x ρ1 => k (.ex x ρ1))) : WS (mPar3 i j l mw ρ) k := ws_to (h.imp (fun os ρ1 ⟨o, u, w, e, z⟩ => by subst e; exact z) fun _ _ z => z)
theorem w_raise {C : Str} {fl : List D → List (Str × D)} {n : Nat} {m : MA} (h : WE (m ρ) (fun as ρ1 => ∃ ds, avD as = some ds ∧ ds.length = n ∧ k (.ex ⟨C, fl ds⟩ ρ1)) (fun x ρ1 => k (.ex x ρ1))) : WS (mRaise C fl n m ρ) k :=
  ws_to (h.imp (fun as ρ1 ⟨ds, e, hl, z⟩ => by rw [e]; simp only [decide_eq_true hl, cond_true]; exact z) fun _ _ z => z)
theorem w_fldS {i : Nat} {f : Str} (h : WE (me ρ) (fun o ρ1 => ∃ C fs, ρ1[i]? = some (some (.I C fs)) ∧ f ∈ fldsOf C ∧ fs.length < 100 ∧ k (.nx (ρ1.set i (some (.I C (putO f o fs)))))) (fun x ρ1 => k (.ex x ρ1))) : WS (mFldS i f me ρ) k :=
  ws_to (h.imp (fun o ρ1 ⟨C, fs, e, h1, h2, z⟩ => by simp only [e, decide_eq_true h1, decide_eq_true h2, Bool.and_self, cond_true]; exact z) fun _ _ z => z)
theorem w_setL {i : Nat} (h : WE (me ρ) (fun o ρ1 => ∃ xs, ρ1[i]? = some (some (.L xs)) ∧ WE (mb ρ1) (fun oj _ => ∃ n j, oj = .f (.int n) ∧ ixN xs.length n = some j ∧ k (.nx (ρ1.set i (some (.L (xs.set j o)))))) (fun x ρ1 => k (.ex x ρ1))) (fun x ρ1 => k (.ex x ρ1))) : WS (mSetL i mb me ρ) k :=
  ws_to (h.imp (fun o ρ1 ⟨xs, e, z⟩ => by
    simp only [e]
    exact ws_to (z.imp (fun oj _ ⟨n, j, e1, e2, z⟩ => by subst e1; simp only [e2]; exact z) fun _ _ z => z)) fun _ _ z => z)
/-! expressions -/
theorem e_c {d : D} (h : Q (.f d) ρ) : WE (mC d ρ) Q X := h
theorem e_var {i : Nat} {d : D} (e : ρ[i]? = some (some (.f d))) (h : Q (.f d) ρ) : WE (mVar i ρ) Q X := by unfold mVar; rw [e]; exact h
theorem e_fzv {i : Nat} {d : D} (e : ρ[i]? = some (some (.f d))) (h : Q (.f d) ρ) : WE (mFzv i ρ) Q X := by unfold mFzv; rw [e]; exact h
theorem e_fzvL {i : Nat} {os : List O} (e : ρ[i]? = some (some (.L os))) (h : Q (.f (.lst (O.fzA os))) (ρ.set i (some (.f (.lst (O.fzA os)))))) : WE (mFzv i ρ) Q X := by unfold mFzv; rw [e]; exact h
theorem e_mov {i : Nat} {d : D} (e : ρ[i]? = some (some (.f d))) (h : Q (.f d) ρ) : WE (mMov i ρ) Q X := by unfold mMov; rw [e]; exact h
theorem e_movL {i : Nat} {os : List O} (e : ρ[i]? = some (some (.L os))) (h : Q (.L os) (ρ.set i none)) : WE (mMov i ρ) Q X := by unfold mMov; rw [e]; exact h
theorem e_pk {i : Nat} {o : O} (e : ρ[i]? = some (some o)) (h : Q o ρ) : WE (mPk i ρ) Q X := by unfold mPk; rw [e]; exact h
theorem e_val (h : WE (me ρ) (fun o ρ1 => ∃ d, o = .f d ∧ Q (.f d) ρ1) X) : WE (mVal me ρ) Q X := we_bind (h.imp (fun o ρ1 ⟨d, e, z⟩ => by subst e; exact z) fun _ _ z => z)
theorem e_op1 {g : D → Option O} (h : WE (ma ρ) (fun o ρ1 => ∃ u, g o.fz = some u ∧ Q u ρ1) X) : WE (mOp1 g ma ρ) Q X := we_bind (h.imp (fun o ρ1 ⟨u, e, z⟩ => by rw [e]; exact z) fun _ _ z => z)
theorem e_op2 {g : D → D → Option O} (h : WE (ma ρ) (fun o ρ1 => WE (mb ρ1) (fun p ρ2 => ∃ u, g o.fz p.fz = some u ∧ Q u ρ2) X) X) : WE (mOp2 g ma mb ρ) Q X :=
  we_bind (h.imp (fun o ρ1 z => we_bind (z.imp (fun p ρ2 ⟨u, e, z⟩ => by rw [e]; exact z) fun _ _ z => z)) fun _ _ z => z)
theorem e_op1R {g : D → Option O} (h : WE (ma ρ) (fun o ρ1 => ∃ d, g o.fz = some (.f d) ∧ sca d = true ∧ Q (.f d) ρ1) X) : WE (mOp1R g ma ρ) Q X :=
  we_bind (h.imp (fun o ρ1 ⟨d, e, s, z⟩ => by rw [e]; simp only [RE.sc, s, cond_true]; exact z) fun _ _ z => z)
theorem e_op2R {g : D → D → Option O} (h : WE (ma ρ) (fun o ρ1 => WE (mb ρ1) (fun p ρ2 => ∃ d, g o.fz p.fz = some (.f d) ∧ sca d = true ∧ Q (.f d) ρ2) X) X) : WE (mOp2R g ma mb ρ) Q X :=
  we_bind (h.imp (fun o ρ1 z => we_bind (z.imp (fun p ρ2 ⟨d, e, s, z⟩ => by rw [e]; simp only [RE.sc, s, cond_true]; exact z) fun _ _ z => z)) fun _ _ z => z)
theorem e_ix (h : WE (ma ρ) (fun o ρ1 => WE (mb ρ1) (fun p ρ2 => ∃ u, ixO o p = some u ∧ Q u ρ2) X) X) : WE (mIx ma mb ρ) Q X :=
  we_bind (h.imp (fun o ρ1 z => we_bind (z.imp (fun p ρ2 ⟨u, e, z⟩ => by rw [e]; exact z) fun _ _ z => z)) fun _ _ z => z)
theorem e_ixF (h : WE (ma ρ) (fun o ρ1 => WE (mb ρ1) (fun p ρ2 => ∃ d, ixD o.fz p.fz = some d ∧ Q (.f d) ρ2) X) X) : WE (mIxF ma mb ρ) Q X :=
  we_bind (h.imp (fun o ρ1 z => we_bind (z.imp (fun p ρ2 ⟨u, e, z⟩ => by rw [e]; exact z) fun _ _ z => z)) fun _ _ z => z)
theorem e_fz (h : WE (me ρ) (fun o ρ1 => Q (.f o.fz) ρ1) X) : WE (mFz me ρ) Q X := we_bind h
theorem e_fld {f : Str} (h : WE (me ρ) (fun o ρ1 => ∃ u, fldO f o = some u ∧ Q u ρ1) X) : WE (mFld f me ρ) Q X := we_bind (h.imp (fun o ρ1 ⟨u, e, z⟩ => by rw [e]; exact z) fun _ _ z => z)
theorem e_test {Q : Bool → Env → Prop} (h : WE (me ρ) (fun o ρ1 => ∃ b, o = .f (.bl b) ∧ Q b ρ1) X) : WE (mTest me ρ) Q X := we_bind (h.imp (fun o ρ1 ⟨b, e, z⟩ => by subst e; exact z) fun _ _ z => z)
theorem e_tru {g : D → Option Bool} {Q : Bool → Env → Prop} (h : WE (me ρ) (fun o ρ1 => ∃ b, g o.fz = some b ∧ Q b ρ1) X) : WE (mTru g me ρ) Q X := we_bind (h.imp (fun o ρ1 ⟨b, e, z⟩ => by rw [e]; exact z) fun _ _ z => z)
theorem e_not {Q : Bool → Env → Prop} (h : WE (mt ρ) (fun b ρ1 => Q (!b) ρ1) X) : WE (mNot mt ρ) Q X := we_bind h
theorem e_yes {Q : Bool → Env → Prop} (h : Q true ρ) : WE (mYes ρ) Q X := h
theorem e_and {Q : Bool → Env → Prop} (h : WE (mt ρ) (fun b ρ1 => WE (bif b then mu ρ1 else .ok false ρ1) Q X) X) : WE (mAnd mt mu ρ) Q X := we_bind h
theorem e_or {Q : Bool → Env → Prop} (h : WE (mt ρ) (fun b ρ1 => WE (bif b then .ok true ρ1 else mu ρ1) Q X) X) : WE (mOr mt mu ρ) Q X := we_bind h
theorem e_if (h : WE (mt ρ) (fun b ρ1 => WE (bif b then ma ρ1 else mb ρ1) Q X) X) : WE (mIf mt ma mb ρ) Q X := we_bind h
theorem e_condT {m m' : RE α} {Q : α → Env → Prop} (h : WE m Q X) : WE (bif true then m else m') Q X := h
theorem e_condF {m m' : RE α} {Q : α → Env → Prop} (h : WE m' Q X) : WE (bif false then m else m') Q X := h
theorem e_cond {c : Bool} {m m' : RE α} {Q : α → Env → Prop} (h1 : c = true → WE m Q X) (h2 : c = false → WE m' Q X) : WE (bif c then m else m') Q X := by
  cases c
  · exact h2 rfl
  · exact h1 rfl
theorem e_ok {a : α} {Q : α → Env → Prop} (h : Q a ρ) : WE (.ok a ρ) Q X := h
theorem e_andV (h : WE (ma ρ) (fun o ρ1 => ∃ b, o = .f (.bl b) ∧ WE (bif b then mb ρ1 else .ok (.f (.bl false)) ρ1) Q X) X) : WE (mAndV ma mb ρ) Q X := we_bind (h.imp (fun o ρ1 ⟨b, e, z⟩ => by subst e; exact z) fun _ _ z => z)
theorem e_orV (h : WE (ma ρ) (fun o ρ1 => ∃ b, o = .f (.bl b) ∧ WE (bif b then .ok (.f (.bl true)) ρ1 else mb ρ1) Q X) X) : WE (mOrV ma mb ρ) Q X := we_bind (h.imp (fun o ρ1 ⟨b, e, z⟩ => by subst e; exact z) fun _ _ z => z)
theorem e_notV (h : WE (ma ρ) (fun o ρ1 => ∃ b, o = .f (.bl b) ∧ Q (.f (.bl (!b))) ρ1) X) : WE (mNotV ma ρ) Q X := we_bind (h.imp (fun o ρ1 ⟨b, e, z⟩ => by subst e; exact z) fun _ _ z => z)
theorem e_tup {m : MA} (h : WE (m ρ) (fun as ρ1 => ∃ ds, avD as = some ds ∧ ds.length ≤ 100000 ∧ Q (.f (.tup ds)) ρ1) X) : WE (mTup m ρ) Q X :=
  we_bind (h.imp (fun as ρ1 ⟨ds, e, hl, z⟩ => by rw [e]; simp only [decide_eq_true hl, cond_true]; exact z) fun _ _ z => z)
theorem e_lstW {m : MW} (h : WE (m ρ) (fun os ρ1 => os.length ≤ 100000 ∧ Q (.L os) ρ1) X) : WE (mLstW m ρ) Q X :=
  we_bind (h.imp (fun os ρ1 ⟨hl, z⟩ => by simp only [decide_eq_true hl, cond_true]; exact z) fun _ _ z => z)
theorem e_nil {Q : List AV → Env → Prop} (h : Q [] ρ) : WE (mNil ρ) Q X := h
theorem e_cons {r : MA} {Q : List AV → Env → Prop} (h : WE (me ρ) (fun o ρ1 => WE (r ρ1) (fun as ρ2 => Q (.v o.fz :: as) ρ2) X) X) : WE (mCons me r ρ) Q X := we_bind (h.imp (fun o ρ1 z => we_bind z) fun _ _ z => z)
theorem e_conS {i : Nat} {o : O} {r : MA} {Q : List AV → Env → Prop} (e : ρ[i]? = some (some o)) (h : WE (r ρ) (fun as ρ2 => Q (.s i :: as) ρ2) X) : WE (mConS i r ρ) Q X := by
  unfold mConS; rw [e]; exact we_bind h
theorem e_wnil {Q : List O → Env → Prop} (h : Q [] ρ) : WE (wNil ρ) Q X := h
theorem e_wcons {r : MW} {Q : List O → Env → Prop} (h : WE (me ρ) (fun o ρ1 => WE (r ρ1) (fun os ρ2 => Q (o :: os) ρ2) X) X) : WE (wCons me r ρ) Q X := we_bind (h.imp (fun o ρ1 z => we_bind z) fun _ _ z => z)
theorem e_dfl {dds : List D} {r : MA} {Q : List AV → Env → Prop} (h : WE (r ρ) (fun as ρ1 => Q (as ++ dds.map .v) ρ1) X) : WE (mDfl dds r ρ) Q X := we_bind h
theorem e_callP {mf : MF} {m : MA} (h : WE (m ρ) (fun as ρ1 => ∃ ds, avD as = some ds ∧ WF (mf (ds.map .f)) (fun o _ => Q o ρ1) (fun x _ => X x ρ1)) X) : WE (mCallP mf m ρ) Q X :=
  we_bind (h.imp (fun as ρ1 ⟨ds, e, z⟩ => by
    rw [e]
    dsimp only
    have z := z.out
    cases q : mf (ds.map .f) <;> rw [q] at z <;> exact z) fun _ _ z => z)
theorem e_call {mf : MF} {m : MA} (h : WE (m ρ) (fun as ρ1 => ∃ os ρ2, takeA as ρ1 = some (os, ρ2) ∧ WF (mf os) (fun o os' => Q o (putA as os' ρ2)) (fun x os' => X x (putA as os' ρ2))) X) : WE (mCall mf m ρ) Q X :=
  we_bind (h.imp (fun as ρ1 ⟨os, ρ2, e, z⟩ => by
    rw [e]
    dsimp only
    have z := z.out
    cases q : mf os <;> rw [q] at z <;> exact z) fun _ _ z => z)
theorem f_noX {mf : MF} {os : List O} {Q : O → List O → Prop} {X : Xc → List O → Prop} (h : WF (mf os) Q F0) : WF (noX mf os) Q X := by
  have h := h.out
  refine ⟨?_⟩
  unfold noX
  cases e : mf os <;> rw [e] at h <;> first | exact h | exact h.elim
theorem e_make {C : Str} {mf : MF} {m : MA} (h : WE (m ρ) (fun as ρ1 => ∃ ds, avD as = some ds ∧ WF (mf (.I C [] :: ds.map .f)) (fun o os => ∃ u r, o = .f .non ∧ os = u :: r ∧ Q u ρ1) (fun x _ => X x ρ1)) X) : WE (mMake C mf m ρ) Q X :=
  we_bind (h.imp (fun as ρ1 ⟨ds, e, z⟩ => by
    rw [e]
    dsimp only
    have z := z.out
    cases q : mf (.I C [] :: ds.map .f) with
    | ok o os => rw [q] at z; obtain ⟨u, r, rfl, rfl, z⟩ := z; exact z
    | ex x os => rw [q] at z; exact z
    | bad => rw [q] at z; exact z) fun _ _ z => z)
theorem e_makeK {C : Str} {g : List D → List D → List D} {mf : MF} {m mk : MA} (h : WE (m ρ) (fun as ρ1 => WE (mk ρ1) (fun bs ρ2 => ∃ ds es, avD as = some ds ∧ avD bs = some es ∧ WF (mf (.I C [] :: (g ds es).map .f)) (fun o os => ∃ u r, o = .f .non ∧ os = u :: r ∧ Q u ρ2) (fun x _ => X x ρ2)) X) X) : WE (mMakeK C g mf m mk ρ) Q X :=
  we_bind (h.imp (fun as ρ1 z => we_bind (z.imp (fun bs ρ2 ⟨ds, es, e1, e2, z⟩ => by
    rw [e1, e2]
    dsimp only
    have z := z.out
    cases q : mf (.I C [] :: (g ds es).map .f) with
    | ok o os => rw [q] at z; obtain ⟨u, r, rfl, rfl, z⟩ := z; exact z
    | ex x os => rw [q] at z; exact z
    | bad => rw [q] at z; exact z) fun _ _ z => z)) fun _ _ z => z)
theorem e_chain {g g' : D → D → Option O} (h : WE (ma ρ) (fun o ρ1 => WE (mb ρ1) (fun p ρ2 => ∃ c, g o.fz p.fz = some (.f (.bl c)) ∧ WE (bif c then (mc ρ2).bind (fun q ρ3 => RE.sc (g' p.fz q.fz) ρ3) else .ok (.f (.bl false)) ρ2) Q X) X) X) : WE (mChain g g' ma mb mc ρ) Q X :=
  we_bind (h.imp (fun o ρ1 z => we_bind (z.imp (fun p ρ2 ⟨c, e, z⟩ => by rw [e]; cases c <;> exact z) fun _ _ z => z)) fun _ _ z => z)
theorem e_why (h : WE (me ρ) (fun _ ρ1 => Q (.f (.tup [])) ρ1) (fun x ρ1 => ∃ code es, partsD x = some (code, es) ∧ es.length ≤ 1000 ∧ code ≠ "" ∧ Q (.f (.tup (.str code :: es))) ρ1)) : WE (mWhy me ρ) Q X := by
  unfold mWhy
  cases e : me ρ with
  | ok o ρ1 => rw [e] at h; exact h
  | ex x ρ1 =>
    rw [e] at h
    obtain ⟨code, es, h1, h2, h3, h4⟩ := h
    dsimp only
    rw [h1]
    simp only [decide_eq_true h2, decide_eq_true h3, Bool.and_self, cond_true]
    exact h4
  | bad => rw [e] at h; exact h
theorem e_try (h : WE (me ρ) (fun o ρ1 => Q (.f (.tup [.str "", o.fz])) ρ1) (fun x ρ1 => ∃ code es, partsD x = some (code, es) ∧ es.length ≤ 1000 ∧ Q (.f (.tup (.str code :: es))) ρ1)) : WE (mTry me ρ) Q X := by
  unfold mTry
  cases e : me ρ with
  | ok o ρ1 => rw [e] at h; exact h
  | ex x ρ1 =>
    rw [e] at h
    obtain ⟨code, es, h1, h2, h4⟩ := h
    dsimp only
    rw [h1]
    simp only [decide_eq_true h2, cond_true]
    exact h4
  | bad => rw [e] at h; exact h
theorem e_noPart {Q : Option Int → Env → Prop} (h : Q none ρ) : WE (mNoPart ρ) Q X := h
theorem e_part {Q : Option Int → Env → Prop} (h : WE (me ρ) (fun o ρ1 => ∃ i, o = .f (.int i) ∧ Q (some i) ρ1) X) : WE (mPart me ρ) Q X := we_bind (h.imp (fun o ρ1 ⟨b, e, z⟩ => by subst e; exact z) fun _ _ z => z)
theorem e_sl {ml mh : Env → RE (Option Int)} (h : WE (ma ρ) (fun o ρ1 => WE (ml ρ1) (fun l ρ2 => WE (mh ρ2) (fun u ρ3 => ∃ w, slD l u o.fz = some w ∧ Q w ρ3) X) X) X) : WE (mSl ma ml mh ρ) Q X :=
  we_bind (h.imp (fun o ρ1 z => we_bind (z.imp (fun l ρ2 z => we_bind (z.imp (fun u ρ3 ⟨w, e, z⟩ => by rw [e]; exact z) fun _ _ z => z)) fun _ _ z => z)) fun _ _ z => z)
theorem e_app {i : Nat} (h : ∃ ys, ρ[i]? = some (some (.L ys)) ∧ WE (me ρ) (fun o ρ1 => ∃ xs, ρ1[i]? = some (some (.L xs)) ∧ xs.length < 100000 ∧ Q (.f .non) (ρ1.set i (some (.L (xs ++ [o]))))) X) : WE (mApp i me ρ) Q X := by
  obtain ⟨ys, e, h⟩ := h
  unfold mApp
  rw [e]
  exact we_bind (h.imp (fun o ρ1 ⟨xs, e, hl, z⟩ => by simp only [e, decide_eq_true hl, cond_true]; exact z) fun _ _ z => z)
theorem e_join (h : WE (ma ρ) (fun o ρ1 => ∃ x, o = .f (.str x) ∧ WE (mb ρ1) (fun p ρ2 => ∃ u, joinD x p.fz = some u ∧ Q u ρ2) X) X) : WE (mJoin ma mb ρ) Q X :=
  we_bind (h.imp (fun o ρ1 ⟨x, e, z⟩ => by subst e; exact we_bind (z.imp (fun p ρ2 ⟨u, e, z⟩ => by rw [e]; exact z) fun _ _ z => z)) fun _ _ z => z)
/-! a def -/
def kDef (kp : List Nat) (os : List O) (Q : O → List O → Prop) (X : Xc → List O → Prop) : RS → Prop := fun r => match r with
  | .nx ρ => ∃ os', backP kp ρ 0 os = some os' ∧ Q (.f .non) os'
  | .rt o ρ => ∃ os', backP kp ρ 0 os = some os' ∧ Q o os'
  | .ex x ρ => ∃ os', backP kp ρ 0 os = some os' ∧ X x os'
  | _ => False
theorem kd_nx {kp : List Nat} {os os' : List O} {Q : O → List O → Prop} {X : Xc → List O → Prop} (e : backP kp ρ 0 os = some os') (h : Q (.f .non) os') : kDef kp os Q X (.nx ρ) := ⟨os', e, h⟩
theorem kd_rt {kp : List Nat} {os os' : List O} {Q : O → List O → Prop} {X : Xc → List O → Prop} {o : O} (e : backP kp ρ 0 os = some os') (h : Q o os') : kDef kp os Q X (.rt o ρ) := ⟨os', e, h⟩
theorem kd_ex {kp : List Nat} {os os' : List O} {Q : O → List O → Prop} {X : Xc → List O → Prop} {x : Xc} (e : backP kp ρ 0 os = some os') (h : X x os') : kDef kp os Q X (.ex x ρ) := ⟨os', e, h⟩
theorem f_def {kp : List Nat} {N : Nat} {b : MS} {os : List O} {Q : O → List O → Prop} {X : Xc → List O → Prop} (h : WS (b (startE N os)) (kDef kp os Q X)) : WF (mDef kp N b os) Q X := by
  refine ⟨?_⟩
  unfold mDef
  cases e : b (startE N os) with
  | nx ρ => rw [e] at h; obtain ⟨os', h1, h2⟩ := h; simp only [h1]; exact h2
  | rt o ρ => rw [e] at h; obtain ⟨os', h1, h2⟩ := h; simp only [h1]; exact h2
  | ex x ρ => rw [e] at h; obtain ⟨os', h1, h2⟩ := h; simp only [h1]; exact h2
  | bk ρ => rw [e] at h; exact h
  | ct ρ => rw [e] at h; exact h
  | bad => rw [e] at h; exact h
theorem wf_of {m : RF} {o : O} {os : List O} {Q : O → List O → Prop} {X : Xc → List O → Prop} (e : m = .ok o os) (h : Q o os) : WF m Q X := by rw [e]; exact ⟨h⟩
theorem noX_of {mf : MF} {os os' : List O} {o : O} (e : mf os = .ok o os') : noX mf os = .ok o os' := by unfold noX; rw [e]
/-- what ends well is so -/
theorem of_wf {m : RF} {o : O} {os : List O} (h : WF m (fun a b => a = o ∧ b = os) F0) : m = .ok o os := by
  have h := h.out
  cases m with
  | ok a b => obtain ⟨rfl, rfl⟩ := h; rfl
  | ex => exact h.elim
  | bad => exact h.elim
theorem ex_of_wf {m : RF} {x : Xc} {os : List O} (h : WF m (fun _ _ => False) (fun y b => y = x ∧ b = os)) : m = .ex x os := by
  have h := h.out
  cases m with
  | ok a b => exact h.elim
  | ex => obtain ⟨rfl, rfl⟩ := h; rfl
  | bad => exact h.elim
theorem wf_ex {m : RF} {x : Xc} {os : List O} {Q : O → List O → Prop} {X : Xc → List O → Prop} (e : m = .ex x os) (h : X x os) : WF m Q X := by rw [e]; exact ⟨h⟩
theorem e_sc {d : D} (h : Q (.f d) ρ) (s : sca d = true) : WE (RE.sc (some (.f d)) ρ) Q X := by simp only [RE.sc, s, cond_true]; exact h
/-! loops -/
theorem e_iter {Q : List D → Env → Prop} (h : WE (me ρ) (fun o ρ1 => ∃ ds, itemsD o.fz = some ds ∧ Q ds ρ1) X) : WE (mIter me ρ) Q X := we_bind (h.imp (fun o ρ1 ⟨ds, e, z⟩ => by rw [e]; exact z) fun _ _ z => z)
theorem e_rng1 {m : MA} {Q : List D → Env → Prop} (h : WE (m ρ) (fun as ρ1 => ∃ j, as = [.v (.int j)] ∧ (j < 2 ^ 40 ∧ -(2 ^ 40) ≤ j) ∧ Q (rngD 0 j.toNat) ρ1) X) : WE (mRng1 m ρ) Q X := we_bind (h.imp (fun as ρ1 ⟨j, e, hj, z⟩ => by subst e; simp only [decide_eq_true hj, cond_true]; exact z) fun _ _ z => z)
theorem w_for {mi : MI} {mg : MG} {mb : MS} (h : WE (mi ρ) (fun ds ρ1 => WS (loopF mg mb ds ρ1) k) (fun x ρ1 => k (.ex x ρ1))) : WS (mFor mi mg mb ρ) k := ws_to h
/-- a loop by its invariant: I holds of what is left and the slots; what ends the loop early is told by k -/
theorem loop_inv {mg : MG} {mb : MS} (I : List D → Env → Prop) (hs : ∀ d ds ρ, I (d :: ds) ρ → ∃ ρ1, mg (.f d) ρ = some ρ1 ∧ WS (mb ρ1) fun r => match r with
      | .nx ρ2 => I ds ρ2
      | .ct ρ2 => I ds ρ2
      | .bk ρ2 => k (.nx ρ2)
      | r => k r) (he : ∀ ρ, I [] ρ → k (.nx ρ)) : ∀ ds ρ, I ds ρ → WS (loopF mg mb ds ρ) k
  | [], ρ, h => he ρ h
  | d :: ds, ρ, h => by
    obtain ⟨ρ1, e, w⟩ := hs d ds ρ h
    unfold loopF
    rw [e]
    dsimp only
    cases q : mb ρ1 with
    | nx ρ2 => rw [q] at w; exact loop_inv I hs he ds ρ2 w
    | ct ρ2 => rw [q] at w; exact loop_inv I hs he ds ρ2 w
    | bk ρ2 => rw [q] at w; exact w
    | rt o ρ2 => rw [q] at w; exact w
    | ex x ρ2 => rw [q] at w; exact w
    | bad => rw [q] at w; exact w
theorem e_lc {mi : MI} {mg : MG} {vs : List Nat} (h : WE (mi ρ) (fun ds ρ1 => WE (loopL mg mt me vs ds [] (wipeE ρ1 vs)) Q X) X) : WE (mLc mi mg mt me vs ρ) Q X := we_bind h
theorem lc_inv {mg : MG} {vs : List Nat} (I : List D → List O → Env → Prop) (hs : ∀ d ds acc ρ, I (d :: ds) acc ρ → acc.length < 100000 ∧ ∃ ρ1, mg (.f d) ρ = some ρ1 ∧ WE (mt ρ1) (fun b ρ2 => bif b then WE (me ρ2) (fun o ρ3 => I ds (acc ++ [o]) (wipeE ρ3 vs)) X0 else I ds acc (wipeE ρ2 vs)) X0)
    (he : ∀ acc ρ, I [] acc ρ → Q (.L acc) ρ) : ∀ ds acc ρ, I ds acc ρ → WE (loopL mg mt me vs ds acc ρ) Q X
  | [], acc, ρ, h => he acc ρ h
  | d :: ds, acc, ρ, h => by
    obtain ⟨hl, ρ1, e, w⟩ := hs d ds acc ρ h
    unfold loopL
    rw [e]
    refine we_bindN (w.imp (fun b ρ2 z => ?_) fun _ _ z => z)
    cases b with
    | true =>
      refine we_bindN (WE.imp z (fun o ρ3 z => ?_) fun _ _ z => z)
      simp only [decide_eq_true hl, cond_true]
      exact lc_inv I hs he ds _ _ z
    | false => exact lc_inv I hs he ds _ _ z
theorem e_cT {c : Bool} {m m' : RE α} {Q : α → Env → Prop} (e : c = true) (h : WE m Q X) : WE (bif c then m else m') Q X := by subst e; exact h
theorem e_cF {c : Bool} {m m' : RE α} {Q : α → Env → Prop} (e : c = false) (h : WE m' Q X) : WE (bif c then m else m') Q X := by subst e; exact h
theorem w_cT {c : Bool} {r r' : RS} (e : c = true) (h : WS r k) : WS (bif c then r else r') k := by subst e; exact h
theorem w_cF {c : Bool} {r r' : RS} (e : c = false) (h : WS r' k) : WS (bif c then r else r') k := by subst e; exact h
def kLoop (mg : MG) (mb : MS) (ds : List D) (k : RS → Prop) : RS → Prop := fun r => match r with
  | .nx ρ2 => WS (loopF mg mb ds ρ2) k
  | .ct ρ2 => WS (loopF mg mb ds ρ2) k
  | .bk ρ2 => k (.nx ρ2)
  | r => k r
theorem l_nil {mg : MG} {mb : MS} (h : k (.nx ρ)) : WS (loopF mg mb [] ρ) k := h
theorem l_cons {mg : MG} {mb : MS} {d : D} {ds : List D} (e : mg (.f d) ρ = some ρ1) (h : WS (mb ρ1) (kLoop mg mb ds k)) : WS (loopF mg mb (d :: ds) ρ) k := by
  unfold loopF
  rw [e]
  dsimp only
  cases q : mb ρ1 <;> rw [q] at h <;> exact h
theorem l_consN {i : Nat} {mb : MS} {d : D} {ds : List D} (h : WS (mb (ρ.set i (some (.f d)))) (kLoop (gmName i) mb ds k)) : WS (loopF (gmName i) mb (d :: ds) ρ) k := l_cons rfl h
theorem kl_nx {mg : MG} {mb : MS} {ds : List D} (h : WS (loopF mg mb ds ρ) k) : kLoop mg mb ds k (.nx ρ) := h
theorem kl_rt {mg : MG} {mb : MS} {ds : List D} {o : O} (h : k (.rt o ρ)) : kLoop mg mb ds k (.rt o ρ) := h
theorem kl_ex {mg : MG} {mb : MS} {ds : List D} {x : Xc} (h : k (.ex x ρ)) : kLoop mg mb ds k (.ex x ρ) := h
def mSupK (as : List AV) (ρ2 : Env) (k : RS → Prop) : O → List O → Prop := fun _ os' => k (.nx (putA (.s 0 :: as) os' ρ2))
theorem w_sup {C : Str} {mf : MF} {ma : MA} {fs : List (Str × O)} (e : (ρ[0]? : Option (Option O)) = some (some (.I C fs))) (h : WE (ma ρ) (fun as ρ1 => ∃ os ρ2, takeA (.s 0 :: as) ρ1 = some (os, ρ2) ∧ WF (mf os) (fun _ os' => k (.nx (putA (.s 0 :: as) os' ρ2))) (fun x os' => k (.ex x (putA (.s 0 :: as) os' ρ2)))) (fun x ρ1 => k (.ex x ρ1))) : WS (mSup C mf ma ρ) k := by
  unfold mSup
  rw [e]
  simp only [decide_true, cond_true]
  refine ws_to (h.imp (fun as ρ1 ⟨os, ρ2, e2, z⟩ => ?_) fun _ _ z => z)
  rw [e2]
  dsimp only
  have z := z.out
  cases q : mf os <;> rw [q] at z <;> exact z
theorem e_scg {g : Option O} {d : D} (e : g = some (.f d)) (s : sca d = true) (h : Q (.f d) ρ) : WE (RE.sc g ρ) Q X := by rw [e]; simp only [RE.sc, s, cond_true]; exact h
/-! what is asked between -/
theorem x_some {α : Type} {g : Option α} {P : α → Prop} {d : α} (e : g = some d) (h : P d) : ∃ d, g = some d ∧ P d := ⟨d, e, h⟩
theorem x_sc {g : Option O} {P : D → Prop} {d : D} (e : g = some (.f d)) (s : sca d = true) (h : P d) : ∃ d, g = some (.f d) ∧ sca d = true ∧ P d := ⟨d, e, s, h⟩
theorem x_f {d : D} {P : D → Prop} (h : P d) : ∃ e, O.f d = .f e ∧ P e := ⟨d, rfl, h⟩
theorem x_bl {b : Bool} {P : Bool → Prop} (h : P b) : ∃ c, O.f (.bl b) = .f (.bl c) ∧ P c := ⟨b, rfl, h⟩
theorem x_int {b : Int} {P : Int → Prop} (h : P b) : ∃ c, O.f (.int b) = .f (.int c) ∧ P c := ⟨b, rfl, h⟩
theorem x_str {b : Str} {P : Str → Prop} (h : P b) : ∃ c, O.f (.str b) = .f (.str c) ∧ P c := ⟨b, rfl, h⟩
theorem x_cbl {g : Option O} {P : Bool → Prop} {d : Bool} (e : g = some (.f (.bl d))) (h : P d) : ∃ d, g = some (.f (.bl d)) ∧ P d := ⟨d, e, h⟩
theorem x_len {as : List AV} {P : List D → Prop} {ds : List D} (e : avD as = some ds) (hl : ds.length ≤ 100000) (h : P ds) : ∃ ds, avD as = some ds ∧ ds.length ≤ 100000 ∧ P ds := ⟨ds, e, hl, h⟩
theorem x_le {n : Nat} {P : Prop} (hl : n ≤ 100000) (h : P) : n ≤ 100000 ∧ P := ⟨hl, h⟩
theorem x_take {as : List AV} {P : List O → Env → Prop} {os : List O} {ρ2 : Env} (e : takeA as ρ = some (os, ρ2)) (h : P os ρ2) : ∃ os ρ2, takeA as ρ = some (os, ρ2) ∧ P os ρ2 := ⟨os, ρ2, e, h⟩
theorem x_two {o u : O} {P : O → O → Prop} (h : P o u) : ∃ a b, [o, u] = [a, b] ∧ P a b := ⟨o, u, rfl, h⟩
theorem x_three {o u w : O} {P : O → O → O → Prop} (h : P o u w) : ∃ a b c, [o, u, w] = [a, b, c] ∧ P a b c := ⟨o, u, w, rfl, h⟩
theorem x_ds {as bs : List AV} {P : List D → List D → Prop} {ds es : List D} (e1 : avD as = some ds) (e2 : avD bs = some es) (h : P ds es) : ∃ ds es, avD as = some ds ∧ avD bs = some es ∧ P ds es := ⟨ds, es, e1, e2, h⟩
theorem x_rng {j : Int} {P : Int → Prop} (hj : j < 2 ^ 40 ∧ -(2 ^ 40) ≤ j) (h : P j) : ∃ i, [AV.v (.int j)] = [.v (.int i)] ∧ (i < 2 ^ 40 ∧ -(2 ^ 40) ≤ i) ∧ P i := ⟨j, rfl, hj, h⟩
theorem x_L {i : Nat} {xs : List O} {P : List O → Prop} (e : ρ[i]? = some (some (.L xs))) (h : P xs) : ∃ xs, ρ[i]? = some (some (.L xs)) ∧ P xs := ⟨xs, e, h⟩
theorem x_I {i : Nat} {C f : Str} {fs : List (Str × O)} {P : Str → List (Str × O) → Prop} (e : ρ[i]? = some (some (.I C fs))) (h1 : f ∈ fldsOf C) (h2 : fs.length < 100) (h : P C fs) : ∃ C fs, ρ[i]? = some (some (.I C fs)) ∧ f ∈ fldsOf C ∧ fs.length < 100 ∧ P C fs := ⟨C, fs, e, h1, h2, h⟩
theorem x_ix {xs : List O} {n : Int} {j : Nat} {P : Nat → Prop} (e : ixN xs.length n = some j) (h : P j) : ∃ m j, O.f (.int n) = .f (.int m) ∧ ixN xs.length m = some j ∧ P j := ⟨n, j, rfl, e, h⟩
theorem x_make {u : O} {r : List O} {P : O → Prop} (h : P u) : ∃ v w, O.f .non = .f .non ∧ u :: r = v :: w ∧ P v := ⟨u, r, rfl, rfl, h⟩
theorem x_rs {as : List AV} {P : List D → Prop} {ds : List D} {n : Nat} (e : avD as = some ds) (hl : ds.length = n) (h : P ds) : ∃ ds, avD as = some ds ∧ ds.length = n ∧ P ds := ⟨ds, e, hl, h⟩
end
end MR

namespace MR
open PySem PySem.Spec PyProof.Rows L2 SW LamX
theorem x_addFL {xs : List D} {ys : List O} {P : O → Prop} (h : xs.length + (O.fzA ys).length ≤ 100000) (k : P (.L ((xs ++ O.fzA ys).map .f))) : ∃ u, gAdd (O.fz (.f (.lst xs))) (O.fz (.L ys)) = some u ∧ P u := ⟨_, if_pos h, k⟩
theorem x_addLL {xs ys : List O} {P : O → Prop} (h : (O.fzA xs).length + (O.fzA ys).length ≤ 100000) (k : P (.L ((O.fzA xs ++ O.fzA ys).map .f))) : ∃ u, gAdd (O.fz (.L xs)) (O.fz (.L ys)) = some u ∧ P u := ⟨_, if_pos h, k⟩
theorem x_addFF {xs ys : List D} {P : O → Prop} (h : xs.length + ys.length ≤ 100000) (k : P (.f (.tup (xs ++ ys)))) : ∃ u, gAdd (O.fz (.f (.tup xs))) (O.fz (.f (.tup ys))) = some u ∧ P u := ⟨_, if_pos h, k⟩
end MR

namespace MR
open PySem PySem.Spec PyProof.Rows L2 SW LamX
theorem mul_ok {i j : Int} (h : (-(2 ^ 64) < i ∧ i < 2 ^ 64) ∨ (-(2 ^ 64) < j ∧ j < 2 ^ 64)) : gMul (.int i) (.int j) = some (.f (.int (i * j))) := by
  simp only [gMul, gI2, decide_eq_true h, cond_true]
theorem fdiv_ok {i j : Int} (h : 0 < j ∧ j < 1073741824) : gFdiv (.int i) (.int j) = some (.f (.int (i / j))) := by
  simp only [gFdiv, gI2, decide_eq_true h, cond_true]
theorem mod_ok {i j : Int} (h : 0 < j) : gMod (.int i) (.int j) = some (.f (.int (i % j))) := by
  simp only [gMod, gI2, decide_eq_true h, cond_true]
theorem eqi {i j : Int} : PyData.eqv (.int i) (.int j) = decide (i = j) := by
  show (i == j) = decide (i = j)
  by_cases h : i = j <;> simp [h]
theorem fzA_f' : ∀ ds : List D, O.fzA (ds.map .f) = ds
  | [] => rfl
  | d :: ds => by rw [List.map_cons, O.fzA, fzA_f' ds]; rfl
theorem atI_in {α : Type} {xs : List α} {i : Int} (h0 : 0 ≤ i) (h1 : i < xs.length) : ∃ x ∈ xs, atI xs i = some x := by
  have e : i.toNat < xs.length := by omega
  refine ⟨xs[i.toNat], List.getElem_mem e, ?_⟩
  unfold atI
  have e2 : ixN xs.length i = some i.toNat := by
    unfold ixN
    rw [if_pos h0, if_pos h1]
  simp only [e2, Option.bind_some]
  exact List.getElem?_eq_getElem e
theorem x_rngF {j : Int} {P : Int → Prop} (hj : j < 2 ^ 40 ∧ -(2 ^ 40) ≤ j) (h : P j) : ∃ i, [AV.v (O.fz (.f (.int j)))] = [.v (.int i)] ∧ (i < 2 ^ 40 ∧ -(2 ^ 40) ≤ i) ∧ P i := ⟨j, rfl, hj, h⟩
def kInv (I : List D → MR.Env → Prop) (ds : List D) (k : RS → Prop) : RS → Prop := fun r => match r with
  | .nx ρ2 => I ds ρ2
  | .ct ρ2 => I ds ρ2
  | .bk ρ2 => k (.nx ρ2)
  | r => k r
section
variable {I : List D → MR.Env → Prop} {ds : List D} {k : RS → Prop} {ρ : MR.Env}
theorem ki_nx (h : I ds ρ) : kInv I ds k (.nx ρ) := h
theorem ki_ct (h : I ds ρ) : kInv I ds k (.ct ρ) := h
theorem ki_bk (h : k (.nx ρ)) : kInv I ds k (.bk ρ) := h
theorem ki_rt {o : O} (h : k (.rt o ρ)) : kInv I ds k (.rt o ρ) := h
theorem ki_ex {x : Xc} (h : k (.ex x ρ)) : kInv I ds k (.ex x ρ) := h
theorem loop_inv2 {mg : MG} {mb : MS} (I : List D → MR.Env → Prop) (hs : ∀ d ds ρ, I (d :: ds) ρ → ∃ ρ1, mg (.f d) ρ = some ρ1 ∧ WS (mb ρ1) (kInv I ds k)) (he : ∀ ρ, I [] ρ → k (.nx ρ)) : ∀ ds ρ, I ds ρ → WS (loopF mg mb ds ρ) k :=
  loop_inv I (fun d ds ρ h => by
    obtain ⟨ρ1, e, w⟩ := hs d ds ρ h
    exact ⟨ρ1, e, w⟩) he
end
end MR

local macro_rules | `(tactic| walk_at "m1") => `(tactic| first
  | with_reducible refine MR.w_seq ?_ | with_reducible refine MR.k_nx ?_ | with_reducible refine MR.k_rt ?_ | with_reducible refine MR.k_ex ?_ | with_reducible refine MR.w_ifS ?_ | with_reducible refine MR.w_ret ?_ | with_reducible refine MR.w_next ?_ | with_reducible refine MR.w_drop ?_ | with_reducible refine MR.w_asgN ?_ | with_reducible refine MR.w_asg ?_ | with_reducible refine MR.we_bind ?_ | with_reducible refine MR.l_nil ?_ | with_reducible refine MR.l_consN ?_ | ((with_reducible apply MR.l_cons); (focus exact rfl)) | with_reducible refine MR.ki_nx ?_ | with_reducible refine MR.ki_rt ?_ | with_reducible refine MR.ki_ex ?_ | with_reducible refine MR.ki_ct ?_ | with_reducible refine MR.ki_bk ?_ | with_reducible refine MR.kl_nx ?_ | with_reducible refine MR.kl_rt ?_ | with_reducible refine MR.kl_ex ?_ | with_reducible refine MR.w_condT ?_ | with_reducible refine MR.w_condF ?_ | with_reducible refine MR.e_condT ?_ | with_reducible refine MR.e_condF ?_ | with_reducible refine MR.e_ok ?_ | with_reducible refine MR.e_c ?_ | with_reducible refine MR.e_op2R ?_ | ((with_reducible apply MR.e_var); (focus exact rfl)) | ((with_reducible apply MR.e_fzv); (focus exact rfl)) | ((with_reducible apply MR.e_pk); (focus exact rfl)) | ((with_reducible apply MR.e_mov); (focus exact rfl)) | with_reducible refine MR.e_op1R ?_ | with_reducible refine MR.e_op2 ?_ | with_reducible refine MR.e_op1 ?_ | with_reducible refine MR.e_val ?_ | with_reducible refine MR.e_ix ?_ | with_reducible refine MR.e_ixF ?_ | with_reducible refine MR.e_fz ?_ | with_reducible refine MR.e_fld ?_ | with_reducible refine MR.e_test ?_ | with_reducible refine MR.e_tru ?_ | with_reducible refine MR.e_not ?_ | with_reducible refine MR.e_and ?_ | with_reducible refine MR.e_or ?_ | with_reducible refine MR.e_if ?_ | with_reducible refine MR.e_yes ?_ | with_reducible refine MR.e_andV ?_ | with_reducible refine MR.e_orV ?_ | with_reducible refine MR.e_notV ?_ | with_reducible refine MR.e_tup ?_ | with_reducible refine MR.e_lstW ?_ | with_reducible refine MR.e_nil ?_ | with_reducible refine MR.e_cons ?_ | with_reducible refine MR.e_wnil ?_ | with_reducible refine MR.e_wcons ?_ | with_reducible refine MR.e_dfl ?_ | with_reducible refine MR.e_callP ?_ | with_reducible refine MR.e_call ?_ | with_reducible refine MR.e_make ?_ | with_reducible refine MR.e_makeK ?_ | with_reducible refine MR.e_chain ?_ | with_reducible refine MR.e_why ?_ | with_reducible refine MR.e_try ?_ | with_reducible refine MR.e_noPart ?_ | with_reducible refine MR.e_part ?_ | with_reducible refine MR.e_sl ?_ | with_reducible refine MR.e_app ?_ | with_reducible refine MR.e_join ?_ | with_reducible refine MR.w_par ?_ | with_reducible refine MR.w_par3 ?_ | with_reducible refine MR.w_raise ?_ | with_reducible refine MR.w_fldS ?_ | with_reducible refine MR.w_setL ?_ | with_reducible refine MR.e_iter ?_ | with_reducible refine MR.e_rng1 ?_ | with_reducible refine MR.w_for ?_ | with_reducible refine MR.e_lc ?_ | ((with_reducible apply MR.x_rngF); (focus omega)) | ((with_reducible apply MR.x_rng); (focus omega)) | ((with_reducible apply MR.x_addFL); (focus (simp [MR.O.fzA]; done))) | ((with_reducible apply MR.x_addLL); (focus (simp [MR.O.fzA]; done))) | ((with_reducible apply MR.x_addFF); (focus (simp [MR.O.fzA]; done))) | with_reducible refine MR.x_f ?_ | with_reducible refine MR.x_bl ?_ | with_reducible refine MR.x_int ?_ | with_reducible refine MR.x_str ?_ | with_reducible refine MR.x_two ?_ | with_reducible refine MR.x_three ?_ | with_reducible refine MR.x_make ?_ | ((with_reducible apply MR.x_sc); (focus exact rfl); (focus exact rfl)) | ((with_reducible apply MR.e_scg); (focus exact rfl); (focus exact rfl)) | ((with_reducible apply MR.x_sc); (focus exact MR.mul_ok (by first | decide | omega)); (focus exact rfl)) | ((with_reducible apply MR.e_scg); (focus exact MR.mul_ok (by first | decide | omega)); (focus exact rfl)) | ((with_reducible apply MR.x_sc); (focus exact MR.mod_ok (by first | decide | omega)); (focus exact rfl)) | ((with_reducible apply MR.e_scg); (focus exact MR.mod_ok (by first | decide | omega)); (focus exact rfl)) | ((with_reducible apply MR.x_sc); (focus exact MR.fdiv_ok (by first | decide | omega)); (focus exact rfl)) | ((with_reducible apply MR.e_scg); (focus exact MR.fdiv_ok (by first | decide | omega)); (focus exact rfl)) | ((with_reducible apply MR.e_conS); (focus exact rfl)) | ((with_reducible apply MR.kd_rt); (focus exact rfl)) | ((with_reducible apply MR.kd_nx); (focus exact rfl)) | ((with_reducible apply MR.kd_ex); (focus exact rfl)) | ((with_reducible apply MR.w_sup); (focus exact rfl)) | ((with_reducible apply MR.x_cbl); (focus exact rfl)) | ((with_reducible apply MR.x_take); (focus exact rfl)) | ((with_reducible apply MR.x_L); (focus exact rfl)) | ((with_reducible apply MR.x_ix); (focus exact rfl)) | ((with_reducible apply MR.x_len); (focus exact rfl); (focus exact Nat.le_of_ble_eq_true rfl)) | ((with_reducible apply MR.x_rs); (focus exact rfl); (focus exact rfl)) | ((with_reducible apply MR.x_ds); (focus exact rfl); (focus exact rfl)) | ((with_reducible apply MR.x_I); (focus exact rfl); (focus decide +kernel); (focus exact Nat.le_of_ble_eq_true rfl)) | ((with_reducible apply MR.x_some); (focus exact rfl)) | ((with_reducible apply MR.x_le); (focus exact Nat.zero_le _)) | ((with_reducible apply MR.x_le); (focus exact Nat.le_of_ble_eq_true rfl)) | ((with_reducible apply MR.e_cT); (focus exact rfl)) | ((with_reducible apply MR.e_cF); (focus exact rfl)) | ((with_reducible apply MR.w_cT); (focus exact rfl)) | ((with_reducible apply MR.w_cF); (focus exact rfl)))
local macro_rules | `(tactic| walk_at "mv") => `(tactic| ((repeat walk_at "m1"); try dsimp only [MR.O.fz]))
local macro_rules | `(tactic| walk_at "m0") => `(tactic| (refine MR.f_def ?_; simp only [MR.startE, List.map_cons, List.map_nil, List.length_cons, List.length_nil, List.replicate, List.cons_append, List.nil_append, Nat.reduceSub, Nat.reduceAdd, Nat.zero_add]))

namespace MPkg
open PySem PySem.Spec PyProof.Rows L2 SW MR
def b_is_whole : MS := (mRet (mAndV (mOp1R (gIsi [(.ty "int")]) (mPk 0)) (mNotV (mOp1R (gIsi [(.ty "bool")]) (mPk 0)))))
def m_is_whole : MF := mDef [] 1 b_is_whole
def b_is_number : MS := (mRet (mAndV (mCallP (noX m_is_whole) (mCons (mVar 0) mNil)) (mChain gLe gLe (mPk 1) (mPk 0) (mPk 2))))
def m_is_number : MF := mDef [] 3 b_is_number
def b_is_name : MS := (mSeq (mIfS (mOr (mNot (mTru truD (mOp1R (gIsi [(.ty "str")]) (mPk 0)))) (mNot (mTest (mChain gLe gLe (mC (.int 1)) (mOp1R gLen (mPk 0)) (mC (.int 6)))))) (mRet (mC (.bl false))) mNext) (mRet (mOp1R gAll (mLc (mIter (mVar 0)) (gmName 1) mYes (mOp2R gIn (mPk 1) (mC (.str "abcdefghijklmnopqrstuvwxyz"))) [1]))))
def m_is_name : MF := mDef [] 2 b_is_name
def b_is_standing : MS := (mSeq (mIfS (mOr (mNot (mTru truD (mOp1R (gIsi [(.ty "tuple")]) (mPk 0)))) (mTest (mOp2R gNe (mOp1R gLen (mPk 0)) (mC (.int 2))))) (mRet (mC (.bl false))) mNext) (mRet (mAndV (mCallP (noX m_is_name) (mCons (mVal (mIx (mPk 0) (mC (.int 0)))) mNil)) (mCallP (noX m_is_number) (mCons (mVal (mIx (mPk 0) (mC (.int 1)))) (mCons (mC (.int 0)) (mCons (mC (.int 8)) mNil)))))))
def m_is_standing : MF := mDef [] 1 b_is_standing
def b_need_names : MS := (mFor (mIter (mTup (mCons (mVar 0) (mCons (mVar 1) mNil)))) (gmName 2) (mIfS (mNot (mTru truD (mCallP (noX m_is_name) (mCons (mVar 2) mNil)))) (mRaise "InvalidName" (fd1 "value" "InvalidName") 1 (mCons (mVar 2) mNil)) mNext))
def m_need_names : MF := mDef [] 3 b_need_names
def b_need_terms : MS := (mSeq (mIfS (mNot (mTru truD (mCallP (noX m_is_number) (mCons (mVar 0) (mCons (mC (.int 1)) (mCons (mC (.int 99)) mNil)))))) (mRaise "InvalidNumber" (fd1 "value" "InvalidNumber") 1 (mCons (mVar 0) mNil)) mNext) (mIfS (mNot (mTru truD (mCallP (noX m_is_number) (mCons (mVar 1) (mCons (mC (.int 0)) (mCons (mC (.int 999)) mNil)))))) (mRaise "InvalidNumber" (fd1 "value" "InvalidNumber") 1 (mCons (mVar 1) mNil)) mNext))
def m_need_terms : MF := mDef [] 2 b_need_terms
def b_need_rank : MS := (mIfS (mNot (mTru truD (mCallP (noX m_is_number) (mCons (mVar 0) (mCons (mC (.int 0)) (mCons (mC (.int 99)) mNil)))))) (mRaise "InvalidNumber" (fd1 "value" "InvalidNumber") 1 (mCons (mVar 0) mNil)) mNext)
def m_need_rank : MF := mDef [] 1 b_need_rank
def b_Asking___init__ : MS := (mSeq (mFldS 0 "name" (mFz (mVar 1))) (mSeq (mFldS 0 "owner" (mFz (mVar 2))) (mSeq (mFldS 0 "crews" (mFz (mVar 3))) (mSeq (mFldS 0 "price" (mFz (mVar 4))) (mFldS 0 "rank" (mFz (mVar 5)))))))
def m_Asking___init__ : MF := mDef [0] 6 b_Asking___init__
def b_Work___init__ : MS := (mSeq (mDrop (mCallP m_need_names (mCons (mVar 1) (mCons (mVar 2) mNil)))) (mSeq (mIfS (mNot (mTru truD (mCallP (noX m_is_standing) (mCons (mVar 3) mNil)))) (mRaise "InvalidStanding" (fd1 "value" "InvalidStanding") 1 (mCons (mVar 3) mNil)) mNext) (mSeq (mIfS (mOr (mNot (mTru truD (mCallP (noX m_is_standing) (mCons (mVar 4) mNil)))) (mTest (mOp2R gLe (mIx (mPk 4) (mC (.int 1))) (mIx (mPk 3) (mC (.int 1)))))) (mRaise "InvalidStanding" (fd1 "value" "InvalidStanding") 1 (mCons (mVar 4) mNil)) mNext) (mSeq (mDrop (mCallP m_need_terms (mCons (mVar 5) (mCons (mVar 6) mNil)))) (mSeq (mDrop (mCallP m_need_rank (mCons (mVar 7) mNil))) (mSeq (mSup "Work" (noX m_Asking___init__) (mCons (mVar 1) (mCons (mVar 2) (mCons (mVar 5) (mCons (mVar 6) (mCons (mVar 7) mNil)))))) (mSeq (mFldS 0 "start" (mFz (mVar 3))) (mSeq (mFldS 0 "end" (mFz (mVar 4))) (mSeq (mFldS 0 "key" (mFz (mTup (mCons (mC (.str "work")) (mCons (mVar 1) mNil))))) (mSeq (mFldS 0 "fee" (mFz (mOp1R gNeg (mPk 6)))) (mFldS 0 "begins" (mFz (mVal (mIx (mPk 3) (mC (.int 1))))))))))))))))
def m_Work___init__ : MF := mDef [0] 8 b_Work___init__
def b_Hire___init__ : MS := (mSeq (mDrop (mCallP m_need_names (mCons (mVar 1) (mCons (mVar 2) mNil)))) (mSeq (mIfS (mNot (mTru truD (mCallP (noX m_is_standing) (mCons (mVar 3) mNil)))) (mRaise "InvalidStanding" (fd1 "value" "InvalidStanding") 1 (mCons (mVar 3) mNil)) mNext) (mSeq (mDrop (mCallP m_need_terms (mCons (mVar 4) (mCons (mVar 5) mNil)))) (mSeq (mDrop (mCallP m_need_rank (mCons (mVar 6) mNil))) (mSeq (mSup "Hire" (noX m_Asking___init__) (mCons (mVar 1) (mCons (mVar 2) (mCons (mVar 4) (mCons (mVar 5) (mCons (mVar 6) mNil)))))) (mSeq (mFldS 0 "start" (mFz (mTup mNil))) (mSeq (mFldS 0 "end" (mFz (mVar 3))) (mSeq (mFldS 0 "key" (mFz (mTup (mCons (mC (.str "hire")) (mCons (mVar 1) mNil))))) (mSeq (mFldS 0 "fee" (mFz (mVar 5))) (mFldS 0 "begins" (mFz (mVal (mIx (mPk 3) (mC (.int 1)))))))))))))))
def m_Hire___init__ : MF := mDef [0] 7 b_Hire___init__
end MPkg

namespace MLawA
open PySem PySem.Spec PyProof.Rows L2 SW MR MPkg
def b__law_bag : MS := (mSeq (mAsg (mOp1 gList (mSl (mVar 0) mNoPart (mPart (mC (.int 63))))) (gmName 1)) (mRet (mLstW (wCons (mFzv 1) (wCons (mC (.int 0)) (wCons (mC (.int 0)) (wCons (mOp2 gAdd (mC (.int 12029)) (mOp2R gMul (mC (.int 31)) (mOp1R gLen (mPk 1)))) wNil)))))))
def m__law_bag : MF := mDef [] 2 b__law_bag
def b__law_take : MS := (mSeq (mIfS (mAnd (mTest (mOp2R gEq (mIx (mPk 0) (mC (.int 2))) (mC (.int 0)))) (mTest (mOp2R gLt (mIx (mPk 0) (mC (.int 1))) (mOp1R gLen (mIx (mPk 0) (mC (.int 0))))))) (mSeq (mAsg (mVal (mIx (mIx (mPk 0) (mC (.int 0))) (mIx (mPk 0) (mC (.int 1))))) (gmName 2)) (mSeq (mSetL 0 (mC (.int 1)) (mOp2 gAdd (mVal (mIx (mPk 0) (mC (.int 1)))) (mC (.int 1)))) (mSeq (mSetL 0 (mC (.int 3)) (mOp2R gMod (mOp1R gInt (mOp2 gAdd (mOp2 gAdd (mOp2R gMul (mIx (mPk 0) (mC (.int 3))) (mC (.int 48271))) (mOp2R gMul (mOp2R gMod (mOp1R gInt (mPk 2)) (mC (.int 1000003))) (mC (.int 6151)))) (mC (.int 7919)))) (mC (.int 2147483629)))) (mIfS (mTest (mOp2R gGe (mPk 2) (mOp2R gPow (mC (.int 10)) (mC (.int 18))))) (mSetL 0 (mC (.int 2)) (mVar 2)) mNext)))) mNext) (mSeq (mIfS (mTest (mOp2R gGt (mIx (mPk 0) (mC (.int 2))) (mC (.int 0)))) (mSeq (mAsg (mOp2R gMod (mOp1R gInt (mIx (mPk 0) (mC (.int 2)))) (mPk 1)) (gmName 3)) (mSeq (mSetL 0 (mC (.int 2)) (mOp2R gFdiv (mIx (mPk 0) (mC (.int 2))) (mPk 1))) (mRet (mVar 3)))) mNext) (mSeq (mSetL 0 (mC (.int 3)) (mOp2R gMod (mOp1R gInt (mOp2 gAdd (mOp2 gAdd (mOp2R gMul (mIx (mPk 0) (mC (.int 3))) (mIx (mPk 0) (mC (.int 3)))) (mOp2R gMul (mIx (mPk 0) (mC (.int 3))) (mC (.int 40692)))) (mC (.int 1231)))) (mC (.int 2147483629)))) (mRet (mOp2R gMod (mOp1R gInt (mOp2 gAdd (mOp2R gFdiv (mIx (mPk 0) (mC (.int 3))) (mC (.int 97))) (mOp2R gMul (mOp2R gMod (mOp1R gInt (mIx (mPk 0) (mC (.int 3)))) (mC (.int 7919))) (mC (.int 89))))) (mPk 1))))))
def m__law_take : MF := mDef [0] 4 b__law_take
def b__law_of : MS := (mRet (mVal (mIxF (mVar 1) (mCall (noX m__law_take) (mConS 0 (mCons (mOp1R gLen (mPk 1)) mNil))))))
def m__law_of : MF := mDef [0] 2 b__law_of
def b__law_same (rec : MF) : MS := (mSeq (mIfS (mOr (mTest (mOp2R gIsN (mPk 1) (mC .non))) (mTest (mOp2R gIsN (mPk 0) (mC .non)))) (mRet (mAndV (mOp2R gIsN (mPk 1) (mC .non)) (mOp2R gIsN (mPk 0) (mC .non)))) mNext) (mSeq (mIfS (mTru truD (mOp1R (gIsi [(.ty "list"), (.ty "tuple")]) (mPk 1))) (mSeq (mIfS (mOr (mTest (mOp2R gNe (mOp1R (gIsi [(.ty "list")]) (mPk 0)) (mOp1R (gIsi [(.ty "list")]) (mPk 1)))) (mTest (mOp2R gNe (mOp1R (gIsi [(.ty "tuple")]) (mPk 0)) (mOp1R (gIsi [(.ty "tuple")]) (mPk 1))))) (mRet (mC (.bl false))) mNext) (mRet (mAndV (mOp2R gEq (mOp1R gLen (mPk 0)) (mOp1R gLen (mPk 1))) (mOp2R gEq (mLc (mRng1 (mCons (mOp1R gLen (mPk 1)) mNil)) (gmName 2) (mNot (mTru truD (mCallP (noX rec) (mCons (mVal (mIx (mPk 0) (mPk 2))) (mCons (mVal (mIx (mPk 1) (mPk 2))) mNil))))) (mVar 2) [2]) (mLstW wNil))))) mNext) (mSeq (mIfS (mTru truD (mOp1R (gIsi [(.ty "dict")]) (mPk 1))) (mRet (mAndV (mOp1R (gIsi [(.ty "dict")]) (mPk 0)) (mCallP (noX rec) (mCons (mOp1 gItems (mVar 0)) (mCons (mOp1 gItems (mVar 1)) mNil))))) mNext) (mSeq (mIfS (mOr (mTest (mOp2R gNe (mOp1R (gIsi [(.ty "bool")]) (mPk 1)) (mOp1R (gIsi [(.ty "bool")]) (mPk 0)))) (mTest (mOp2R gNe (mOp1R (gIsi [(.ty "int")]) (mPk 1)) (mOp1R (gIsi [(.ty "int")]) (mPk 0))))) (mRet (mC (.bl false))) mNext) (mRet (mAndV (mOp2R gEq (mOp1R (gIsi [(.ty "str")]) (mPk 1)) (mOp1R (gIsi [(.ty "str")]) (mPk 0))) (mOp2R gEq (mPk 0) (mPk 1))))))))
def m__law_same : Nat → MF
  | 0 => fun _ => .bad
  | n + 1 => mDef [] 3 (b__law_same (m__law_same n))
def b__law_names : MS := (mSeq (mAsg (mC (.str "abcdefghijklmnopqrstuvwxyz")) (gmName 3)) (mSeq (mAsg (mJoin (mC (.str "")) (mLc (mRng1 (mCons (mCall (noX m__law_take) (mConS 0 (mCons (mVar 2) mNil))) mNil)) (gmName 5) mYes (mCall (noX m__law_of) (mConS 0 (mCons (mVar 3) mNil))) [5])) (gmName 4)) (mSeq (mPar3 6 7 8 (wCons (mCall (noX m__law_take) (mConS 0 (mCons (mC (.int 26)) mNil))) (wCons (mCall (noX m__law_of) (mConS 0 (mCons (mLstW (wCons (mC (.int 1)) (wCons (mC (.int 3)) (wCons (mC (.int 5)) (wCons (mC (.int 7)) (wCons (mC (.int 11)) (wCons (mC (.int 25)) wNil))))))) mNil))) (wCons (mLstW wNil) wNil)))) (mSeq (mFor (mRng1 (mCons (mVar 1) mNil)) (gmName 5) (mSeq (mAsg (mJoin (mC (.str "")) (mLc (mRng1 (mCons (mCall (noX m__law_take) (mConS 0 (mCons (mOp2R gSub' (mPk 2) (mOp1R gLen (mPk 4))) mNil))) mNil)) (gmName 10) mYes (mCall (noX m__law_of) (mConS 0 (mCons (mVar 3) mNil))) [10])) (gmName 9)) (mDrop (mApp 8 (mOp2 gAdd (mOp2 gAdd (mVar 4) (mVal (mIxF (mVar 3) (mOp2R gMod (mOp1R gInt (mOp2 gAdd (mFzv 6) (mOp2R gMul (mPk 7) (mPk 5)))) (mC (.int 26)))))) (mVar 9)))))) (mRet (mMov 8))))))
def m__law_names : MF := mDef [0] 11 b__law_names
end MLawA

namespace MPkg
open PySem PySem.Spec PyProof.Rows L2 SW MR
/-! ### the words, plainly -/
def whole : D → Bool
  | .int _ => true
  | _ => false
def numB (d : D) (lo hi : Int) : Bool := match d with
  | .int i => decide (lo ≤ i ∧ i ≤ hi)
  | _ => false
def small : List Nat := ("abcdefghijklmnopqrstuvwxyz" : Str).cps.toList
def nameB : D → Bool
  | .str x => decide (1 ≤ x.length ∧ x.length ≤ 6) && x.cps.toList.all fun c => decide (c ∈ small)
  | _ => false
def standB : D → Bool
  | .tup [a, b] => nameB a && numB b 0 8
  | .kt [a, b] => nameB a && numB b 0 8
  | _ => false
theorem isw (d : D) : m_is_whole [.f d] = .ok (.f (.bl (whole d))) [.f d] := by
  cases d <;> rfl
theorem isn (d : D) (lo hi : Int) : m_is_number [.f d, .f (.int lo), .f (.int hi)] = .ok (.f (.bl (numB d lo hi))) [.f d, .f (.int lo), .f (.int hi)] := by
  cases d with
  | int i =>
    refine of_wf ?_
    walk_at "m0"
    unfold b_is_number
    walk_at "mv"
    refine f_noX (wf_of (isw _) ?_)
    walk_at "mv"
    refine e_cond (fun h => ?_) (fun h => ?_)
    · walk_at "mv"
      have h1 := of_decide_eq_true h
      exact ⟨by simp only [numB, h1, true_and], rfl⟩
    · walk_at "mv"
      have h1 := of_decide_eq_false h
      exact ⟨by simp only [numB, h1, false_and, decide_false], rfl⟩
  | _ => rfl
/-- the signs of a text that are none of some -/
theorem name_loop {ρ0 : O} : ∀ (cs : List Nat) (bs : List Bool), bs.length + cs.length < 100000 → loopL (gmName 1) mYes (mOp2R gIn (mPk 1) (mC (.str "abcdefghijklmnopqrstuvwxyz"))) [1] (cs.map chD) (bs.map fun b => .f (.bl b)) [some ρ0, none] = .ok (.L ((bs ++ cs.map fun c => decide (c ∈ small)).map fun b => .f (.bl b))) [some ρ0, none]
  | [], bs, h => by
    show RE.ok (O.L (bs.map fun b => O.f (.bl b))) _ = _
    rw [List.map_nil, List.append_nil]
  | c :: cs, bs, h => by
    have e : loopL (gmName 1) mYes (mOp2R gIn (mPk 1) (mC (.str "abcdefghijklmnopqrstuvwxyz"))) [1] ((c :: cs).map chD) (bs.map fun b => O.f (.bl b)) [some ρ0, none] =
        (bif decide ((bs.map fun b => O.f (.bl b)).length < 100000) then loopL (gmName 1) mYes (mOp2R gIn (mPk 1) (mC (.str "abcdefghijklmnopqrstuvwxyz"))) [1] (cs.map chD) ((bs.map fun b => O.f (.bl b)) ++ [.f (.bl (decide (c ∈ small)))]) [some ρ0, none] else .bad) := rfl
    rw [e, decide_eq_true (by simp at h ⊢; omega)]
    have := name_loop (ρ0 := ρ0) cs (bs ++ [decide (c ∈ small)]) (by simp at h ⊢; omega)
    rw [List.map_append] at this
    simp only [cond_true]
    rw [show ([O.f (D.bl (decide (c ∈ small)))] : List O) = [decide (c ∈ small)].map (fun b => O.f (.bl b)) from rfl, this, List.append_assoc]
    rfl
theorem sml : ∀ c : Nat, decide (c ∈ ("abcdefghijklmnopqrstuvwxyz" : Str).cps.toList) = decide (c ∈ small) := fun _ => rfl
theorem fzA_f : ∀ ds : List D, O.fzA (ds.map .f) = ds
  | [] => rfl
  | d :: ds => by rw [List.map_cons, O.fzA, fzA_f ds]; rfl
theorem fzA_b : ∀ bs : List Bool, O.fzA (bs.map fun b => .f (.bl b)) = bs.map .bl
  | [] => rfl
  | d :: ds => by rw [List.map_cons, O.fzA, fzA_b ds]; rfl
theorem boolsD_b : ∀ bs : List Bool, boolsD (bs.map .bl) = some bs
  | [] => rfl
  | d :: ds => by rw [List.map_cons, boolsD, boolsD_b ds]; rfl
theorem isna (d : D) : m_is_name [.f d] = .ok (.f (.bl (nameB d))) [.f d] := by
  cases d with
  | str x =>
    refine of_wf ?_
    walk_at "m0"
    unfold b_is_name
    walk_at "mv"
    have no : ¬ (1 ≤ x.length ∧ x.length ≤ 6) → nameB (.str x) = false := fun h => by
      show (decide (1 ≤ x.length ∧ x.length ≤ 6) && _) = false
      rw [decide_eq_false h]; rfl
    refine e_cond (fun h1 => ?_) (fun h1 => ?_)
    · walk_at "mv"
      refine w_cond (fun h2 => ?_) (fun h2 => ?_)
      · walk_at "mv"
        refine ⟨?_, rfl⟩
        have h3 : ¬ ((x.length : Int) ≤ 6) := by simpa using h2
        rw [no (by omega)]
      · walk_at "mv"
        have h3 : ((x.length : Int) ≤ 6) := by simpa using h2
        have h4 : (1 : Int) ≤ x.length := of_decide_eq_true h1
        have hl : x.cps.toList.length = x.length := by simp [Str.length]
        refine (show WE (loopL (gmName 1) mYes (mOp2R gIn (mPk 1) (mC (.str "abcdefghijklmnopqrstuvwxyz"))) [1] (x.cps.toList.map chD) (([] : List Bool).map fun b => .f (.bl b)) [some (.f (.str x)), none]) _ _ from ?_)
        rw [name_loop _ _ (by rw [hl]; show 0 + x.length < 100000; omega)]
        refine e_ok (x_sc (d := .bl (x.cps.toList.all fun c => decide (c ∈ small))) ?_ rfl ?_)
        · show gAll (.lst (O.fzA _)) = _
          rw [fzA_b]
          show (boolsD _).map _ = _
          rw [boolsD_b, List.nil_append, Option.map_some]
          congr 3
          simp [List.all_map]
        · walk_at "mv"
          refine ⟨?_, rfl⟩
          show _ = O.f (.bl (decide (1 ≤ x.length ∧ x.length ≤ 6) && _))
          rw [decide_eq_true (show 1 ≤ x.length ∧ x.length ≤ 6 by omega), Bool.true_and]
    · walk_at "mv"
      refine ⟨?_, rfl⟩
      have h3 : ¬ ((1 : Int) ≤ x.length) := of_decide_eq_false h1
      rw [no (by omega)]
  | _ => rfl
theorem iss (d : D) : m_is_standing [.f d] = .ok (.f (.bl (standB d))) [.f d] := by
  have two : ∀ a b : D, m_is_standing [.f (.tup [a, b])] = .ok (.f (.bl (nameB a && numB b 0 8))) [.f (.tup [a, b])] := fun a b => by
    refine of_wf ?_
    walk_at "m0"
    unfold b_is_standing
    walk_at "mv"
    refine f_noX (wf_of (isna _) ?_)
    walk_at "mv"
    refine e_cond (fun h => ?_) (fun h => ?_)
    · walk_at "mv"
      refine f_noX (wf_of (isn _ _ _) ?_)
      walk_at "mv"
      exact ⟨by rw [h]; rfl, rfl⟩
    · walk_at "mv"
      exact ⟨by rw [h]; rfl, rfl⟩
  have twoK : ∀ a b : D, m_is_standing [.f (.kt [a, b])] = .ok (.f (.bl (nameB a && numB b 0 8))) [.f (.kt [a, b])] := fun a b => by
    refine of_wf ?_
    walk_at "m0"
    unfold b_is_standing
    walk_at "mv"
    refine f_noX (wf_of (isna _) ?_)
    walk_at "mv"
    refine e_cond (fun h => ?_) (fun h => ?_)
    · walk_at "mv"
      refine f_noX (wf_of (isn _ _ _) ?_)
      walk_at "mv"
      exact ⟨by rw [h]; rfl, rfl⟩
    · walk_at "mv"
      exact ⟨by rw [h]; rfl, rfl⟩
  have ne : ∀ n : Nat, n ≠ 2 → PyData.eqv (.int n) (.int 2) = false := fun n h => by
    show ((n : Int) == 2) = false
    simp; omega
  have other : ∀ ds : List D, ds.length ≠ 2 → ∀ d, (d = .tup ds ∨ d = .kt ds) → m_is_standing [.f d] = .ok (.f (.bl false)) [.f d] := fun ds hl d hd => by
    refine of_wf ?_
    walk_at "m0"
    unfold b_is_standing
    rcases hd with rfl | rfl <;>
    · walk_at "mv"
      refine w_cT (by rw [ne ds.length hl]; rfl) ?_
      walk_at "mv"
      exact ⟨rfl, rfl⟩
  cases d with
  | tup ds => match ds with
    | [a, b] => exact two a b
    | [] => rfl
    | [_] => rfl
    | _ :: _ :: _ :: r => exact other _ (by simp) _ (.inl rfl)
  | kt ds => match ds with
    | [a, b] => exact twoK a b
    | [] => rfl
    | [_] => rfl
    | _ :: _ :: _ :: r => exact other _ (by simp) _ (.inr rfl)
  | _ => rfl
def err (code : Str) (v : D) : Xc := ⟨code, [("code", .str code), ("value", v)]⟩
theorem nt (a b : D) : m_need_terms [.f a, .f b] = if numB a 1 99 = true then (if numB b 0 999 = true then .ok (.f .non) [.f a, .f b] else .ex (err "InvalidNumber" b) [.f a, .f b]) else .ex (err "InvalidNumber" a) [.f a, .f b] := by
  by_cases h1 : numB a 1 99 = true
  · rw [if_pos h1]
    by_cases h2 : numB b 0 999 = true
    · rw [if_pos h2]
      refine of_wf ?_
      walk_at "m0"
      unfold b_need_terms
      walk_at "mv"
      refine f_noX (wf_of (isn _ _ _) ?_)
      rw [h1]
      walk_at "mv"
      refine f_noX (wf_of (isn _ _ _) ?_)
      rw [h2]
      walk_at "mv"
      exact ⟨rfl, rfl⟩
    · rw [if_neg h2]
      have h2 : numB b 0 999 = false := by simpa using h2
      refine ex_of_wf ?_
      walk_at "m0"
      unfold b_need_terms
      walk_at "mv"
      refine f_noX (wf_of (isn _ _ _) ?_)
      rw [h1]
      walk_at "mv"
      refine f_noX (wf_of (isn _ _ _) ?_)
      rw [h2]
      walk_at "mv"
      exact ⟨rfl, rfl⟩
  · rw [if_neg h1]
    have h1 : numB a 1 99 = false := by simpa using h1
    refine ex_of_wf ?_
    walk_at "m0"
    unfold b_need_terms
    walk_at "mv"
    refine f_noX (wf_of (isn _ _ _) ?_)
    rw [h1]
    walk_at "mv"
    exact ⟨rfl, rfl⟩
theorem nr (a : D) : m_need_rank [.f a] = if numB a 0 99 = true then .ok (.f .non) [.f a] else .ex (err "InvalidNumber" a) [.f a] := by
  by_cases h1 : numB a 0 99 = true
  · rw [if_pos h1]
    refine of_wf ?_
    walk_at "m0"
    unfold b_need_rank
    walk_at "mv"
    refine f_noX (wf_of (isn _ _ _) ?_)
    rw [h1]
    walk_at "mv"
    exact ⟨rfl, rfl⟩
  · rw [if_neg h1]
    have h1 : numB a 0 99 = false := by simpa using h1
    refine ex_of_wf ?_
    walk_at "m0"
    unfold b_need_rank
    walk_at "mv"
    refine f_noX (wf_of (isn _ _ _) ?_)
    rw [h1]
    walk_at "mv"
    exact ⟨rfl, rfl⟩
theorem nn (a b : D) : m_need_names [.f a, .f b] = if nameB a = true then (if nameB b = true then .ok (.f .non) [.f a, .f b] else .ex (err "InvalidName" b) [.f a, .f b]) else .ex (err "InvalidName" a) [.f a, .f b] := by
  by_cases h1 : nameB a = true
  · rw [if_pos h1]
    by_cases h2 : nameB b = true
    · rw [if_pos h2]
      refine of_wf ?_
      walk_at "m0"
      unfold b_need_names
      walk_at "mv"
      refine f_noX (wf_of (isna _) ?_)
      rw [h1]
      walk_at "mv"
      refine f_noX (wf_of (isna _) ?_)
      rw [h2]
      walk_at "mv"
      exact ⟨rfl, rfl⟩
    · rw [if_neg h2]
      have h2 : nameB b = false := by simpa using h2
      refine ex_of_wf ?_
      walk_at "m0"
      unfold b_need_names
      walk_at "mv"
      refine f_noX (wf_of (isna _) ?_)
      rw [h1]
      walk_at "mv"
      refine f_noX (wf_of (isna _) ?_)
      rw [h2]
      walk_at "mv"
      exact ⟨rfl, rfl⟩
  · rw [if_neg h1]
    have h1 : nameB a = false := by simpa using h1
    refine ex_of_wf ?_
    walk_at "m0"
    unfold b_need_names
    walk_at "mv"
    refine f_noX (wf_of (isna _) ?_)
    rw [h1]
    walk_at "mv"
    exact ⟨rfl, rfl⟩
end MPkg

namespace MPkg
open PySem PySem.Spec PyProof.Rows L2 SW MR
/-! ### askings -/
def hourOf : D → Int
  | .tup [_, .int i] => i
  | .kt [_, .int i] => i
  | _ => 0
/-- the first error of a work's parts -/
def workErr (n o s e c p r : D) : Option (Str × D) :=
  if nameB n = false then some ("InvalidName", n) else if nameB o = false then some ("InvalidName", o)
  else if standB s = false then some ("InvalidStanding", s) else if standB e = false ∨ hourOf e ≤ hourOf s then some ("InvalidStanding", e)
  else if numB c 1 99 = false then some ("InvalidNumber", c) else if numB p 0 999 = false then some ("InvalidNumber", p)
  else if numB r 0 99 = false then some ("InvalidNumber", r) else none
def hireErr (n o e c p r : D) : Option (Str × D) :=
  if nameB n = false then some ("InvalidName", n) else if nameB o = false then some ("InvalidName", o)
  else if standB e = false then some ("InvalidStanding", e)
  else if numB c 1 99 = false then some ("InvalidNumber", c) else if numB p 0 999 = false then some ("InvalidNumber", p)
  else if numB r 0 99 = false then some ("InvalidNumber", r) else none
theorem stand_of {d : D} (h : standB d = true) : ∃ a i, (d = .tup [a, .int i] ∨ d = .kt [a, .int i]) ∧ nameB a = true ∧ 0 ≤ i ∧ i ≤ 8 := by
  have go : ∀ a b : D, (nameB a && numB b 0 8) = true → ∃ i, b = .int i ∧ nameB a = true ∧ 0 ≤ i ∧ i ≤ 8 := fun a b h => by
    obtain ⟨h1, h2⟩ := Bool.and_eq_true_iff.mp h
    cases b with
    | int i => have := of_decide_eq_true (show decide _ = true from h2); exact ⟨i, rfl, h1, this.1, this.2⟩
    | _ => cases h2
  match d, h with
  | .tup [a, b], h => obtain ⟨i, rfl, h1, h2⟩ := go a b h; exact ⟨a, i, .inl rfl, h1, h2⟩
  | .kt [a, b], h => obtain ⟨i, rfl, h1, h2⟩ := go a b h; exact ⟨a, i, .inr rfl, h1, h2⟩
theorem num_of {d : D} {lo hi : Int} (h : numB d lo hi = true) : ∃ i, d = .int i ∧ lo ≤ i ∧ i ≤ hi := by
  cases d with
  | int i => have := of_decide_eq_true (show decide _ = true from h); exact ⟨i, rfl, this.1, this.2⟩
  | _ => cases h
theorem nn_wf {a b : D} {Q : O → List O → Prop} {X : Xc → List O → Prop} (h1 : nameB a = false → X (err "InvalidName" a) [.f a, .f b]) (h2 : nameB a = true → nameB b = false → X (err "InvalidName" b) [.f a, .f b]) (h3 : nameB a = true → nameB b = true → Q (.f .non) [.f a, .f b]) : WF (m_need_names [.f a, .f b]) Q X := by
  rw [nn]
  cases e1 : nameB a with
  | false => exact ⟨h1 e1⟩
  | true =>
    cases e2 : nameB b with
    | false => exact ⟨h2 e1 e2⟩
    | true => exact ⟨h3 e1 e2⟩
theorem nt_wf {a b : D} {Q : O → List O → Prop} {X : Xc → List O → Prop} (h1 : numB a 1 99 = false → X (err "InvalidNumber" a) [.f a, .f b]) (h2 : numB a 1 99 = true → numB b 0 999 = false → X (err "InvalidNumber" b) [.f a, .f b]) (h3 : numB a 1 99 = true → numB b 0 999 = true → Q (.f .non) [.f a, .f b]) : WF (m_need_terms [.f a, .f b]) Q X := by
  rw [nt]
  cases e1 : numB a 1 99 with
  | false => exact ⟨h1 e1⟩
  | true =>
    cases e2 : numB b 0 999 with
    | false => exact ⟨h2 e1 e2⟩
    | true => exact ⟨h3 e1 e2⟩
theorem nr_wf {a : D} {Q : O → List O → Prop} {X : Xc → List O → Prop} (h1 : numB a 0 99 = false → X (err "InvalidNumber" a) [.f a]) (h3 : numB a 0 99 = true → Q (.f .non) [.f a]) : WF (m_need_rank [.f a]) Q X := by
  rw [nr]
  cases e1 : numB a 0 99 with
  | false => exact ⟨h1 e1⟩
  | true => exact ⟨h3 e1⟩
def askF (n o c p r : D) : List (Str × O) := [("name", .f n), ("owner", .f o), ("crews", .f c), ("price", .f p), ("rank", .f r)]
theorem ask_run (C : Str) (hC : C = "Work" ∨ C = "Hire") (n o c p r : D) : m_Asking___init__ [.I C [], .f n, .f o, .f c, .f p, .f r] = .ok (.f .non) [.I C (askF n o c p r), .f n, .f o, .f c, .f p, .f r] := by
  rcases hC with rfl | rfl <;> rfl
/-- Work(..): it is made, or the first error is raised -/
theorem work_run (n o s e c p r : D) {Q : O → List O → Prop} {X : Xc → List O → Prop}
    (hq : workErr n o s e c p r = none → ∀ fs os, Q (.f .non) (.I "Work" fs :: os)) (hx : ∀ code v, workErr n o s e c p r = some (code, v) → ∀ os, X (err code v) os) :
    WF (m_Work___init__ [.I "Work" [], .f n, .f o, .f s, .f e, .f c, .f p, .f r]) Q X := by
  walk_at "m0"
  unfold b_Work___init__
  walk_at "mv"
  refine nn_wf (fun h1 => ?_) (fun h1 h2 => ?_) (fun h1 h2 => ?_)
  · walk_at "mv"
    exact hx _ _ (by unfold workErr; rw [if_pos h1]) _
  · walk_at "mv"
    exact hx _ _ (by unfold workErr; rw [if_neg (by simp [h1]), if_pos h2]) _
  walk_at "mv"
  refine f_noX (wf_of (iss _) ?_)
  walk_at "mv"
  refine w_cond (fun h3 => ?_) (fun h3 => ?_)
  · walk_at "mv"
    exact hx _ _ (by unfold workErr; rw [if_neg (by simp [h1]), if_neg (by simp [h2]), if_pos (by simpa using h3)]) _
  walk_at "mv"
  have h3 : standB s = true := by simpa using h3
  refine f_noX (wf_of (iss _) ?_)
  walk_at "mv"
  obtain ⟨a1, i1, hs, _, _, _⟩ := stand_of h3
  refine e_cond (fun h4 => ?_) (fun h4 => ?_)
  · walk_at "mv"
    exact hx _ _ (by unfold workErr; rw [if_neg (by simp [h1]), if_neg (by simp [h2]), if_neg (by simp [h3]), if_pos (.inl (by simpa using h4))]) _
  have h4 : standB e = true := by simpa using h4
  obtain ⟨a2, i2, he, _, _, _⟩ := stand_of h4
  have hours : hourOf s = i1 ∧ hourOf e = i2 := by
    rcases hs with rfl | rfl <;> rcases he with rfl | rfl <;> exact ⟨rfl, rfl⟩
  have ix : ∀ {d a : D} {i : Int}, (d = .tup [a, .int i] ∨ d = .kt [a, .int i]) → ixO (.f d) (.f (.int 1)) = some (.f (.int i)) := fun h => by rcases h with rfl | rfl <;> rfl
  walk_at "mv"
  refine x_some (ix he) ?_
  walk_at "mv"
  refine x_some (ix hs) ?_
  walk_at "mv"
  refine w_cond (fun h5 => ?_) (fun h5 => ?_)
  · walk_at "mv"
    have h6 : i2 ≤ i1 := of_decide_eq_true h5
    exact hx _ _ (by unfold workErr; rw [if_neg (by simp [h1]), if_neg (by simp [h2]), if_neg (by simp [h3]), if_pos (.inr (by rw [hours.1, hours.2]; exact h6))]) _
  have h6 : ¬ i2 ≤ i1 := of_decide_eq_false h5
  walk_at "mv"
  have base : workErr n o s e c p r = if numB c 1 99 = false then some (("InvalidNumber" : Str), c) else if numB p 0 999 = false then some (("InvalidNumber" : Str), p) else if numB r 0 99 = false then some (("InvalidNumber" : Str), r) else none := by
    unfold workErr
    rw [if_neg (by simp [h1]), if_neg (by simp [h2]), if_neg (by simp [h3]), if_neg]
    rintro (z | z)
    · rw [h4] at z; cases z
    · rw [hours.1, hours.2] at z; exact h6 z
  refine nt_wf (fun h7 => ?_) (fun h7 h8 => ?_) (fun h7 h8 => ?_)
  · walk_at "mv"
    exact hx _ _ (by rw [base, if_pos h7]) _
  · walk_at "mv"
    exact hx _ _ (by rw [base, if_neg (by simp [h7]), if_pos h8]) _
  walk_at "mv"
  refine nr_wf (fun h9 => ?_) (fun h9 => ?_)
  · walk_at "mv"
    exact hx _ _ (by rw [base, if_neg (by simp [h7]), if_neg (by simp [h8]), if_pos h9]) _
  walk_at "mv"
  obtain ⟨pi, rfl, _, _⟩ := num_of h8
  refine f_noX (wf_of (ask_run "Work" (.inl rfl) n o c _ r) ?_)
  walk_at "mv"
  refine x_some (ix hs) ?_
  walk_at "mv"
  exact hq (by rw [base, if_neg (by simp [h7]), if_neg (by simp [h8]), if_neg (by simp [h9])]) _ _
/-- Hire(..) -/
theorem hire_run (n o e c p r : D) {Q : O → List O → Prop} {X : Xc → List O → Prop}
    (hq : hireErr n o e c p r = none → ∀ fs os, Q (.f .non) (.I "Hire" fs :: os)) (hx : ∀ code v, hireErr n o e c p r = some (code, v) → ∀ os, X (err code v) os) :
    WF (m_Hire___init__ [.I "Hire" [], .f n, .f o, .f e, .f c, .f p, .f r]) Q X := by
  walk_at "m0"
  unfold b_Hire___init__
  walk_at "mv"
  refine nn_wf (fun h1 => ?_) (fun h1 h2 => ?_) (fun h1 h2 => ?_)
  · walk_at "mv"
    exact hx _ _ (by unfold hireErr; rw [if_pos h1]) _
  · walk_at "mv"
    exact hx _ _ (by unfold hireErr; rw [if_neg (by simp [h1]), if_pos h2]) _
  walk_at "mv"
  refine f_noX (wf_of (iss _) ?_)
  walk_at "mv"
  refine w_cond (fun h3 => ?_) (fun h3 => ?_)
  · walk_at "mv"
    exact hx _ _ (by unfold hireErr; rw [if_neg (by simp [h1]), if_neg (by simp [h2]), if_pos (by simpa using h3)]) _
  walk_at "mv"
  have h4 : standB e = true := by simpa using h3
  obtain ⟨a2, i2, he, _, _, _⟩ := stand_of h4
  have ix : ∀ {d a : D} {i : Int}, (d = .tup [a, .int i] ∨ d = .kt [a, .int i]) → ixO (.f d) (.f (.int 1)) = some (.f (.int i)) := fun h => by rcases h with rfl | rfl <;> rfl
  have base : hireErr n o e c p r = if numB c 1 99 = false then some (("InvalidNumber" : Str), c) else if numB p 0 999 = false then some (("InvalidNumber" : Str), p) else if numB r 0 99 = false then some (("InvalidNumber" : Str), r) else none := by
    unfold hireErr
    rw [if_neg (by simp [h1]), if_neg (by simp [h2]), if_neg (by simp [h4])]
  refine nt_wf (fun h7 => ?_) (fun h7 h8 => ?_) (fun h7 h8 => ?_)
  · walk_at "mv"
    exact hx _ _ (by rw [base, if_pos h7]) _
  · walk_at "mv"
    exact hx _ _ (by rw [base, if_neg (by simp [h7]), if_pos h8]) _
  walk_at "mv"
  refine nr_wf (fun h9 => ?_) (fun h9 => ?_)
  · walk_at "mv"
    exact hx _ _ (by rw [base, if_neg (by simp [h7]), if_neg (by simp [h8]), if_pos h9]) _
  walk_at "mv"
  refine f_noX (wf_of (ask_run "Hire" (.inr rfl) n o c p r) ?_)
  walk_at "mv"
  refine x_some (ix he) ?_
  walk_at "mv"
  exact hq (by rw [base, if_neg (by simp [h7]), if_neg (by simp [h8]), if_neg (by simp [h9])]) _ _
end MPkg

namespace MLawA
open PySem PySem.Spec PyProof.Rows L2 SW MR MPkg
/-! ### drawing -/
def BagIs (o : List O) : Prop := ∃ (cs : List D) (p r s : Int), o = [.f (.lst cs), .f (.int p), .f (.int r), .f (.int s)] ∧ (∀ d ∈ cs, ∃ i, d = .int i) ∧ 0 ≤ p ∧ 0 ≤ s ∧ s < 2 ^ 40
theorem bag_run {ns : List Int} {Q : O → List O → Prop} {X : Xc → List O → Prop} (h : ∀ b, BagIs b → ∀ os, Q (.L b) os) (hl : ns.length ≤ 63) : WF (m__law_bag [.f (.kl (ns.map D.int))]) Q X := by
  walk_at "m0"
  unfold b__law_bag
  walk_at "mv"
  rw [fzA_f']
  refine e_fzvL rfl ?_
  rw [fzA_f']
  walk_at "mv"
  have hc : (MR.cutD (ns.map D.int) none (some 63)).length ≤ 63 := by
    unfold MR.cutD
    rw [List.length_take, List.length_drop, List.length_map]
    omega
  refine h _ ⟨_, _, _, _, rfl, fun d hd => ?_, by omega, by omega, by omega⟩ _
  have h1 := List.mem_of_mem_drop (List.mem_of_mem_take hd)
  obtain ⟨i, _, rfl⟩ := List.mem_map.mp h1
  exact ⟨i, rfl⟩
def takeTail : MS := (mSeq (mIfS (mTest (mOp2R gGt (mIx (mPk 0) (mC (.int 2))) (mC (.int 0)))) (mSeq (mAsg (mOp2R gMod (mOp1R gInt (mIx (mPk 0) (mC (.int 2)))) (mPk 1)) (gmName 3)) (mSeq (mSetL 0 (mC (.int 2)) (mOp2R gFdiv (mIx (mPk 0) (mC (.int 2))) (mPk 1))) (mRet (mVar 3)))) mNext) (mSeq (mSetL 0 (mC (.int 3)) (mOp2R gMod (mOp1R gInt (mOp2 gAdd (mOp2 gAdd (mOp2R gMul (mIx (mPk 0) (mC (.int 3))) (mIx (mPk 0) (mC (.int 3)))) (mOp2R gMul (mIx (mPk 0) (mC (.int 3))) (mC (.int 40692)))) (mC (.int 1231)))) (mC (.int 2147483629)))) (mRet (mOp2R gMod (mOp1R gInt (mOp2 gAdd (mOp2R gFdiv (mIx (mPk 0) (mC (.int 3))) (mC (.int 97))) (mOp2R gMul (mOp2R gMod (mOp1R gInt (mIx (mPk 0) (mC (.int 3)))) (mC (.int 7919))) (mC (.int 89))))) (mPk 1)))))
theorem take_tail {cs : List D} {p r s n : Int} {u : Option O} {b0 : List O} {Q : O → List O → Prop} {X : Xc → List O → Prop} (hcs : ∀ d ∈ cs, ∃ i, d = .int i) (hp : 0 ≤ p) (hs : 0 ≤ s) (hs2 : s < 2 ^ 40) (hn : 0 < n) (hn2 : n < 1073741824) (h : ∀ i b', 0 ≤ i → i < n → BagIs b' → Q (.f (.int i)) [.L b', .f (.int n)]) :
    WS (takeTail [some (.L [.f (.lst cs), .f (.int p), .f (.int r), .f (.int s)]), some (.f (.int n)), u, none]) (kDef [0] [.L b0, .f (.int n)] Q X) := by
  unfold takeTail
  walk_at "mv"
  refine w_cond (fun h1 => ?_) (fun h1 => ?_)
  · walk_at "mv"
    exact h _ _ (Int.emod_nonneg _ (by omega)) (Int.emod_lt_of_pos _ hn) ⟨cs, p, _, s, rfl, hcs, hp, hs, hs2⟩
  · walk_at "mv"
    refine h _ _ (Int.emod_nonneg _ (by omega)) (Int.emod_lt_of_pos _ hn) ⟨cs, p, _, _, rfl, hcs, hp, Int.emod_nonneg _ (by decide), ?_⟩
    exact Int.lt_trans (Int.emod_lt_of_pos _ (by decide)) (by decide)
theorem take_run {b : List O} {n : Int} {Q : O → List O → Prop} {X : Xc → List O → Prop} (hb : BagIs b) (hn : 0 < n) (hn2 : n < 1073741824) (h : ∀ i b', 0 ≤ i → i < n → BagIs b' → Q (.f (.int i)) [.L b', .f (.int n)]) : WF (m__law_take [.L b, .f (.int n)]) Q X := by
  obtain ⟨cs, p, r, s, rfl, hcs, hp, hs, hs2⟩ := hb
  walk_at "m0"
  show WS (mSeq (mIfS _ _ _) takeTail _) _
  walk_at "mv"
  rw [eqi]
  refine e_cond (fun h1 => ?_) (fun h1 => ?_)
  · walk_at "mv"
    refine w_cond (fun h2 => ?_) (fun h2 => ?_)
    · have h2 : p < cs.length := of_decide_eq_true h2
      obtain ⟨d, hd, e⟩ := atI_in hp h2
      obtain ⟨i, rfl⟩ := hcs d hd
      walk_at "mv"
      refine x_some (d := .f (.int i)) (by show (atI cs p).map O.f = _; rw [e]; rfl) ?_
      walk_at "mv"
      have hq : 0 ≤ (s * 48271 + i % 1000003 * 6151 + 7919) % 2147483629 ∧ (s * 48271 + i % 1000003 * 6151 + 7919) % 2147483629 < 2 ^ 40 := ⟨Int.emod_nonneg _ (by decide), Int.lt_trans (Int.emod_lt_of_pos _ (by decide)) (by decide)⟩
      refine w_cond (fun h3 => ?_) (fun h3 => ?_)
      · walk_at "mv"
        exact take_tail hcs (by omega) hq.1 hq.2 hn hn2 h
      · walk_at "mv"
        exact take_tail hcs (by omega) hq.1 hq.2 hn hn2 h
    · walk_at "mv"
      exact take_tail hcs hp hs hs2 hn hn2 h
  · walk_at "mv"
    exact take_tail hcs hp hs hs2 hn hn2 h
/-- one of a list -/
theorem of_run {b : List O} {ds : List D} {Q : O → List O → Prop} {X : Xc → List O → Prop} (hb : BagIs b) (h0 : ds ≠ []) (hl : ds.length < 1000) (h : ∀ d ∈ ds, ∀ b', BagIs b' → Q (.f d) [.L b', .f (.lst ds)]) : WF (m__law_of [.L b, .f (.lst ds)]) Q X := by
  have hp := List.length_pos_iff.mpr h0
  walk_at "m0"
  unfold b__law_of
  walk_at "mv"
  refine f_noX (take_run hb (by omega) (by omega) fun i b' hi hi2 hb' => ?_)
  obtain ⟨d, hd, e⟩ := atI_in hi hi2
  walk_at "mv"
  refine x_some (d := d) e ?_
  walk_at "mv"
  exact h d hd b' hb'
/-- one sign of a text -/
theorem of_sign {b : List O} {x : Str} {Q : O → List O → Prop} {X : Xc → List O → Prop} (hb : BagIs b) (h0 : 0 < x.length) (hl : x.length < 1000) (h : ∀ c ∈ x.cps.toList, ∀ b', BagIs b' → Q (.f (chD c)) [.L b', .f (.str x)]) : WF (m__law_of [.L b, .f (.str x)]) Q X := by
  have hx : x.cps.toList.length = x.length := by simp [Str.length]
  walk_at "m0"
  unfold b__law_of
  walk_at "mv"
  refine f_noX (take_run hb (by omega) (by omega) fun i b' hi hi2 hb' => ?_)
  obtain ⟨c, hd, e⟩ := atI_in (xs := x.cps.toList) hi (by rw [hx]; exact hi2)
  walk_at "mv"
  refine x_some (d := chD c) (by show (atI x.cps.toList i).map chD = _; rw [e]; rfl) ?_
  walk_at "mv"
  exact h c hd b' hb'
def abc : Str := "abcdefghijklmnopqrstuvwxyz"
/-- some small signs -/
def Signs (ds : List O) : Prop := ∀ o ∈ ds, ∃ c ∈ small, o = .f (chD c)
theorem set3 {ρ : MR.Env} {j : Nat} {a c : Option O} {x : Option O} (hj : j ≠ 0) (hn : ρ[j]? = some none) : ((((ρ.set 0 a).set j x).set 0 none).set 0 c).set j none = ρ.set 0 c := by
  refine List.ext_getElem? fun k => ?_
  by_cases hk : k = j
  · subst hk
    obtain ⟨hlt, hv⟩ := List.getElem?_eq_some_iff.mp hn
    have h0 : ¬ (0 = k) := fun e => hj e.symm
    simp [List.getElem?_set, h0, hlt, hv]
  · have hk' : ¬ (j = k) := fun e => hk e.symm
    by_cases h0 : k = 0
    · subst h0
      simp [List.getElem?_set, hk']
    · have h0' : ¬ (0 = k) := fun e => h0 e.symm
      simp [List.getElem?_set, hk', h0']
/-- the list of n drawn signs; j is the counter's slot -/
theorem signs_run {i j : Nat} {ds : List D} {Q : O → MR.Env → Prop} {X : Xc → MR.Env → Prop} {b : List O} {ρ : MR.Env} (hb : BagIs b) (hi : i ≠ 0) (hj : j ≠ 0) (hij : i ≠ j) (h0 : ρ[0]? = some (some (.L b))) (h1 : ρ[i]? = some (some (.f (.str abc)))) (hn : ρ[j]? = some none) (hl : ds.length ≤ 100)
    (h : ∀ xs b', xs.length = ds.length → Signs xs → BagIs b' → Q (.L xs) (ρ.set 0 (some (.L b')))) : WE (loopL (gmName j) mYes (mCall (noX m__law_of) (mConS 0 (mCons (mVar i) mNil))) [j] ds [] ρ) Q X := by
  have l0 : 0 < ρ.length := (List.getElem?_eq_some_iff.mp h0).1
  refine lc_inv (fun es acc ρ' => acc.length + es.length = ds.length ∧ Signs acc ∧ ∃ b', BagIs b' ∧ ρ' = ρ.set 0 (some (.L b'))) ?_ ?_ ds [] ρ ?_
  · rintro d es acc ρ' ⟨e1, sg, b', hb', rfl⟩
    refine ⟨by simp at e1; omega, _, rfl, ?_⟩
    refine e_yes (show WE _ _ _ from ?_)
    have g0 : ((ρ.set 0 (some (O.L b'))).set j (some (O.f d)))[0]? = some (some (O.L b')) := by
      simp [List.getElem?_set, hj, l0]
    have gi : ((ρ.set 0 (some (O.L b'))).set j (some (O.f d)))[i]? = some (some (.f (.str abc))) := by
      have a1 : ¬ (j = i) := fun e => hij e.symm
      have a2 : ¬ (0 = i) := fun e => hi e.symm
      simp [List.getElem?_set, a1, a2, h1]
    refine e_call (e_conS g0 (e_cons (e_var gi (e_nil ?_))))
    refine ⟨[.L b', .f (.str abc)], ((ρ.set 0 (some (O.L b'))).set j (some (O.f d))).set 0 none, ?_, ?_⟩
    · show (match ((ρ.set 0 (some (O.L b'))).set j (some (O.f d)))[0]? with
        | some (some o) => (takeA _ _).bind fun q => some (o :: q.1, q.2)
        | _ => none) = _
      rw [g0]
      rfl
    · refine f_noX (of_sign hb' (by decide) (by decide) fun c hc b2 hb2 => ?_)
      refine ⟨by simp at e1 ⊢; omega, fun o ho => ?_, b2, hb2, set3 hj hn⟩
      rcases List.mem_append.mp ho with ho | ho
      · exact sg o ho
      · rw [List.mem_singleton.mp ho]
        exact ⟨c, hc, rfl⟩
  · rintro acc ρ' ⟨e1, sg, b', hb', rfl⟩
    exact h acc b' (by simpa using e1) sg hb'
  · refine ⟨by simp, fun _ h => by simp at h, b, hb, ?_⟩
    refine List.ext_getElem? fun k => ?_
    by_cases hk : k = 0
    · subst hk; simp [l0, (List.getElem?_eq_some_iff.mp h0).2]
    · have hk' : ¬ (0 = k) := fun e => hk e.symm
      simp [List.getElem?_set, hk']
/-- a text of small signs -/
def SmallT (x : Str) (n : Nat) : Prop := x.length = n ∧ ∀ c ∈ x.cps.toList, c ∈ small
theorem strs_signs : ∀ {xs : List O}, Signs xs → ∃ ys : List Str, strsD (O.fzA xs) = some ys ∧ ys.length = xs.length ∧ ∀ y ∈ ys, SmallT y 1
  | [], _ => ⟨[], rfl, rfl, fun _ h => by simp at h⟩
  | o :: xs, h => by
    obtain ⟨c, hc, rfl⟩ := h o (List.mem_cons_self)
    obtain ⟨ys, e, l, q⟩ := strs_signs (xs := xs) fun o ho => h o (List.mem_cons_of_mem _ ho)
    refine ⟨⟨#[c]⟩ :: ys, ?_, by simp [l], ?_⟩
    · show (strsD (O.fzA xs)).map _ = _
      rw [e]; rfl
    · intro y hy
      rcases List.mem_cons.mp hy with rfl | hy
      · exact ⟨rfl, fun d hd => by simp at hd; subst hd; exact hc⟩
      · exact q y hy
theorem tj (ys : List Str) : Txt.join "" ys = Str.join "" ys := StrLaws.glued_eq_join _ _
theorem app_l (a b : Str) : (a ++ b).cps.toList = a.cps.toList ++ b.cps.toList := by show (a.cps ++ b.cps).toList = _; simp
theorem len_l (a : Str) : a.length = a.cps.toList.length := by simp [Str.length]
theorem join_small' : ∀ {ys : List Str}, (∀ y ∈ ys, SmallT y 1) → SmallT (Str.join "" ys) ys.length
  | [], _ => ⟨rfl, fun c h => by simp [Str.join, Str.empty] at h⟩
  | [y], h => by have := h y (by simp); exact this
  | y :: z :: r, h => by
    obtain ⟨h1, h2⟩ := h y (by simp)
    obtain ⟨h3, h4⟩ := join_small' (ys := z :: r) fun y hy => h y (List.mem_cons_of_mem _ hy)
    have e : Str.join "" (y :: z :: r) = y ++ ("" : Str) ++ Str.join "" (z :: r) := rfl
    have e2 : (Str.join "" (y :: z :: r)).cps.toList = y.cps.toList ++ (Str.join "" (z :: r)).cps.toList := by
      rw [e, app_l, app_l]
      show (y.cps.toList ++ []) ++ _ = _
      rw [List.append_nil]
    refine ⟨?_, fun c hc => ?_⟩
    · rw [len_l, e2, List.length_append, ← len_l, ← len_l, h1, h3]; simp; omega
    · rw [e2] at hc
      rcases List.mem_append.mp hc with hc | hc
      · exact h2 c hc
      · exact h4 c hc
theorem join_small {ys : List Str} (h : ∀ y ∈ ys, SmallT y 1) : SmallT (Txt.join "" ys) ys.length := by rw [tj]; exact join_small' h
theorem small_lt : ∀ c ∈ small, c < 1114112 := by decide +kernel
theorem ones_sum : ∀ {ys : List Str}, (∀ y ∈ ys, SmallT y 1) → (ys.map (·.length)).sum = ys.length
  | [], _ => rfl
  | y :: ys, h => by
    rw [List.map_cons, List.sum_cons, (h y (by simp)).1, ones_sum fun z hz => h z (List.mem_cons_of_mem _ hz), List.length_cons]
    omega
/-- what the signs are joined to -/
theorem join_run {xs : List O} (h : Signs xs) (hl : xs.length ≤ 100) : ∃ x, joinD "" (O.fz (.L xs)) = some (.f (.str x)) ∧ SmallT x xs.length := by
  obtain ⟨ys, e1, e2, e3⟩ := strs_signs h
  have hj := join_small e3
  refine ⟨Txt.join "" ys, ?_, by rw [← e2]; exact hj⟩
  show (strsD (O.fzA xs)).bind _ = _
  rw [e1, Option.bind_some, ones_sum e3]
  rw [decide_eq_true (show ys.length + ys.length * ("" : Str).length ≤ 100000 by show ys.length + ys.length * 0 ≤ 100000; omega), cond_true]
  unfold mkS sokS
  rw [decide_eq_true (show (Txt.join "" ys).length ≤ 100000 by rw [hj.1]; omega), Bool.true_and, List.all_eq_true.mpr fun c hc => decide_eq_true (small_lt c (hj.2 c hc)), cond_true]
theorem rng_len {n : Nat} : (rngD 0 n).length = n := by simp [rngD]
def namesBody : MS := (mSeq (mAsg (mJoin (mC (.str "")) (mLc (mRng1 (mCons (mCall (noX m__law_take) (mConS 0 (mCons (mOp2R gSub' (mPk 2) (mOp1R gLen (mPk 4))) mNil))) mNil)) (gmName 10) mYes (mCall (noX m__law_of) (mConS 0 (mCons (mVar 3) mNil))) [10])) (gmName 9)) (mDrop (mApp 8 (mOp2 gAdd (mOp2 gAdd (mVar 4) (mVal (mIxF (mVar 3) (mOp2R gMod (mOp1R gInt (mOp2 gAdd (mFzv 6) (mOp2R gMul (mPk 7) (mPk 5)))) (mC (.int 26)))))) (mVar 9)))))
theorem addS_ok {x y : Str} (h : x.length + y.length ≤ 100000) : gAdd (.str x) (.str y) = some (.f (.str (x ++ y))) := if_pos h
def nO (x : Str) : O := .f (.str x)
theorem names_loop {n : Int} {N : Nat} {stem : Str} {m : Nat} {g st : Int} {k : RS → Prop} (hst : SmallT stem m) (hm : m ≤ 5) (hs0 : 0 ≤ st) (hs1 : st ≤ 25) (hN : N ≤ 1000)
    (h : ∀ (b' : List O) (xs : List Str) u5 u9, xs.length = N → (∀ x ∈ xs, nameB (.str x) = true) → BagIs b' → k (.nx [some (.L b'), some (.f (.int n)), some (.f (.int 6)), some (.f (.str abc)), some (.f (.str stem)), u5, some (.f (.int g)), some (.f (.int st)), some (.L (xs.map nO)), u9, none])) :
    ∀ (ds : List D) (ρ : MR.Env), ((∀ d ∈ ds, ∃ i, d = .int i ∧ 0 ≤ i ∧ i < 1000) ∧ ∃ (b' : List O) (xs : List Str) (u5 u9 : Option O), xs.length + ds.length = N ∧ (∀ x ∈ xs, nameB (.str x) = true) ∧ BagIs b' ∧ ρ = [some (.L b'), some (.f (.int n)), some (.f (.int 6)), some (.f (.str abc)), some (.f (.str stem)), u5, some (.f (.int g)), some (.f (.int st)), some (.L (xs.map nO)), u9, none]) → WS (loopF (gmName 5) namesBody ds ρ) k := by
  refine loop_inv2 _ ?_ ?_
  · rintro d ds ρ ⟨hd, b, xs, u5, u9, e1, hx, hb, rfl⟩
    obtain ⟨i, rfl, hi, hi2⟩ := hd d (by simp)
    refine ⟨_, rfl, ?_⟩
    unfold namesBody
    walk_at "mv"
    have hst1 := hst.1
    refine f_noX (take_run hb (by omega) (by omega) fun j b1 hj hj2 hb1 => ?_)
    walk_at "mv"
    refine signs_run hb1 (by decide) (by decide) (by decide) rfl rfl rfl (by rw [rng_len]; omega) fun ys b2 hys sg hb2 => ?_
    rw [rng_len] at hys
    obtain ⟨tail, e2, ht1, ht2⟩ := join_run sg (by omega)
    refine x_some e2 ?_
    walk_at "mv"
    have hg := Int.emod_nonneg (g + st * i) (show (26 : Int) ≠ 0 by decide)
    have hg2 := Int.emod_lt_of_pos (g + st * i) (show (0 : Int) < 26 by decide)
    obtain ⟨c, hc, e3⟩ := atI_in (xs := abc.cps.toList) hg hg2
    refine x_some (d := chD c) (by show (atI abc.cps.toList _).map chD = _; rw [e3]; rfl) ?_
    walk_at "mv"
    have hc1 : (⟨#[c]⟩ : Str).length = 1 := rfl
    refine x_some (d := .f (.str (stem ++ ⟨#[c]⟩))) (addS_ok (by rw [hst1, hc1]; omega)) ?_
    walk_at "mv"
    have hl1 : (stem ++ (⟨#[c]⟩ : Str)).length = m + 1 := by rw [len_l, app_l, List.length_append, ← len_l, ← len_l, hst1, hc1]
    refine x_some (d := .f (.str (stem ++ ⟨#[c]⟩ ++ tail))) (addS_ok (by rw [hl1, ht1]; omega)) ?_
    walk_at "mv"
    have hl2 : (stem ++ (⟨#[c]⟩ : Str) ++ tail).length = m + 1 + tail.length := by rw [len_l, app_l, List.length_append, ← len_l, ← len_l, hl1]
    rw [List.length_cons] at e1
    refine ⟨by rw [List.length_map]; omega, ?_⟩
    refine ki_nx ⟨fun d hd' => hd d (List.mem_cons_of_mem _ hd'), b2, xs ++ [stem ++ ⟨#[c]⟩ ++ tail], some (.f (.int i)), some (.f (.str tail)), by rw [List.length_append, List.length_singleton]; omega, fun x hx' => ?_, hb2, ?_⟩
    · rcases List.mem_append.mp hx' with hx' | hx'
      · exact hx x hx'
      · rw [List.mem_singleton.mp hx']
        show (decide _ && List.all _ _) = true
        rw [hl2, decide_eq_true (show 1 ≤ m + 1 + tail.length ∧ m + 1 + tail.length ≤ 6 by omega), Bool.true_and]
        refine List.all_eq_true.mpr fun q hq => decide_eq_true ?_
        rw [app_l, app_l] at hq
        rcases List.mem_append.mp hq with hq | hq
        · rcases List.mem_append.mp hq with hq | hq
          · exact hst.2 q hq
          · have : q = c := by simpa using hq
            rw [this]; exact hc
        · exact ht2 q hq
    · rw [List.map_append]
      rfl
  · rintro ρ ⟨_, b, xs, u5, u9, e1, hx, hb, rfl⟩
    exact h b xs u5 u9 (by simpa using e1) hx hb
/-- names: some short ones -/
theorem names_run {b : List O} {n : Nat} {Q : O → List O → Prop} {X : Xc → List O → Prop} (hb : BagIs b) (hn : n ≤ 1000) (h : ∀ (xs : List Str) (b' : List O), xs.length = n → (∀ x ∈ xs, nameB (.str x) = true) → BagIs b' → Q (.L (xs.map nO)) [.L b', .f (.int n), .f (.int 6)]) : WF (m__law_names [.L b, .f (.int n), .f (.int 6)]) Q X := by
  walk_at "m0"
  unfold b__law_names
  walk_at "mv"
  refine f_noX (take_run hb (by decide) (by decide) fun i b1 hi hi2 hb1 => ?_)
  walk_at "mv"
  refine signs_run hb1 (by decide) (by decide) (by decide) rfl rfl rfl (by rw [rng_len]; omega) fun xs b2 hxs sg hb2 => ?_
  rw [rng_len] at hxs
  obtain ⟨stem, e1, hs1, hs2⟩ := join_run sg (by omega)
  walk_at "mv"
  refine x_some e1 ?_
  walk_at "mv"
  refine f_noX (take_run hb2 (by decide) (by decide) fun g b3 hg hg2 hb3 => ?_)
  walk_at "mv"
  refine f_noX (of_run hb3 (by simp [O.fzA]) (by decide) fun d hd b4 hb4 => ?_)
  have hd : ∃ st, d = .int st ∧ 0 ≤ st ∧ st ≤ 25 := by
    simp [O.fzA, O.fz] at hd
    rcases hd with rfl | rfl | rfl | rfl | rfl | rfl <;> exact ⟨_, rfl, by decide, by decide⟩
  obtain ⟨st, rfl, hst0, hst1⟩ := hd
  iterate 5 walk_at "m1"
  with_reducible refine MR.x_three ?_
  with_reducible refine MR.k_nx ?_
  simp only [putA, wipeE, List.set]
  with_reducible refine w_seq ?_
  with_reducible refine w_for ?_
  with_reducible refine e_rng1 ?_
  with_reducible refine e_cons ?_
  (with_reducible apply MR.e_var); (focus exact rfl)
  with_reducible refine e_nil ?_
  refine x_rng (j := (n : Int)) (by omega) ?_
  refine names_loop (N := n) ⟨hs1, hs2⟩ (by omega) hst0 hst1 hn ?_ _ _ ⟨?_, b4, [], none, none, ?_, by simp, hb4, rfl⟩
  · intro b5 xs u5 u9 hxs hns hb5
    refine k_nx (w_ret (e_movL rfl ?_))
    exact ⟨_, rfl, h xs b5 hxs hns hb5⟩
  · intro d hd
    obtain ⟨k, hk, rfl⟩ := List.mem_map.mp hd
    have := List.mem_range.mp hk
    exact ⟨_, rfl, by omega, by omega⟩
  · rw [rng_len]; simp
/-! ### alike -/
/-- what is plainly like itself -/
inductive Plain : D → Prop
  | non : Plain .non
  | bl (b) : Plain (.bl b)
  | int (i) : Plain (.int i)
  | str (x) : Plain (.str x)
  | lst {ds} : ds.length < 1000 → (∀ d ∈ ds, Plain d) → Plain (.lst ds)
  | tup {ds} : ds.length < 1000 → (∀ d ∈ ds, Plain d) → Plain (.tup ds)
end MLawA

namespace MLawA
open PySem PySem.Spec PyProof.Rows L2 SW MR MPkg
/-! ### alike -/
/-- plain data of some depth -/
inductive Dep : Nat → D → Prop
  | non (k) : Dep (k + 1) .non
  | bl (k b) : Dep (k + 1) (.bl b)
  | int (k i) : Dep (k + 1) (.int i)
  | str (k x) : Dep (k + 1) (.str x)
  | lst {k ds} : ds.length < 1000 → (∀ d ∈ ds, Dep k d) → Dep (k + 1) (.lst ds)
  | tup {k ds} : ds.length < 1000 → (∀ d ∈ ds, Dep k d) → Dep (k + 1) (.tup ds)
theorem Dep.up {k : Nat} {d : D} (h : Dep k d) : Dep (k + 1) d := by
  induction h with
  | non k => exact .non _
  | bl k b => exact .bl _ _
  | int k i => exact .int _ _
  | str k x => exact .str _ _
  | lst h1 _ ih => exact .lst h1 ih
  | tup h1 _ ih => exact .tup h1 ih
theorem Dep.le {k n : Nat} {d : D} (h : Dep k d) (hn : k ≤ n) : Dep n d := by
  induction hn with
  | refl => exact h
  | step _ ih => exact ih.up
def sameTest (rec : MF) : MT := (mNot (mTru truD (mCallP (noX rec) (mCons (mVal (mIx (mPk 0) (mPk 2))) (mCons (mVal (mIx (mPk 1) (mPk 2))) mNil)))))
theorem same_loop {rec : MF} {s : D} {ds : List D} {Q : O → MR.Env → Prop} {X : Xc → MR.Env → Prop} (hs : s = .lst ds ∨ s = .tup ds) (hr : ∀ d ∈ ds, rec [.f d, .f d] = .ok (.f (.bl true)) [.f d, .f d])
    (h : Q (.L []) [some (.f s), some (.f s), none]) : ∀ (es : List D) (acc : List O) (ρ : MR.Env), (acc = [] ∧ ρ = [some (.f s), some (.f s), none] ∧ ∀ e ∈ es, ∃ i : Int, e = .int i ∧ 0 ≤ i ∧ i < ds.length) → WE (loopL (gmName 2) (sameTest rec) (mVar 2) [2] es acc ρ) Q X := by
  refine lc_inv _ ?_ ?_
  · rintro d es acc ρ ⟨rfl, rfl, he⟩
    obtain ⟨i, rfl, hi, hi2⟩ := he d (by simp)
    obtain ⟨x, hx, e⟩ := atI_in hi hi2
    refine ⟨by simp, _, rfl, ?_⟩
    have e0 : ixO (.f s) (.f (.int i)) = some (.f x) := by
      rcases hs with rfl | rfl <;> (show (atI ds i).map O.f = _; rw [e]; rfl)
    unfold sameTest
    walk_at "mv"
    refine x_some e0 ?_
    walk_at "mv"
    refine x_some e0 ?_
    walk_at "mv"
    refine f_noX (wf_of (hr x hx) ?_)
    walk_at "mv"
    exact ⟨rfl, rfl, fun e h => he e (List.mem_cons_of_mem _ h)⟩
  · rintro acc ρ ⟨rfl, rfl, _⟩
    exact h
theorem rng_in {n : Nat} : ∀ e ∈ rngD 0 n, ∃ i : Int, e = .int i ∧ 0 ≤ i ∧ i < n := fun d hd => by
  obtain ⟨k, hk, rfl⟩ := List.mem_map.mp hd
  have := List.mem_range.mp hk
  exact ⟨_, rfl, by omega, by omega⟩
theorem same_refl : ∀ (k : Nat) (d : D), Dep k d → m__law_same k [.f d, .f d] = .ok (.f (.bl true)) [.f d, .f d]
  | 0, d, h => by cases h
  | k + 1, d, h => by
    have seq : ∀ ds : List D, ds.length < 1000 → (∀ d ∈ ds, Dep k d) → ∀ d, (d = .lst ds ∨ d = .tup ds) → m__law_same (k + 1) [.f d, .f d] = .ok (.f (.bl true)) [.f d, .f d] := fun ds hl hds d hd => by
      refine of_wf ?_
      unfold m__law_same
      walk_at "m0"
      unfold b__law_same
      rcases hd with rfl | rfl <;>
      · walk_at "mv"
        rw [eqi, decide_eq_true rfl]
        with_reducible refine MR.e_condT ?_
        with_reducible refine MR.e_op2R ?_
        with_reducible refine MR.e_lc ?_
        with_reducible refine MR.e_rng1 ?_
        with_reducible refine MR.e_cons ?_
        with_reducible refine MR.e_op1R ?_
        (with_reducible apply MR.e_pk); (focus exact rfl)
        (with_reducible apply MR.x_sc); (focus exact rfl); (focus exact rfl)
        with_reducible refine MR.e_nil ?_
        (with_reducible apply MR.x_rngF); (focus omega)
        refine same_loop (ds := ds) (by first | exact .inl rfl | exact .inr rfl) (fun d hd => same_refl k d (hds d hd)) ?_ _ _ _ ⟨rfl, rfl, fun e he => rng_in e he⟩
        walk_at "mv"
        exact ⟨rfl, rfl⟩
    cases h with
    | non => rfl
    | bl _ b => cases b <;> rfl
    | int _ i =>
      refine of_wf ?_
      unfold m__law_same
      walk_at "m0"
      unfold b__law_same
      walk_at "mv"
      exact ⟨by rw [eqi, decide_eq_true rfl], rfl⟩
    | str _ x =>
      refine of_wf ?_
      unfold m__law_same
      walk_at "m0"
      unfold b__law_same
      walk_at "mv"
      exact ⟨by show O.f (.bl (x == x)) = _; rw [beq_self_eq_true], rfl⟩
    | lst h1 h2 => exact seq _ h1 h2 _ (.inl rfl)
    | tup h1 h2 => exact seq _ h1 h2 _ (.inr rfl)
end MLawA

namespace K07
open PySem PySem.Spec PyProof.Rows L2 SW MR MPkg MLawA
def b__law_is_count : MS := (mRet (mAndV (mOp1R (gIsi [(.ty "int")]) (mPk 0)) (mAndV (mNotV (mOp1R (gIsi [(.ty "bool")]) (mPk 0))) (mAndV (mOp2R gLe (mPk 1) (mPk 0)) (mOp2R gLe (mPk 0) (mPk 2))))))
def m__law_is_count : MF := mDef [] 3 b__law_is_count
def b__law_is_call : MS := (mSeq (mIfS (mOr (mNot (mTru truD (mOp1R (gIsi [(.ty "str")]) (mPk 0)))) (mNot (mTru truD (mCallP (noX m__law_is_count) (mCons (mOp1R gLen (mPk 0)) (mCons (mC (.int 1)) (mCons (mC (.int 6)) mNil))))))) (mRet (mC (.bl false))) mNext) (mRet (mOp2R gEq (mLc (mIter (mVar 0)) (gmName 1) (mTest (mOp2R gNi (mPk 1) (mC (.str "abcdefghijklmnopqrstuvwxyz")))) (mVar 1) [1]) (mLstW wNil))))
def m__law_is_call : MF := mDef [] 2 b__law_is_call
def b__law_is_spot : MS := (mRet (mAndV (mOp1R (gIsi [(.ty "tuple")]) (mPk 0)) (mAndV (mOp2R gEq (mOp1R gLen (mPk 0)) (mC (.int 2))) (mAndV (mCallP (noX m__law_is_call) (mCons (mVal (mIx (mPk 0) (mC (.int 0)))) mNil)) (mCallP (noX m__law_is_count) (mCons (mVal (mIx (mPk 0) (mC (.int 1)))) (mCons (mC (.int 0)) (mCons (mC (.int 8)) mNil))))))))
def m__law_is_spot : MF := mDef [] 1 b__law_is_spot
def b__law_due : MS := (mSeq (mAsg (mVar 0) (gmTup 8 (gmCons (gmName 1) (gmCons (gmName 2) (gmCons (gmName 3) (gmCons (gmName 4) (gmCons (gmName 5) (gmCons (gmName 6) (gmCons (gmName 7) (gmCons (gmName 8) gmNil)))))))))) (mSeq (mFor (mIter (mTup (mCons (mVar 2) (mCons (mVar 3) mNil)))) (gmName 9) (mIfS (mNot (mTru truD (mCallP (noX m__law_is_call) (mCons (mVar 9) mNil)))) (mRet (mTup (mCons (mC (.str "InvalidName")) (mCons (mVar 9) mNil)))) mNext)) (mSeq (mIfS (mAnd (mTest (mOp2R gEq (mPk 1) (mC (.str "work")))) (mNot (mTru truD (mCallP (noX m__law_is_spot) (mCons (mVar 5) mNil))))) (mRet (mTup (mCons (mC (.str "InvalidStanding")) (mCons (mVar 5) mNil)))) mNext) (mSeq (mIfS (mOr (mNot (mTru truD (mCallP (noX m__law_is_spot) (mCons (mVar 6) mNil)))) (mAnd (mTest (mOp2R gEq (mPk 1) (mC (.str "work")))) (mTest (mOp2R gLe (mIx (mPk 6) (mC (.int 1))) (mIx (mPk 5) (mC (.int 1))))))) (mRet (mTup (mCons (mC (.str "InvalidStanding")) (mCons (mVar 6) mNil)))) mNext) (mSeq (mFor (mIter (mTup (mCons (mTup (mCons (mVar 7) (mCons (mC (.int 1)) (mCons (mC (.int 99)) mNil)))) (mCons (mTup (mCons (mVar 8) (mCons (mC (.int 0)) (mCons (mC (.int 999)) mNil)))) (mCons (mTup (mCons (mVar 4) (mCons (mC (.int 0)) (mCons (mC (.int 99)) mNil)))) mNil))))) (gmTup 3 (gmCons (gmName 9) (gmCons (gmName 10) (gmCons (gmName 11) gmNil)))) (mIfS (mNot (mTru truD (mCallP (noX m__law_is_count) (mCons (mVar 9) (mCons (mVar 10) (mCons (mVar 11) mNil)))))) (mRet (mTup (mCons (mC (.str "InvalidNumber")) (mCons (mVar 9) mNil)))) mNext)) (mRet (mTup mNil)))))))
def m__law_due : MF := mDef [] 12 b__law_due
def b__law_good : MS := (mSeq (mAsg (mCall (noX m__law_of) (mConS 0 (mCons (mLstW (wCons (mC (.int 0)) (wCons (mC (.int 7)) (wCons (mC (.int 3)) wNil)))) mNil))) (gmName 2)) (mSeq (mAsg (mCall (noX m__law_of) (mConS 0 (mCons (mLstW (wCons (mOp2 gAdd (mFzv 2) (mC (.int 1))) (wCons (mC (.int 8)) wNil))) mNil))) (gmName 3)) (mSeq (mPar 4 5 (wCons (mCall (noX m__law_of) (mConS 0 (mCons (mLstW (wCons (mC (.str "work")) (wCons (mC (.str "work")) (wCons (mC (.str "hire")) wNil)))) mNil))) (wCons (mCall (noX m__law_of) (mConS 0 (mCons (mLstW (wCons (mC (.int 0)) (wCons (mC (.int 99)) (wCons (mC (.int 5)) wNil)))) mNil))) wNil))) (mSeq (mPar 6 7 (wCons (mTup (mCons (mCall (noX m__law_of) (mConS 0 (mCons (mVar 1) mNil))) (mCons (mFzv 2) mNil))) (wCons (mTup (mCons (mCall (noX m__law_of) (mConS 0 (mCons (mVar 1) mNil))) (mCons (mIf (mTest (mOp2R gEq (mPk 4) (mC (.str "work")))) (mFzv 3) (mCall (noX m__law_of) (mConS 0 (mCons (mLstW (wCons (mC (.int 0)) (wCons (mC (.int 8)) (wCons (mC (.int 4)) wNil)))) mNil)))) mNil))) wNil))) (mSeq (mPar 8 9 (wCons (mCall (noX m__law_of) (mConS 0 (mCons (mLstW (wCons (mC (.int 1)) (wCons (mC (.int 99)) (wCons (mC (.int 3)) wNil)))) mNil))) (wCons (mCall (noX m__law_of) (mConS 0 (mCons (mLstW (wCons (mC (.int 0)) (wCons (mC (.int 999)) (wCons (mC (.int 6)) wNil)))) mNil))) wNil))) (mRet (mTup (mCons (mFzv 4) (mCons (mCall (noX m__law_of) (mConS 0 (mCons (mVar 1) mNil))) (mCons (mCall (noX m__law_of) (mConS 0 (mCons (mVar 1) mNil))) (mCons (mFzv 5) (mCons (mIf (mTest (mOp2R gEq (mPk 4) (mC (.str "work")))) (mVar 6) (mTup mNil)) (mCons (mVar 7) (mCons (mFzv 8) (mCons (mFzv 9) mNil)))))))))))))))
def m__law_good : MF := mDef [0] 10 b__law_good
def b__law_bad : MS := (mSeq (mIfS (mTest (mOp2R gIn (mPk 2) (mTup (mCons (mC (.int 1)) (mCons (mC (.int 2)) mNil))))) (mRet (mCall (noX m__law_of) (mConS 0 (mCons (mLstW (wCons (mC (.str "")) (wCons (mC (.str "A")) (wCons (mC (.str "abcdefg")) (wCons (mC (.str "a1")) (wCons (mC (.str "a b")) (wCons (mC .non) (wCons (mC (.bl true)) (wCons (mC (.int 3)) (wCons (mTup (mCons (mC (.str "a")) mNil)) (wCons (mLstW (wCons (mC (.str "a")) wNil)) (wCons (mC (.str "abcdef")) wNil)))))))))))) mNil)))) mNext) (mSeq (mIfS (mTest (mOp2R gIn (mPk 2) (mTup (mCons (mC (.int 4)) (mCons (mC (.int 5)) mNil))))) (mSeq (mAsg (mIf (mAnd (mTru truD (mOp1R (gIsi [(.ty "tuple")]) (mIx (mPk 1) (mC (.int 4))))) (mAnd (mTest (mOp2R gEq (mOp1R gLen (mIx (mPk 1) (mC (.int 4)))) (mC (.int 2)))) (mTru truD (mCallP (noX m__law_is_count) (mCons (mVal (mIx (mIx (mPk 1) (mC (.int 4))) (mC (.int 1)))) (mCons (mC (.int 0)) (mCons (mC (.int 8)) mNil))))))) (mVal (mIx (mIx (mPk 1) (mC (.int 4))) (mC (.int 1)))) (mC (.int 2))) (gmName 3)) (mSeq (mAsg (mLstW (wCons (mTup mNil) (wCons (mTup (mCons (mC (.str "a")) mNil)) (wCons (mTup (mCons (mC (.str "a")) (mCons (mC (.int 9)) mNil))) (wCons (mTup (mCons (mC (.str "a")) (mCons (mOp2R gSub' (mC (.int 0)) (mC (.int 1))) mNil))) (wCons (mTup (mCons (mC (.str "a")) (mCons (mC (.bl true)) mNil))) (wCons (mTup (mCons (mC (.str "A")) (mCons (mC (.int 1)) mNil))) (wCons (mLstW (wCons (mC (.str "a")) (wCons (mC (.int 1)) wNil))) (wCons (mC (.str "a 1")) (wCons (mC .non) (wCons (mTup (mCons (mC (.str "a")) (mCons (mC (.str "1")) mNil))) (wCons (mTup (mCons (mC (.str "a")) (mCons (mC (.int 1)) (mCons (mC (.int 1)) mNil)))) wNil)))))))))))) (gmName 4)) (mRet (mCall (noX m__law_of) (mConS 0 (mCons (mOp2 gAdd (mFzv 4) (mLstW (wCons (mTup (mCons (mC (.str "a")) (mCons (mVar 3) mNil))) (wCons (mTup (mCons (mC (.str "b")) (mCons (mVar 3) mNil))) (wCons (mTup (mCons (mC (.str "b")) (mCons (mIf (mTest (mOp2R gGt (mPk 3) (mC (.int 0)))) (mOp2R gSub' (mPk 3) (mC (.int 1))) (mC (.int 0))) mNil))) (wCons (mTup (mCons (mC (.str "abcdef")) (mCons (mC (.int 8)) mNil))) wNil)))))) mNil)))))) mNext) (mRet (mCall (noX m__law_of) (mConS 0 (mCons (mLstW (wCons (mOp2R gSub' (mC (.int 0)) (mC (.int 1))) (wCons (mC (.int 0)) (wCons (mC (.int 100)) (wCons (mC (.int 1000)) (wCons (mC (.int 99)) (wCons (mC (.int 999)) (wCons (mC (.bl true)) (wCons (mC (.bl false)) (wCons (mC .non) (wCons (mC (.str "1")) (wCons (mLstW (wCons (mC (.int 1)) wNil)) (wCons (mTup (mCons (mC (.int 1)) mNil)) (wCons (mOp2R gPow (mC (.int 10)) (mC (.int 8))) wNil)))))))))))))) mNil))))))
def m__law_bad : MF := mDef [0] 5 b__law_bad
def b__law_asked : MS := (mSeq (mAsg (mVar 1) (gmTup 8 (gmCons (gmName 2) (gmCons (gmName 3) (gmCons (gmName 4) (gmCons (gmName 5) (gmCons (gmName 6) (gmCons (gmName 7) (gmCons (gmName 8) (gmCons (gmName 9) gmNil)))))))))) (mSeq (mIfS (mTest (mOp2R gEq (mPk 2) (mC (.str "work")))) (mSeq (mIfS (mTest (mOp2R gEq (mCall (noX m__law_take) (mConS 0 (mCons (mC (.int 2)) mNil))) (mC (.int 0)))) (mRet (mWhy (mFz (mMakeK "Work" (fun us ws => (((us.drop 0).take 1) ++ (((us.drop 1).take 1) ++ (((us.drop 2).take 1) ++ (((us.drop 3).take 1) ++ (((us.drop 4).take 1) ++ (((us.drop 5).take 1) ++ ((ws.drop 0).take 1)))))))) m_Work___init__ (mCons (mVar 3) (mCons (mVar 4) (mCons (mVar 6) (mCons (mVar 7) (mCons (mVar 8) (mCons (mVar 9) mNil)))))) (mCons (mVar 5) mNil))))) mNext) (mRet (mWhy (mFz (mMakeK "Work" (fun us ws => (((ws.drop 6).take 1) ++ (((ws.drop 5).take 1) ++ (((ws.drop 4).take 1) ++ (((ws.drop 3).take 1) ++ (((ws.drop 2).take 1) ++ (((ws.drop 1).take 1) ++ ((ws.drop 0).take 1)))))))) m_Work___init__ mNil (mCons (mVar 5) (mCons (mVar 9) (mCons (mVar 8) (mCons (mVar 7) (mCons (mVar 6) (mCons (mVar 4) (mCons (mVar 3) mNil)))))))))))) mNext) (mSeq (mIfS (mTest (mOp2R gEq (mCall (noX m__law_take) (mConS 0 (mCons (mC (.int 2)) mNil))) (mC (.int 0)))) (mRet (mWhy (mFz (mMakeK "Hire" (fun us ws => (((us.drop 0).take 1) ++ (((us.drop 1).take 1) ++ (((us.drop 2).take 1) ++ (((us.drop 3).take 1) ++ (((us.drop 4).take 1) ++ ((ws.drop 0).take 1))))))) m_Hire___init__ (mCons (mVar 3) (mCons (mVar 4) (mCons (mVar 7) (mCons (mVar 8) (mCons (mVar 9) mNil))))) (mCons (mVar 5) mNil))))) mNext) (mRet (mWhy (mFz (mMakeK "Hire" (fun us ws => (((ws.drop 5).take 1) ++ (((ws.drop 4).take 1) ++ (((ws.drop 3).take 1) ++ (((ws.drop 2).take 1) ++ (((ws.drop 1).take 1) ++ ((ws.drop 0).take 1))))))) m_Hire___init__ mNil (mCons (mVar 5) (mCons (mVar 9) (mCons (mVar 8) (mCons (mVar 7) (mCons (mVar 4) (mCons (mVar 3) mNil)))))))))))))
def m__law_asked : MF := mDef [0] 10 b__law_asked
def b_law : MS := (mSeq (mAsg (mCallP (noX m__law_bag) (mCons (mVar 0) mNil)) (gmName 1)) (mSeq (mFor (mRng1 (mCons (mC (.int 14)) mNil)) (gmName 2) (mSeq (mAsg (mCall (noX m__law_good) (mConS 1 (mCons (mCall (noX m__law_names) (mDfl [.int 6] (mConS 1 (mCons (mC (.int 3)) mNil)))) mNil))) (gmName 3)) (mSeq (mIfS (mNot (mTru truD (mCallP (noX (m__law_same 11)) (mCons (mCall (noX m__law_asked) (mConS 1 (mCons (mFzv 3) mNil))) (mCons (mTup mNil) mNil))))) (mRet (mC (.bl false))) mNext) (mFor (mRng1 (mCons (mOp2 gAdd (mC (.int 1)) (mCall (noX m__law_take) (mConS 1 (mCons (mC (.int 4)) mNil)))) mNil)) (gmName 4) (mSeq (mAsg (mCall (noX m__law_of) (mConS 1 (mCons (mOp2 gAdd (mLstW (wCons (mC (.int 1)) (wCons (mC (.int 2)) (wCons (mC (.int 3)) (wCons (mC (.int 5)) (wCons (mC (.int 5)) (wCons (mC (.int 6)) (wCons (mC (.int 7)) wNil)))))))) (mIf (mTest (mOp2R gEq (mIx (mPk 3) (mC (.int 0))) (mC (.str "work")))) (mLstW (wCons (mC (.int 4)) (wCons (mC (.int 4)) wNil))) (mLstW wNil))) mNil))) (gmName 5)) (mSeq (mAsg (mOp2 gAdd (mOp2 gAdd (mSl (mFzv 3) mNoPart (mPart (mPk 5))) (mTup (mCons (mCall (noX m__law_bad) (mConS 1 (mCons (mFzv 3) (mCons (mFzv 5) mNil)))) mNil))) (mSl (mFzv 3) (mPart (mOp2 gAdd (mFzv 5) (mC (.int 1)))) mNoPart)) (gmName 3)) (mIfS (mNot (mTru truD (mCallP (noX (m__law_same 11)) (mCons (mCall (noX m__law_asked) (mConS 1 (mCons (mFzv 3) mNil))) (mCons (mCallP (noX m__law_due) (mCons (mFzv 3) mNil)) mNil))))) (mRet (mC (.bl false))) mNext))))))) (mRet (mC (.bl true)))))
def m_law : MF := mDef [] 6 b_law
end K07

namespace K07
open PySem PySem.Spec PyProof.Rows L2 SW MR MPkg MLawA
theorem isc (d : D) (lo hi : Int) : m__law_is_count [.f d, .f (.int lo), .f (.int hi)] = .ok (.f (.bl (numB d lo hi))) [.f d, .f (.int lo), .f (.int hi)] := by
  cases d with
  | int i =>
    refine of_wf ?_
    walk_at "m0"
    unfold b__law_is_count
    walk_at "mv"
    refine e_cond (fun h => ?_) (fun h => ?_)
    · walk_at "mv"
      have h1 := of_decide_eq_true h
      exact ⟨by simp only [numB, h1, true_and], rfl⟩
    · walk_at "mv"
      have h1 := of_decide_eq_false h
      exact ⟨by simp only [numB, h1, false_and, decide_false], rfl⟩
  | _ => rfl
/-- the signs that are not small -/
theorem isca_loop {x : D} {b0 : Bool} {Q : O → MR.Env → Prop} {X : Xc → MR.Env → Prop} (h : ∀ acc : List O, (acc = [] ↔ b0 = true) → (∀ o ∈ acc, ∃ c, o = .f (chD c)) → acc.length < 100 → Q (.L acc) [some (.f x), none]) :
    ∀ (es : List D) (acc : List O) (ρ : MR.Env), ((∃ cs : List Nat, es = cs.map chD ∧ ((acc = [] ∧ (cs.all fun c => decide (c ∈ small)) = true) ↔ b0 = true)) ∧ acc.length + es.length < 100 ∧ (∀ o ∈ acc, ∃ c, o = .f (chD c)) ∧ ρ = [some (.f x), none]) →
    WE (loopL (gmName 1) (mTest (mOp2R gNi (mPk 1) (mC (.str "abcdefghijklmnopqrstuvwxyz")))) (mVar 1) [1] es acc ρ) Q X := by
  refine lc_inv _ ?_ ?_
  · rintro d es acc ρ ⟨⟨cs, ec, hb⟩, hl, ho, rfl⟩
    cases cs with
    | nil => cases ec
    | cons c cs =>
      obtain ⟨rfl, rfl⟩ := List.cons.inj ec
      refine ⟨by simp at hl ⊢; omega, _, rfl, ?_⟩
      refine e_test (e_op2R (e_pk rfl (e_c (x_sc (d := .bl (!decide (c ∈ small))) rfl rfl (x_bl ?_)))))
      by_cases hc : c ∈ small
      · rw [decide_eq_true hc]
        refine ⟨⟨cs, rfl, ?_⟩, by simp at hl ⊢; omega, ho, rfl⟩
        rw [← hb, List.all_cons, decide_eq_true hc, Bool.true_and]
      · rw [decide_eq_false hc]
        simp only [Bool.not_false, cond_true]
        walk_at "mv"
        refine ⟨⟨cs, rfl, ?_⟩, by simp at hl ⊢; omega, ?_, rfl⟩
        · rw [← hb, List.all_cons, decide_eq_false hc]
          simp
        · intro o h
          rcases List.mem_append.mp h with h | h
          · exact ho o h
          · exact ⟨c, by simpa using h⟩
  · rintro acc ρ ⟨⟨cs, ec, hb⟩, hl, ho, rfl⟩
    have : cs = [] := by simpa using ec.symm
    subst this
    refine h acc (by rw [← hb]; simp) ho (by simp at hl; omega)
theorem eq_nil {acc : List O} (h : ∀ o ∈ acc, ∃ c, o = .f (chD c)) : ∃ xs : List Str, O.fzA acc = xs.map D.str ∧ (xs = [] ↔ acc = []) := by
  induction acc with
  | nil => exact ⟨[], rfl, by simp⟩
  | cons o acc ih =>
    obtain ⟨c, rfl⟩ := h o (by simp)
    obtain ⟨xs, e, _⟩ := ih fun o ho => h o (List.mem_cons_of_mem _ ho)
    exact ⟨⟨#[c]⟩ :: xs, by rw [O.fzA, e]; rfl, by simp⟩
theorem pdA_s (xs : List Str) : D.pdA (xs.map D.str) = some (xs.map PyData.str) := by
  induction xs with
  | nil => rfl
  | cons x xs ih => rw [List.map_cons, D.pdA, ih]; rfl
theorem dep_s : ∀ l : List Str, PyData.depthAll (l.map PyData.str) = 0
  | [] => rfl
  | x :: l => by rw [List.map_cons, PyData.depthAll, dep_s l]; rfl
theorem eq_none {acc : List O} (h : ∀ o ∈ acc, ∃ c, o = .f (chD c)) : gEq (O.fz (.L acc)) (O.fz (.L [])) = some (.f (.bl acc.isEmpty)) := by
  obtain ⟨xs, e, hx⟩ := eq_nil h
  show blO (eqD (.lst (O.fzA acc)) (.lst [])) = _
  rw [e]
  have e1 : (D.lst (xs.map D.str)).pd = some (.list (xs.map PyData.str)) := by
    show (D.pdA _).map _ = _
    rw [pdA_s]; rfl
  have e2 : (D.lst []).pd = some (.list []) := rfl
  unfold eqD
  rw [e1, e2]
  dsimp only
  have d1 : (PyData.list (xs.map PyData.str)).depth ≤ 64 := by
    have : (PyData.list (xs.map PyData.str)).depth = PyData.depthAll (xs.map PyData.str) + 1 := by simp [PyData.depth]
    rw [this, dep_s]; decide
  rw [if_pos ⟨d1, by decide⟩]
  show some (O.f (.bl _)) = _
  cases xs with
  | nil => rw [(hx.mp rfl)]; rfl
  | cons x xs =>
    cases acc with
    | nil => cases (hx.mpr rfl)
    | cons => rfl
theorem isca (d : D) : m__law_is_call [.f d] = .ok (.f (.bl (nameB d))) [.f d] := by
  cases d with
  | str x =>
    have hl : x.cps.toList.length = x.length := by simp [Str.length]
    refine of_wf ?_
    walk_at "m0"
    unfold b__law_is_call
    walk_at "mv"
    refine f_noX (wf_of (isc _ _ _) ?_)
    walk_at "mv"
    refine w_cond (fun h => ?_) (fun h => ?_)
    · walk_at "mv"
      have h : numB (.int x.length) 1 6 = false := by simpa using h
      have h : ¬ ((1 : Int) ≤ x.length ∧ (x.length : Int) ≤ 6) := of_decide_eq_false h
      refine ⟨?_, rfl⟩
      show _ = O.f (.bl (decide (1 ≤ x.length ∧ x.length ≤ 6) && _))
      rw [decide_eq_false (by omega), Bool.false_and]
    · walk_at "mv"
      have h : ((1 : Int) ≤ x.length ∧ (x.length : Int) ≤ 6) := by simpa [numB] using h
      refine isca_loop (b0 := x.cps.toList.all fun c => decide (c ∈ small)) (fun acc h1 h2 h3 => ?_) _ _ _ ⟨⟨x.cps.toList, rfl, by simp⟩, by rw [List.length_map, hl]; simp; omega, by simp, rfl⟩
      with_reducible refine MR.e_lstW ?_
      with_reducible refine MR.e_wnil ?_
      refine x_le (Nat.zero_le _) (x_sc (eq_none h2) rfl ?_)
      walk_at "mv"
      refine ⟨?_, rfl⟩
      show _ = O.f (.bl (decide (1 ≤ x.length ∧ x.length ≤ 6) && _))
      rw [decide_eq_true (by omega), Bool.true_and]
      cases acc with
      | nil => rw [(h1.mp rfl)]; rfl
      | cons =>
        cases hb : x.cps.toList.all fun c => decide (c ∈ small) with
        | true => cases h1.mpr hb
        | false => rfl
  | _ => rfl
theorem isp (d : D) (hd : Dep 3 d) : m__law_is_spot [.f d] = .ok (.f (.bl (standB d))) [.f d] := by
  have two : ∀ a b : D, m__law_is_spot [.f (.tup [a, b])] = .ok (.f (.bl (nameB a && numB b 0 8))) [.f (.tup [a, b])] := fun a b => by
    refine of_wf ?_
    walk_at "m0"
    unfold b__law_is_spot
    walk_at "mv"
    refine f_noX (wf_of (isca _) ?_)
    walk_at "mv"
    refine e_cond (fun h => ?_) (fun h => ?_)
    · walk_at "mv"
      refine f_noX (wf_of (isc _ _ _) ?_)
      walk_at "mv"
      exact ⟨by rw [h]; rfl, rfl⟩
    · walk_at "mv"
      exact ⟨by rw [h]; rfl, rfl⟩
  have other : ∀ ds : List D, ds.length ≠ 2 → m__law_is_spot [.f (.tup ds)] = .ok (.f (.bl false)) [.f (.tup ds)] := fun ds hl => by
    refine of_wf ?_
    walk_at "m0"
    unfold b__law_is_spot
    walk_at "mv"
    refine e_cF (by rw [eqi]; exact decide_eq_false (by omega)) ?_
    walk_at "mv"
    exact ⟨rfl, rfl⟩
  cases hd with
  | tup hl h => rename_i ds; match ds with
    | [a, b] => exact two a b
    | [] => rfl
    | [_] => rfl
    | _ :: _ :: _ :: r => exact other _ (by simp)
  | _ => rfl
end K07

namespace K07
open PySem PySem.Spec PyProof.Rows L2 SW MR MPkg MLawA
def tell : Option (Str × D) → D
  | none => .tup []
  | some (c, v) => .tup [.str c, v]
def rowOf (w : Str) (n o t s e c p : D) : D := .tup [.str w, n, o, t, s, e, c, p]
theorem ix1 {d a : D} {i : Int} (h : d = .tup [a, .int i] ∨ d = .kt [a, .int i]) : ixO (.f d) (.f (.int 1)) = some (.f (.int i)) := by rcases h with rfl | rfl <;> rfl
def dueTail : MS := (mSeq (mFor (mIter (mTup (mCons (mTup (mCons (mVar 7) (mCons (mC (.int 1)) (mCons (mC (.int 99)) mNil)))) (mCons (mTup (mCons (mVar 8) (mCons (mC (.int 0)) (mCons (mC (.int 999)) mNil)))) (mCons (mTup (mCons (mVar 4) (mCons (mC (.int 0)) (mCons (mC (.int 99)) mNil)))) mNil))))) (gmTup 3 (gmCons (gmName 9) (gmCons (gmName 10) (gmCons (gmName 11) gmNil)))) (mIfS (mNot (mTru truD (mCallP (noX m__law_is_count) (mCons (mVar 9) (mCons (mVar 10) (mCons (mVar 11) mNil)))))) (mRet (mTup (mCons (mC (.str "InvalidNumber")) (mCons (mVar 9) mNil)))) mNext)) (mRet (mTup mNil)))
def numErr (c p t : D) : Option (Str × D) := if numB c 1 99 = false then some (("InvalidNumber" : Str), c) else if numB p 0 999 = false then some (("InvalidNumber" : Str), p) else if numB t 0 99 = false then some (("InvalidNumber" : Str), t) else none
theorem due_tail {r w n o t s e c p : D} {u9 : Option O} {k : RS → Prop} (h : ∀ ρ, k (.rt (.f (tell (numErr c p t))) ρ)) : WS (dueTail [some (.f r), some (.f w), some (.f n), some (.f o), some (.f t), some (.f s), some (.f e), some (.f c), some (.f p), u9, none, none]) k := by
  unfold dueTail
  have one : ∀ {d : D} {lo hi : Int} {ds : List D} {k : RS → Prop} {u9 u10 u11 : Option O}, (numB d lo hi = false → ∀ ρ, k (.rt (.f (.tup [.str "InvalidNumber", d])) ρ)) → (numB d lo hi = true → WS (loopF (gmTup 3 (gmCons (gmName 9) (gmCons (gmName 10) (gmCons (gmName 11) gmNil)))) (mIfS (mNot (mTru truD (mCallP (noX m__law_is_count) (mCons (mVar 9) (mCons (mVar 10) (mCons (mVar 11) mNil)))))) (mRet (mTup (mCons (mC (.str "InvalidNumber")) (mCons (mVar 9) mNil)))) mNext) ds [some (.f r), some (.f w), some (.f n), some (.f o), some (.f t), some (.f s), some (.f e), some (.f c), some (.f p), some (.f d), some (.f (.int lo)), some (.f (.int hi))]) k) →
      WS (loopF (gmTup 3 (gmCons (gmName 9) (gmCons (gmName 10) (gmCons (gmName 11) gmNil)))) (mIfS (mNot (mTru truD (mCallP (noX m__law_is_count) (mCons (mVar 9) (mCons (mVar 10) (mCons (mVar 11) mNil)))))) (mRet (mTup (mCons (mC (.str "InvalidNumber")) (mCons (mVar 9) mNil)))) mNext) (.tup [d, .int lo, .int hi] :: ds) [some (.f r), some (.f w), some (.f n), some (.f o), some (.f t), some (.f s), some (.f e), some (.f c), some (.f p), u9, u10, u11]) k := by
    intro d lo hi ds k u9 u10 u11 h1 h2
    refine l_cons (ρ1 := [some (.f r), some (.f w), some (.f n), some (.f o), some (.f t), some (.f s), some (.f e), some (.f c), some (.f p), some (.f d), some (.f (.int lo)), some (.f (.int hi))]) rfl ?_
    walk_at "mv"
    refine f_noX (wf_of (isc _ _ _) ?_)
    walk_at "mv"
    refine w_cond (fun h7 => ?_) (fun h7 => ?_)
    · walk_at "mv"
      exact h1 (by simpa using h7) _
    · walk_at "mv"
      exact h2 (by simpa using h7)
  with_reducible refine MR.w_seq ?_
  with_reducible refine MR.w_for ?_
  with_reducible refine MR.e_iter ?_
  iterate 34 walk_at "m1"
  show WS (loopF _ _ [.tup [c, .int 1, .int 99], .tup [p, .int 0, .int 999], .tup [t, .int 0, .int 99]] [some (.f r), some (.f w), some (.f n), some (.f o), some (.f t), some (.f s), some (.f e), some (.f c), some (.f p), u9, none, none]) _
  refine one (fun h7 ρ => ?_) (fun h7 => one (fun h8 ρ => ?_) (fun h8 => one (fun h9 ρ => ?_) (fun h9 => ?_)))
  · have := h ρ
    unfold numErr at this
    rw [if_pos h7] at this
    exact this
  · have := h ρ
    unfold numErr at this
    rw [if_neg (by simp [h7]), if_pos h8] at this
    exact this
  · have := h ρ
    unfold numErr at this
    rw [if_neg (by simp [h7]), if_neg (by simp [h8]), if_pos h9] at this
    exact this
  · walk_at "mv"
    have := h [some (.f r), some (.f w), some (.f n), some (.f o), some (.f t), some (.f s), some (.f e), some (.f c), some (.f p), some (.f t), some (.f (.int 0)), some (.f (.int 99))]
    unfold numErr at this
    rw [if_neg (by simp [h7]), if_neg (by simp [h8]), if_neg (by simp [h9])] at this
    exact this
theorem due_work (n o t s e c p : D) (hs : Dep 3 s) (he : Dep 3 e) : m__law_due [.f (rowOf "work" n o t s e c p)] = .ok (.f (tell (workErr n o s e c p t))) [.f (rowOf "work" n o t s e c p)] := by
  refine of_wf ?_
  unfold rowOf
  walk_at "m0"
  show WS (mSeq _ (mSeq _ (mSeq _ (mSeq _ dueTail))) _) _
  with_reducible refine MR.w_seq ?_
  with_reducible refine MR.w_asg ?_
  (with_reducible apply MR.e_var); (focus exact rfl)
  refine ⟨[some (.f (.tup [.str "work", n, o, t, s, e, c, p])), some (.f (.str "work")), some (.f n), some (.f o), some (.f t), some (.f s), some (.f e), some (.f c), some (.f p), none, none, none], rfl, ?_⟩
  with_reducible refine MR.k_nx ?_
  walk_at "mv"
  refine f_noX (wf_of (isca _) ?_)
  walk_at "mv"
  refine w_cond (fun h1 => ?_) (fun h1 => ?_)
  · walk_at "mv"
    have h1 : nameB n = false := by simpa using h1
    exact ⟨by unfold workErr; rw [if_pos h1]; rfl, rfl⟩
  have h1 : nameB n = true := by simpa using h1
  walk_at "mv"
  refine f_noX (wf_of (isca _) ?_)
  walk_at "mv"
  refine w_cond (fun h2 => ?_) (fun h2 => ?_)
  · walk_at "mv"
    have h2 : nameB o = false := by simpa using h2
    exact ⟨by unfold workErr; rw [if_neg (by simp [h1]), if_pos h2]; rfl, rfl⟩
  have h2 : nameB o = true := by simpa using h2
  walk_at "mv"
  refine f_noX (wf_of (isp _ hs) ?_)
  walk_at "mv"
  refine w_cond (fun h3 => ?_) (fun h3 => ?_)
  · walk_at "mv"
    have h3 : standB s = false := by simpa using h3
    exact ⟨by unfold workErr; rw [if_neg (by simp [h1]), if_neg (by simp [h2]), if_pos h3]; rfl, rfl⟩
  have h3 : standB s = true := by simpa using h3
  walk_at "mv"
  refine f_noX (wf_of (isp _ he) ?_)
  walk_at "mv"
  obtain ⟨a1, i1, hs', _, _, _⟩ := stand_of h3
  refine e_cond (fun h4 => ?_) (fun h4 => ?_)
  · walk_at "mv"
    have h4 : standB e = false := by simpa using h4
    exact ⟨by unfold workErr; rw [if_neg (by simp [h1]), if_neg (by simp [h2]), if_neg (by simp [h3]), if_pos (.inl h4)]; rfl, rfl⟩
  have h4 : standB e = true := by simpa using h4
  obtain ⟨a2, i2, he', _, _, _⟩ := stand_of h4
  have hours : hourOf s = i1 ∧ hourOf e = i2 := by
    rcases hs' with rfl | rfl <;> rcases he' with rfl | rfl <;> exact ⟨rfl, rfl⟩
  walk_at "mv"
  refine x_some (ix1 he') ?_
  walk_at "mv"
  refine x_some (ix1 hs') ?_
  walk_at "mv"
  refine w_cond (fun h5 => ?_) (fun h5 => ?_)
  · walk_at "mv"
    have h6 : i2 ≤ i1 := of_decide_eq_true h5
    exact ⟨by unfold workErr; rw [if_neg (by simp [h1]), if_neg (by simp [h2]), if_neg (by simp [h3]), if_pos (.inr (by rw [hours.1, hours.2]; exact h6))]; rfl, rfl⟩
  have h6 : ¬ i2 ≤ i1 := of_decide_eq_false h5
  walk_at "mv"
  refine due_tail fun ρ => ⟨_, rfl, ?_, rfl⟩
  have base : workErr n o s e c p t = numErr c p t := by
    unfold workErr numErr
    rw [if_neg (by simp [h1]), if_neg (by simp [h2]), if_neg (by simp [h3]), if_neg]
    rintro (z | z)
    · rw [h4] at z; cases z
    · rw [hours.1, hours.2] at z; exact h6 z
  rw [base]
theorem due_hire (n o t s e c p : D) (he : Dep 3 e) : m__law_due [.f (rowOf "hire" n o t s e c p)] = .ok (.f (tell (hireErr n o e c p t))) [.f (rowOf "hire" n o t s e c p)] := by
  refine of_wf ?_
  unfold rowOf
  walk_at "m0"
  show WS (mSeq _ (mSeq _ (mSeq _ (mSeq _ dueTail))) _) _
  with_reducible refine MR.w_seq ?_
  with_reducible refine MR.w_asg ?_
  (with_reducible apply MR.e_var); (focus exact rfl)
  refine ⟨[some (.f (.tup [.str "hire", n, o, t, s, e, c, p])), some (.f (.str "hire")), some (.f n), some (.f o), some (.f t), some (.f s), some (.f e), some (.f c), some (.f p), none, none, none], rfl, ?_⟩
  with_reducible refine MR.k_nx ?_
  walk_at "mv"
  refine f_noX (wf_of (isca _) ?_)
  walk_at "mv"
  refine w_cond (fun h1 => ?_) (fun h1 => ?_)
  · walk_at "mv"
    have h1 : nameB n = false := by simpa using h1
    exact ⟨by unfold hireErr; rw [if_pos h1]; rfl, rfl⟩
  have h1 : nameB n = true := by simpa using h1
  walk_at "mv"
  refine f_noX (wf_of (isca _) ?_)
  walk_at "mv"
  refine w_cond (fun h2 => ?_) (fun h2 => ?_)
  · walk_at "mv"
    have h2 : nameB o = false := by simpa using h2
    exact ⟨by unfold hireErr; rw [if_neg (by simp [h1]), if_pos h2]; rfl, rfl⟩
  have h2 : nameB o = true := by simpa using h2
  walk_at "mv"
  refine f_noX (wf_of (isp _ he) ?_)
  walk_at "mv"
  refine e_cond (fun h4 => ?_) (fun h4 => ?_)
  · walk_at "mv"
    have h4 : standB e = false := by simpa using h4
    exact ⟨by unfold hireErr; rw [if_neg (by simp [h1]), if_neg (by simp [h2]), if_pos h4]; rfl, rfl⟩
  have h4 : standB e = true := by simpa using h4
  walk_at "mv"
  refine due_tail fun ρ => ⟨_, rfl, ?_, rfl⟩
  have base : hireErr n o e c p t = numErr c p t := by
    unfold hireErr numErr
    rw [if_neg (by simp [h1]), if_neg (by simp [h2]), if_neg (by simp [h4])]
  rw [base]
end K07

namespace K07
open PySem PySem.Spec PyProof.Rows L2 SW MR MPkg MLawA
theorem work_code {n o s e c p t v : D} {code : Str} (h : workErr n o s e c p t = some (code, v)) : code = "InvalidName" ∨ code = "InvalidStanding" ∨ code = "InvalidNumber" := by
  unfold workErr at h
  repeat' split at h
  all_goals (first | (cases h; first | exact .inl rfl | exact .inr (.inl rfl) | exact .inr (.inr rfl)) | cases h)
theorem hire_code {n o e c p t v : D} {code : Str} (h : hireErr n o e c p t = some (code, v)) : code = "InvalidName" ∨ code = "InvalidStanding" ∨ code = "InvalidNumber" := by
  unfold hireErr at h
  repeat' split at h
  all_goals (first | (cases h; first | exact .inl rfl | exact .inr (.inl rfl) | exact .inr (.inr rfl)) | cases h)
theorem x_why {code : Str} {v : D} {P : Str → List D → Prop} (hc : code = "InvalidName" ∨ code = "InvalidStanding" ∨ code = "InvalidNumber") (h : P code [v]) : ∃ c es, partsD (err code v) = some (c, es) ∧ es.length ≤ 1000 ∧ c ≠ "" ∧ P c es := by
  rcases hc with rfl | rfl | rfl
  · exact ⟨_, _, rfl, by simp, by decide, h⟩
  · exact ⟨_, _, rfl, by simp, by decide, h⟩
  · exact ⟨_, _, rfl, by simp, by decide, h⟩
theorem asked_work {b : List O} {n o t s e c p : D} {Q : O → List O → Prop} {X : Xc → List O → Prop} (hb : BagIs b) (h : ∀ b', BagIs b' → Q (.f (tell (workErr n o s e c p t))) [.L b', .f (rowOf "work" n o t s e c p)]) : WF (m__law_asked [.L b, .f (rowOf "work" n o t s e c p)]) Q X := by
  unfold rowOf at h ⊢
  walk_at "m0"
  unfold b__law_asked
  with_reducible refine MR.w_seq ?_
  with_reducible refine MR.w_asg ?_
  (with_reducible apply MR.e_var); (focus exact rfl)
  refine ⟨[some (.L b), some (.f (.tup [.str "work", n, o, t, s, e, c, p])), some (.f (.str "work")), some (.f n), some (.f o), some (.f t), some (.f s), some (.f e), some (.f c), some (.f p)], rfl, ?_⟩
  with_reducible refine MR.k_nx ?_
  walk_at "mv"
  refine f_noX (take_run hb (by decide) (by decide) fun i b1 hi hi2 hb1 => ?_)
  simp only [putA, List.set]
  walk_at "mv"
  refine w_cond (fun h1 => ?_) (fun h1 => ?_)
  · walk_at "mv"
    refine work_run n o s e c p t (fun hn fs os => ?_) (fun code v hv os => ?_)
    · refine ⟨_, _, rfl, rfl, ?_⟩
      walk_at "mv"
      have := h b1 hb1
      rw [hn] at this
      exact this
    · refine x_why (work_code hv) ?_
      walk_at "mv"
      have := h b1 hb1
      rw [hv] at this
      exact this
  · walk_at "mv"
    refine work_run n o s e c p t (fun hn fs os => ?_) (fun code v hv os => ?_)
    · refine ⟨_, _, rfl, rfl, ?_⟩
      walk_at "mv"
      have := h b1 hb1
      rw [hn] at this
      exact this
    · refine x_why (work_code hv) ?_
      walk_at "mv"
      have := h b1 hb1
      rw [hv] at this
      exact this
theorem asked_hire {b : List O} {n o t s e c p : D} {Q : O → List O → Prop} {X : Xc → List O → Prop} (hb : BagIs b) (h : ∀ b', BagIs b' → Q (.f (tell (hireErr n o e c p t))) [.L b', .f (rowOf "hire" n o t s e c p)]) : WF (m__law_asked [.L b, .f (rowOf "hire" n o t s e c p)]) Q X := by
  unfold rowOf at h ⊢
  walk_at "m0"
  unfold b__law_asked
  with_reducible refine MR.w_seq ?_
  with_reducible refine MR.w_asg ?_
  (with_reducible apply MR.e_var); (focus exact rfl)
  refine ⟨[some (.L b), some (.f (.tup [.str "hire", n, o, t, s, e, c, p])), some (.f (.str "hire")), some (.f n), some (.f o), some (.f t), some (.f s), some (.f e), some (.f c), some (.f p)], rfl, ?_⟩
  with_reducible refine MR.k_nx ?_
  walk_at "mv"
  refine f_noX (take_run hb (by decide) (by decide) fun i b1 hi hi2 hb1 => ?_)
  simp only [putA, List.set]
  walk_at "mv"
  refine w_cond (fun h1 => ?_) (fun h1 => ?_)
  · walk_at "mv"
    refine hire_run n o e c p t (fun hn fs os => ?_) (fun code v hv os => ?_)
    · refine ⟨_, _, rfl, rfl, ?_⟩
      walk_at "mv"
      have := h b1 hb1
      rw [hn] at this
      exact this
    · refine x_why (hire_code hv) ?_
      walk_at "mv"
      have := h b1 hb1
      rw [hv] at this
      exact this
  · walk_at "mv"
    refine hire_run n o e c p t (fun hn fs os => ?_) (fun code v hv os => ?_)
    · refine ⟨_, _, rfl, rfl, ?_⟩
      walk_at "mv"
      have := h b1 hb1
      rw [hn] at this
      exact this
    · refine x_why (hire_code hv) ?_
      walk_at "mv"
      have := h b1 hb1
      rw [hv] at this
      exact this
end K07

namespace K07
open PySem PySem.Spec PyProof.Rows L2 SW MR MPkg MLawA
def rowErr (w : Str) (n o t s e c p : D) : Option (Str × D) := if w = "work" then workErr n o s e c p t else hireErr n o e c p t
def RowD (w : Str) (n o t s e c p : D) : Prop := (w = "work" ∨ w = "hire") ∧ Dep 3 n ∧ Dep 3 o ∧ Dep 3 t ∧ Dep 3 s ∧ Dep 3 e ∧ Dep 3 c ∧ Dep 3 p
theorem mem3 {a b c d : D} (h : d ∈ O.fzA [.f a, .f b, .f c]) : d = a ∨ d = b ∨ d = c := by
  simpa [O.fzA, O.fz] using h
theorem mem2 {a b d : D} (h : d ∈ O.fzA [.f a, .f b]) : d = a ∨ d = b := by
  simpa [O.fzA, O.fz] using h
def goodTail : MS := (mSeq (mPar 8 9 (wCons (mCall (noX m__law_of) (mConS 0 (mCons (mLstW (wCons (mC (.int 1)) (wCons (mC (.int 99)) (wCons (mC (.int 3)) wNil)))) mNil))) (wCons (mCall (noX m__law_of) (mConS 0 (mCons (mLstW (wCons (mC (.int 0)) (wCons (mC (.int 999)) (wCons (mC (.int 6)) wNil)))) mNil))) wNil))) (mRet (mTup (mCons (mFzv 4) (mCons (mCall (noX m__law_of) (mConS 0 (mCons (mVar 1) mNil))) (mCons (mCall (noX m__law_of) (mConS 0 (mCons (mVar 1) mNil))) (mCons (mFzv 5) (mCons (mIf (mTest (mOp2R gEq (mPk 4) (mC (.str "work")))) (mVar 6) (mTup mNil)) (mCons (mVar 7) (mCons (mFzv 8) (mCons (mFzv 9) mNil)))))))))))
/-- a call drawn -/
theorem good_run {b : List O} {xs : List Str} {Q : O → List O → Prop} {X : Xc → List O → Prop} (hb : BagIs b) (h0 : xs.length = 3) (hx : ∀ x ∈ xs, nameB (.str x) = true)
    (h : ∀ w n o t s e c p b', RowD w n o t s e c p → rowErr w n o t s e c p = none → BagIs b' → Q (.f (rowOf w n o t s e c p)) [.L b', .f (.lst (xs.map D.str))]) : WF (m__law_good [.L b, .f (.lst (xs.map D.str))]) Q X := by
  have ne : xs.map D.str ≠ [] := by cases xs <;> simp at h0 ⊢
  have hl : (xs.map D.str).length < 1000 := by rw [List.length_map, h0]; decide
  have nm : ∀ d ∈ xs.map D.str, nameB d = true ∧ Dep 2 d := fun d hd => by
    obtain ⟨x, hx1, rfl⟩ := List.mem_map.mp hd
    exact ⟨hx x hx1, .str _ _⟩
  walk_at "m0"
  show WS (mSeq _ (mSeq _ (mSeq _ (mSeq _ goodTail))) _) _
  walk_at "mv"
  refine f_noX (of_run hb (by simp [O.fzA]) (by decide) fun d1 hd1 b1 hb1 => ?_)
  obtain ⟨i1, rfl, hi1⟩ : ∃ i : Int, d1 = .int i ∧ 0 ≤ i ∧ i ≤ 7 := by rcases mem3 hd1 with rfl | rfl | rfl <;> exact ⟨_, rfl, by decide, by decide⟩
  clear hd1
  simp only [putA, List.set]
  walk_at "mv"
  simp only [putA, List.set]
  walk_at "mv"
  refine f_noX (of_run hb1 (by simp [O.fzA]) (by simp [O.fzA]) fun d2 hd2 b2 hb2 => ?_)
  obtain ⟨i2, rfl, hi2⟩ : ∃ i : Int, d2 = .int i ∧ i1 < i ∧ i ≤ 8 := by rcases mem2 hd2 with rfl | rfl <;> exact ⟨_, rfl, by omega, by omega⟩
  clear hd2
  simp only [putA, List.set]
  walk_at "mv"
  refine f_noX (of_run hb2 (by simp [O.fzA]) (by decide) fun d3 hd3 b3 hb3 => ?_)
  simp only [putA, List.set]
  walk_at "mv"
  refine f_noX (of_run hb3 (by simp [O.fzA]) (by decide) fun d4 hd4 b4 hb4 => ?_)
  obtain ⟨i4, rfl, hi4⟩ : ∃ i : Int, d4 = .int i ∧ 0 ≤ i ∧ i ≤ 99 := by rcases mem3 hd4 with rfl | rfl | rfl <;> exact ⟨_, rfl, by decide, by decide⟩
  clear hd4
  obtain ⟨w, rfl, hw⟩ : ∃ w : Str, d3 = .str w ∧ (w = "work" ∨ w = "hire") := by rcases mem3 hd3 with rfl | rfl | rfl <;> first | exact ⟨_, rfl, .inl rfl⟩ | exact ⟨_, rfl, .inr rfl⟩
  clear hd3
  simp only [putA, List.set]
  walk_at "mv"
  simp only [putA, List.set]
  walk_at "mv"
  refine f_noX (of_run hb4 ne hl fun d5 hd5 b5 hb5 => ?_)
  simp only [putA, List.set]
  walk_at "mv"
  simp only [putA, List.set]
  walk_at "mv"
  refine f_noX (of_run hb5 ne hl fun d6 hd6 b6 hb6 => ?_)
  simp only [putA, List.set]
  obtain ⟨n5, e5⟩ := nm d5 hd5
  obtain ⟨n6, e6⟩ := nm d6 hd6
  have rest : ∀ (here there : D) (b7 : List O), BagIs b7 → Dep 3 there → (w = "work" → here = .tup [d5, .int i1] ∧ there = .tup [d6, .int i2]) → (w = "hire" → standB there = true) →
      WS (goodTail
        [some (.L b7), some (O.f (D.lst (List.map D.str xs))), some (O.f (D.int i1)), some (O.f (D.int i2)), some (O.f (D.str w)), some (O.f (D.int i4)), some (.f here), some (.f there), none, none]) (kDef [0] [O.L b, O.f (D.lst (List.map D.str xs))] Q X) := by
    intro here there b7 hb7 ht hw1 hw2
    unfold goodTail
    walk_at "mv"
    refine f_noX (of_run hb7 (by simp [O.fzA]) (by decide) fun d7 hd7 b8 hb8 => ?_)
    obtain ⟨i7, rfl, hi7⟩ : ∃ i : Int, d7 = .int i ∧ 1 ≤ i ∧ i ≤ 99 := by rcases mem3 hd7 with rfl | rfl | rfl <;> exact ⟨_, rfl, by decide, by decide⟩
    clear hd7
    simp only [putA, List.set]
    walk_at "mv"
    refine f_noX (of_run hb8 (by simp [O.fzA]) (by decide) fun d8 hd8 b9 hb9 => ?_)
    obtain ⟨i8, rfl, hi8⟩ : ∃ i : Int, d8 = .int i ∧ 0 ≤ i ∧ i ≤ 999 := by rcases mem3 hd8 with rfl | rfl | rfl <;> exact ⟨_, rfl, by decide, by decide⟩
    clear hd8
    simp only [putA, List.set]
    walk_at "mv"
    simp only [putA, List.set]
    walk_at "mv"
    refine f_noX (of_run hb9 ne hl fun d9 hd9 b10 hb10 => ?_)
    simp only [putA, List.set]
    walk_at "mv"
    refine f_noX (of_run hb10 ne hl fun d10 hd10 b11 hb11 => ?_)
    simp only [putA, List.set]
    obtain ⟨n9, e9⟩ := nm d9 hd9
    obtain ⟨n10, e10⟩ := nm d10 hd10
    rcases hw with rfl | rfl
    · obtain ⟨rfl, rfl⟩ := hw1 rfl
      walk_at "mv"
      refine h "work" d9 d10 (.int i4) (.tup [d5, .int i1]) (.tup [d6, .int i2]) (.int i7) (.int i8) b11 ⟨.inl rfl, e9.up, e10.up, .int _ _, .tup (by simp) (by simp [e5, Dep.int]), ht, .int _ _, .int _ _⟩ ?_ hb11
      show (if ("work" : Str) = "work" then _ else _) = _
      rw [if_pos rfl]
      unfold workErr
      have s1 : standB (.tup [d5, .int i1]) = true := by show (nameB d5 && decide (0 ≤ i1 ∧ i1 ≤ 8)) = true; rw [n5, decide_eq_true (by omega)]; rfl
      have s2 : standB (.tup [d6, .int i2]) = true := by show (nameB d6 && decide (0 ≤ i2 ∧ i2 ≤ 8)) = true; rw [n6, decide_eq_true (by omega)]; rfl
      have s3 : numB (.int i7) 1 99 = true := decide_eq_true (by omega)
      have s4 : numB (.int i8) 0 999 = true := decide_eq_true (by omega)
      have s5 : numB (.int i4) 0 99 = true := decide_eq_true (by omega)
      have s6 : ¬ (standB (.tup [d6, .int i2]) = false ∨ hourOf (.tup [d6, .int i2]) ≤ hourOf (.tup [d5, .int i1])) := by
        rintro (z | z)
        · rw [s2] at z; cases z
        · have z : i2 ≤ i1 := z
          omega
      rw [if_neg (by simp [n9]), if_neg (by simp [n10]), if_neg (by simp [s1]), if_neg s6, if_neg (by simp [s3]), if_neg (by simp [s4]), if_neg (by simp [s5])]
    · have ht2 := hw2 rfl
      walk_at "mv"
      refine h "hire" d9 d10 (.int i4) (.tup []) there (.int i7) (.int i8) b11 ⟨.inr rfl, e9.up, e10.up, .int _ _, .tup (by simp) (by simp), ht, .int _ _, .int _ _⟩ ?_ hb11
      show (if ("hire" : Str) = "work" then _ else _) = _
      rw [if_neg (by decide)]
      unfold hireErr
      have s3 : numB (.int i7) 1 99 = true := decide_eq_true (by omega)
      have s4 : numB (.int i8) 0 999 = true := decide_eq_true (by omega)
      have s5 : numB (.int i4) 0 99 = true := decide_eq_true (by omega)
      rw [if_neg (by simp [n9]), if_neg (by simp [n10]), if_neg (by simp [ht2]), if_neg (by simp [s3]), if_neg (by simp [s4]), if_neg (by simp [s5])]
  rcases hw with rfl | rfl
  · walk_at "mv"
    simp only [putA, List.set]
    exact rest (.tup [d5, .int i1]) (.tup [d6, .int i2]) b6 hb6 (.tup (by simp) (by simp [e6, Dep.int])) (fun _ => ⟨rfl, rfl⟩) (fun e => by cases e)
  · walk_at "mv"
    refine f_noX (of_run hb6 (by simp [O.fzA]) (by decide) fun d7 hd7 b7 hb7 => ?_)
    obtain ⟨i7, rfl, hi7⟩ : ∃ i : Int, d7 = .int i ∧ 0 ≤ i ∧ i ≤ 8 := by rcases mem3 hd7 with rfl | rfl | rfl <;> exact ⟨_, rfl, by decide, by decide⟩
    clear hd7
    simp only [putA, List.set]
    walk_at "mv"
    simp only [putA, List.set]
    exact rest (.tup [d5, .int i1]) (.tup [d6, .int i7]) b7 hb7 (.tup (by simp) (by simp [e6, Dep.int])) (fun e => by cases e) (fun _ => by show (nameB d6 && decide (0 ≤ i7 ∧ i7 ≤ 8)) = true; rw [n6, decide_eq_true (by omega)]; rfl)
end K07

namespace K07
open PySem PySem.Spec PyProof.Rows L2 SW MR MPkg MLawA
def hourE : ME := (mIf (mAnd (mTru truD (mOp1R (gIsi [(.ty "tuple")]) (mIx (mPk 1) (mC (.int 4))))) (mAnd (mTest (mOp2R gEq (mOp1R gLen (mIx (mPk 1) (mC (.int 4)))) (mC (.int 2)))) (mTru truD (mCallP (noX m__law_is_count) (mCons (mVal (mIx (mIx (mPk 1) (mC (.int 4))) (mC (.int 1)))) (mCons (mC (.int 0)) (mCons (mC (.int 8)) mNil))))))) (mVal (mIx (mIx (mPk 1) (mC (.int 4))) (mC (.int 1)))) (mC (.int 2)))
theorem hour_run {b : List O} {w : Str} {n o t s e c p a : D} {u3 u4 : Option O} {Q : O → MR.Env → Prop} {X : Xc → MR.Env → Prop} (hs : Dep 3 s) (h : ∀ i : Int, Q (.f (.int i)) [some (.L b), some (.f (rowOf w n o t s e c p)), some (.f a), u3, u4]) : WE (hourE [some (.L b), some (.f (rowOf w n o t s e c p)), some (.f a), u3, u4]) Q X := by
  unfold rowOf at h ⊢
  unfold hourE
  cases hs with
  | tup hl hd =>
    rename_i ds
    match ds with
    | [x, y] =>
      walk_at "mv"
      refine f_noX (wf_of (isc _ _ _) ?_)
      walk_at "mv"
      refine e_cond (fun h1 => ?_) (fun h1 => ?_)
      · obtain ⟨i, rfl, _⟩ := num_of h1
        walk_at "mv"
        exact h _
      · walk_at "mv"
        exact h _
    | [] => walk_at "mv"; exact h _
    | [_] => walk_at "mv"; exact h _
    | x :: y :: z :: r =>
      walk_at "mv"
      exact h _
  | _ => walk_at "mv"; exact h _
theorem bad_run {b : List O} {w : Str} {n o t s e c p : D} {i : Int} {Q : O → List O → Prop} {X : Xc → List O → Prop} (hb : BagIs b) (hs : Dep 3 s) (hi : i = 1 ∨ i = 2 ∨ i = 3 ∨ i = 4 ∨ i = 5 ∨ i = 6 ∨ i = 7) (h : ∀ d b', Dep 3 d → BagIs b' → Q (.f d) [.L b', .f (rowOf w n o t s e c p), .f (.int i)]) : WF (m__law_bad [.L b, .f (rowOf w n o t s e c p), .f (.int i)]) Q X := by
  have first : (i = 1 ∨ i = 2) → WF (m__law_bad [.L b, .f (rowOf w n o t s e c p), .f (.int i)]) Q X := by
    rintro (rfl | rfl) <;>
    · walk_at "m0"
      unfold b__law_bad
      walk_at "mv"
      refine f_noX (of_run hb (by simp [O.fzA]) (by simp [O.fzA]) fun d hd b1 hb1 => ?_)
      have hd : Dep 3 d := by
        simp [O.fzA, O.fz] at hd
        rcases hd with rfl | rfl | rfl | rfl | rfl | rfl | rfl | rfl | rfl | rfl | rfl <;> first | exact .str _ _ | exact .non _ | exact .bl _ _ | exact .int _ _ | exact .tup (by simp) (by simp [Dep.str]) | exact .lst (by simp) (by simp [Dep.str])
      simp only [putA, List.set]
      walk_at "mv"
      exact h d b1 hd hb1
  have last : (i = 3 ∨ i = 6 ∨ i = 7) → WF (m__law_bad [.L b, .f (rowOf w n o t s e c p), .f (.int i)]) Q X := by
    rintro (rfl | rfl | rfl) <;>
    · walk_at "m0"
      unfold b__law_bad
      walk_at "mv"
      refine f_noX (of_run hb (by simp [O.fzA]) (by simp [O.fzA]) fun d hd b1 hb1 => ?_)
      have hd : Dep 3 d := by
        simp [O.fzA, O.fz] at hd
        rcases hd with rfl | rfl | rfl | rfl | rfl | rfl | rfl | rfl | rfl | rfl | rfl | rfl | rfl <;> first | exact .str _ _ | exact .non _ | exact .bl _ _ | exact .int _ _ | exact .tup (by simp) (by simp [Dep.int]) | exact .lst (by simp) (by simp [Dep.int])
      simp only [putA, List.set]
      walk_at "mv"
      exact h d b1 hd hb1
  have mid : (i = 4 ∨ i = 5) → WF (m__law_bad [.L b, .f (rowOf w n o t s e c p), .f (.int i)]) Q X := by
    rintro (rfl | rfl) <;>
    · walk_at "m0"
      show WS (mSeq _ (mSeq (mIfS _ (mSeq (mAsg hourE (gmName 3)) _) _) _) _) _
      walk_at "mv"
      refine hour_run hs fun j => ?_
      walk_at "mv"
      simp only [List.set]
      refine e_fzvL rfl ?_
      simp only [List.set]
      walk_at "mv"
      refine e_cond (fun h1 => ?_) (fun h1 => ?_) <;>
      · walk_at "mv"
        rw [fzA_f']
        refine f_noX (of_run hb (by simp [O.fzA]) (by simp [O.fzA]) fun d hd b1 hb1 => ?_)
        have hd : Dep 3 d := by
          simp [O.fzA, O.fz] at hd
          rcases hd with rfl | rfl | rfl | rfl | rfl | rfl | rfl | rfl | rfl | rfl | rfl | rfl | rfl | rfl | rfl <;> first | exact .str _ _ | exact .non _ | exact .bl _ _ | exact .int _ _ | exact .tup (by simp) (by simp [Dep.int, Dep.str, Dep.bl]) | exact .lst (by simp) (by simp [Dep.int, Dep.str])
        simp only [putA, List.set]
        walk_at "mv"
        exact h d b1 hd hb1
  rcases hi with rfl | rfl | rfl | rfl | rfl | rfl | rfl
  · exact first (by simp)
  · exact first (by simp)
  · exact last (by simp)
  · exact mid (by simp)
  · exact mid (by simp)
  · exact last (by simp)
  · exact last (by simp)
end K07

namespace K07
open PySem PySem.Spec PyProof.Rows L2 SW MR MPkg MLawA
def changeE : ME := (mOp2 gAdd (mOp2 gAdd (mSl (mFzv 3) mNoPart (mPart (mPk 5))) (mTup (mCons (mCall (noX m__law_bad) (mConS 1 (mCons (mFzv 3) (mCons (mFzv 5) mNil)))) mNil))) (mSl (mFzv 3) (mPart (mOp2 gAdd (mFzv 5) (mC (.int 1)))) mNoPart))
theorem step_1 {b : List O} {scr w : _} {n o t s e c p : D} {u2 u4 : Option O} {k : RS → Prop} (hb : BagIs b) (hr : RowD w n o t s e c p) (h : ∀ (b' : List O) (d : D), BagIs b' → Dep 3 d → k (.nx [scr, some (.L b'), u2, some (.f (rowOf w d o t s e c p)), u4, some (.f (.int 1))])) :
    WS (mAsg changeE (gmName 3) [scr, some (.L b), u2, some (.f (rowOf w n o t s e c p)), u4, some (.f (.int 1))]) k := by
  unfold changeE
  with_reducible refine MR.w_asgN ?_
  with_reducible refine MR.e_op2 ?_
  with_reducible refine MR.e_op2 ?_
  with_reducible refine MR.e_sl ?_
  (with_reducible apply MR.e_fzv); (focus exact rfl)
  with_reducible refine MR.e_noPart ?_
  with_reducible refine MR.e_part ?_
  (with_reducible apply MR.e_pk); (focus exact rfl)
  with_reducible refine MR.x_int ?_
  refine x_some (d := .f (.tup [.str w])) rfl ?_
  with_reducible refine MR.e_tup ?_
  with_reducible refine MR.e_cons ?_
  walk_at "mv"
  refine f_noX (bad_run hb hr.2.2.2.2.1 (by decide) fun d b1 hd hb1 => ?_)
  simp only [putA, List.set]
  walk_at "mv"
  exact h b1 d hb1 hd
theorem step_2 {b : List O} {scr w : _} {n o t s e c p : D} {u2 u4 : Option O} {k : RS → Prop} (hb : BagIs b) (hr : RowD w n o t s e c p) (h : ∀ (b' : List O) (d : D), BagIs b' → Dep 3 d → k (.nx [scr, some (.L b'), u2, some (.f (rowOf w n d t s e c p)), u4, some (.f (.int 2))])) :
    WS (mAsg changeE (gmName 3) [scr, some (.L b), u2, some (.f (rowOf w n o t s e c p)), u4, some (.f (.int 2))]) k := by
  unfold changeE
  with_reducible refine MR.w_asgN ?_
  with_reducible refine MR.e_op2 ?_
  with_reducible refine MR.e_op2 ?_
  with_reducible refine MR.e_sl ?_
  (with_reducible apply MR.e_fzv); (focus exact rfl)
  with_reducible refine MR.e_noPart ?_
  with_reducible refine MR.e_part ?_
  (with_reducible apply MR.e_pk); (focus exact rfl)
  with_reducible refine MR.x_int ?_
  refine x_some (d := .f (.tup [.str w, n])) rfl ?_
  with_reducible refine MR.e_tup ?_
  with_reducible refine MR.e_cons ?_
  walk_at "mv"
  refine f_noX (bad_run hb hr.2.2.2.2.1 (by decide) fun d b1 hd hb1 => ?_)
  simp only [putA, List.set]
  walk_at "mv"
  exact h b1 d hb1 hd
theorem step_3 {b : List O} {scr w : _} {n o t s e c p : D} {u2 u4 : Option O} {k : RS → Prop} (hb : BagIs b) (hr : RowD w n o t s e c p) (h : ∀ (b' : List O) (d : D), BagIs b' → Dep 3 d → k (.nx [scr, some (.L b'), u2, some (.f (rowOf w n o d s e c p)), u4, some (.f (.int 3))])) :
    WS (mAsg changeE (gmName 3) [scr, some (.L b), u2, some (.f (rowOf w n o t s e c p)), u4, some (.f (.int 3))]) k := by
  unfold changeE
  with_reducible refine MR.w_asgN ?_
  with_reducible refine MR.e_op2 ?_
  with_reducible refine MR.e_op2 ?_
  with_reducible refine MR.e_sl ?_
  (with_reducible apply MR.e_fzv); (focus exact rfl)
  with_reducible refine MR.e_noPart ?_
  with_reducible refine MR.e_part ?_
  (with_reducible apply MR.e_pk); (focus exact rfl)
  with_reducible refine MR.x_int ?_
  refine x_some (d := .f (.tup [.str w, n, o])) rfl ?_
  with_reducible refine MR.e_tup ?_
  with_reducible refine MR.e_cons ?_
  walk_at "mv"
  refine f_noX (bad_run hb hr.2.2.2.2.1 (by decide) fun d b1 hd hb1 => ?_)
  simp only [putA, List.set]
  walk_at "mv"
  exact h b1 d hb1 hd
theorem step_4 {b : List O} {scr w : _} {n o t s e c p : D} {u2 u4 : Option O} {k : RS → Prop} (hb : BagIs b) (hr : RowD w n o t s e c p) (h : ∀ (b' : List O) (d : D), BagIs b' → Dep 3 d → k (.nx [scr, some (.L b'), u2, some (.f (rowOf w n o t d e c p)), u4, some (.f (.int 4))])) :
    WS (mAsg changeE (gmName 3) [scr, some (.L b), u2, some (.f (rowOf w n o t s e c p)), u4, some (.f (.int 4))]) k := by
  unfold changeE
  with_reducible refine MR.w_asgN ?_
  with_reducible refine MR.e_op2 ?_
  with_reducible refine MR.e_op2 ?_
  with_reducible refine MR.e_sl ?_
  (with_reducible apply MR.e_fzv); (focus exact rfl)
  with_reducible refine MR.e_noPart ?_
  with_reducible refine MR.e_part ?_
  (with_reducible apply MR.e_pk); (focus exact rfl)
  with_reducible refine MR.x_int ?_
  refine x_some (d := .f (.tup [.str w, n, o, t])) rfl ?_
  with_reducible refine MR.e_tup ?_
  with_reducible refine MR.e_cons ?_
  walk_at "mv"
  refine f_noX (bad_run hb hr.2.2.2.2.1 (by decide) fun d b1 hd hb1 => ?_)
  simp only [putA, List.set]
  walk_at "mv"
  exact h b1 d hb1 hd
theorem step_5 {b : List O} {scr w : _} {n o t s e c p : D} {u2 u4 : Option O} {k : RS → Prop} (hb : BagIs b) (hr : RowD w n o t s e c p) (h : ∀ (b' : List O) (d : D), BagIs b' → Dep 3 d → k (.nx [scr, some (.L b'), u2, some (.f (rowOf w n o t s d c p)), u4, some (.f (.int 5))])) :
    WS (mAsg changeE (gmName 3) [scr, some (.L b), u2, some (.f (rowOf w n o t s e c p)), u4, some (.f (.int 5))]) k := by
  unfold changeE
  with_reducible refine MR.w_asgN ?_
  with_reducible refine MR.e_op2 ?_
  with_reducible refine MR.e_op2 ?_
  with_reducible refine MR.e_sl ?_
  (with_reducible apply MR.e_fzv); (focus exact rfl)
  with_reducible refine MR.e_noPart ?_
  with_reducible refine MR.e_part ?_
  (with_reducible apply MR.e_pk); (focus exact rfl)
  with_reducible refine MR.x_int ?_
  refine x_some (d := .f (.tup [.str w, n, o, t, s])) rfl ?_
  with_reducible refine MR.e_tup ?_
  with_reducible refine MR.e_cons ?_
  walk_at "mv"
  refine f_noX (bad_run hb hr.2.2.2.2.1 (by decide) fun d b1 hd hb1 => ?_)
  simp only [putA, List.set]
  walk_at "mv"
  exact h b1 d hb1 hd
theorem step_6 {b : List O} {scr w : _} {n o t s e c p : D} {u2 u4 : Option O} {k : RS → Prop} (hb : BagIs b) (hr : RowD w n o t s e c p) (h : ∀ (b' : List O) (d : D), BagIs b' → Dep 3 d → k (.nx [scr, some (.L b'), u2, some (.f (rowOf w n o t s e d p)), u4, some (.f (.int 6))])) :
    WS (mAsg changeE (gmName 3) [scr, some (.L b), u2, some (.f (rowOf w n o t s e c p)), u4, some (.f (.int 6))]) k := by
  unfold changeE
  with_reducible refine MR.w_asgN ?_
  with_reducible refine MR.e_op2 ?_
  with_reducible refine MR.e_op2 ?_
  with_reducible refine MR.e_sl ?_
  (with_reducible apply MR.e_fzv); (focus exact rfl)
  with_reducible refine MR.e_noPart ?_
  with_reducible refine MR.e_part ?_
  (with_reducible apply MR.e_pk); (focus exact rfl)
  with_reducible refine MR.x_int ?_
  refine x_some (d := .f (.tup [.str w, n, o, t, s, e])) rfl ?_
  with_reducible refine MR.e_tup ?_
  with_reducible refine MR.e_cons ?_
  walk_at "mv"
  refine f_noX (bad_run hb hr.2.2.2.2.1 (by decide) fun d b1 hd hb1 => ?_)
  simp only [putA, List.set]
  walk_at "mv"
  exact h b1 d hb1 hd
theorem step_7 {b : List O} {scr w : _} {n o t s e c p : D} {u2 u4 : Option O} {k : RS → Prop} (hb : BagIs b) (hr : RowD w n o t s e c p) (h : ∀ (b' : List O) (d : D), BagIs b' → Dep 3 d → k (.nx [scr, some (.L b'), u2, some (.f (rowOf w n o t s e c d)), u4, some (.f (.int 7))])) :
    WS (mAsg changeE (gmName 3) [scr, some (.L b), u2, some (.f (rowOf w n o t s e c p)), u4, some (.f (.int 7))]) k := by
  unfold changeE
  with_reducible refine MR.w_asgN ?_
  with_reducible refine MR.e_op2 ?_
  with_reducible refine MR.e_op2 ?_
  with_reducible refine MR.e_sl ?_
  (with_reducible apply MR.e_fzv); (focus exact rfl)
  with_reducible refine MR.e_noPart ?_
  with_reducible refine MR.e_part ?_
  (with_reducible apply MR.e_pk); (focus exact rfl)
  with_reducible refine MR.x_int ?_
  refine x_some (d := .f (.tup [.str w, n, o, t, s, e, c])) rfl ?_
  with_reducible refine MR.e_tup ?_
  with_reducible refine MR.e_cons ?_
  walk_at "mv"
  refine f_noX (bad_run hb hr.2.2.2.2.1 (by decide) fun d b1 hd hb1 => ?_)
  simp only [putA, List.set]
  walk_at "mv"
  exact h b1 d hb1 hd
theorem asked_run {b : List O} {w : Str} {n o t s e c p : D} {Q : O → List O → Prop} {X : Xc → List O → Prop} (hb : BagIs b) (hw : w = "work" ∨ w = "hire") (h : ∀ b', BagIs b' → Q (.f (tell (rowErr w n o t s e c p))) [.L b', .f (rowOf w n o t s e c p)]) : WF (m__law_asked [.L b, .f (rowOf w n o t s e c p)]) Q X := by
  rcases hw with rfl | rfl
  · exact asked_work hb h
  · exact asked_hire hb h
theorem due_run {w : Str} {n o t s e c p : D} (hr : RowD w n o t s e c p) : m__law_due [.f (rowOf w n o t s e c p)] = .ok (.f (tell (rowErr w n o t s e c p))) [.f (rowOf w n o t s e c p)] := by
  obtain ⟨hw, h1, h2, h3, h4, h5, h6, h7⟩ := hr
  rcases hw with rfl | rfl
  · exact due_work n o t s e c p h4 h5
  · exact due_hire n o t s e c p h5
theorem err_dep {w : Str} {n o t s e c p : D} (hr : RowD w n o t s e c p) : Dep 4 (tell (rowErr w n o t s e c p)) := by
  obtain ⟨hw, h1, h2, h3, h4, h5, h6, h7⟩ := hr
  have one : ∀ (x : Str) (d : D), Dep 3 d → Dep 4 (tell (some (x, d))) := fun x d hd => .tup (by simp) (by simp [Dep.str, hd])
  have no : Dep 4 (tell none) := .tup (by simp) (by simp)
  unfold rowErr
  split
  · unfold workErr
    repeat' split
    all_goals first | exact no | (apply one; assumption)
  · unfold hireErr
    repeat' split
    all_goals first | exact no | (apply one; assumption)
end K07


namespace K07
open PySem PySem.Spec PyProof.Rows L2 SW MR MPkg MLawA
def checkS : MS := (mIfS (mNot (mTru truD (mCallP (noX (m__law_same 11)) (mCons (mCall (noX m__law_asked) (mConS 1 (mCons (mFzv 3) mNil))) (mCons (mCallP (noX m__law_due) (mCons (mFzv 3) mNil)) mNil))))) (mRet (mC (.bl false))) mNext)
def innerBody : MS := (mSeq (mAsg (mCall (noX m__law_of) (mConS 1 (mCons (mOp2 gAdd (mLstW (wCons (mC (.int 1)) (wCons (mC (.int 2)) (wCons (mC (.int 3)) (wCons (mC (.int 5)) (wCons (mC (.int 5)) (wCons (mC (.int 6)) (wCons (mC (.int 7)) wNil)))))))) (mIf (mTest (mOp2R gEq (mIx (mPk 3) (mC (.int 0))) (mC (.str "work")))) (mLstW (wCons (mC (.int 4)) (wCons (mC (.int 4)) wNil))) (mLstW wNil))) mNil))) (gmName 5)) (mSeq (mAsg changeE (gmName 3)) checkS))
def goodCheck : MS := (mIfS (mNot (mTru truD (mCallP (noX (m__law_same 11)) (mCons (mCall (noX m__law_asked) (mConS 1 (mCons (mFzv 3) mNil))) (mCons (mTup mNil) mNil))))) (mRet (mC (.bl false))) mNext)
def outerBody : MS := (mSeq (mAsg (mCall (noX m__law_good) (mConS 1 (mCons (mCall (noX m__law_names) (mDfl [.int 6] (mConS 1 (mCons (mC (.int 3)) mNil)))) mNil))) (gmName 3)) (mSeq goodCheck (mFor (mRng1 (mCons (mOp2 gAdd (mC (.int 1)) (mCall (noX m__law_take) (mConS 1 (mCons (mC (.int 4)) mNil)))) mNil)) (gmName 4) innerBody)))
theorem check_run {b : List O} {scr : O} {w : Str} {n o t s e c p : D} {u2 u4 u5 : Option O} {k : RS → Prop} (hb : BagIs b) (hr : RowD w n o t s e c p) (h : ∀ b', BagIs b' → k (.nx [some scr, some (.L b'), u2, some (.f (rowOf w n o t s e c p)), u4, u5])) :
    WS (checkS [some scr, some (.L b), u2, some (.f (rowOf w n o t s e c p)), u4, u5]) k := by
  unfold checkS
  have hS := same_refl 11 _ ((err_dep hr).le (show 4 ≤ 11 by decide))
  generalize m__law_same 11 = S at hS ⊢
  with_reducible refine MR.w_ifS ?_
  with_reducible refine MR.e_not ?_
  with_reducible refine MR.e_tru ?_
  with_reducible refine MR.e_callP ?_
  with_reducible refine MR.e_cons ?_
  with_reducible refine MR.e_call ?_
  (with_reducible apply MR.e_conS); (focus exact rfl)
  with_reducible refine MR.e_cons ?_
  (with_reducible apply MR.e_fzv); (focus exact rfl)
  with_reducible refine MR.e_nil ?_
  (with_reducible apply MR.x_take); (focus exact rfl)
  refine f_noX (asked_run hb hr.1 fun b1 hb1 => ?_)
  simp only [putA, List.set]
  with_reducible refine MR.e_cons ?_
  with_reducible refine MR.e_callP ?_
  with_reducible refine MR.e_cons ?_
  (with_reducible apply MR.e_fzv); (focus exact rfl)
  with_reducible refine MR.e_nil ?_
  (with_reducible apply MR.x_some); (focus exact rfl)
  refine f_noX (wf_of (due_run hr) ?_)
  with_reducible refine MR.e_nil ?_
  (with_reducible apply MR.x_some); (focus exact rfl)
  refine f_noX (wf_of hS ?_)
  (with_reducible apply MR.x_some); (focus exact rfl)
  (with_reducible apply MR.w_cF); (focus exact rfl)
  with_reducible refine MR.w_next ?_
  exact h b1 hb1
def InnerI (scr : O) (u2 : Option O) : List D → MR.Env → Prop := fun _ ρ => ∃ (b : List O) (w : Str) (n o t s e c p : D) (u4 u5 : Option O), BagIs b ∧ RowD w n o t s e c p ∧ ρ = [some scr, some (.L b), u2, some (.f (rowOf w n o t s e c p)), u4, u5]
theorem pick {scr : O} {u2 : Option O} {ds : List D} {k : RS → Prop} {w : Str} {n o t s e c p d : D} {b1 : List O} {i : Int} (hb1 : BagIs b1) (hr : RowD w n o t s e c p) (hi : i = 1 ∨ i = 2 ∨ i = 3 ∨ i = 4 ∨ i = 5 ∨ i = 6 ∨ i = 7) : WS (mSeq (mAsg changeE (gmName 3)) checkS [some scr, some (.L b1), u2, some (.f (rowOf w n o t s e c p)), some (.f d), some (.f (.int i))]) (kInv (InnerI scr u2) ds k) := by
      obtain ⟨hw, h1, h2, h3, h4, h5, h6, h7⟩ := hr
      with_reducible refine MR.w_seq ?_
      rcases hi with rfl | rfl | rfl | rfl | rfl | rfl | rfl
      · refine step_1 hb1 ⟨hw, h1, h2, h3, h4, h5, h6, h7⟩ fun b2 x hb2 hx => ?_
        with_reducible refine MR.k_nx ?_
        refine check_run hb2 ⟨hw, hx, h2, h3, h4, h5, h6, h7⟩ fun b3 hb3 => ?_
        with_reducible refine MR.ki_nx ?_
        exact ⟨b3, w, x, o, t, s, e, c, p, some (.f d), some (.f (.int 1)), hb3, ⟨hw, hx, h2, h3, h4, h5, h6, h7⟩, rfl⟩
      · refine step_2 hb1 ⟨hw, h1, h2, h3, h4, h5, h6, h7⟩ fun b2 x hb2 hx => ?_
        with_reducible refine MR.k_nx ?_
        refine check_run hb2 ⟨hw, h1, hx, h3, h4, h5, h6, h7⟩ fun b3 hb3 => ?_
        with_reducible refine MR.ki_nx ?_
        exact ⟨b3, w, n, x, t, s, e, c, p, some (.f d), some (.f (.int 2)), hb3, ⟨hw, h1, hx, h3, h4, h5, h6, h7⟩, rfl⟩
      · refine step_3 hb1 ⟨hw, h1, h2, h3, h4, h5, h6, h7⟩ fun b2 x hb2 hx => ?_
        with_reducible refine MR.k_nx ?_
        refine check_run hb2 ⟨hw, h1, h2, hx, h4, h5, h6, h7⟩ fun b3 hb3 => ?_
        with_reducible refine MR.ki_nx ?_
        exact ⟨b3, w, n, o, x, s, e, c, p, some (.f d), some (.f (.int 3)), hb3, ⟨hw, h1, h2, hx, h4, h5, h6, h7⟩, rfl⟩
      · refine step_4 hb1 ⟨hw, h1, h2, h3, h4, h5, h6, h7⟩ fun b2 x hb2 hx => ?_
        with_reducible refine MR.k_nx ?_
        refine check_run hb2 ⟨hw, h1, h2, h3, hx, h5, h6, h7⟩ fun b3 hb3 => ?_
        with_reducible refine MR.ki_nx ?_
        exact ⟨b3, w, n, o, t, x, e, c, p, some (.f d), some (.f (.int 4)), hb3, ⟨hw, h1, h2, h3, hx, h5, h6, h7⟩, rfl⟩
      · refine step_5 hb1 ⟨hw, h1, h2, h3, h4, h5, h6, h7⟩ fun b2 x hb2 hx => ?_
        with_reducible refine MR.k_nx ?_
        refine check_run hb2 ⟨hw, h1, h2, h3, h4, hx, h6, h7⟩ fun b3 hb3 => ?_
        with_reducible refine MR.ki_nx ?_
        exact ⟨b3, w, n, o, t, s, x, c, p, some (.f d), some (.f (.int 5)), hb3, ⟨hw, h1, h2, h3, h4, hx, h6, h7⟩, rfl⟩
      · refine step_6 hb1 ⟨hw, h1, h2, h3, h4, h5, h6, h7⟩ fun b2 x hb2 hx => ?_
        with_reducible refine MR.k_nx ?_
        refine check_run hb2 ⟨hw, h1, h2, h3, h4, h5, hx, h7⟩ fun b3 hb3 => ?_
        with_reducible refine MR.ki_nx ?_
        exact ⟨b3, w, n, o, t, s, e, x, p, some (.f d), some (.f (.int 6)), hb3, ⟨hw, h1, h2, h3, h4, h5, hx, h7⟩, rfl⟩
      · refine step_7 hb1 ⟨hw, h1, h2, h3, h4, h5, h6, h7⟩ fun b2 x hb2 hx => ?_
        with_reducible refine MR.k_nx ?_
        refine check_run hb2 ⟨hw, h1, h2, h3, h4, h5, h6, hx⟩ fun b3 hb3 => ?_
        with_reducible refine MR.ki_nx ?_
        exact ⟨b3, w, n, o, t, s, e, c, x, some (.f d), some (.f (.int 7)), hb3, ⟨hw, h1, h2, h3, h4, h5, h6, hx⟩, rfl⟩
theorem inner_run {scr : O} {u2 : Option O} {k : RS → Prop} (h : ∀ b w n o t s e c p u4 u5, BagIs b → RowD w n o t s e c p → k (.nx [some scr, some (.L b), u2, some (.f (rowOf w n o t s e c p)), u4, u5])) :
    ∀ (ds : List D) (ρ : MR.Env), InnerI scr u2 ds ρ → WS (loopF (gmName 4) innerBody ds ρ) k := by
  refine loop_inv2 (InnerI scr u2) ?_ ?_
  · rintro d ds ρ ⟨b, w, n, o, t, s, e, c, p, u4, u5, hb, hr, rfl⟩
    refine ⟨[some scr, some (.L b), u2, some (.f (rowOf w n o t s e c p)), some (.f d), u5], rfl, ?_⟩
    unfold innerBody
    have hw := hr.1
    rcases hw with rfl | rfl
    · with_reducible refine MR.w_seq ?_
      walk_at "mv"
      rw [fzA_f']
      refine f_noX (of_run hb (by simp [O.fzA]) (by simp [O.fzA]) fun x hx b1 hb1 => ?_)
      obtain ⟨i, rfl, hi⟩ : ∃ i : Int, x = .int i ∧ (i = 1 ∨ i = 2 ∨ i = 3 ∨ i = 4 ∨ i = 5 ∨ i = 6 ∨ i = 7) := by
        simp [O.fzA, O.fz] at hx
        rcases hx with rfl | rfl | rfl | rfl | rfl | rfl | rfl <;> exact ⟨_, rfl, by decide⟩
      simp only [putA, List.set]
      with_reducible refine MR.k_nx ?_
      exact pick hb1 hr hi
    · with_reducible refine MR.w_seq ?_
      walk_at "mv"
      rw [fzA_f']
      refine f_noX (of_run hb (by simp [O.fzA]) (by simp [O.fzA]) fun x hx b1 hb1 => ?_)
      obtain ⟨i, rfl, hi⟩ : ∃ i : Int, x = .int i ∧ (i = 1 ∨ i = 2 ∨ i = 3 ∨ i = 4 ∨ i = 5 ∨ i = 6 ∨ i = 7) := by
        simp [O.fzA, O.fz] at hx
        rcases hx with rfl | rfl | rfl | rfl | rfl | rfl <;> exact ⟨_, rfl, by decide⟩
      simp only [putA, List.set]
      with_reducible refine MR.k_nx ?_
      exact pick hb1 hr hi
  · rintro ρ ⟨b, w, n, o, t, s, e, c, p, u4, u5, hb, hr, rfl⟩
    exact h b w n o t s e c p u4 u5 hb hr
theorem fzA_n : ∀ xs : List Str, O.fzA (xs.map nO) = xs.map D.str
  | [] => rfl
  | x :: xs => by rw [List.map_cons, O.fzA, fzA_n xs]; rfl
theorem outer_run {scr : O} {k : RS → Prop} (h : ∀ b u2 u3 u4 u5, BagIs b → k (.nx [some scr, some (.L b), u2, u3, u4, u5])) :
    ∀ (ds : List D) (ρ : MR.Env), (∃ (b : List O) (u2 u3 u4 u5 : Option O), BagIs b ∧ ρ = [some scr, some (.L b), u2, u3, u4, u5]) → WS (loopF (gmName 2) outerBody ds ρ) k := by
  refine loop_inv2 _ ?_ ?_
  · rintro d ds ρ ⟨b, u2, u3, u4, u5, hb, rfl⟩
    refine ⟨[some scr, some (.L b), some (.f d), u3, u4, u5], rfl, ?_⟩
    unfold outerBody
    walk_at "mv"
    refine f_noX (names_run (n := 3) hb (by decide) fun xs b1 hxs hn hb1 => ?_)
    simp only [putA, List.set]
    walk_at "mv"
    rw [fzA_n]
    refine f_noX (good_run hb1 hxs hn fun w n o t s e c p b2 hr he hb2 => ?_)
    simp only [putA, List.set, List.map, List.cons_append, List.nil_append]
    with_reducible refine MR.k_nx ?_
    unfold goodCheck
    have hS := same_refl 11 (.tup []) (.tup (by simp) (by simp))
    generalize m__law_same 11 = S at hS ⊢
    with_reducible refine MR.w_seq ?_
    with_reducible refine MR.w_ifS ?_
    with_reducible refine MR.e_not ?_
    with_reducible refine MR.e_tru ?_
    with_reducible refine MR.e_callP ?_
    with_reducible refine MR.e_cons ?_
    with_reducible refine MR.e_call ?_
    (with_reducible apply MR.e_conS); (focus exact rfl)
    with_reducible refine MR.e_cons ?_
    (with_reducible apply MR.e_fzv); (focus exact rfl)
    with_reducible refine MR.e_nil ?_
    (with_reducible apply MR.x_take); (focus exact rfl)
    refine f_noX (asked_run hb2 hr.1 fun b3 hb3 => ?_)
    rw [he]
    simp only [putA, List.set]
    with_reducible refine MR.e_cons ?_
    with_reducible refine MR.e_tup ?_
    with_reducible refine MR.e_nil ?_
    refine x_len (ds := []) rfl (Nat.zero_le _) ?_
    with_reducible refine MR.e_nil ?_
    (with_reducible apply MR.x_some); (focus exact rfl)
    refine f_noX (wf_of hS ?_)
    (with_reducible apply MR.x_some); (focus exact rfl)
    (with_reducible apply MR.w_cF); (focus exact rfl)
    with_reducible refine MR.w_next ?_
    with_reducible refine MR.k_nx ?_
    walk_at "mv"
    refine f_noX (take_run hb3 (by decide) (by decide) fun i b4 hi hi2 hb4 => ?_)
    simp only [putA, List.set]
    walk_at "mv"
    refine inner_run (fun b w n o t s e c p u4 u5 hb hr => ?_) _ _ ⟨b4, w, n, o, t, s, e, c, p, _, _, hb4, hr, rfl⟩
    exact ⟨b, _, _, _, _, hb, rfl⟩
  · rintro ρ ⟨b, u2, u3, u4, u5, hb, rfl⟩
    exact h b u2 u3 u4 u5 hb
theorem main : ∀ ns : List Int, ns.length ≤ 63 → ∃ os, m_law [.f (.kl (ns.map D.int))] = .ok (.f (.bl true)) os := by
  intro ns hl
  have w : WF (m_law [.f (.kl (ns.map D.int))]) (fun o os => o = .f (.bl true)) F0 := by
    walk_at "m0"
    show WS (mSeq _ (mSeq (mFor _ _ outerBody) _) _) _
    walk_at "mv"
    refine f_noX (bag_run (fun b hb os => ?_) hl)
    simp only [List.set]
    with_reducible refine MR.k_nx ?_
    with_reducible refine MR.w_seq ?_
    walk_at "mv"
    refine outer_run (fun b u2 u3 u4 u5 hb => ?_) _ _ ⟨b, _, _, _, _, hb, rfl⟩
    walk_at "mv"
  have w := w.out
  cases e : m_law [.f (.kl (ns.map D.int))] with
  | ok o os =>
    rw [e] at w
    have w : o = .f (.bl true) := w
    rw [w]
    exact ⟨os, rfl⟩
  | ex x os => rw [e] at w; exact w.elim
  | bad => rw [e] at w; exact w.elim
end K07

namespace K07
open PySem PySem.Spec PyProof.Rows L2 SW MR
def top (i : Nat) : Stmt := PySem.Challenge.pw_standworth_k07_askings_refused.main.body.getD i (.Pass ⟨0, 0, 0, 0⟩)
def dd (x : Str) (i : Nat) (dfl : List He.Dv := []) : He.DefD := ⟨(x, none), x, x, defArgs (top i), defBody (top i), defScope (top i), dfl, []⟩
def dm (c m q : Str) (i j : Nat) (kwd : List (Str × He.Dv) := []) : He.DefD := ⟨(c, some m), m, q, defArgs (inClass (top i) j), defBody (inClass (top i) j), defScope (inClass (top i) j), [], kwd⟩
def fn : List He.DefD := ([dd "is_whole" 11, dd "is_number" 12, dd "is_name" 13, dd "is_standing" 14, dd "need_names" 19, dd "need_terms" 20, dd "need_rank" 21, dm "Asking" "__init__" "Asking.__init__" 22 0, dd "_law_bag" 26, dd "_law_take" 27, dd "_law_of" 28, dd "_law_same" 29] : List He.DefD) ++ ([dd "_law_names" 30 [.int 6], dd "_law_parts" 31, dd "_law_try" 32, dd "_law_why" 33, dd "_law_is_count" 34, dd "_law_is_call" 35, dd "_law_is_spot" 36, dd "_law_due" 37, dd "_law_good" 38, dd "_law_bad" 39, dd "_law_asked" 40, dd "law" 41] : List He.DefD)
def su : List He.DefD := ([dm "InvalidName" "__init__" "InvalidName.__init__" 4 0, dm "InvalidNumber" "__init__" "InvalidNumber.__init__" 5 0, dm "InvalidStanding" "__init__" "InvalidStanding.__init__" 6 0, dm "Work" "__init__" "Work.__init__" 23 0 [("rank", .int 0)], dm "Hire" "__init__" "Hire.__init__" 24 0 [("rank", .int 0)]] : List He.DefD)
def fa : List He.Fa := ([.glo "is_whole", .glo "is_number", .glo "is_name", .glo "is_standing", .glo "need_names", .glo "need_terms", .glo "need_rank", .glo "_law_bag", .glo "_law_take", .glo "_law_of", .glo "_law_same", .glo "_law_names"] : List He.Fa) ++ ([.glo "_law_parts", .glo "_law_try", .glo "_law_why", .glo "_law_is_count", .glo "_law_is_call", .glo "_law_is_spot", .glo "_law_due", .glo "_law_good", .glo "_law_bad", .glo "_law_asked", .glo "law", .glo "Work"] : List He.Fa) ++ ([.glo "Hire", .glo "InvalidName", .glo "InvalidNumber", .glo "InvalidStanding", .glo "StandError", .glo "Missing", .str "SMALL" "abcdefghijklmnopqrstuvwxyz", .int "MAX_NAME" 6, .int "MAX_HOUR" 8, .int "MAX_CREWS" 99, .int "MAX_PRICE" 999, .int "MAX_RANK" 99] : List He.Fa) ++ ([.free "super", .free "isinstance", .free "int", .free "bool", .free "all", .free "str", .free "len", .free "tuple", .free "list", .free "dict", .free "range"] : List He.Fa)
def lms : List (Str × Str) := [("_law_asked", "_law_asked.<locals>.<lambda>")]
def tabs (K : PySem.W.Frag) : List (Addr × Str) := tabsOf lms K
def lmk : List (Str × Option Str) := lms.map fun q => (q.1, none)
def exs (K : PySem.W.Frag) : List Bool := [xoB K (He.ga K "InvalidName") ["value", "code"] (.ref (He.ga K "StandError")) (.ref (He.ga K "Missing")),
  xoB K (He.ga K "InvalidNumber") ["value", "code"] (.ref (He.ga K "StandError")) (.ref (He.ga K "Missing")),
  xoB K (He.ga K "InvalidStanding") ["value", "code"] (.ref (He.ga K "StandError")) (.ref (He.ga K "Missing")),
  coB K (He.ga K "Work") ["start", "end", "key", "fee", "begins", "name", "owner", "crews", "price", "rank"],
  smB K (He.ga K "Work") "__init__" (He.fAd K ("Asking", some "__init__")),
  coB K (He.ga K "Hire") ["start", "end", "key", "fee", "begins", "name", "owner", "crews", "price", "rank"],
  smB K (He.ga K "Hire") "__init__" (He.fAd K ("Asking", some "__init__")),
  distB lms K,
  ((codeAt K ("_law_asked", none)).bind fun c => K.lookup c).isSome,
  insB K "Work",
  insB K "Hire",
  excB K "InvalidName",
  excB K "InvalidNumber",
  excB K "InvalidStanding"]
def ex (K : PySem.W.Frag) : Bool := (exs K).all id
abbrev R : PySem.W.OpenRow := PySem.W.OpenLaw.row PySem.Challenge.rw_standworth_k07_askings_refused
abbrev hk : PySem.W.Hook := hookZ 5 "/claim/cut.py" fa fn ex su lmk
def ob (s : PySem.W.SharedT) : AlZ := obsZG 5 "/claim/cut.py" fa fn ex su lmk (HandSHeadRun.getT s)
theorem ob_eq (s : PySem.W.SharedT) : ob s = hk.obs s.abs := obsZG_eq (HandSHeadRun.getT_eq s)
def loose : List Str := (["_wall", "__name__", "StandError", "Missing", "InvalidName", "InvalidNumber", "InvalidStanding", "SMALL", "MAX_NAME", "MAX_HOUR", "is_whole", "is_number"] : List Str) ++ (["is_name", "is_standing", "MAX_CREWS", "MAX_PRICE", "MAX_RANK", "need_names", "need_terms", "need_rank", "Asking", "Work", "Hire", "_law_bag"] : List Str) ++ (["_law_take", "_law_of", "_law_same", "_law_names", "_law_parts", "_law_try", "_law_why", "_law_is_count", "_law_is_call", "_law_is_spot", "_law_due", "_law_good"] : List Str) ++ (["_law_bad", "_law_asked"] : List Str)
theorem run (w : World) : HandSHeadRun.RunEq R (PySem.W.view R.prog [41]) hk ob 4000 loose w := by
  intro os
  kernel_rfl
theorem mt__law_asked (K : PySem.W.Frag) : (tabAt K ("_law_asked", none), (("_law_asked" : Str) ++ ".<locals>.") ++ "<lambda>") ∈ tabs K :=
  List.mem_map.mpr ⟨("_law_asked", "_law_asked.<locals>.<lambda>"), by decide +kernel, by rw [show (("_law_asked" : Str) ++ ".<locals>.") ++ "<lambda>" = ("_law_asked.<locals>.<lambda>" : Str) from by decide +kernel]⟩
namespace KB
def g_Hire___init___1_rank_price_crews_end_owner_name {α : Type} (us ws : List α) : List α := (((us.drop 0).take 1) ++ (((ws.drop 5).take 1) ++ (((ws.drop 4).take 1) ++ (((ws.drop 3).take 1) ++ (((ws.drop 2).take 1) ++ (((ws.drop 1).take 1) ++ ((ws.drop 0).take 1)))))))
def g_Hire___init___6_rank {α : Type} (us ws : List α) : List α := (((us.drop 0).take 1) ++ (((us.drop 1).take 1) ++ (((us.drop 2).take 1) ++ (((us.drop 3).take 1) ++ (((us.drop 4).take 1) ++ (((us.drop 5).take 1) ++ ((ws.drop 0).take 1)))))))
def g_Work___init___1_rank_price_crews_end_start_owner_name {α : Type} (us ws : List α) : List α := (((us.drop 0).take 1) ++ (((ws.drop 6).take 1) ++ (((ws.drop 5).take 1) ++ (((ws.drop 4).take 1) ++ (((ws.drop 3).take 1) ++ (((ws.drop 2).take 1) ++ (((ws.drop 1).take 1) ++ ((ws.drop 0).take 1))))))))
def g_Work___init___7_rank {α : Type} (us ws : List α) : List α := (((us.drop 0).take 1) ++ (((us.drop 1).take 1) ++ (((us.drop 2).take 1) ++ (((us.drop 3).take 1) ++ (((us.drop 4).take 1) ++ (((us.drop 5).take 1) ++ (((us.drop 6).take 1) ++ ((ws.drop 0).take 1))))))))
end KB
structure Tx (K : PySem.W.Frag) (mg : Str → Option Value) where
  fd_InvalidName___init__ : FuncData
  F_InvalidName___init__ : FunS K "/claim/cut.py" "__init__" "InvalidName.__init__" (defArgs (inClass (top 4) 0)) (defBody (inClass (top 4) 0)) (defScope (inClass (top 4) 0)) [] [] (He.ga K "InvalidName") (He.fAd K ("InvalidName", some "__init__")) fd_InvalidName___init__
  B_InvalidName___init__ : Binds K fd_InvalidName___init__ ["self", "value"] []
  fd_InvalidNumber___init__ : FuncData
  F_InvalidNumber___init__ : FunS K "/claim/cut.py" "__init__" "InvalidNumber.__init__" (defArgs (inClass (top 5) 0)) (defBody (inClass (top 5) 0)) (defScope (inClass (top 5) 0)) [] [] (He.ga K "InvalidNumber") (He.fAd K ("InvalidNumber", some "__init__")) fd_InvalidNumber___init__
  B_InvalidNumber___init__ : Binds K fd_InvalidNumber___init__ ["self", "value"] []
  fd_InvalidStanding___init__ : FuncData
  F_InvalidStanding___init__ : FunS K "/claim/cut.py" "__init__" "InvalidStanding.__init__" (defArgs (inClass (top 6) 0)) (defBody (inClass (top 6) 0)) (defScope (inClass (top 6) 0)) [] [] (He.ga K "InvalidStanding") (He.fAd K ("InvalidStanding", some "__init__")) fd_InvalidStanding___init__
  B_InvalidStanding___init__ : Binds K fd_InvalidStanding___init__ ["self", "value"] []
  fd_is_whole : FuncData
  F_is_whole : FunD K "is_whole" "is_whole" (defArgs (top 11)) (defBody (top 11)) (defScope (top 11)) [] [] (He.ga K "is_whole") fd_is_whole
  B_is_whole : Binds K fd_is_whole ["value"] []
  fd_is_number : FuncData
  F_is_number : FunD K "is_number" "is_number" (defArgs (top 12)) (defBody (top 12)) (defScope (top 12)) [] [] (He.ga K "is_number") fd_is_number
  B_is_number : Binds K fd_is_number ["value", "least", "most"] []
  fd_is_name : FuncData
  F_is_name : FunD K "is_name" "is_name" (defArgs (top 13)) (defBody (top 13)) (defScope (top 13)) [] [] (He.ga K "is_name") fd_is_name
  B_is_name : Binds K fd_is_name ["value"] []
  fd_is_standing : FuncData
  F_is_standing : FunD K "is_standing" "is_standing" (defArgs (top 14)) (defBody (top 14)) (defScope (top 14)) [] [] (He.ga K "is_standing") fd_is_standing
  B_is_standing : Binds K fd_is_standing ["value"] []
  fd_need_names : FuncData
  F_need_names : FunD K "need_names" "need_names" (defArgs (top 19)) (defBody (top 19)) (defScope (top 19)) [] [] (He.ga K "need_names") fd_need_names
  B_need_names : Binds K fd_need_names ["name", "owner"] []
  fd_need_terms : FuncData
  F_need_terms : FunD K "need_terms" "need_terms" (defArgs (top 20)) (defBody (top 20)) (defScope (top 20)) [] [] (He.ga K "need_terms") fd_need_terms
  B_need_terms : Binds K fd_need_terms ["crews", "price"] []
  fd_need_rank : FuncData
  F_need_rank : FunD K "need_rank" "need_rank" (defArgs (top 21)) (defBody (top 21)) (defScope (top 21)) [] [] (He.ga K "need_rank") fd_need_rank
  B_need_rank : Binds K fd_need_rank ["rank"] []
  fd_Asking___init__ : FuncData
  F_Asking___init__ : FunD K "__init__" "Asking.__init__" (defArgs (inClass (top 22) 0)) (defBody (inClass (top 22) 0)) (defScope (inClass (top 22) 0)) [] [] (He.fAd K ("Asking", some "__init__")) fd_Asking___init__
  B_Asking___init__ : Binds K fd_Asking___init__ ["self", "name", "owner", "crews", "price", "rank"] []
  fd_Work___init__ : FuncData
  F_Work___init__ : FunS K "/claim/cut.py" "__init__" "Work.__init__" (defArgs (inClass (top 23) 0)) (defBody (inClass (top 23) 0)) (defScope (inClass (top 23) 0)) [] [("rank", .int 0)] (He.ga K "Work") (He.fAd K ("Work", some "__init__")) fd_Work___init__
  fd_Hire___init__ : FuncData
  F_Hire___init__ : FunS K "/claim/cut.py" "__init__" "Hire.__init__" (defArgs (inClass (top 24) 0)) (defBody (inClass (top 24) 0)) (defScope (inClass (top 24) 0)) [] [("rank", .int 0)] (He.ga K "Hire") (He.fAd K ("Hire", some "__init__")) fd_Hire___init__
  fd__law_bag : FuncData
  F__law_bag : FunD K "_law_bag" "_law_bag" (defArgs (top 26)) (defBody (top 26)) (defScope (top 26)) [] [] (He.ga K "_law_bag") fd__law_bag
  B__law_bag : Binds K fd__law_bag ["_law_script"] []
  fd__law_take : FuncData
  F__law_take : FunD K "_law_take" "_law_take" (defArgs (top 27)) (defBody (top 27)) (defScope (top 27)) [] [] (He.ga K "_law_take") fd__law_take
  B__law_take : Binds K fd__law_take ["_law_bag_here", "_law_size"] []
  fd__law_of : FuncData
  F__law_of : FunD K "_law_of" "_law_of" (defArgs (top 28)) (defBody (top 28)) (defScope (top 28)) [] [] (He.ga K "_law_of") fd__law_of
  B__law_of : Binds K fd__law_of ["_law_bag_here", "_law_some"] []
  fd__law_same : FuncData
  F__law_same : FunD K "_law_same" "_law_same" (defArgs (top 29)) (defBody (top 29)) (defScope (top 29)) [] [] (He.ga K "_law_same") fd__law_same
  B__law_same : Binds K fd__law_same ["_law_found", "_law_due_here"] []
  fd__law_names : FuncData
  F__law_names : FunD K "_law_names" "_law_names" (defArgs (top 30)) (defBody (top 30)) (defScope (top 30)) [.int 6] [] (He.ga K "_law_names") fd__law_names
  fd__law_parts : FuncData
  F__law_parts : FunD K "_law_parts" "_law_parts" (defArgs (top 31)) (defBody (top 31)) (defScope (top 31)) [] [] (He.ga K "_law_parts") fd__law_parts
  B__law_parts : Binds K fd__law_parts ["_law_e"] []
  fd__law_try : FuncData
  F__law_try : FunD K "_law_try" "_law_try" (defArgs (top 32)) (defBody (top 32)) (defScope (top 32)) [] [] (He.ga K "_law_try") fd__law_try
  B__law_try : Binds K fd__law_try ["_law_ask"] []
  fd__law_why : FuncData
  F__law_why : FunD K "_law_why" "_law_why" (defArgs (top 33)) (defBody (top 33)) (defScope (top 33)) [] [] (He.ga K "_law_why") fd__law_why
  B__law_why : Binds K fd__law_why ["_law_ask"] []
  fd__law_is_count : FuncData
  F__law_is_count : FunD K "_law_is_count" "_law_is_count" (defArgs (top 34)) (defBody (top 34)) (defScope (top 34)) [] [] (He.ga K "_law_is_count") fd__law_is_count
  B__law_is_count : Binds K fd__law_is_count ["_law_thing", "_law_low", "_law_high"] []
  fd__law_is_call : FuncData
  F__law_is_call : FunD K "_law_is_call" "_law_is_call" (defArgs (top 35)) (defBody (top 35)) (defScope (top 35)) [] [] (He.ga K "_law_is_call") fd__law_is_call
  B__law_is_call : Binds K fd__law_is_call ["_law_thing"] []
  fd__law_is_spot : FuncData
  F__law_is_spot : FunD K "_law_is_spot" "_law_is_spot" (defArgs (top 36)) (defBody (top 36)) (defScope (top 36)) [] [] (He.ga K "_law_is_spot") fd__law_is_spot
  B__law_is_spot : Binds K fd__law_is_spot ["_law_thing"] []
  fd__law_due : FuncData
  F__law_due : FunD K "_law_due" "_law_due" (defArgs (top 37)) (defBody (top 37)) (defScope (top 37)) [] [] (He.ga K "_law_due") fd__law_due
  B__law_due : Binds K fd__law_due ["_law_row"] []
  fd__law_good : FuncData
  F__law_good : FunD K "_law_good" "_law_good" (defArgs (top 38)) (defBody (top 38)) (defScope (top 38)) [] [] (He.ga K "_law_good") fd__law_good
  B__law_good : Binds K fd__law_good ["_law_bag_here", "_law_calls"] []
  fd__law_bad : FuncData
  F__law_bad : FunD K "_law_bad" "_law_bad" (defArgs (top 39)) (defBody (top 39)) (defScope (top 39)) [] [] (He.ga K "_law_bad") fd__law_bad
  B__law_bad : Binds K fd__law_bad ["_law_bag_here", "_law_row", "_law_at"] []
  fd__law_asked : FuncData
  F__law_asked : FunD K "_law_asked" "_law_asked" (defArgs (top 40)) (defBody (top 40)) (defScope (top 40)) [] [] (He.ga K "_law_asked") fd__law_asked
  B__law_asked : Binds K fd__law_asked ["_law_bag_here", "_law_row"] []
  fd_law : FuncData
  F_law : FunD K "law" "law" (defArgs (top 41)) (defBody (top 41)) (defScope (top 41)) [] [] (He.ga K "law") fd_law
  g_is_whole : mg "is_whole" = some (.ref (He.ga K "is_whole"))
  g_is_number : mg "is_number" = some (.ref (He.ga K "is_number"))
  g_is_name : mg "is_name" = some (.ref (He.ga K "is_name"))
  g_is_standing : mg "is_standing" = some (.ref (He.ga K "is_standing"))
  g_need_names : mg "need_names" = some (.ref (He.ga K "need_names"))
  g_need_terms : mg "need_terms" = some (.ref (He.ga K "need_terms"))
  g_need_rank : mg "need_rank" = some (.ref (He.ga K "need_rank"))
  g__law_bag : mg "_law_bag" = some (.ref (He.ga K "_law_bag"))
  g__law_take : mg "_law_take" = some (.ref (He.ga K "_law_take"))
  g__law_of : mg "_law_of" = some (.ref (He.ga K "_law_of"))
  g__law_same : mg "_law_same" = some (.ref (He.ga K "_law_same"))
  g__law_names : mg "_law_names" = some (.ref (He.ga K "_law_names"))
  g__law_parts : mg "_law_parts" = some (.ref (He.ga K "_law_parts"))
  g__law_try : mg "_law_try" = some (.ref (He.ga K "_law_try"))
  g__law_why : mg "_law_why" = some (.ref (He.ga K "_law_why"))
  g__law_is_count : mg "_law_is_count" = some (.ref (He.ga K "_law_is_count"))
  g__law_is_call : mg "_law_is_call" = some (.ref (He.ga K "_law_is_call"))
  g__law_is_spot : mg "_law_is_spot" = some (.ref (He.ga K "_law_is_spot"))
  g__law_due : mg "_law_due" = some (.ref (He.ga K "_law_due"))
  g__law_good : mg "_law_good" = some (.ref (He.ga K "_law_good"))
  g__law_bad : mg "_law_bad" = some (.ref (He.ga K "_law_bad"))
  g__law_asked : mg "_law_asked" = some (.ref (He.ga K "_law_asked"))
  g_law : mg "law" = some (.ref (He.ga K "law"))
  g_Work : mg "Work" = some (.ref (He.ga K "Work"))
  g_Hire : mg "Hire" = some (.ref (He.ga K "Hire"))
  g_InvalidName : mg "InvalidName" = some (.ref (He.ga K "InvalidName"))
  g_InvalidNumber : mg "InvalidNumber" = some (.ref (He.ga K "InvalidNumber"))
  g_InvalidStanding : mg "InvalidStanding" = some (.ref (He.ga K "InvalidStanding"))
  g_StandError : mg "StandError" = some (.ref (He.ga K "StandError"))
  g_Missing : mg "Missing" = some (.ref (He.ga K "Missing"))
  K_Hire___init___1_rank_price_crews_end_owner_name : KBn K fd_Hire___init__ ["self", "name", "owner", "end", "crews", "price", "rank"] 1 ["rank", "price", "crews", "end", "owner", "name"] (fun us ws => KB.g_Hire___init___1_rank_price_crews_end_owner_name us ws) (fun vs zs => KB.g_Hire___init___1_rank_price_crews_end_owner_name vs zs)
  K_Hire___init___6_rank : KBn K fd_Hire___init__ ["self", "name", "owner", "end", "crews", "price", "rank"] 6 ["rank"] (fun us ws => KB.g_Hire___init___6_rank us ws) (fun vs zs => KB.g_Hire___init___6_rank vs zs)
  K_Work___init___1_rank_price_crews_end_start_owner_name : KBn K fd_Work___init__ ["self", "name", "owner", "start", "end", "crews", "price", "rank"] 1 ["rank", "price", "crews", "end", "start", "owner", "name"] (fun us ws => KB.g_Work___init___1_rank_price_crews_end_start_owner_name us ws) (fun vs zs => KB.g_Work___init___1_rank_price_crews_end_start_owner_name vs zs)
  K_Work___init___7_rank : KBn K fd_Work___init__ ["self", "name", "owner", "start", "end", "crews", "price", "rank"] 7 ["rank"] (fun us ws => KB.g_Work___init___7_rank us ws) (fun vs zs => KB.g_Work___init___7_rank vs zs)
  D__law_names_2 : ∃ ds : List Value, Vals ([.int 6] : List V) ds ∧ Binds K fd__law_names ["_law_bag_here", "_law_count", "_law_cap"] ds
  c_SMALL : ∃ t, mg "SMALL" = some (.str "abcdefghijklmnopqrstuvwxyz" t)
  c_MAX_NAME : ∃ t, mg "MAX_NAME" = some (.int 6 t)
  c_MAX_HOUR : ∃ t, mg "MAX_HOUR" = some (.int 8 t)
  c_MAX_CREWS : ∃ t, mg "MAX_CREWS" = some (.int 99 t)
  c_MAX_PRICE : ∃ t, mg "MAX_PRICE" = some (.int 999 t)
  c_MAX_RANK : ∃ t, mg "MAX_RANK" = some (.int 99 t)
  x_InvalidName : XOk K (He.ga K "InvalidName") ["value", "code"] (.ref (He.ga K "StandError")) (.ref (He.ga K "Missing"))
  x_InvalidNumber : XOk K (He.ga K "InvalidNumber") ["value", "code"] (.ref (He.ga K "StandError")) (.ref (He.ga K "Missing"))
  x_InvalidStanding : XOk K (He.ga K "InvalidStanding") ["value", "code"] (.ref (He.ga K "StandError")) (.ref (He.ga K "Missing"))
  c_Work : COk K (He.ga K "Work") ["start", "end", "key", "fee", "begins", "name", "owner", "crews", "price", "rank"]
  s_Work : SupM K (He.ga K "Work") "__init__" (He.fAd K ("Asking", some "__init__"))
  c_Hire : COk K (He.ga K "Hire") ["start", "end", "key", "fee", "begins", "name", "owner", "crews", "price", "rank"]
  s_Hire : SupM K (He.ga K "Hire") "__init__" (He.fAd K ("Asking", some "__init__"))
  dist : distB lms K = true
  cd__law_asked : ((codeAt K ("_law_asked", none)).bind fun c => K.lookup c).isSome = true
  i_Work : InsOk K "Work"
  i_Hire : InsOk K "Hire"
  e_InvalidName : ExcOk K "InvalidName"
  e_InvalidNumber : ExcOk K "InvalidNumber"
  e_InvalidStanding : ExcOk K "InvalidStanding"
  b_super : mg "super" = none
  b_isinstance : mg "isinstance" = none
  b_int : mg "int" = none
  b_bool : mg "bool" = none
  b_all : mg "all" = none
  b_str : mg "str" = none
  b_len : mg "len" = none
  b_tuple : mg "tuple" = none
  b_list : mg "list" = none
  b_dict : mg "dict" = none
  b_range : mg "range" = none
structure Lt (K : PySem.W.Frag) (mg : Str → Option Value) (base : Heap) where
  yes : True
  c__law_asked : Addr
  at__law_asked : codeAt K ("_law_asked", none) = some c__law_asked
  tb__law_asked : LamX.TabB base mg c__law_asked (tabAt K ("_law_asked", none))
theorem tx_K_Hire___init___1_rank_price_crews_end_owner_name {K : PySem.W.Frag} {fd : FuncData} (F : FunS K "/claim/cut.py" "__init__" "Hire.__init__" (defArgs (inClass (top 24) 0)) (defBody (inClass (top 24) 0)) (defScope (inClass (top 24) 0)) [] [("rank", .int 0)] (He.ga K "Hire") (He.fAd K ("Hire", some "__init__")) fd) : KBn K fd ["self", "name", "owner", "end", "crews", "price", "rank"] 1 ["rank", "price", "crews", "end", "owner", "name"] (fun us ws => KB.g_Hire___init___1_rank_price_crews_end_owner_name us ws) (fun vs zs => KB.g_Hire___init___1_rank_price_crews_end_owner_name vs zs) :=
  kbnS_of F (fun _ _ _ _ _ _ _ us ws hu hw => match us, ws, hu, hw with | [_], [_, _, _, _, _, _], _, _ => rfl) (fun r1 r2 => (((r1.drop 0).take 1).append (((r2.drop 5).take 1).append (((r2.drop 4).take 1).append (((r2.drop 3).take 1).append (((r2.drop 2).take 1).append (((r2.drop 1).take 1).append ((r2.drop 0).take 1))))))))
theorem tx_K_Hire___init___6_rank {K : PySem.W.Frag} {fd : FuncData} (F : FunS K "/claim/cut.py" "__init__" "Hire.__init__" (defArgs (inClass (top 24) 0)) (defBody (inClass (top 24) 0)) (defScope (inClass (top 24) 0)) [] [("rank", .int 0)] (He.ga K "Hire") (He.fAd K ("Hire", some "__init__")) fd) : KBn K fd ["self", "name", "owner", "end", "crews", "price", "rank"] 6 ["rank"] (fun us ws => KB.g_Hire___init___6_rank us ws) (fun vs zs => KB.g_Hire___init___6_rank vs zs) :=
  kbnS_of F (fun _ _ _ _ _ _ _ us ws hu hw => match us, ws, hu, hw with | [_, _, _, _, _, _], [_], _, _ => rfl) (fun r1 r2 => (((r1.drop 0).take 1).append (((r1.drop 1).take 1).append (((r1.drop 2).take 1).append (((r1.drop 3).take 1).append (((r1.drop 4).take 1).append (((r1.drop 5).take 1).append ((r2.drop 0).take 1))))))))
theorem tx_K_Work___init___1_rank_price_crews_end_start_owner_name {K : PySem.W.Frag} {fd : FuncData} (F : FunS K "/claim/cut.py" "__init__" "Work.__init__" (defArgs (inClass (top 23) 0)) (defBody (inClass (top 23) 0)) (defScope (inClass (top 23) 0)) [] [("rank", .int 0)] (He.ga K "Work") (He.fAd K ("Work", some "__init__")) fd) : KBn K fd ["self", "name", "owner", "start", "end", "crews", "price", "rank"] 1 ["rank", "price", "crews", "end", "start", "owner", "name"] (fun us ws => KB.g_Work___init___1_rank_price_crews_end_start_owner_name us ws) (fun vs zs => KB.g_Work___init___1_rank_price_crews_end_start_owner_name vs zs) :=
  kbnS_of F (fun _ _ _ _ _ _ _ us ws hu hw => match us, ws, hu, hw with | [_], [_, _, _, _, _, _, _], _, _ => rfl) (fun r1 r2 => (((r1.drop 0).take 1).append (((r2.drop 6).take 1).append (((r2.drop 5).take 1).append (((r2.drop 4).take 1).append (((r2.drop 3).take 1).append (((r2.drop 2).take 1).append (((r2.drop 1).take 1).append ((r2.drop 0).take 1)))))))))
theorem tx_K_Work___init___7_rank {K : PySem.W.Frag} {fd : FuncData} (F : FunS K "/claim/cut.py" "__init__" "Work.__init__" (defArgs (inClass (top 23) 0)) (defBody (inClass (top 23) 0)) (defScope (inClass (top 23) 0)) [] [("rank", .int 0)] (He.ga K "Work") (He.fAd K ("Work", some "__init__")) fd) : KBn K fd ["self", "name", "owner", "start", "end", "crews", "price", "rank"] 7 ["rank"] (fun us ws => KB.g_Work___init___7_rank us ws) (fun vs zs => KB.g_Work___init___7_rank vs zs) :=
  kbnS_of F (fun _ _ _ _ _ _ _ us ws hu hw => match us, ws, hu, hw with | [_, _, _, _, _, _, _], [_], _, _ => rfl) (fun r1 r2 => (((r1.drop 0).take 1).append (((r1.drop 1).take 1).append (((r1.drop 2).take 1).append (((r1.drop 3).take 1).append (((r1.drop 4).take 1).append (((r1.drop 5).take 1).append (((r1.drop 6).take 1).append ((r2.drop 0).take 1)))))))))
theorem tx_D__law_names_2 {K : PySem.W.Frag} {fd : FuncData} (F : FunD K "_law_names" "_law_names" (defArgs (top 30)) (defBody (top 30)) (defScope (top 30)) [.int 6] [] (He.ga K "_law_names") fd) : ∃ ds : List Value, Vals ([.int 6] : List V) ds ∧ Binds K fd ["_law_bag_here", "_law_count", "_law_cap"] ds :=
  FunD.binds1 F 2 0 (by simp) rfl (fun _ _ _ _ _ _ _ us its hu hi => match us, its, hu, hi with | [_, _], [_], _, _ => ⟨_, rfl, rfl⟩)
theorem tx_of {K : PySem.W.Frag} {h : Heap} {mg : Str → Option Value} (X : K.In h) (G : h.Ns mainGlobals mg) (c0 : SaysY "/claim/cut.py" fa fn ex su K) : Nonempty (Tx K mg) := by
  have c := c0.d
  obtain ⟨fd0, F0⟩ := c.def_ 0 (d := dd "is_whole" 11) rfl
  obtain ⟨fd1, F1⟩ := c.def_ 1 (d := dd "is_number" 12) rfl
  obtain ⟨fd2, F2⟩ := c.def_ 2 (d := dd "is_name" 13) rfl
  obtain ⟨fd3, F3⟩ := c.def_ 3 (d := dd "is_standing" 14) rfl
  obtain ⟨fd4, F4⟩ := c.def_ 4 (d := dd "need_names" 19) rfl
  obtain ⟨fd5, F5⟩ := c.def_ 5 (d := dd "need_terms" 20) rfl
  obtain ⟨fd6, F6⟩ := c.def_ 6 (d := dd "need_rank" 21) rfl
  obtain ⟨fd7, F7⟩ := c.def_ 7 (d := dm "Asking" "__init__" "Asking.__init__" 22 0) rfl
  obtain ⟨fd8, F8⟩ := c.def_ 8 (d := dd "_law_bag" 26) rfl
  obtain ⟨fd9, F9⟩ := c.def_ 9 (d := dd "_law_take" 27) rfl
  obtain ⟨fd10, F10⟩ := c.def_ 10 (d := dd "_law_of" 28) rfl
  obtain ⟨fd11, F11⟩ := c.def_ 11 (d := dd "_law_same" 29) rfl
  obtain ⟨fd12, F12⟩ := c.def_ 12 (d := dd "_law_names" 30 [.int 6]) rfl
  obtain ⟨fd13, F13⟩ := c.def_ 13 (d := dd "_law_parts" 31) rfl
  obtain ⟨fd14, F14⟩ := c.def_ 14 (d := dd "_law_try" 32) rfl
  obtain ⟨fd15, F15⟩ := c.def_ 15 (d := dd "_law_why" 33) rfl
  obtain ⟨fd16, F16⟩ := c.def_ 16 (d := dd "_law_is_count" 34) rfl
  obtain ⟨fd17, F17⟩ := c.def_ 17 (d := dd "_law_is_call" 35) rfl
  obtain ⟨fd18, F18⟩ := c.def_ 18 (d := dd "_law_is_spot" 36) rfl
  obtain ⟨fd19, F19⟩ := c.def_ 19 (d := dd "_law_due" 37) rfl
  obtain ⟨fd20, F20⟩ := c.def_ 20 (d := dd "_law_good" 38) rfl
  obtain ⟨fd21, F21⟩ := c.def_ 21 (d := dd "_law_bad" 39) rfl
  obtain ⟨fd22, F22⟩ := c.def_ 22 (d := dd "_law_asked" 40) rfl
  obtain ⟨fd23, F23⟩ := c.def_ 23 (d := dd "law" 41) rfl
  obtain ⟨fds0, Fs0⟩ := c0.sup 0 (d := dm "InvalidName" "__init__" "InvalidName.__init__" 4 0) rfl
  obtain ⟨fds1, Fs1⟩ := c0.sup 1 (d := dm "InvalidNumber" "__init__" "InvalidNumber.__init__" 5 0) rfl
  obtain ⟨fds2, Fs2⟩ := c0.sup 2 (d := dm "InvalidStanding" "__init__" "InvalidStanding.__init__" 6 0) rfl
  obtain ⟨fds3, Fs3⟩ := c0.sup 3 (d := dm "Work" "__init__" "Work.__init__" 23 0 [("rank", .int 0)]) rfl
  obtain ⟨fds4, Fs4⟩ := c0.sup 4 (d := dm "Hire" "__init__" "Hire.__init__" 24 0 [("rank", .int 0)]) rfl
  have Bs0 : Binds K fds0 ["self", "value"] [] := FunS.bindsA Fs0 fun _ _ _ _ _ _ _ us hl => match us, hl with | [_, _], _ => rfl
  have Bs1 : Binds K fds1 ["self", "value"] [] := FunS.bindsA Fs1 fun _ _ _ _ _ _ _ us hl => match us, hl with | [_, _], _ => rfl
  have Bs2 : Binds K fds2 ["self", "value"] [] := FunS.bindsA Fs2 fun _ _ _ _ _ _ _ us hl => match us, hl with | [_, _], _ => rfl
  have B0 : Binds K fd0 ["value"] [] := FunD.bindsN F0 fun _ _ _ _ _ _ us hl => match us, hl with | [_], _ => rfl
  have B1 : Binds K fd1 ["value", "least", "most"] [] := FunD.bindsN F1 fun _ _ _ _ _ _ us hl => match us, hl with | [_, _, _], _ => rfl
  have B2 : Binds K fd2 ["value"] [] := FunD.bindsN F2 fun _ _ _ _ _ _ us hl => match us, hl with | [_], _ => rfl
  have B3 : Binds K fd3 ["value"] [] := FunD.bindsN F3 fun _ _ _ _ _ _ us hl => match us, hl with | [_], _ => rfl
  have B4 : Binds K fd4 ["name", "owner"] [] := FunD.bindsN F4 fun _ _ _ _ _ _ us hl => match us, hl with | [_, _], _ => rfl
  have B5 : Binds K fd5 ["crews", "price"] [] := FunD.bindsN F5 fun _ _ _ _ _ _ us hl => match us, hl with | [_, _], _ => rfl
  have B6 : Binds K fd6 ["rank"] [] := FunD.bindsN F6 fun _ _ _ _ _ _ us hl => match us, hl with | [_], _ => rfl
  have B7 : Binds K fd7 ["self", "name", "owner", "crews", "price", "rank"] [] := FunD.bindsN F7 fun _ _ _ _ _ _ us hl => match us, hl with | [_, _, _, _, _, _], _ => rfl
  have B8 : Binds K fd8 ["_law_script"] [] := FunD.bindsN F8 fun _ _ _ _ _ _ us hl => match us, hl with | [_], _ => rfl
  have B9 : Binds K fd9 ["_law_bag_here", "_law_size"] [] := FunD.bindsN F9 fun _ _ _ _ _ _ us hl => match us, hl with | [_, _], _ => rfl
  have B10 : Binds K fd10 ["_law_bag_here", "_law_some"] [] := FunD.bindsN F10 fun _ _ _ _ _ _ us hl => match us, hl with | [_, _], _ => rfl
  have B11 : Binds K fd11 ["_law_found", "_law_due_here"] [] := FunD.bindsN F11 fun _ _ _ _ _ _ us hl => match us, hl with | [_, _], _ => rfl
  have B13 : Binds K fd13 ["_law_e"] [] := FunD.bindsN F13 fun _ _ _ _ _ _ us hl => match us, hl with | [_], _ => rfl
  have B14 : Binds K fd14 ["_law_ask"] [] := FunD.bindsN F14 fun _ _ _ _ _ _ us hl => match us, hl with | [_], _ => rfl
  have B15 : Binds K fd15 ["_law_ask"] [] := FunD.bindsN F15 fun _ _ _ _ _ _ us hl => match us, hl with | [_], _ => rfl
  have B16 : Binds K fd16 ["_law_thing", "_law_low", "_law_high"] [] := FunD.bindsN F16 fun _ _ _ _ _ _ us hl => match us, hl with | [_, _, _], _ => rfl
  have B17 : Binds K fd17 ["_law_thing"] [] := FunD.bindsN F17 fun _ _ _ _ _ _ us hl => match us, hl with | [_], _ => rfl
  have B18 : Binds K fd18 ["_law_thing"] [] := FunD.bindsN F18 fun _ _ _ _ _ _ us hl => match us, hl with | [_], _ => rfl
  have B19 : Binds K fd19 ["_law_row"] [] := FunD.bindsN F19 fun _ _ _ _ _ _ us hl => match us, hl with | [_], _ => rfl
  have B20 : Binds K fd20 ["_law_bag_here", "_law_calls"] [] := FunD.bindsN F20 fun _ _ _ _ _ _ us hl => match us, hl with | [_, _], _ => rfl
  have B21 : Binds K fd21 ["_law_bag_here", "_law_row", "_law_at"] [] := FunD.bindsN F21 fun _ _ _ _ _ _ us hl => match us, hl with | [_, _, _], _ => rfl
  have B22 : Binds K fd22 ["_law_bag_here", "_law_row"] [] := FunD.bindsN F22 fun _ _ _ _ _ _ us hl => match us, hl with | [_, _], _ => rfl
  exact ⟨{
    fd_InvalidName___init__ := fds0,
    F_InvalidName___init__ := Fs0,
    B_InvalidName___init__ := Bs0,
    fd_InvalidNumber___init__ := fds1,
    F_InvalidNumber___init__ := Fs1,
    B_InvalidNumber___init__ := Bs1,
    fd_InvalidStanding___init__ := fds2,
    F_InvalidStanding___init__ := Fs2,
    B_InvalidStanding___init__ := Bs2,
    fd_is_whole := fd0,
    F_is_whole := F0,
    B_is_whole := B0,
    fd_is_number := fd1,
    F_is_number := F1,
    B_is_number := B1,
    fd_is_name := fd2,
    F_is_name := F2,
    B_is_name := B2,
    fd_is_standing := fd3,
    F_is_standing := F3,
    B_is_standing := B3,
    fd_need_names := fd4,
    F_need_names := F4,
    B_need_names := B4,
    fd_need_terms := fd5,
    F_need_terms := F5,
    B_need_terms := B5,
    fd_need_rank := fd6,
    F_need_rank := F6,
    B_need_rank := B6,
    fd_Asking___init__ := fd7,
    F_Asking___init__ := F7,
    B_Asking___init__ := B7,
    fd_Work___init__ := fds3,
    F_Work___init__ := Fs3,
    fd_Hire___init__ := fds4,
    F_Hire___init__ := Fs4,
    fd__law_bag := fd8,
    F__law_bag := F8,
    B__law_bag := B8,
    fd__law_take := fd9,
    F__law_take := F9,
    B__law_take := B9,
    fd__law_of := fd10,
    F__law_of := F10,
    B__law_of := B10,
    fd__law_same := fd11,
    F__law_same := F11,
    B__law_same := B11,
    fd__law_names := fd12,
    F__law_names := F12,
    fd__law_parts := fd13,
    F__law_parts := F13,
    B__law_parts := B13,
    fd__law_try := fd14,
    F__law_try := F14,
    B__law_try := B14,
    fd__law_why := fd15,
    F__law_why := F15,
    B__law_why := B15,
    fd__law_is_count := fd16,
    F__law_is_count := F16,
    B__law_is_count := B16,
    fd__law_is_call := fd17,
    F__law_is_call := F17,
    B__law_is_call := B17,
    fd__law_is_spot := fd18,
    F__law_is_spot := F18,
    B__law_is_spot := B18,
    fd__law_due := fd19,
    F__law_due := F19,
    B__law_due := B19,
    fd__law_good := fd20,
    F__law_good := F20,
    B__law_good := B20,
    fd__law_bad := fd21,
    F__law_bad := F21,
    B__law_bad := B21,
    fd__law_asked := fd22,
    F__law_asked := F22,
    B__law_asked := B22,
    fd_law := fd23,
    F_law := F23,
    g_is_whole := He.glo_ok X G (c.fact 0 (f := .glo "is_whole") rfl),
    g_is_number := He.glo_ok X G (c.fact 1 (f := .glo "is_number") rfl),
    g_is_name := He.glo_ok X G (c.fact 2 (f := .glo "is_name") rfl),
    g_is_standing := He.glo_ok X G (c.fact 3 (f := .glo "is_standing") rfl),
    g_need_names := He.glo_ok X G (c.fact 4 (f := .glo "need_names") rfl),
    g_need_terms := He.glo_ok X G (c.fact 5 (f := .glo "need_terms") rfl),
    g_need_rank := He.glo_ok X G (c.fact 6 (f := .glo "need_rank") rfl),
    g__law_bag := He.glo_ok X G (c.fact 7 (f := .glo "_law_bag") rfl),
    g__law_take := He.glo_ok X G (c.fact 8 (f := .glo "_law_take") rfl),
    g__law_of := He.glo_ok X G (c.fact 9 (f := .glo "_law_of") rfl),
    g__law_same := He.glo_ok X G (c.fact 10 (f := .glo "_law_same") rfl),
    g__law_names := He.glo_ok X G (c.fact 11 (f := .glo "_law_names") rfl),
    g__law_parts := He.glo_ok X G (c.fact 12 (f := .glo "_law_parts") rfl),
    g__law_try := He.glo_ok X G (c.fact 13 (f := .glo "_law_try") rfl),
    g__law_why := He.glo_ok X G (c.fact 14 (f := .glo "_law_why") rfl),
    g__law_is_count := He.glo_ok X G (c.fact 15 (f := .glo "_law_is_count") rfl),
    g__law_is_call := He.glo_ok X G (c.fact 16 (f := .glo "_law_is_call") rfl),
    g__law_is_spot := He.glo_ok X G (c.fact 17 (f := .glo "_law_is_spot") rfl),
    g__law_due := He.glo_ok X G (c.fact 18 (f := .glo "_law_due") rfl),
    g__law_good := He.glo_ok X G (c.fact 19 (f := .glo "_law_good") rfl),
    g__law_bad := He.glo_ok X G (c.fact 20 (f := .glo "_law_bad") rfl),
    g__law_asked := He.glo_ok X G (c.fact 21 (f := .glo "_law_asked") rfl),
    g_law := He.glo_ok X G (c.fact 22 (f := .glo "law") rfl),
    g_Work := He.glo_ok X G (c.fact 23 (f := .glo "Work") rfl),
    g_Hire := He.glo_ok X G (c.fact 24 (f := .glo "Hire") rfl),
    g_InvalidName := He.glo_ok X G (c.fact 25 (f := .glo "InvalidName") rfl),
    g_InvalidNumber := He.glo_ok X G (c.fact 26 (f := .glo "InvalidNumber") rfl),
    g_InvalidStanding := He.glo_ok X G (c.fact 27 (f := .glo "InvalidStanding") rfl),
    g_StandError := He.glo_ok X G (c.fact 28 (f := .glo "StandError") rfl),
    g_Missing := He.glo_ok X G (c.fact 29 (f := .glo "Missing") rfl),
    K_Hire___init___1_rank_price_crews_end_owner_name := tx_K_Hire___init___1_rank_price_crews_end_owner_name Fs4,
    K_Hire___init___6_rank := tx_K_Hire___init___6_rank Fs4,
    K_Work___init___1_rank_price_crews_end_start_owner_name := tx_K_Work___init___1_rank_price_crews_end_start_owner_name Fs3,
    K_Work___init___7_rank := tx_K_Work___init___7_rank Fs3,
    D__law_names_2 := tx_D__law_names_2 F12,
    c_SMALL := He.str_ok X G (c.fact 30 (f := .str "SMALL" "abcdefghijklmnopqrstuvwxyz") rfl),
    c_MAX_NAME := He.int_ok X G (c.fact 31 (f := .int "MAX_NAME" 6) rfl),
    c_MAX_HOUR := He.int_ok X G (c.fact 32 (f := .int "MAX_HOUR" 8) rfl),
    c_MAX_CREWS := He.int_ok X G (c.fact 33 (f := .int "MAX_CREWS" 99) rfl),
    c_MAX_PRICE := He.int_ok X G (c.fact 34 (f := .int "MAX_PRICE" 999) rfl),
    c_MAX_RANK := He.int_ok X G (c.fact 35 (f := .int "MAX_RANK" 99) rfl),
    x_InvalidName := xoB_ok (all_at (l := exs K) c0.x 0 rfl),
    x_InvalidNumber := xoB_ok (all_at (l := exs K) c0.x 1 rfl),
    x_InvalidStanding := xoB_ok (all_at (l := exs K) c0.x 2 rfl),
    c_Work := coB_ok (all_at (l := exs K) c0.x 3 rfl),
    s_Work := smB_ok (all_at (l := exs K) c0.x 4 rfl),
    c_Hire := coB_ok (all_at (l := exs K) c0.x 5 rfl),
    s_Hire := smB_ok (all_at (l := exs K) c0.x 6 rfl),
    dist := (all_at (l := exs K) c0.x 7 rfl),
    cd__law_asked := (all_at (l := exs K) c0.x 8 rfl),
    i_Work := (all_at (l := exs K) c0.x 9 rfl),
    i_Hire := (all_at (l := exs K) c0.x 10 rfl),
    e_InvalidName := (all_at (l := exs K) c0.x 11 rfl),
    e_InvalidNumber := (all_at (l := exs K) c0.x 12 rfl),
    e_InvalidStanding := (all_at (l := exs K) c0.x 13 rfl),
    b_super := He.free_ok X G (c.fact 36 (f := .free "super") rfl),
    b_isinstance := He.free_ok X G (c.fact 37 (f := .free "isinstance") rfl),
    b_int := He.free_ok X G (c.fact 38 (f := .free "int") rfl),
    b_bool := He.free_ok X G (c.fact 39 (f := .free "bool") rfl),
    b_all := He.free_ok X G (c.fact 40 (f := .free "all") rfl),
    b_str := He.free_ok X G (c.fact 41 (f := .free "str") rfl),
    b_len := He.free_ok X G (c.fact 42 (f := .free "len") rfl),
    b_tuple := He.free_ok X G (c.fact 43 (f := .free "tuple") rfl),
    b_list := He.free_ok X G (c.fact 44 (f := .free "list") rfl),
    b_dict := He.free_ok X G (c.fact 45 (f := .free "dict") rfl),
    b_range := He.free_ok X G (c.fact 46 (f := .free "range") rfl) }⟩
theorem sc_InvalidName___init__ : SupScope ["self", "value"] ["self", "value"] (defScope (inClass (top 4) 0)) := ⟨rfl, rfl, rfl, by decide +kernel, rfl, by decide +kernel, by decide +kernel, by decide +kernel, by decide +kernel, by decide +kernel⟩
theorem sc_InvalidNumber___init__ : SupScope ["self", "value"] ["self", "value"] (defScope (inClass (top 5) 0)) := ⟨rfl, rfl, rfl, by decide +kernel, rfl, by decide +kernel, by decide +kernel, by decide +kernel, by decide +kernel, by decide +kernel⟩
theorem sc_InvalidStanding___init__ : SupScope ["self", "value"] ["self", "value"] (defScope (inClass (top 6) 0)) := ⟨rfl, rfl, rfl, by decide +kernel, rfl, by decide +kernel, by decide +kernel, by decide +kernel, by decide +kernel, by decide +kernel⟩
theorem sc_is_whole : FnScope ["value"] ["value"] (defScope (top 11)) := ⟨rfl, rfl, rfl, by decide +kernel, rfl, by decide +kernel, by decide +kernel⟩
theorem sc_is_number : FnScope ["value", "least", "most"] ["value", "least", "most"] (defScope (top 12)) := ⟨rfl, rfl, rfl, by decide +kernel, rfl, by decide +kernel, by decide +kernel⟩
theorem sc_is_name : FnScope ["value", "sign"] ["value"] (defScope (top 13)) := ⟨rfl, rfl, rfl, by decide +kernel, rfl, by decide +kernel, by decide +kernel⟩
theorem sc_is_standing : FnScope ["value"] ["value"] (defScope (top 14)) := ⟨rfl, rfl, rfl, by decide +kernel, rfl, by decide +kernel, by decide +kernel⟩
theorem sc_need_names : FnScope ["name", "owner", "value"] ["name", "owner"] (defScope (top 19)) := ⟨rfl, rfl, rfl, by decide +kernel, rfl, by decide +kernel, by decide +kernel⟩
theorem sc_need_terms : FnScope ["crews", "price"] ["crews", "price"] (defScope (top 20)) := ⟨rfl, rfl, rfl, by decide +kernel, rfl, by decide +kernel, by decide +kernel⟩
theorem sc_need_rank : FnScope ["rank"] ["rank"] (defScope (top 21)) := ⟨rfl, rfl, rfl, by decide +kernel, rfl, by decide +kernel, by decide +kernel⟩
theorem sc_Asking___init__ : FnScope ["self", "name", "owner", "crews", "price", "rank"] ["self", "name", "owner", "crews", "price", "rank"] (defScope (inClass (top 22) 0)) := ⟨rfl, rfl, rfl, by decide +kernel, rfl, by decide +kernel, by decide +kernel⟩
theorem sc_Work___init__ : SupScope ["self", "name", "owner", "start", "end", "crews", "price", "rank"] ["self", "name", "owner", "start", "end", "crews", "price", "rank"] (defScope (inClass (top 23) 0)) := ⟨rfl, rfl, rfl, by decide +kernel, rfl, by decide +kernel, by decide +kernel, by decide +kernel, by decide +kernel, by decide +kernel⟩
theorem sc_Hire___init__ : SupScope ["self", "name", "owner", "end", "crews", "price", "rank"] ["self", "name", "owner", "end", "crews", "price", "rank"] (defScope (inClass (top 24) 0)) := ⟨rfl, rfl, rfl, by decide +kernel, rfl, by decide +kernel, by decide +kernel, by decide +kernel, by decide +kernel, by decide +kernel⟩
theorem sc__law_bag : FnScope ["_law_script", "_law_cells"] ["_law_script"] (defScope (top 26)) := ⟨rfl, rfl, rfl, by decide +kernel, rfl, by decide +kernel, by decide +kernel⟩
theorem sc__law_take : FnScope ["_law_bag_here", "_law_size", "_law_cell", "_law_digit"] ["_law_bag_here", "_law_size"] (defScope (top 27)) := ⟨rfl, rfl, rfl, by decide +kernel, rfl, by decide +kernel, by decide +kernel⟩
theorem sc__law_of : FnScope ["_law_bag_here", "_law_some"] ["_law_bag_here", "_law_some"] (defScope (top 28)) := ⟨rfl, rfl, rfl, by decide +kernel, rfl, by decide +kernel, by decide +kernel⟩
theorem sc__law_same : FnScope ["_law_found", "_law_due_here", "_law_k"] ["_law_found", "_law_due_here"] (defScope (top 29)) := ⟨rfl, rfl, rfl, by decide +kernel, rfl, by decide +kernel, by decide +kernel⟩
theorem sc__law_names : FnScope ["_law_bag_here", "_law_count", "_law_cap", "_law_abc", "_law_stem", "_law_k", "_law_begin", "_law_step", "_law_found", "_law_tail", "_law_j"] ["_law_bag_here", "_law_count", "_law_cap"] (defScope (top 30)) := ⟨rfl, rfl, rfl, by decide +kernel, rfl, by decide +kernel, by decide +kernel⟩
theorem sc__law_parts : FnScope ["_law_e"] ["_law_e"] (defScope (top 31)) := ⟨rfl, rfl, rfl, by decide +kernel, rfl, by decide +kernel, by decide +kernel⟩
theorem sc__law_try : FnScope ["_law_ask", "_law_e"] ["_law_ask"] (defScope (top 32)) := ⟨rfl, rfl, rfl, by decide +kernel, rfl, by decide +kernel, by decide +kernel⟩
theorem sc__law_why : FnScope ["_law_ask", "_law_found"] ["_law_ask"] (defScope (top 33)) := ⟨rfl, rfl, rfl, by decide +kernel, rfl, by decide +kernel, by decide +kernel⟩
theorem sc__law_is_count : FnScope ["_law_thing", "_law_low", "_law_high"] ["_law_thing", "_law_low", "_law_high"] (defScope (top 34)) := ⟨rfl, rfl, rfl, by decide +kernel, rfl, by decide +kernel, by decide +kernel⟩
theorem sc__law_is_call : FnScope ["_law_thing", "_law_sign"] ["_law_thing"] (defScope (top 35)) := ⟨rfl, rfl, rfl, by decide +kernel, rfl, by decide +kernel, by decide +kernel⟩
theorem sc__law_is_spot : FnScope ["_law_thing"] ["_law_thing"] (defScope (top 36)) := ⟨rfl, rfl, rfl, by decide +kernel, rfl, by decide +kernel, by decide +kernel⟩
theorem sc__law_due : FnScope ["_law_row", "_law_word", "_law_call", "_law_boss", "_law_turn", "_law_here", "_law_there", "_law_heads", "_law_pay", "_law_thing", "_law_low", "_law_high"] ["_law_row"] (defScope (top 37)) := ⟨rfl, rfl, rfl, by decide +kernel, rfl, by decide +kernel, by decide +kernel⟩
theorem sc__law_good : FnScope ["_law_bag_here", "_law_calls", "_law_hour", "_law_late", "_law_word", "_law_turn", "_law_here", "_law_there", "_law_heads", "_law_pay"] ["_law_bag_here", "_law_calls"] (defScope (top 38)) := ⟨rfl, rfl, rfl, by decide +kernel, rfl, by decide +kernel, by decide +kernel⟩
theorem sc__law_bad : FnScope ["_law_bag_here", "_law_row", "_law_at", "_law_hour", "_law_some"] ["_law_bag_here", "_law_row", "_law_at"] (defScope (top 39)) := ⟨rfl, rfl, rfl, by decide +kernel, rfl, by decide +kernel, by decide +kernel⟩
theorem sc__law_asked : FnScope ["_law_bag_here", "_law_row", "_law_word", "_law_call", "_law_boss", "_law_turn", "_law_here", "_law_there", "_law_heads", "_law_pay"] ["_law_bag_here", "_law_row"] (defScope (top 40)) := ⟨rfl, rfl, rfl, by decide +kernel, rfl, by decide +kernel, by decide +kernel⟩
theorem sc_law : FnScope ["_law_script", "_law_bag_here", "_law_turn", "_law_row", "_law_more", "_law_at"] ["_law_script"] (defScope (top 41)) := ⟨rfl, rfl, rfl, by decide +kernel, rfl, by decide +kernel, by decide +kernel⟩
end K07

namespace K07
open PySem PySem.Spec PyProof.Rows L2 SW MR MPkg MLawA
abbrev sp_is_whole (K : PySem.W.Frag) : Sp := spM true K (tabs K) 1 m_is_whole
abbrev sp_is_number (K : PySem.W.Frag) : Sp := spM true K (tabs K) 3 m_is_number
abbrev sp_is_name (K : PySem.W.Frag) : Sp := spM true K (tabs K) 1 m_is_name
abbrev sp_is_standing (K : PySem.W.Frag) : Sp := spM true K (tabs K) 1 m_is_standing
abbrev sp_need_names (K : PySem.W.Frag) : Sp := spM true K (tabs K) 2 m_need_names
abbrev sp_need_terms (K : PySem.W.Frag) : Sp := spM true K (tabs K) 2 m_need_terms
abbrev sp_need_rank (K : PySem.W.Frag) : Sp := spM true K (tabs K) 1 m_need_rank
abbrev sp_Asking___init__ (K : PySem.W.Frag) : Sp := spM true K (tabs K) 6 m_Asking___init__
abbrev sp_Work___init__ (K : PySem.W.Frag) : Sp := spM true K (tabs K) 8 m_Work___init__
abbrev sp_Hire___init__ (K : PySem.W.Frag) : Sp := spM true K (tabs K) 7 m_Hire___init__
abbrev sp__law_bag (K : PySem.W.Frag) : Sp := spM true K (tabs K) 1 m__law_bag
abbrev sp__law_take (K : PySem.W.Frag) : Sp := spM true K (tabs K) 2 m__law_take
abbrev sp__law_of (K : PySem.W.Frag) : Sp := spM true K (tabs K) 2 m__law_of
abbrev spr__law_same (K : PySem.W.Frag) (n : Nat) : Sp := spM true K (tabs K) 2 (m__law_same n)
abbrev sp__law_same (K : PySem.W.Frag) : Sp := spr__law_same K 11
abbrev sp__law_names (K : PySem.W.Frag) : Sp := spM true K (tabs K) 3 m__law_names
abbrev sp__law_is_count (K : PySem.W.Frag) : Sp := spM true K (tabs K) 3 m__law_is_count
abbrev sp__law_is_call (K : PySem.W.Frag) : Sp := spM true K (tabs K) 1 m__law_is_call
abbrev sp__law_is_spot (K : PySem.W.Frag) : Sp := spM true K (tabs K) 1 m__law_is_spot
abbrev sp__law_due (K : PySem.W.Frag) : Sp := spM true K (tabs K) 1 m__law_due
abbrev sp__law_good (K : PySem.W.Frag) : Sp := spM true K (tabs K) 2 m__law_good
abbrev sp__law_bad (K : PySem.W.Frag) : Sp := spM true K (tabs K) 3 m__law_bad
abbrev sp__law_asked (K : PySem.W.Frag) : Sp := spM true K (tabs K) 2 m__law_asked
abbrev sp_law (K : PySem.W.Frag) : Sp := spLaw K (tabs K)
def t_is_whole (K : PySem.W.Frag) : TS := (tRet (tAndV (tCB (uIsiM K) (tCons (tVar 0) (tCons (tC (.ty "int")) tNil))) (tNotV (tCB (uIsiM K) (tCons (tVar 0) (tCons (tC (.ty "bool")) tNil))))))
def t_is_number (K : PySem.W.Frag) : TS := (tRet (tAndV (tCall (sp_is_whole K) [] E0 (tCons (tVar 0) tNil)) (tChain uLe uLe (tVar 1) (tVar 0) (tVar 2))))
def t_is_name (K : PySem.W.Frag) : TS := (tSeq (tIfS (tOr (tNot (tTru K (tCB (uIsiM K) (tCons (tVar 0) (tCons (tC (.ty "str")) tNil))))) (tNot (tTest (tChain uLe uLe (tC (.int 1)) (tCB (uLen K) (tCons (tVar 0) tNil)) (tC (.int 6)))))) (tRet (tC (.bl false))) tNext) (tRet (tCB (rAll K) (tCons (tLc (iAny K (tVar 0)) (gName 1) tYes (tOp (uIn K) (tVar 1) (tC (.str "abcdefghijklmnopqrstuvwxyz"))) [1]) tNil))))
def t_is_standing (K : PySem.W.Frag) : TS := (tSeq (tIfS (tOr (tNot (tTru K (tCB (uIsiM K) (tCons (tVar 0) (tCons (tC (.ty "tuple")) tNil))))) (tTest (tOp (uNe K) (tCB (uLen K) (tCons (tVar 0) tNil)) (tC (.int 2))))) (tRet (tC (.bl false))) tNext) (tRet (tAndV (tCall (sp_is_name K) [] E0 (tCons (tOp (rIx K) (tVar 0) (tC (.int 0))) tNil)) (tCall (sp_is_number K) [] E0 (tCons (tOp (rIx K) (tVar 0) (tC (.int 1))) (tCons (tC (.int 0)) (tCons (tC (.int 8)) tNil)))))))
def t_need_names (K : PySem.W.Frag) (E : XK) : TS := (tFor (iAny K (tTup (tCons (tVar 0) (tCons (tVar 1) tNil)))) (gName 2) (tIfS (tNot (tTru K (tCall (sp_is_name K) [] E0 (tCons (tVar 2) tNil)))) (tRaiseX (He.ga K "InvalidName") (fl1 "value" "InvalidName") 1 (tCons (tVar 2) tNil) E) tNext))
def t_need_terms (K : PySem.W.Frag) (E : XK) : TS := (tSeq (tIfS (tNot (tTru K (tCall (sp_is_number K) [] E0 (tCons (tVar 0) (tCons (tC (.int 1)) (tCons (tC (.int 99)) tNil)))))) (tRaiseX (He.ga K "InvalidNumber") (fl1 "value" "InvalidNumber") 1 (tCons (tVar 0) tNil) E) tNext) (tIfS (tNot (tTru K (tCall (sp_is_number K) [] E0 (tCons (tVar 1) (tCons (tC (.int 0)) (tCons (tC (.int 999)) tNil)))))) (tRaiseX (He.ga K "InvalidNumber") (fl1 "value" "InvalidNumber") 1 (tCons (tVar 1) tNil) E) tNext))
def t_need_rank (K : PySem.W.Frag) (E : XK) : TS := (tIfS (tNot (tTru K (tCall (sp_is_number K) [] E0 (tCons (tVar 0) (tCons (tC (.int 0)) (tCons (tC (.int 99)) tNil)))))) (tRaiseX (He.ga K "InvalidNumber") (fl1 "value" "InvalidNumber") 1 (tCons (tVar 0) tNil) E) tNext)
def t_Asking___init__ (K : PySem.W.Frag) : TS := (tSeq (sFld K (tVar 0) (tVar 1) "name") (tSeq (sFld K (tVar 0) (tVar 2) "owner") (tSeq (sFld K (tVar 0) (tVar 3) "crews") (tSeq (sFld K (tVar 0) (tVar 4) "price") (sFld K (tVar 0) (tVar 5) "rank")))))
def t_Work___init__ (K : PySem.W.Frag) (E : XK) : TS := (tSeq (tDrop (tCall (sp_need_names K) [] E (tCons (tVar 1) (tCons (tVar 2) tNil)))) (tSeq (tIfS (tNot (tTru K (tCall (sp_is_standing K) [] E0 (tCons (tVar 3) tNil)))) (tRaiseX (He.ga K "InvalidStanding") (fl1 "value" "InvalidStanding") 1 (tCons (tVar 3) tNil) E) tNext) (tSeq (tIfS (tOr (tNot (tTru K (tCall (sp_is_standing K) [] E0 (tCons (tVar 4) tNil)))) (tTest (tOp uLe (tOp (rIx K) (tVar 4) (tC (.int 1))) (tOp (rIx K) (tVar 3) (tC (.int 1)))))) (tRaiseX (He.ga K "InvalidStanding") (fl1 "value" "InvalidStanding") 1 (tCons (tVar 4) tNil) E) tNext) (tSeq (tDrop (tCall (sp_need_terms K) [] E (tCons (tVar 5) (tCons (tVar 6) tNil)))) (tSeq (tDrop (tCall (sp_need_rank K) [] E (tCons (tVar 7) tNil))) (tSeq (tSupM (He.ga K "Work") (sp_Asking___init__ K) E0 (tCons (tVar 1) (tCons (tVar 2) (tCons (tVar 5) (tCons (tVar 6) (tCons (tVar 7) tNil)))))) (tSeq (sFld K (tVar 0) (tVar 3) "start") (tSeq (sFld K (tVar 0) (tVar 4) "end") (tSeq (sFld K (tVar 0) (tTup (tCons (tC (.str "work")) (tCons (tVar 1) tNil))) "key") (tSeq (sFld K (tVar 0) (tUn uNeg (tVar 6)) "fee") (sFld K (tVar 0) (tOp (rIx K) (tVar 3) (tC (.int 1))) "begins")))))))))))
def t_Hire___init__ (K : PySem.W.Frag) (E : XK) : TS := (tSeq (tDrop (tCall (sp_need_names K) [] E (tCons (tVar 1) (tCons (tVar 2) tNil)))) (tSeq (tIfS (tNot (tTru K (tCall (sp_is_standing K) [] E0 (tCons (tVar 3) tNil)))) (tRaiseX (He.ga K "InvalidStanding") (fl1 "value" "InvalidStanding") 1 (tCons (tVar 3) tNil) E) tNext) (tSeq (tDrop (tCall (sp_need_terms K) [] E (tCons (tVar 4) (tCons (tVar 5) tNil)))) (tSeq (tDrop (tCall (sp_need_rank K) [] E (tCons (tVar 6) tNil))) (tSeq (tSupM (He.ga K "Hire") (sp_Asking___init__ K) E0 (tCons (tVar 1) (tCons (tVar 2) (tCons (tVar 4) (tCons (tVar 5) (tCons (tVar 6) tNil)))))) (tSeq (sFld K (tVar 0) (tTup tNil) "start") (tSeq (sFld K (tVar 0) (tVar 3) "end") (tSeq (sFld K (tVar 0) (tTup (tCons (tC (.str "hire")) (tCons (tVar 1) tNil))) "key") (tSeq (sFld K (tVar 0) (tVar 5) "fee") (sFld K (tVar 0) (tOp (rIx K) (tVar 3) (tC (.int 1))) "begins"))))))))))
def t__law_bag (K : PySem.W.Frag) : TS := (tSeq (tAsg (tCB (uList K) (tCons (tSl (uSl K) (tVar 0) tNoPart (tPart (tC (.int 63)))) tNil)) (gName 1)) (tRet (tLst (tCons (tVar 1) (tCons (tC (.int 0)) (tCons (tC (.int 0)) (tCons (tOp (uAdd K) (tC (.int 12029)) (tOp uMul (tC (.int 31)) (tCB (uLen K) (tCons (tVar 1) tNil)))) tNil)))))))
def t__law_take (K : PySem.W.Frag) : TS := (tSeq (tIfS (tAnd (tTest (tOp (uEq K) (tOp (rIx K) (tVar 0) (tC (.int 2))) (tC (.int 0)))) (tTest (tOp uLt (tOp (rIx K) (tVar 0) (tC (.int 1))) (tCB (uLen K) (tCons (tOp (rIx K) (tVar 0) (tC (.int 0))) tNil))))) (tSeq (tAsg (tOp (rIx K) (tOp (rIx K) (tVar 0) (tC (.int 0))) (tOp (rIx K) (tVar 0) (tC (.int 1)))) (gName 2)) (tSeq (tAsg (tOp (uAdd K) (tOp (rIx K) (tVar 0) (tC (.int 1))) (tC (.int 1))) (gSub (tVar 0) (tC (.int 1)) rSetL)) (tSeq (tAsg (tOp uMod (tCB uInt (tCons (tOp (uAdd K) (tOp (uAdd K) (tOp uMul (tOp (rIx K) (tVar 0) (tC (.int 3))) (tC (.int 48271))) (tOp uMul (tOp uMod (tCB uInt (tCons (tVar 2) tNil)) (tC (.int 1000003))) (tC (.int 6151)))) (tC (.int 7919))) tNil)) (tC (.int 2147483629))) (gSub (tVar 0) (tC (.int 3)) rSetL)) (tIfS (tTest (tOp uGe (tVar 2) (tOp uPow (tC (.int 10)) (tC (.int 18))))) (tAsg (tVar 2) (gSub (tVar 0) (tC (.int 2)) rSetL)) tNext)))) tNext) (tSeq (tIfS (tTest (tOp uGt (tOp (rIx K) (tVar 0) (tC (.int 2))) (tC (.int 0)))) (tSeq (tAsg (tOp uMod (tCB uInt (tCons (tOp (rIx K) (tVar 0) (tC (.int 2))) tNil)) (tVar 1)) (gName 3)) (tSeq (tAsg (tOp uFdiv (tOp (rIx K) (tVar 0) (tC (.int 2))) (tVar 1)) (gSub (tVar 0) (tC (.int 2)) rSetL)) (tRet (tVar 3)))) tNext) (tSeq (tAsg (tOp uMod (tCB uInt (tCons (tOp (uAdd K) (tOp (uAdd K) (tOp uMul (tOp (rIx K) (tVar 0) (tC (.int 3))) (tOp (rIx K) (tVar 0) (tC (.int 3)))) (tOp uMul (tOp (rIx K) (tVar 0) (tC (.int 3))) (tC (.int 40692)))) (tC (.int 1231))) tNil)) (tC (.int 2147483629))) (gSub (tVar 0) (tC (.int 3)) rSetL)) (tRet (tOp uMod (tCB uInt (tCons (tOp (uAdd K) (tOp uFdiv (tOp (rIx K) (tVar 0) (tC (.int 3))) (tC (.int 97))) (tOp uMul (tOp uMod (tCB uInt (tCons (tOp (rIx K) (tVar 0) (tC (.int 3))) tNil)) (tC (.int 7919))) (tC (.int 89)))) tNil)) (tVar 1))))))
def t__law_of (K : PySem.W.Frag) : TS := (tRet (tOp (rIx K) (tVar 1) (tCall (sp__law_take K) [] E0 (tCons (tVar 0) (tCons (tCB (uLen K) (tCons (tVar 1) tNil)) tNil)))))
def t__law_same (K : PySem.W.Frag) (rec : Sp) : TS := (tSeq (tIfS (tOr (tTest (tOp rIsN (tVar 1) (tC .non))) (tTest (tOp rIsN (tVar 0) (tC .non)))) (tRet (tAndV (tOp rIsN (tVar 1) (tC .non)) (tOp rIsN (tVar 0) (tC .non)))) tNext) (tSeq (tIfS (tTru K (tCB (uIsiM K) (tCons (tVar 1) (tCons (tTup (tCons (tC (.ty "list")) (tCons (tC (.ty "tuple")) tNil))) tNil)))) (tSeq (tIfS (tOr (tTest (tOp (uNe K) (tCB (uIsiM K) (tCons (tVar 0) (tCons (tC (.ty "list")) tNil))) (tCB (uIsiM K) (tCons (tVar 1) (tCons (tC (.ty "list")) tNil))))) (tTest (tOp (uNe K) (tCB (uIsiM K) (tCons (tVar 0) (tCons (tC (.ty "tuple")) tNil))) (tCB (uIsiM K) (tCons (tVar 1) (tCons (tC (.ty "tuple")) tNil)))))) (tRet (tC (.bl false))) tNext) (tRet (tAndV (tOp (uEq K) (tCB (uLen K) (tCons (tVar 0) tNil)) (tCB (uLen K) (tCons (tVar 1) tNil))) (tOp (uEq K) (tLc (iRng1 (tCons (tCB (uLen K) (tCons (tVar 1) tNil)) tNil)) (gName 2) (tNot (tTru K (tCall rec [] E0 (tCons (tOp (rIx K) (tVar 0) (tVar 2)) (tCons (tOp (rIx K) (tVar 1) (tVar 2)) tNil))))) (tVar 2) [2]) (tLst tNil))))) tNext) (tSeq (tIfS (tTru K (tCB (uIsiM K) (tCons (tVar 1) (tCons (tC (.ty "dict")) tNil)))) (tRet (tAndV (tCB (uIsiM K) (tCons (tVar 0) (tCons (tC (.ty "dict")) tNil))) (tCall rec [] E0 (tCons (LiI.tListItems (tVar 0)) (tCons (LiI.tListItems (tVar 1)) tNil))))) tNext) (tSeq (tIfS (tOr (tTest (tOp (uNe K) (tCB (uIsiM K) (tCons (tVar 1) (tCons (tC (.ty "bool")) tNil))) (tCB (uIsiM K) (tCons (tVar 0) (tCons (tC (.ty "bool")) tNil))))) (tTest (tOp (uNe K) (tCB (uIsiM K) (tCons (tVar 1) (tCons (tC (.ty "int")) tNil))) (tCB (uIsiM K) (tCons (tVar 0) (tCons (tC (.ty "int")) tNil)))))) (tRet (tC (.bl false))) tNext) (tRet (tAndV (tOp (uEq K) (tCB (uIsiM K) (tCons (tVar 1) (tCons (tC (.ty "str")) tNil))) (tCB (uIsiM K) (tCons (tVar 0) (tCons (tC (.ty "str")) tNil)))) (tOp (uEq K) (tVar 0) (tVar 1))))))))
def t__law_names (K : PySem.W.Frag) : TS := (tSeq (tAsg (tC (.str "abcdefghijklmnopqrstuvwxyz")) (gName 3)) (tSeq (tAsg (tM1 (m_join K) (tC (.str "")) (tLc (iRng1 (tCons (tCall (sp__law_take K) [] E0 (tCons (tVar 0) (tCons (tVar 2) tNil))) tNil)) (gName 5) tYes (tCall (sp__law_of K) [] E0 (tCons (tVar 0) (tCons (tVar 3) tNil))) [5])) (gName 4)) (tSeq (tPar3 6 7 8 (tCons (tCall (sp__law_take K) [] E0 (tCons (tVar 0) (tCons (tC (.int 26)) tNil))) (tCons (tCall (sp__law_of K) [] E0 (tCons (tVar 0) (tCons (tLst (tCons (tC (.int 1)) (tCons (tC (.int 3)) (tCons (tC (.int 5)) (tCons (tC (.int 7)) (tCons (tC (.int 11)) (tCons (tC (.int 25)) tNil))))))) tNil))) (tCons (tLst tNil) tNil)))) (tSeq (tFor (iRng1 (tCons (tVar 1) tNil)) (gName 5) (tSeq (tAsg (tM1 (m_join K) (tC (.str "")) (tLc (iRng1 (tCons (tCall (sp__law_take K) [] E0 (tCons (tVar 0) (tCons (tOp uSub (tVar 2) (tCB (uLen K) (tCons (tVar 4) tNil))) tNil))) tNil)) (gName 10) tYes (tCall (sp__law_of K) [] E0 (tCons (tVar 0) (tCons (tVar 3) tNil))) [10])) (gName 9)) (tDrop (tBM K "list" rAppend (tVar 8) (tCons (tOp (uAdd K) (tOp (uAdd K) (tVar 4) (tOp (rIx K) (tVar 3) (tOp uMod (tCB uInt (tCons (tOp (uAdd K) (tVar 6) (tOp uMul (tVar 7) (tVar 5))) tNil)) (tC (.int 26))))) (tVar 9)) tNil))))) (tRet (tVar 8))))))
def t__law_is_count (K : PySem.W.Frag) : TS := (tRet (tAndV (tCB (uIsiM K) (tCons (tVar 0) (tCons (tC (.ty "int")) tNil))) (tAndV (tNotV (tCB (uIsiM K) (tCons (tVar 0) (tCons (tC (.ty "bool")) tNil)))) (tAndV (tOp uLe (tVar 1) (tVar 0)) (tOp uLe (tVar 0) (tVar 2))))))
def t__law_is_call (K : PySem.W.Frag) : TS := (tSeq (tIfS (tOr (tNot (tTru K (tCB (uIsiM K) (tCons (tVar 0) (tCons (tC (.ty "str")) tNil))))) (tNot (tTru K (tCall (sp__law_is_count K) [] E0 (tCons (tCB (uLen K) (tCons (tVar 0) tNil)) (tCons (tC (.int 1)) (tCons (tC (.int 6)) tNil))))))) (tRet (tC (.bl false))) tNext) (tRet (tOp (uEq K) (tLc (iAny K (tVar 0)) (gName 1) (tTest (tOp (uNi K) (tVar 1) (tC (.str "abcdefghijklmnopqrstuvwxyz")))) (tVar 1) [1]) (tLst tNil))))
def t__law_is_spot (K : PySem.W.Frag) : TS := (tRet (tAndV (tCB (uIsiM K) (tCons (tVar 0) (tCons (tC (.ty "tuple")) tNil))) (tAndV (tOp (uEq K) (tCB (uLen K) (tCons (tVar 0) tNil)) (tC (.int 2))) (tAndV (tCall (sp__law_is_call K) [] E0 (tCons (tOp (rIx K) (tVar 0) (tC (.int 0))) tNil)) (tCall (sp__law_is_count K) [] E0 (tCons (tOp (rIx K) (tVar 0) (tC (.int 1))) (tCons (tC (.int 0)) (tCons (tC (.int 8)) tNil))))))))
def t__law_due (K : PySem.W.Frag) : TS := (tSeq (tAsg (tVar 0) (gTup K 8 (gCons (gName 1) (gCons (gName 2) (gCons (gName 3) (gCons (gName 4) (gCons (gName 5) (gCons (gName 6) (gCons (gName 7) (gCons (gName 8) gNil)))))))))) (tSeq (tFor (iAny K (tTup (tCons (tVar 2) (tCons (tVar 3) tNil)))) (gName 9) (tIfS (tNot (tTru K (tCall (sp__law_is_call K) [] E0 (tCons (tVar 9) tNil)))) (tRet (tTup (tCons (tC (.str "InvalidName")) (tCons (tVar 9) tNil)))) tNext)) (tSeq (tIfS (tAnd (tTest (tOp (uEq K) (tVar 1) (tC (.str "work")))) (tNot (tTru K (tCall (sp__law_is_spot K) [] E0 (tCons (tVar 5) tNil))))) (tRet (tTup (tCons (tC (.str "InvalidStanding")) (tCons (tVar 5) tNil)))) tNext) (tSeq (tIfS (tOr (tNot (tTru K (tCall (sp__law_is_spot K) [] E0 (tCons (tVar 6) tNil)))) (tAnd (tTest (tOp (uEq K) (tVar 1) (tC (.str "work")))) (tTest (tOp uLe (tOp (rIx K) (tVar 6) (tC (.int 1))) (tOp (rIx K) (tVar 5) (tC (.int 1))))))) (tRet (tTup (tCons (tC (.str "InvalidStanding")) (tCons (tVar 6) tNil)))) tNext) (tSeq (tFor (iAny K (tTup (tCons (tTup (tCons (tVar 7) (tCons (tC (.int 1)) (tCons (tC (.int 99)) tNil)))) (tCons (tTup (tCons (tVar 8) (tCons (tC (.int 0)) (tCons (tC (.int 999)) tNil)))) (tCons (tTup (tCons (tVar 4) (tCons (tC (.int 0)) (tCons (tC (.int 99)) tNil)))) tNil))))) (gTup K 3 (gCons (gName 9) (gCons (gName 10) (gCons (gName 11) gNil)))) (tIfS (tNot (tTru K (tCall (sp__law_is_count K) [] E0 (tCons (tVar 9) (tCons (tVar 10) (tCons (tVar 11) tNil)))))) (tRet (tTup (tCons (tC (.str "InvalidNumber")) (tCons (tVar 9) tNil)))) tNext)) (tRet (tTup tNil)))))))
def t__law_good (K : PySem.W.Frag) : TS := (tSeq (tAsg (tCall (sp__law_of K) [] E0 (tCons (tVar 0) (tCons (tLst (tCons (tC (.int 0)) (tCons (tC (.int 7)) (tCons (tC (.int 3)) tNil)))) tNil))) (gName 2)) (tSeq (tAsg (tCall (sp__law_of K) [] E0 (tCons (tVar 0) (tCons (tLst (tCons (tOp (uAdd K) (tVar 2) (tC (.int 1))) (tCons (tC (.int 8)) tNil))) tNil))) (gName 3)) (tSeq (tPar 4 5 (tCons (tCall (sp__law_of K) [] E0 (tCons (tVar 0) (tCons (tLst (tCons (tC (.str "work")) (tCons (tC (.str "work")) (tCons (tC (.str "hire")) tNil)))) tNil))) (tCons (tCall (sp__law_of K) [] E0 (tCons (tVar 0) (tCons (tLst (tCons (tC (.int 0)) (tCons (tC (.int 99)) (tCons (tC (.int 5)) tNil)))) tNil))) tNil))) (tSeq (tPar 6 7 (tCons (tTup (tCons (tCall (sp__law_of K) [] E0 (tCons (tVar 0) (tCons (tVar 1) tNil))) (tCons (tVar 2) tNil))) (tCons (tTup (tCons (tCall (sp__law_of K) [] E0 (tCons (tVar 0) (tCons (tVar 1) tNil))) (tCons (tIf (tTest (tOp (uEq K) (tVar 4) (tC (.str "work")))) (tVar 3) (tCall (sp__law_of K) [] E0 (tCons (tVar 0) (tCons (tLst (tCons (tC (.int 0)) (tCons (tC (.int 8)) (tCons (tC (.int 4)) tNil)))) tNil)))) tNil))) tNil))) (tSeq (tPar 8 9 (tCons (tCall (sp__law_of K) [] E0 (tCons (tVar 0) (tCons (tLst (tCons (tC (.int 1)) (tCons (tC (.int 99)) (tCons (tC (.int 3)) tNil)))) tNil))) (tCons (tCall (sp__law_of K) [] E0 (tCons (tVar 0) (tCons (tLst (tCons (tC (.int 0)) (tCons (tC (.int 999)) (tCons (tC (.int 6)) tNil)))) tNil))) tNil))) (tRet (tTup (tCons (tVar 4) (tCons (tCall (sp__law_of K) [] E0 (tCons (tVar 0) (tCons (tVar 1) tNil))) (tCons (tCall (sp__law_of K) [] E0 (tCons (tVar 0) (tCons (tVar 1) tNil))) (tCons (tVar 5) (tCons (tIf (tTest (tOp (uEq K) (tVar 4) (tC (.str "work")))) (tVar 6) (tTup tNil)) (tCons (tVar 7) (tCons (tVar 8) (tCons (tVar 9) tNil)))))))))))))))
def t__law_bad (K : PySem.W.Frag) : TS := (tSeq (tIfS (tTest (tOp (uIn K) (tVar 2) (tTup (tCons (tC (.int 1)) (tCons (tC (.int 2)) tNil))))) (tRet (tCall (sp__law_of K) [] E0 (tCons (tVar 0) (tCons (tLst (tCons (tC (.str "")) (tCons (tC (.str "A")) (tCons (tC (.str "abcdefg")) (tCons (tC (.str "a1")) (tCons (tC (.str "a b")) (tCons (tC .non) (tCons (tC (.bl true)) (tCons (tC (.int 3)) (tCons (tTup (tCons (tC (.str "a")) tNil)) (tCons (tLst (tCons (tC (.str "a")) tNil)) (tCons (tC (.str "abcdef")) tNil)))))))))))) tNil)))) tNext) (tSeq (tIfS (tTest (tOp (uIn K) (tVar 2) (tTup (tCons (tC (.int 4)) (tCons (tC (.int 5)) tNil))))) (tSeq (tAsg (tIf (tAnd (tTru K (tCB (uIsiM K) (tCons (tOp (rIx K) (tVar 1) (tC (.int 4))) (tCons (tC (.ty "tuple")) tNil)))) (tAnd (tTest (tOp (uEq K) (tCB (uLen K) (tCons (tOp (rIx K) (tVar 1) (tC (.int 4))) tNil)) (tC (.int 2)))) (tTru K (tCall (sp__law_is_count K) [] E0 (tCons (tOp (rIx K) (tOp (rIx K) (tVar 1) (tC (.int 4))) (tC (.int 1))) (tCons (tC (.int 0)) (tCons (tC (.int 8)) tNil))))))) (tOp (rIx K) (tOp (rIx K) (tVar 1) (tC (.int 4))) (tC (.int 1))) (tC (.int 2))) (gName 3)) (tSeq (tAsg (tLst (tCons (tTup tNil) (tCons (tTup (tCons (tC (.str "a")) tNil)) (tCons (tTup (tCons (tC (.str "a")) (tCons (tC (.int 9)) tNil))) (tCons (tTup (tCons (tC (.str "a")) (tCons (tOp uSub (tC (.int 0)) (tC (.int 1))) tNil))) (tCons (tTup (tCons (tC (.str "a")) (tCons (tC (.bl true)) tNil))) (tCons (tTup (tCons (tC (.str "A")) (tCons (tC (.int 1)) tNil))) (tCons (tLst (tCons (tC (.str "a")) (tCons (tC (.int 1)) tNil))) (tCons (tC (.str "a 1")) (tCons (tC .non) (tCons (tTup (tCons (tC (.str "a")) (tCons (tC (.str "1")) tNil))) (tCons (tTup (tCons (tC (.str "a")) (tCons (tC (.int 1)) (tCons (tC (.int 1)) tNil)))) tNil)))))))))))) (gName 4)) (tRet (tCall (sp__law_of K) [] E0 (tCons (tVar 0) (tCons (tOp (uAdd K) (tVar 4) (tLst (tCons (tTup (tCons (tC (.str "a")) (tCons (tVar 3) tNil))) (tCons (tTup (tCons (tC (.str "b")) (tCons (tVar 3) tNil))) (tCons (tTup (tCons (tC (.str "b")) (tCons (tIf (tTest (tOp uGt (tVar 3) (tC (.int 0)))) (tOp uSub (tVar 3) (tC (.int 1))) (tC (.int 0))) tNil))) (tCons (tTup (tCons (tC (.str "abcdef")) (tCons (tC (.int 8)) tNil))) tNil)))))) tNil)))))) tNext) (tRet (tCall (sp__law_of K) [] E0 (tCons (tVar 0) (tCons (tLst (tCons (tOp uSub (tC (.int 0)) (tC (.int 1))) (tCons (tC (.int 0)) (tCons (tC (.int 100)) (tCons (tC (.int 1000)) (tCons (tC (.int 99)) (tCons (tC (.int 999)) (tCons (tC (.bl true)) (tCons (tC (.bl false)) (tCons (tC .non) (tCons (tC (.str "1")) (tCons (tLst (tCons (tC (.int 1)) tNil)) (tCons (tTup (tCons (tC (.int 1)) tNil)) (tCons (tOp uPow (tC (.int 10)) (tC (.int 8))) tNil)))))))))))))) tNil))))))
def t__law_asked (K : PySem.W.Frag) : TS := (tSeq (tAsg (tVar 1) (gTup K 8 (gCons (gName 2) (gCons (gName 3) (gCons (gName 4) (gCons (gName 5) (gCons (gName 6) (gCons (gName 7) (gCons (gName 8) (gCons (gName 9) gNil)))))))))) (tSeq (tIfS (tTest (tOp (uEq K) (tVar 2) (tC (.str "work")))) (tSeq (tIfS (tTest (tOp (uEq K) (tCall (sp__law_take K) [] E0 (tCons (tVar 0) (tCons (tC (.int 2)) tNil))) (tC (.int 0)))) (tRet (tLamU (tabs K) (TWhy K (.ref (He.ga K "StandError")) (.ref (He.ga K "Missing"))) (fun E => (tMakeK (He.ga K "Work") 6 (["rank"] : List Str).length (sp_Work___init__ K) (fun vs zs => KB.g_Work___init___7_rank vs zs) E (tCons (tVar 3) (tCons (tVar 4) (tCons (tVar 6) (tCons (tVar 7) (tCons (tVar 8) (tCons (tVar 9) tNil)))))) (tCons (tVar 5) tNil))))) tNext) (tRet (tLamU (tabs K) (TWhy K (.ref (He.ga K "StandError")) (.ref (He.ga K "Missing"))) (fun E => (tMakeK (He.ga K "Work") 0 (["rank", "price", "crews", "end", "start", "owner", "name"] : List Str).length (sp_Work___init__ K) (fun vs zs => KB.g_Work___init___1_rank_price_crews_end_start_owner_name vs zs) E tNil (tCons (tVar 5) (tCons (tVar 9) (tCons (tVar 8) (tCons (tVar 7) (tCons (tVar 6) (tCons (tVar 4) (tCons (tVar 3) tNil)))))))))))) tNext) (tSeq (tIfS (tTest (tOp (uEq K) (tCall (sp__law_take K) [] E0 (tCons (tVar 0) (tCons (tC (.int 2)) tNil))) (tC (.int 0)))) (tRet (tLamU (tabs K) (TWhy K (.ref (He.ga K "StandError")) (.ref (He.ga K "Missing"))) (fun E => (tMakeK (He.ga K "Hire") 5 (["rank"] : List Str).length (sp_Hire___init__ K) (fun vs zs => KB.g_Hire___init___6_rank vs zs) E (tCons (tVar 3) (tCons (tVar 4) (tCons (tVar 7) (tCons (tVar 8) (tCons (tVar 9) tNil))))) (tCons (tVar 5) tNil))))) tNext) (tRet (tLamU (tabs K) (TWhy K (.ref (He.ga K "StandError")) (.ref (He.ga K "Missing"))) (fun E => (tMakeK (He.ga K "Hire") 0 (["rank", "price", "crews", "end", "owner", "name"] : List Str).length (sp_Hire___init__ K) (fun vs zs => KB.g_Hire___init___1_rank_price_crews_end_owner_name vs zs) E tNil (tCons (tVar 5) (tCons (tVar 9) (tCons (tVar 8) (tCons (tVar 7) (tCons (tVar 4) (tCons (tVar 3) tNil)))))))))))))
def t_law (K : PySem.W.Frag) : TS := (tSeq (tAsg (tCall (sp__law_bag K) [] E0 (tCons (tVar 0) tNil)) (gName 1)) (tSeq (tFor (iRng1 (tCons (tC (.int 14)) tNil)) (gName 2) (tSeq (tAsg (tCall (sp__law_good K) [] E0 (tCons (tVar 1) (tCons (tCall (sp__law_names K) [.int 6] E0 (tCons (tVar 1) (tCons (tC (.int 3)) tNil))) tNil))) (gName 3)) (tSeq (tIfS (tNot (tTru K (tCall (sp__law_same K) [] E0 (tCons (tCall (sp__law_asked K) [] E0 (tCons (tVar 1) (tCons (tVar 3) tNil))) (tCons (tTup tNil) tNil))))) (tRet (tC (.bl false))) tNext) (tFor (iRng1 (tCons (tOp (uAdd K) (tC (.int 1)) (tCall (sp__law_take K) [] E0 (tCons (tVar 1) (tCons (tC (.int 4)) tNil)))) tNil)) (gName 4) (tSeq (tAsg (tCall (sp__law_of K) [] E0 (tCons (tVar 1) (tCons (tOp (uAdd K) (tLst (tCons (tC (.int 1)) (tCons (tC (.int 2)) (tCons (tC (.int 3)) (tCons (tC (.int 5)) (tCons (tC (.int 5)) (tCons (tC (.int 6)) (tCons (tC (.int 7)) tNil)))))))) (tIf (tTest (tOp (uEq K) (tOp (rIx K) (tVar 3) (tC (.int 0))) (tC (.str "work")))) (tLst (tCons (tC (.int 4)) (tCons (tC (.int 4)) tNil))) (tLst tNil))) tNil))) (gName 5)) (tSeq (tAsg (tOp (uAdd K) (tOp (uAdd K) (tSl (uSl K) (tVar 3) tNoPart (tPart (tVar 5))) (tTup (tCons (tCall (sp__law_bad K) [] E0 (tCons (tVar 1) (tCons (tVar 3) (tCons (tVar 5) tNil)))) tNil))) (tSl (uSl K) (tVar 3) (tPart (tOp (uAdd K) (tVar 5) (tC (.int 1)))) tNoPart)) (gName 3)) (tIfS (tNot (tTru K (tCall (sp__law_same K) [] E0 (tCons (tCall (sp__law_asked K) [] E0 (tCons (tVar 1) (tCons (tVar 3) tNil))) (tCons (tCall (sp__law_due K) [] E0 (tCons (tVar 3) tNil)) tNil))))) (tRet (tC (.bl false))) tNext))))))) (tRet (tC (.bl true)))))
end K07

namespace K07
open PySem PySem.Spec PyProof.Rows L2 SW MR MPkg MLawA
theorem sim_is_whole {K : PySem.W.Frag} {mg : Str → Option Value} {E : XK} (T : Tx K mg) : SimS true K (tabs K) E [] (t_is_whole K) b_is_whole :=
  (sim_ret (sim_andV (SimE.rr (sim_isi1 (a := (.ty "int")) sim_pk (ask_ty (by decide)))) (sim_notV (SimE.rr (sim_isi1 (a := (.ty "bool")) sim_pk (ask_ty (by decide)))))))
theorem sim_is_number {K : PySem.W.Frag} {mg : Str → Option Value} {E : XK} (T : Tx K mg) : SimS true K (tabs K) E [] (t_is_number K) b_is_number :=
  (sim_ret (sim_andV (SimE.rr (sim_callP pas0 (sim_cons (SimE.f sim_var) sim_nil) (len_cons len_nil))) (sim_chain sim_pk sim_pk sim_pk MR.op_le MR.op_le)))
theorem sim_is_name {K : PySem.W.Frag} {mg : Str → Option Value} {E : XK} (T : Tx K mg) : SimS true K (tabs K) E [] (t_is_name K) b_is_name :=
  (sim_seq (sim_ifS (sim_or (sim_not (sim_tru (SimE.rr (sim_isi1 (a := (.ty "str")) sim_pk (ask_ty (by decide)))))) (sim_not (sim_test (SimE.rr (sim_chain (SimE.rr sim_int) (SimE.rr (sim_b1R sim_pk op_len)) (SimE.rr sim_int) MR.op_le MR.op_le))))) (sim_ret sim_bl) sim_next) (sim_ret (sim_b1R (SimE.rr (sim_lc (sim_any (SimE.f sim_var)) sim_gname sim_yes (sim_op2R sim_pk (SimE.rr (sim_str (sok_lit (by decide +kernel)))) MR.op_in) (by decide))) op_all)))
theorem sim_is_standing {K : PySem.W.Frag} {mg : Str → Option Value} {E : XK} (T : Tx K mg) : SimS true K (tabs K) E [] (t_is_standing K) b_is_standing :=
  (sim_seq (sim_ifS (sim_or (sim_not (sim_tru (SimE.rr (sim_isi1 (a := (.ty "tuple")) sim_pk (ask_ty (by decide)))))) (sim_test (SimE.rr (sim_op2R (SimE.rr (sim_b1R sim_pk op_len)) (SimE.rr sim_int) MR.op_ne)))) (sim_ret sim_bl) sim_next) (sim_ret (sim_andV (SimE.rr (sim_callP pas0 (sim_cons (SimE.f (SimR.val (sim_ix sim_pk (SimE.rr sim_int)))) sim_nil) (len_cons len_nil))) (sim_callP pas0 (sim_cons (SimE.f (SimR.val (sim_ix sim_pk (SimE.rr sim_int)))) (sim_cons (SimE.f sim_int) (sim_cons (SimE.f sim_int) sim_nil))) (len_cons (len_cons (len_cons len_nil)))))))
theorem sim_need_names {K : PySem.W.Frag} {mg : Str → Option Value} {E : XK} (T : Tx K mg) : SimS true K (tabs K) E [] (t_need_names K E) b_need_names :=
  (sim_for (sim_any (SimE.f (sim_tup (sim_cons (SimE.f sim_var) (sim_cons (SimE.f sim_var) sim_nil))))) sim_gname (sim_ifS (sim_not (sim_tru (SimE.rr (sim_callP pas0 (sim_cons (SimE.f sim_var) sim_nil) (len_cons len_nil))))) (sim_raise (sim_cons (SimE.f sim_var) sim_nil) (fun F vs ds h => fl1_ok (sok_lit (by decide +kernel)) h) (by decide) T.e_InvalidName) sim_next) (by decide))
theorem sim_need_terms {K : PySem.W.Frag} {mg : Str → Option Value} {E : XK} (T : Tx K mg) : SimS true K (tabs K) E [] (t_need_terms K E) b_need_terms :=
  (sim_seq (sim_ifS (sim_not (sim_tru (SimE.rr (sim_callP pas0 (sim_cons (SimE.f sim_var) (sim_cons (SimE.f sim_int) (sim_cons (SimE.f sim_int) sim_nil))) (len_cons (len_cons (len_cons len_nil))))))) (sim_raise (sim_cons (SimE.f sim_var) sim_nil) (fun F vs ds h => fl1_ok (sok_lit (by decide +kernel)) h) (by decide) T.e_InvalidNumber) sim_next) (sim_ifS (sim_not (sim_tru (SimE.rr (sim_callP pas0 (sim_cons (SimE.f sim_var) (sim_cons (SimE.f sim_int) (sim_cons (SimE.f sim_int) sim_nil))) (len_cons (len_cons (len_cons len_nil))))))) (sim_raise (sim_cons (SimE.f sim_var) sim_nil) (fun F vs ds h => fl1_ok (sok_lit (by decide +kernel)) h) (by decide) T.e_InvalidNumber) sim_next))
theorem sim_need_rank {K : PySem.W.Frag} {mg : Str → Option Value} {E : XK} (T : Tx K mg) : SimS true K (tabs K) E [] (t_need_rank K E) b_need_rank :=
  (sim_ifS (sim_not (sim_tru (SimE.rr (sim_callP pas0 (sim_cons (SimE.f sim_var) (sim_cons (SimE.f sim_int) (sim_cons (SimE.f sim_int) sim_nil))) (len_cons (len_cons (len_cons len_nil))))))) (sim_raise (sim_cons (SimE.f sim_var) sim_nil) (fun F vs ds h => fl1_ok (sok_lit (by decide +kernel)) h) (by decide) T.e_InvalidNumber) sim_next)
theorem sim_Asking___init__ {K : PySem.W.Frag} {mg : Str → Option Value} {E : XK} (T : Tx K mg) : SimS true K (tabs K) E [0] (t_Asking___init__ K) b_Asking___init__ :=
  (sim_seq (sim_fldS (SimE.fz sim_var)) (sim_seq (sim_fldS (SimE.fz sim_var)) (sim_seq (sim_fldS (SimE.fz sim_var)) (sim_seq (sim_fldS (SimE.fz sim_var)) (sim_fldS (SimE.fz sim_var))))))
theorem sim_Work___init__ {K : PySem.W.Frag} {mg : Str → Option Value} {E : XK} (T : Tx K mg) : SimS true K (tabs K) E [0] (t_Work___init__ K E) b_Work___init__ :=
  (sim_seq (sim_drop (SimE.rr (sim_callP pasE (sim_cons (SimE.f sim_var) (sim_cons (SimE.f sim_var) sim_nil)) (len_cons (len_cons len_nil))))) (sim_seq (sim_ifS (sim_not (sim_tru (SimE.rr (sim_callP pas0 (sim_cons (SimE.f sim_var) sim_nil) (len_cons len_nil))))) (sim_raise (sim_cons (SimE.f sim_var) sim_nil) (fun F vs ds h => fl1_ok (sok_lit (by decide +kernel)) h) (by decide) T.e_InvalidStanding) sim_next) (sim_seq (sim_ifS (sim_or (sim_not (sim_tru (SimE.rr (sim_callP pas0 (sim_cons (SimE.f sim_var) sim_nil) (len_cons len_nil))))) (sim_test (SimE.rr (sim_op2R (sim_ix sim_pk (SimE.rr sim_int)) (sim_ix sim_pk (SimE.rr sim_int)) MR.op_le)))) (sim_raise (sim_cons (SimE.f sim_var) sim_nil) (fun F vs ds h => fl1_ok (sok_lit (by decide +kernel)) h) (by decide) T.e_InvalidStanding) sim_next) (sim_seq (sim_drop (SimE.rr (sim_callP pasE (sim_cons (SimE.f sim_var) (sim_cons (SimE.f sim_var) sim_nil)) (len_cons (len_cons len_nil))))) (sim_seq (sim_drop (SimE.rr (sim_callP pasE (sim_cons (SimE.f sim_var) sim_nil) (len_cons len_nil)))) (sim_seq (sim_sup pas0 (sim_cons (SimE.f sim_var) (sim_cons (SimE.f sim_var) (sim_cons (SimE.f sim_var) (sim_cons (SimE.f sim_var) (sim_cons (SimE.f sim_var) sim_nil))))) (len_one (len_cons (len_cons (len_cons (len_cons (len_cons len_nil))))))) (sim_seq (sim_fldS (SimE.fz sim_var)) (sim_seq (sim_fldS (SimE.fz sim_var)) (sim_seq (sim_fldS (SimE.fz (sim_tup (sim_cons (SimE.f (sim_str (sok_lit (by decide +kernel)))) (sim_cons (SimE.f sim_var) sim_nil))))) (sim_seq (sim_fldS (SimE.fz (sim_op1R sim_pk op_neg))) (sim_fldS (SimE.fz (SimR.val (sim_ix sim_pk (SimE.rr sim_int)))))))))))))))
theorem sim_Hire___init__ {K : PySem.W.Frag} {mg : Str → Option Value} {E : XK} (T : Tx K mg) : SimS true K (tabs K) E [0] (t_Hire___init__ K E) b_Hire___init__ :=
  (sim_seq (sim_drop (SimE.rr (sim_callP pasE (sim_cons (SimE.f sim_var) (sim_cons (SimE.f sim_var) sim_nil)) (len_cons (len_cons len_nil))))) (sim_seq (sim_ifS (sim_not (sim_tru (SimE.rr (sim_callP pas0 (sim_cons (SimE.f sim_var) sim_nil) (len_cons len_nil))))) (sim_raise (sim_cons (SimE.f sim_var) sim_nil) (fun F vs ds h => fl1_ok (sok_lit (by decide +kernel)) h) (by decide) T.e_InvalidStanding) sim_next) (sim_seq (sim_drop (SimE.rr (sim_callP pasE (sim_cons (SimE.f sim_var) (sim_cons (SimE.f sim_var) sim_nil)) (len_cons (len_cons len_nil))))) (sim_seq (sim_drop (SimE.rr (sim_callP pasE (sim_cons (SimE.f sim_var) sim_nil) (len_cons len_nil)))) (sim_seq (sim_sup pas0 (sim_cons (SimE.f sim_var) (sim_cons (SimE.f sim_var) (sim_cons (SimE.f sim_var) (sim_cons (SimE.f sim_var) (sim_cons (SimE.f sim_var) sim_nil))))) (len_one (len_cons (len_cons (len_cons (len_cons (len_cons len_nil))))))) (sim_seq (sim_fldS (SimE.fz (sim_tup sim_nil))) (sim_seq (sim_fldS (SimE.fz sim_var)) (sim_seq (sim_fldS (SimE.fz (sim_tup (sim_cons (SimE.f (sim_str (sok_lit (by decide +kernel)))) (sim_cons (SimE.f sim_var) sim_nil))))) (sim_seq (sim_fldS (SimE.fz sim_var)) (sim_fldS (SimE.fz (SimR.val (sim_ix sim_pk (SimE.rr sim_int))))))))))))))
theorem sim__law_bag {K : PySem.W.Frag} {mg : Str → Option Value} {E : XK} (T : Tx K mg) : SimS true K (tabs K) E [] (t__law_bag K) b__law_bag :=
  (sim_seq (sim_asg (sim_b1 (SimE.f (sim_sl (SimE.f sim_var) sim_noPart (sim_part (SimE.rr sim_int)))) op_list1) sim_gname (by decide)) (sim_ret (sim_lstW (sim_wcons sim_fzv (sim_wcons sim_int (sim_wcons sim_int (sim_wcons (sim_op2 (SimE.f sim_int) (SimE.f (sim_op2R (SimE.rr sim_int) (SimE.rr (sim_b1R sim_pk op_len)) MR.op_mul)) MR.op_add) sim_wnil)))))))
theorem sim__law_take {K : PySem.W.Frag} {mg : Str → Option Value} {E : XK} (T : Tx K mg) : SimS true K (tabs K) E [0] (t__law_take K) b__law_take :=
  (sim_seq (sim_ifS (sim_and (sim_test (SimE.rr (sim_op2R (sim_ix sim_pk (SimE.rr sim_int)) (SimE.rr sim_int) MR.op_eq))) (sim_test (SimE.rr (sim_op2R (sim_ix sim_pk (SimE.rr sim_int)) (SimE.rr (sim_b1R (sim_ix sim_pk (SimE.rr sim_int)) op_len)) MR.op_lt)))) (sim_seq (sim_asg (SimR.val (sim_ix (sim_ix sim_pk (SimE.rr sim_int)) (sim_ix sim_pk (SimE.rr sim_int)))) sim_gname (by decide)) (sim_seq (sim_setL (sim_op2 (SimE.f (SimR.val (sim_ix sim_pk (SimE.rr sim_int)))) (SimE.f sim_int) MR.op_add) (SimE.rr sim_int)) (sim_seq (sim_setL (sim_op2R (SimE.rr (sim_b1R (SimE.rr (sim_op2 (SimE.f (sim_op2 (SimE.f (sim_op2R (sim_ix sim_pk (SimE.rr sim_int)) (SimE.rr sim_int) MR.op_mul)) (SimE.f (sim_op2R (SimE.rr (sim_op2R (SimE.rr (sim_b1R sim_pk op_int)) (SimE.rr sim_int) MR.op_mod)) (SimE.rr sim_int) MR.op_mul)) MR.op_add)) (SimE.f sim_int) MR.op_add)) op_int)) (SimE.rr sim_int) MR.op_mod) (SimE.rr sim_int)) (sim_ifS (sim_test (SimE.rr (sim_op2R sim_pk (SimE.rr (sim_op2R (SimE.rr sim_int) (SimE.rr sim_int) MR.op_pow)) MR.op_ge))) (sim_setL sim_var (SimE.rr sim_int)) sim_next)))) sim_next) (sim_seq (sim_ifS (sim_test (SimE.rr (sim_op2R (sim_ix sim_pk (SimE.rr sim_int)) (SimE.rr sim_int) MR.op_gt))) (sim_seq (sim_asg (sim_op2R (SimE.rr (sim_b1R (sim_ix sim_pk (SimE.rr sim_int)) op_int)) sim_pk MR.op_mod) sim_gname (by decide)) (sim_seq (sim_setL (sim_op2R (sim_ix sim_pk (SimE.rr sim_int)) sim_pk MR.op_fdiv) (SimE.rr sim_int)) (sim_ret sim_var))) sim_next) (sim_seq (sim_setL (sim_op2R (SimE.rr (sim_b1R (SimE.rr (sim_op2 (SimE.f (sim_op2 (SimE.f (sim_op2R (sim_ix sim_pk (SimE.rr sim_int)) (sim_ix sim_pk (SimE.rr sim_int)) MR.op_mul)) (SimE.f (sim_op2R (sim_ix sim_pk (SimE.rr sim_int)) (SimE.rr sim_int) MR.op_mul)) MR.op_add)) (SimE.f sim_int) MR.op_add)) op_int)) (SimE.rr sim_int) MR.op_mod) (SimE.rr sim_int)) (sim_ret (sim_op2R (SimE.rr (sim_b1R (SimE.rr (sim_op2 (SimE.f (sim_op2R (sim_ix sim_pk (SimE.rr sim_int)) (SimE.rr sim_int) MR.op_fdiv)) (SimE.f (sim_op2R (SimE.rr (sim_op2R (SimE.rr (sim_b1R (sim_ix sim_pk (SimE.rr sim_int)) op_int)) (SimE.rr sim_int) MR.op_mod)) (SimE.rr sim_int) MR.op_mul)) MR.op_add)) op_int)) sim_pk MR.op_mod)))))
theorem sim__law_of {K : PySem.W.Frag} {mg : Str → Option Value} {E : XK} (T : Tx K mg) : SimS true K (tabs K) E [0] (t__law_of K) b__law_of :=
  (sim_ret (SimR.val (SimE.rr (sim_ixF (SimE.f sim_var) (SimE.f (sim_call pas0 (sim_conSl (sim_cons (SimE.f (sim_b1R sim_pk op_len)) sim_nil)) (len_conS (len_cons len_nil))))))))
theorem sim__law_same {K : PySem.W.Frag} {mg : Str → Option Value} {E : XK} (T : Tx K mg) {rec : MF} : SimS true K (tabs K) E [] (t__law_same K (spM true K (tabs K) 2 rec)) (b__law_same rec) :=
  (sim_seq (sim_ifS (sim_or (sim_test (SimE.rr (sim_op2R sim_pk (SimE.rr sim_non) op_isN))) (sim_test (SimE.rr (sim_op2R sim_pk (SimE.rr sim_non) op_isN)))) (sim_ret (sim_andV (SimE.rr (sim_op2R sim_pk (SimE.rr sim_non) op_isN)) (sim_op2R sim_pk (SimE.rr sim_non) op_isN))) sim_next) (sim_seq (sim_ifS (sim_tru (SimE.rr (sim_isiT (as := [(.ty "list"), (.ty "tuple")]) sim_pk (ask_cons (ask_ty (by decide)) (ask_cons (ask_ty (by decide)) (fun a m => nomatch m))) (by decide)))) (sim_seq (sim_ifS (sim_or (sim_test (SimE.rr (sim_op2R (SimE.rr (sim_isi1 (a := (.ty "list")) sim_pk (ask_ty (by decide)))) (SimE.rr (sim_isi1 (a := (.ty "list")) sim_pk (ask_ty (by decide)))) MR.op_ne))) (sim_test (SimE.rr (sim_op2R (SimE.rr (sim_isi1 (a := (.ty "tuple")) sim_pk (ask_ty (by decide)))) (SimE.rr (sim_isi1 (a := (.ty "tuple")) sim_pk (ask_ty (by decide)))) MR.op_ne)))) (sim_ret sim_bl) sim_next) (sim_ret (sim_andV (SimE.rr (sim_op2R (SimE.rr (sim_b1R sim_pk op_len)) (SimE.rr (sim_b1R sim_pk op_len)) MR.op_eq)) (sim_op2R (SimE.rr (sim_lc (sim_rng1 (sim_cons (SimE.f (sim_b1R sim_pk op_len)) sim_nil)) sim_gname (sim_not (sim_tru (SimE.rr (sim_callP pas0 (sim_cons (SimE.f (SimR.val (sim_ix sim_pk sim_pk))) (sim_cons (SimE.f (SimR.val (sim_ix sim_pk sim_pk))) sim_nil)) (len_cons (len_cons len_nil)))))) sim_var (by decide))) (SimE.rr (sim_lstW sim_wnil)) MR.op_eq)))) sim_next) (sim_seq (sim_ifS (sim_tru (SimE.rr (sim_isi1 (a := (.ty "dict")) sim_pk (ask_ty (by decide))))) (sim_ret (sim_andV (SimE.rr (sim_isi1 (a := (.ty "dict")) sim_pk (ask_ty (by decide)))) (sim_callP pas0 (sim_cons (SimE.f (sim_items (SimE.f sim_var))) (sim_cons (SimE.f (sim_items (SimE.f sim_var))) sim_nil)) (len_cons (len_cons len_nil))))) sim_next) (sim_seq (sim_ifS (sim_or (sim_test (SimE.rr (sim_op2R (SimE.rr (sim_isi1 (a := (.ty "bool")) sim_pk (ask_ty (by decide)))) (SimE.rr (sim_isi1 (a := (.ty "bool")) sim_pk (ask_ty (by decide)))) MR.op_ne))) (sim_test (SimE.rr (sim_op2R (SimE.rr (sim_isi1 (a := (.ty "int")) sim_pk (ask_ty (by decide)))) (SimE.rr (sim_isi1 (a := (.ty "int")) sim_pk (ask_ty (by decide)))) MR.op_ne)))) (sim_ret sim_bl) sim_next) (sim_ret (sim_andV (SimE.rr (sim_op2R (SimE.rr (sim_isi1 (a := (.ty "str")) sim_pk (ask_ty (by decide)))) (SimE.rr (sim_isi1 (a := (.ty "str")) sim_pk (ask_ty (by decide)))) MR.op_eq)) (sim_op2R sim_pk sim_pk MR.op_eq)))))))
theorem sim__law_names {K : PySem.W.Frag} {mg : Str → Option Value} {E : XK} (T : Tx K mg) : SimS true K (tabs K) E [0] (t__law_names K) b__law_names :=
  (sim_seq (sim_asg (sim_str (sok_lit (by decide +kernel))) sim_gname (by decide)) (sim_seq (sim_asg (sim_join (SimE.rr (sim_str (sok_lit (by decide +kernel)))) (SimE.f (sim_lc (sim_rng1 (sim_cons (SimE.f (sim_call pas0 (sim_conSl (sim_cons (SimE.f sim_var) sim_nil)) (len_conS (len_cons len_nil)))) sim_nil)) sim_gname sim_yes (sim_call pas0 (sim_conSl (sim_cons (SimE.f sim_var) sim_nil)) (len_conS (len_cons len_nil))) (by decide)))) sim_gname (by decide)) (sim_seq (sim_par3 (sim_wcons (sim_call pas0 (sim_conSl (sim_cons (SimE.f sim_int) sim_nil)) (len_conS (len_cons len_nil))) (sim_wcons (sim_call pas0 (sim_conSl (sim_cons (SimE.f (sim_lstW (sim_wcons sim_int (sim_wcons sim_int (sim_wcons sim_int (sim_wcons sim_int (sim_wcons sim_int (sim_wcons sim_int sim_wnil)))))))) sim_nil)) (len_conS (len_cons len_nil))) (sim_wcons (sim_lstW sim_wnil) sim_wnil))) (by decide)) (sim_seq (sim_for (sim_rng1 (sim_cons (SimE.f sim_var) sim_nil)) sim_gname (sim_seq (sim_asg (sim_join (SimE.rr (sim_str (sok_lit (by decide +kernel)))) (SimE.f (sim_lc (sim_rng1 (sim_cons (SimE.f (sim_call pas0 (sim_conSl (sim_cons (SimE.f (sim_op2R sim_pk (SimE.rr (sim_b1R sim_pk op_len)) MR.op_sub)) sim_nil)) (len_conS (len_cons len_nil)))) sim_nil)) sim_gname sim_yes (sim_call pas0 (sim_conSl (sim_cons (SimE.f sim_var) sim_nil)) (len_conS (len_cons len_nil))) (by decide)))) sim_gname (by decide)) (sim_drop (SimE.rr (sim_app (sim_op2 (SimE.f (sim_op2 (SimE.f sim_var) (SimE.f (SimR.val (SimE.rr (sim_ixF (SimE.f sim_var) (SimE.f (sim_op2R (SimE.rr (sim_b1R (SimE.rr (sim_op2 (SimE.f sim_fzv) (SimE.f (sim_op2R sim_pk sim_pk MR.op_mul)) MR.op_add)) op_int)) (SimE.rr sim_int) MR.op_mod)))))) MR.op_add)) (SimE.f sim_var) MR.op_add))))) (by decide)) (sim_ret sim_mov)))))
theorem sim__law_is_count {K : PySem.W.Frag} {mg : Str → Option Value} {E : XK} (T : Tx K mg) : SimS true K (tabs K) E [] (t__law_is_count K) b__law_is_count :=
  (sim_ret (sim_andV (SimE.rr (sim_isi1 (a := (.ty "int")) sim_pk (ask_ty (by decide)))) (sim_andV (SimE.rr (sim_notV (SimE.rr (sim_isi1 (a := (.ty "bool")) sim_pk (ask_ty (by decide)))))) (sim_andV (SimE.rr (sim_op2R sim_pk sim_pk MR.op_le)) (sim_op2R sim_pk sim_pk MR.op_le)))))
theorem sim__law_is_call {K : PySem.W.Frag} {mg : Str → Option Value} {E : XK} (T : Tx K mg) : SimS true K (tabs K) E [] (t__law_is_call K) b__law_is_call :=
  (sim_seq (sim_ifS (sim_or (sim_not (sim_tru (SimE.rr (sim_isi1 (a := (.ty "str")) sim_pk (ask_ty (by decide)))))) (sim_not (sim_tru (SimE.rr (sim_callP pas0 (sim_cons (SimE.f (sim_b1R sim_pk op_len)) (sim_cons (SimE.f sim_int) (sim_cons (SimE.f sim_int) sim_nil))) (len_cons (len_cons (len_cons len_nil)))))))) (sim_ret sim_bl) sim_next) (sim_ret (sim_op2R (SimE.rr (sim_lc (sim_any (SimE.f sim_var)) sim_gname (sim_test (SimE.rr (sim_op2R sim_pk (SimE.rr (sim_str (sok_lit (by decide +kernel)))) MR.op_ni))) sim_var (by decide))) (SimE.rr (sim_lstW sim_wnil)) MR.op_eq)))
theorem sim__law_is_spot {K : PySem.W.Frag} {mg : Str → Option Value} {E : XK} (T : Tx K mg) : SimS true K (tabs K) E [] (t__law_is_spot K) b__law_is_spot :=
  (sim_ret (sim_andV (SimE.rr (sim_isi1 (a := (.ty "tuple")) sim_pk (ask_ty (by decide)))) (sim_andV (SimE.rr (sim_op2R (SimE.rr (sim_b1R sim_pk op_len)) (SimE.rr sim_int) MR.op_eq)) (sim_andV (SimE.rr (sim_callP pas0 (sim_cons (SimE.f (SimR.val (sim_ix sim_pk (SimE.rr sim_int)))) sim_nil) (len_cons len_nil))) (sim_callP pas0 (sim_cons (SimE.f (SimR.val (sim_ix sim_pk (SimE.rr sim_int)))) (sim_cons (SimE.f sim_int) (sim_cons (SimE.f sim_int) sim_nil))) (len_cons (len_cons (len_cons len_nil))))))))
theorem sim__law_due {K : PySem.W.Frag} {mg : Str → Option Value} {E : XK} (T : Tx K mg) : SimS true K (tabs K) E [] (t__law_due K) b__law_due :=
  (sim_seq (sim_asg sim_var (sim_gtup (sim_gcons sim_gname (sim_gcons sim_gname (sim_gcons sim_gname (sim_gcons sim_gname (sim_gcons sim_gname (sim_gcons sim_gname (sim_gcons sim_gname (sim_gcons sim_gname sim_gnil))))))))) (by decide)) (sim_seq (sim_for (sim_any (SimE.f (sim_tup (sim_cons (SimE.f sim_var) (sim_cons (SimE.f sim_var) sim_nil))))) sim_gname (sim_ifS (sim_not (sim_tru (SimE.rr (sim_callP pas0 (sim_cons (SimE.f sim_var) sim_nil) (len_cons len_nil))))) (sim_ret (sim_tup (sim_cons (SimE.f (sim_str (sok_lit (by decide +kernel)))) (sim_cons (SimE.f sim_var) sim_nil)))) sim_next) (by decide)) (sim_seq (sim_ifS (sim_and (sim_test (SimE.rr (sim_op2R sim_pk (SimE.rr (sim_str (sok_lit (by decide +kernel)))) MR.op_eq))) (sim_not (sim_tru (SimE.rr (sim_callP pas0 (sim_cons (SimE.f sim_var) sim_nil) (len_cons len_nil)))))) (sim_ret (sim_tup (sim_cons (SimE.f (sim_str (sok_lit (by decide +kernel)))) (sim_cons (SimE.f sim_var) sim_nil)))) sim_next) (sim_seq (sim_ifS (sim_or (sim_not (sim_tru (SimE.rr (sim_callP pas0 (sim_cons (SimE.f sim_var) sim_nil) (len_cons len_nil))))) (sim_and (sim_test (SimE.rr (sim_op2R sim_pk (SimE.rr (sim_str (sok_lit (by decide +kernel)))) MR.op_eq))) (sim_test (SimE.rr (sim_op2R (sim_ix sim_pk (SimE.rr sim_int)) (sim_ix sim_pk (SimE.rr sim_int)) MR.op_le))))) (sim_ret (sim_tup (sim_cons (SimE.f (sim_str (sok_lit (by decide +kernel)))) (sim_cons (SimE.f sim_var) sim_nil)))) sim_next) (sim_seq (sim_for (sim_any (SimE.f (sim_tup (sim_cons (SimE.f (sim_tup (sim_cons (SimE.f sim_var) (sim_cons (SimE.f sim_int) (sim_cons (SimE.f sim_int) sim_nil))))) (sim_cons (SimE.f (sim_tup (sim_cons (SimE.f sim_var) (sim_cons (SimE.f sim_int) (sim_cons (SimE.f sim_int) sim_nil))))) (sim_cons (SimE.f (sim_tup (sim_cons (SimE.f sim_var) (sim_cons (SimE.f sim_int) (sim_cons (SimE.f sim_int) sim_nil))))) sim_nil)))))) (sim_gtup (sim_gcons sim_gname (sim_gcons sim_gname (sim_gcons sim_gname sim_gnil)))) (sim_ifS (sim_not (sim_tru (SimE.rr (sim_callP pas0 (sim_cons (SimE.f sim_var) (sim_cons (SimE.f sim_var) (sim_cons (SimE.f sim_var) sim_nil))) (len_cons (len_cons (len_cons len_nil))))))) (sim_ret (sim_tup (sim_cons (SimE.f (sim_str (sok_lit (by decide +kernel)))) (sim_cons (SimE.f sim_var) sim_nil)))) sim_next) (by decide)) (sim_ret (sim_tup sim_nil)))))))
theorem sim__law_good {K : PySem.W.Frag} {mg : Str → Option Value} {E : XK} (T : Tx K mg) : SimS true K (tabs K) E [0] (t__law_good K) b__law_good :=
  (sim_seq (sim_asg (sim_call pas0 (sim_conSl (sim_cons (SimE.f (sim_lstW (sim_wcons sim_int (sim_wcons sim_int (sim_wcons sim_int sim_wnil))))) sim_nil)) (len_conS (len_cons len_nil))) sim_gname (by decide)) (sim_seq (sim_asg (sim_call pas0 (sim_conSl (sim_cons (SimE.f (sim_lstW (sim_wcons (sim_op2 (SimE.f sim_fzv) (SimE.f sim_int) MR.op_add) (sim_wcons sim_int sim_wnil)))) sim_nil)) (len_conS (len_cons len_nil))) sim_gname (by decide)) (sim_seq (sim_par (sim_wcons (sim_call pas0 (sim_conSl (sim_cons (SimE.f (sim_lstW (sim_wcons (sim_str (sok_lit (by decide +kernel))) (sim_wcons (sim_str (sok_lit (by decide +kernel))) (sim_wcons (sim_str (sok_lit (by decide +kernel))) sim_wnil))))) sim_nil)) (len_conS (len_cons len_nil))) (sim_wcons (sim_call pas0 (sim_conSl (sim_cons (SimE.f (sim_lstW (sim_wcons sim_int (sim_wcons sim_int (sim_wcons sim_int sim_wnil))))) sim_nil)) (len_conS (len_cons len_nil))) sim_wnil)) (by decide)) (sim_seq (sim_par (sim_wcons (sim_tup (sim_cons (SimE.f (sim_call pas0 (sim_conSl (sim_cons (SimE.f sim_var) sim_nil)) (len_conS (len_cons len_nil)))) (sim_cons (SimE.f sim_fzv) sim_nil))) (sim_wcons (sim_tup (sim_cons (SimE.f (sim_call pas0 (sim_conSl (sim_cons (SimE.f sim_var) sim_nil)) (len_conS (len_cons len_nil)))) (sim_cons (SimE.f (sim_if (sim_test (SimE.rr (sim_op2R sim_pk (SimE.rr (sim_str (sok_lit (by decide +kernel)))) MR.op_eq))) sim_fzv (sim_call pas0 (sim_conSl (sim_cons (SimE.f (sim_lstW (sim_wcons sim_int (sim_wcons sim_int (sim_wcons sim_int sim_wnil))))) sim_nil)) (len_conS (len_cons len_nil))))) sim_nil))) sim_wnil)) (by decide)) (sim_seq (sim_par (sim_wcons (sim_call pas0 (sim_conSl (sim_cons (SimE.f (sim_lstW (sim_wcons sim_int (sim_wcons sim_int (sim_wcons sim_int sim_wnil))))) sim_nil)) (len_conS (len_cons len_nil))) (sim_wcons (sim_call pas0 (sim_conSl (sim_cons (SimE.f (sim_lstW (sim_wcons sim_int (sim_wcons sim_int (sim_wcons sim_int sim_wnil))))) sim_nil)) (len_conS (len_cons len_nil))) sim_wnil)) (by decide)) (sim_ret (sim_tup (sim_cons (SimE.f sim_fzv) (sim_cons (SimE.f (sim_call pas0 (sim_conSl (sim_cons (SimE.f sim_var) sim_nil)) (len_conS (len_cons len_nil)))) (sim_cons (SimE.f (sim_call pas0 (sim_conSl (sim_cons (SimE.f sim_var) sim_nil)) (len_conS (len_cons len_nil)))) (sim_cons (SimE.f sim_fzv) (sim_cons (SimE.f (sim_if (sim_test (SimE.rr (sim_op2R sim_pk (SimE.rr (sim_str (sok_lit (by decide +kernel)))) MR.op_eq))) sim_var (sim_tup sim_nil))) (sim_cons (SimE.f sim_var) (sim_cons (SimE.f sim_fzv) (sim_cons (SimE.f sim_fzv) sim_nil)))))))))))))))
theorem sim__law_bad {K : PySem.W.Frag} {mg : Str → Option Value} {E : XK} (T : Tx K mg) : SimS true K (tabs K) E [0] (t__law_bad K) b__law_bad :=
  (sim_seq (sim_ifS (sim_test (SimE.rr (sim_op2R sim_pk (SimE.rr (sim_tup (sim_cons (SimE.f sim_int) (sim_cons (SimE.f sim_int) sim_nil)))) MR.op_in))) (sim_ret (sim_call pas0 (sim_conSl (sim_cons (SimE.f (sim_lstW (sim_wcons (sim_str (sok_lit (by decide +kernel))) (sim_wcons (sim_str (sok_lit (by decide +kernel))) (sim_wcons (sim_str (sok_lit (by decide +kernel))) (sim_wcons (sim_str (sok_lit (by decide +kernel))) (sim_wcons (sim_str (sok_lit (by decide +kernel))) (sim_wcons sim_non (sim_wcons sim_bl (sim_wcons sim_int (sim_wcons (sim_tup (sim_cons (SimE.f (sim_str (sok_lit (by decide +kernel)))) sim_nil)) (sim_wcons (sim_lstW (sim_wcons (sim_str (sok_lit (by decide +kernel))) sim_wnil)) (sim_wcons (sim_str (sok_lit (by decide +kernel))) sim_wnil))))))))))))) sim_nil)) (len_conS (len_cons len_nil)))) sim_next) (sim_seq (sim_ifS (sim_test (SimE.rr (sim_op2R sim_pk (SimE.rr (sim_tup (sim_cons (SimE.f sim_int) (sim_cons (SimE.f sim_int) sim_nil)))) MR.op_in))) (sim_seq (sim_asg (sim_if (sim_and (sim_tru (SimE.rr (sim_isi1 (a := (.ty "tuple")) (sim_ix sim_pk (SimE.rr sim_int)) (ask_ty (by decide))))) (sim_and (sim_test (SimE.rr (sim_op2R (SimE.rr (sim_b1R (sim_ix sim_pk (SimE.rr sim_int)) op_len)) (SimE.rr sim_int) MR.op_eq))) (sim_tru (SimE.rr (sim_callP pas0 (sim_cons (SimE.f (SimR.val (sim_ix (sim_ix sim_pk (SimE.rr sim_int)) (SimE.rr sim_int)))) (sim_cons (SimE.f sim_int) (sim_cons (SimE.f sim_int) sim_nil))) (len_cons (len_cons (len_cons len_nil)))))))) (SimR.val (sim_ix (sim_ix sim_pk (SimE.rr sim_int)) (SimE.rr sim_int))) sim_int) sim_gname (by decide)) (sim_seq (sim_asg (sim_lstW (sim_wcons (sim_tup sim_nil) (sim_wcons (sim_tup (sim_cons (SimE.f (sim_str (sok_lit (by decide +kernel)))) sim_nil)) (sim_wcons (sim_tup (sim_cons (SimE.f (sim_str (sok_lit (by decide +kernel)))) (sim_cons (SimE.f sim_int) sim_nil))) (sim_wcons (sim_tup (sim_cons (SimE.f (sim_str (sok_lit (by decide +kernel)))) (sim_cons (SimE.f (sim_op2R (SimE.rr sim_int) (SimE.rr sim_int) MR.op_sub)) sim_nil))) (sim_wcons (sim_tup (sim_cons (SimE.f (sim_str (sok_lit (by decide +kernel)))) (sim_cons (SimE.f sim_bl) sim_nil))) (sim_wcons (sim_tup (sim_cons (SimE.f (sim_str (sok_lit (by decide +kernel)))) (sim_cons (SimE.f sim_int) sim_nil))) (sim_wcons (sim_lstW (sim_wcons (sim_str (sok_lit (by decide +kernel))) (sim_wcons sim_int sim_wnil))) (sim_wcons (sim_str (sok_lit (by decide +kernel))) (sim_wcons sim_non (sim_wcons (sim_tup (sim_cons (SimE.f (sim_str (sok_lit (by decide +kernel)))) (sim_cons (SimE.f (sim_str (sok_lit (by decide +kernel)))) sim_nil))) (sim_wcons (sim_tup (sim_cons (SimE.f (sim_str (sok_lit (by decide +kernel)))) (sim_cons (SimE.f sim_int) (sim_cons (SimE.f sim_int) sim_nil)))) sim_wnil)))))))))))) sim_gname (by decide)) (sim_ret (sim_call pas0 (sim_conSl (sim_cons (SimE.f (sim_op2 (SimE.f sim_fzv) (SimE.f (sim_lstW (sim_wcons (sim_tup (sim_cons (SimE.f (sim_str (sok_lit (by decide +kernel)))) (sim_cons (SimE.f sim_var) sim_nil))) (sim_wcons (sim_tup (sim_cons (SimE.f (sim_str (sok_lit (by decide +kernel)))) (sim_cons (SimE.f sim_var) sim_nil))) (sim_wcons (sim_tup (sim_cons (SimE.f (sim_str (sok_lit (by decide +kernel)))) (sim_cons (SimE.f (sim_if (sim_test (SimE.rr (sim_op2R sim_pk (SimE.rr sim_int) MR.op_gt))) (sim_op2R sim_pk (SimE.rr sim_int) MR.op_sub) sim_int)) sim_nil))) (sim_wcons (sim_tup (sim_cons (SimE.f (sim_str (sok_lit (by decide +kernel)))) (sim_cons (SimE.f sim_int) sim_nil))) sim_wnil)))))) MR.op_add)) sim_nil)) (len_conS (len_cons len_nil)))))) sim_next) (sim_ret (sim_call pas0 (sim_conSl (sim_cons (SimE.f (sim_lstW (sim_wcons (sim_op2R (SimE.rr sim_int) (SimE.rr sim_int) MR.op_sub) (sim_wcons sim_int (sim_wcons sim_int (sim_wcons sim_int (sim_wcons sim_int (sim_wcons sim_int (sim_wcons sim_bl (sim_wcons sim_bl (sim_wcons sim_non (sim_wcons (sim_str (sok_lit (by decide +kernel))) (sim_wcons (sim_lstW (sim_wcons sim_int sim_wnil)) (sim_wcons (sim_tup (sim_cons (SimE.f sim_int) sim_nil)) (sim_wcons (sim_op2R (SimE.rr sim_int) (SimE.rr sim_int) MR.op_pow) sim_wnil))))))))))))))) sim_nil)) (len_conS (len_cons len_nil))))))
theorem sim__law_asked {K : PySem.W.Frag} {mg : Str → Option Value} {E : XK} (T : Tx K mg) : SimS true K (tabs K) E [0] (t__law_asked K) b__law_asked :=
  (sim_seq (sim_asg sim_var (sim_gtup (sim_gcons sim_gname (sim_gcons sim_gname (sim_gcons sim_gname (sim_gcons sim_gname (sim_gcons sim_gname (sim_gcons sim_gname (sim_gcons sim_gname (sim_gcons sim_gname sim_gnil))))))))) (by decide)) (sim_seq (sim_ifS (sim_test (SimE.rr (sim_op2R sim_pk (SimE.rr (sim_str (sok_lit (by decide +kernel)))) MR.op_eq))) (sim_seq (sim_ifS (sim_test (SimE.rr (sim_op2R (SimE.rr (sim_call pas0 (sim_conSl (sim_cons (SimE.f sim_int) sim_nil)) (len_conS (len_cons len_nil)))) (SimE.rr sim_int) MR.op_eq))) (sim_ret (sim_why (fun E => (SimE.fz (sim_makeK (g := fun us ws => (((us.drop 0).take 1) ++ (((us.drop 1).take 1) ++ (((us.drop 2).take 1) ++ (((us.drop 3).take 1) ++ (((us.drop 4).take 1) ++ (((us.drop 5).take 1) ++ ((ws.drop 0).take 1)))))))) pasE (sim_cons (SimE.f sim_var) (sim_cons (SimE.f sim_var) (sim_cons (SimE.f sim_var) (sim_cons (SimE.f sim_var) (sim_cons (SimE.f sim_var) (sim_cons (SimE.f sim_var) sim_nil)))))) (sim_cons (SimE.f sim_var) sim_nil) (len_cons (len_cons (len_cons (len_cons (len_cons (len_cons len_nil)))))) (len_cons len_nil) (fun _ _ _ => rfl) (fun F vs zs ds es ra rb => (((ra.drop 0).take 1).append (((ra.drop 1).take 1).append (((ra.drop 2).take 1).append (((ra.drop 3).take 1).append (((ra.drop 4).take 1).append (((ra.drop 5).take 1).append ((rb.drop 0).take 1)))))))) (fun vs zs hv hz => by simp [hv, hz]) T.i_Work))))) sim_next) (sim_ret (sim_why (fun E => (SimE.fz (sim_makeK (g := fun us ws => (((ws.drop 6).take 1) ++ (((ws.drop 5).take 1) ++ (((ws.drop 4).take 1) ++ (((ws.drop 3).take 1) ++ (((ws.drop 2).take 1) ++ (((ws.drop 1).take 1) ++ ((ws.drop 0).take 1)))))))) pasE sim_nil (sim_cons (SimE.f sim_var) (sim_cons (SimE.f sim_var) (sim_cons (SimE.f sim_var) (sim_cons (SimE.f sim_var) (sim_cons (SimE.f sim_var) (sim_cons (SimE.f sim_var) (sim_cons (SimE.f sim_var) sim_nil))))))) len_nil (len_cons (len_cons (len_cons (len_cons (len_cons (len_cons (len_cons len_nil))))))) (fun _ _ _ => rfl) (fun F vs zs ds es ra rb => (((rb.drop 6).take 1).append (((rb.drop 5).take 1).append (((rb.drop 4).take 1).append (((rb.drop 3).take 1).append (((rb.drop 2).take 1).append (((rb.drop 1).take 1).append ((rb.drop 0).take 1)))))))) (fun vs zs hv hz => by simp [hv, hz]) T.i_Work)))))) sim_next) (sim_seq (sim_ifS (sim_test (SimE.rr (sim_op2R (SimE.rr (sim_call pas0 (sim_conSl (sim_cons (SimE.f sim_int) sim_nil)) (len_conS (len_cons len_nil)))) (SimE.rr sim_int) MR.op_eq))) (sim_ret (sim_why (fun E => (SimE.fz (sim_makeK (g := fun us ws => (((us.drop 0).take 1) ++ (((us.drop 1).take 1) ++ (((us.drop 2).take 1) ++ (((us.drop 3).take 1) ++ (((us.drop 4).take 1) ++ ((ws.drop 0).take 1))))))) pasE (sim_cons (SimE.f sim_var) (sim_cons (SimE.f sim_var) (sim_cons (SimE.f sim_var) (sim_cons (SimE.f sim_var) (sim_cons (SimE.f sim_var) sim_nil))))) (sim_cons (SimE.f sim_var) sim_nil) (len_cons (len_cons (len_cons (len_cons (len_cons len_nil))))) (len_cons len_nil) (fun _ _ _ => rfl) (fun F vs zs ds es ra rb => (((ra.drop 0).take 1).append (((ra.drop 1).take 1).append (((ra.drop 2).take 1).append (((ra.drop 3).take 1).append (((ra.drop 4).take 1).append ((rb.drop 0).take 1))))))) (fun vs zs hv hz => by simp [hv, hz]) T.i_Hire))))) sim_next) (sim_ret (sim_why (fun E => (SimE.fz (sim_makeK (g := fun us ws => (((ws.drop 5).take 1) ++ (((ws.drop 4).take 1) ++ (((ws.drop 3).take 1) ++ (((ws.drop 2).take 1) ++ (((ws.drop 1).take 1) ++ ((ws.drop 0).take 1))))))) pasE sim_nil (sim_cons (SimE.f sim_var) (sim_cons (SimE.f sim_var) (sim_cons (SimE.f sim_var) (sim_cons (SimE.f sim_var) (sim_cons (SimE.f sim_var) (sim_cons (SimE.f sim_var) sim_nil)))))) len_nil (len_cons (len_cons (len_cons (len_cons (len_cons (len_cons len_nil)))))) (fun _ _ _ => rfl) (fun F vs zs ds es ra rb => (((rb.drop 5).take 1).append (((rb.drop 4).take 1).append (((rb.drop 3).take 1).append (((rb.drop 2).take 1).append (((rb.drop 1).take 1).append ((rb.drop 0).take 1))))))) (fun vs zs hv hz => by simp [hv, hz]) T.i_Hire))))))))
theorem sim_law {K : PySem.W.Frag} {mg : Str → Option Value} {E : XK} (T : Tx K mg) : SimS true K (tabs K) E [] (t_law K) b_law :=
  (sim_seq (sim_asg (sim_callP pas0 (sim_cons (SimE.f sim_var) sim_nil) (len_cons len_nil)) sim_gname (by decide)) (sim_seq (sim_for (sim_rng1 (sim_cons (SimE.f sim_int) sim_nil)) sim_gname (sim_seq (sim_asg (sim_call pas0 (sim_conSl (sim_cons (SimE.f (sim_dfl (sim_call pas0 (sim_appD (sim_conSl (sim_cons (SimE.f sim_int) sim_nil)) (fun F => (.cons (.int _) .nil))) (len_dfl (len_conS (len_cons len_nil)))))) sim_nil)) (len_conS (len_cons len_nil))) sim_gname (by decide)) (sim_seq (sim_ifS (sim_not (sim_tru (SimE.rr (sim_callP pas0 (sim_cons (SimE.f (sim_call pas0 (sim_conSl (sim_cons (SimE.f sim_fzv) sim_nil)) (len_conS (len_cons len_nil)))) (sim_cons (SimE.f (sim_tup sim_nil)) sim_nil)) (len_cons (len_cons len_nil)))))) (sim_ret sim_bl) sim_next) (sim_for (sim_rng1 (sim_cons (SimE.f (sim_op2 (SimE.f sim_int) (SimE.f (sim_call pas0 (sim_conSl (sim_cons (SimE.f sim_int) sim_nil)) (len_conS (len_cons len_nil)))) MR.op_add)) sim_nil)) sim_gname (sim_seq (sim_asg (sim_call pas0 (sim_conSl (sim_cons (SimE.f (sim_op2 (SimE.f (sim_lstW (sim_wcons sim_int (sim_wcons sim_int (sim_wcons sim_int (sim_wcons sim_int (sim_wcons sim_int (sim_wcons sim_int (sim_wcons sim_int sim_wnil))))))))) (SimE.f (sim_if (sim_test (SimE.rr (sim_op2R (sim_ix sim_pk (SimE.rr sim_int)) (SimE.rr (sim_str (sok_lit (by decide +kernel)))) MR.op_eq))) (sim_lstW (sim_wcons sim_int (sim_wcons sim_int sim_wnil))) (sim_lstW sim_wnil))) MR.op_add)) sim_nil)) (len_conS (len_cons len_nil))) sim_gname (by decide)) (sim_seq (sim_asg (sim_op2 (SimE.f (sim_op2 (SimE.f (sim_sl (SimE.f sim_fzv) sim_noPart (sim_part sim_pk))) (SimE.f (sim_tup (sim_cons (SimE.f (sim_call pas0 (sim_conSl (sim_cons (SimE.f sim_fzv) (sim_cons (SimE.f sim_fzv) sim_nil))) (len_conS (len_cons (len_cons len_nil))))) sim_nil))) MR.op_add)) (SimE.f (sim_sl (SimE.f sim_fzv) (sim_part (SimE.rr (sim_op2 (SimE.f sim_fzv) (SimE.f sim_int) MR.op_add))) sim_noPart)) MR.op_add) sim_gname (by decide)) (sim_ifS (sim_not (sim_tru (SimE.rr (sim_callP pas0 (sim_cons (SimE.f (sim_call pas0 (sim_conSl (sim_cons (SimE.f sim_fzv) sim_nil)) (len_conS (len_cons len_nil)))) (sim_cons (SimE.f (sim_callP pas0 (sim_cons (SimE.f sim_fzv) sim_nil) (len_cons len_nil))) sim_nil)) (len_cons (len_cons len_nil)))))) (sim_ret sim_bl) sim_next))) (by decide)))) (by decide)) (sim_ret sim_bl)))
end K07

namespace K07
open PySem PySem.Spec PyProof.Rows L2 SW MPkg MLawA



theorem dv_is_whole {P : Program} {w : World} {K : PySem.W.Frag} {mg : Str → Option Value} {base : Heap} (T : Tx K mg) {cdv : Value} {A : Around} {outer : List Env} {s : Shared} {H : Hp} {E : XK} (hr : Room 0 (A.deeper (envOfC "is_whole" (defScope (top 11)) s.heap.objs.size (He.ga K "is_whole") cdv))) :
    PSs (cxOf CX0 P w K mg base ["value"] "is_whole" (defScope (top 11)) (He.ga K "is_whole") cdv A outer s H E) (defBody (top 11)) (t_is_whole K) :=
  PSs.nox (pss_one (ps_ret (pe_and (pe_callB MR.u_isiM rfl T.b_isinstance bt_isinstance (pa_cons (pv 0) (pa_cons (pe_ty rfl T.b_int bt_int) pa_nil))) (pe_one (pe_not (pe_callB MR.u_isiM rfl T.b_isinstance bt_isinstance (pa_cons (pv 0) (pa_cons (pe_ty rfl T.b_bool bt_bool) pa_nil))))))))
theorem dv_is_number {P : Program} {w : World} {K : PySem.W.Frag} {mg : Str → Option Value} {base : Heap} (T : Tx K mg) {cdv : Value} {A : Around} {outer : List Env} {s : Shared} {H : Hp} {E : XK} (hr : Room 1 (A.deeper (envOfC "is_number" (defScope (top 12)) s.heap.objs.size (He.ga K "is_number") cdv))) (G_is_whole : FnOk P w K mg base CX0 1 (He.ga K "is_whole") T.fd_is_whole ["value"] (sp_is_whole K)) :
    PSs (cxOf CX0 P w K mg base ["value", "least", "most"] "is_number" (defScope (top 12)) (He.ga K "is_number") cdv A outer s H E) (defBody (top 12)) (t_is_number K) :=
  PSs.nox (pss_one (ps_ret (pe_and (pe_call G_is_whole (hr.mono (by decide)) rfl T.g_is_whole T.F_is_whole.kp T.B_is_whole .nil pass0 (pa_cons (pv 0) pa_nil)) (pe_one (pe_chain u_le u_le (pv 1) (pv 0) (pv 2))))))
theorem dv_is_name {P : Program} {w : World} {K : PySem.W.Frag} {mg : Str → Option Value} {base : Heap} (T : Tx K mg) {cdv : Value} {A : Around} {outer : List Env} {s : Shared} {H : Hp} {E : XK} (hr : Room 0 (A.deeper (envOfC "is_name" (defScope (top 13)) s.heap.objs.size (He.ga K "is_name") cdv))) :
    PSs (cxOf CX0 P w K mg base ["value", "sign"] "is_name" (defScope (top 13)) (He.ga K "is_name") cdv A outer s H E) (defBody (top 13)) (t_is_name K) :=
  PSs.nox (pss_cons (ps_if (PW.pt (pw_or (pt_not (pt_tru (pe_callB MR.u_isiM rfl T.b_isinstance bt_isinstance (pa_cons (pv 0) (pa_cons (pe_ty rfl T.b_str bt_str) pa_nil))) (by intro _; rfl))) (pw_or1 (pt_not (pt_chain u_le u_le pe_int (pe_callB u_len rfl T.b_len bt_len (pa_cons (pv 0) pa_nil)) (pe_gint rfl T.c_MAX_NAME)))))) (pss_one (ps_ret pe_bl)) pss_nil) (pss_one (ps_ret (pe_callB (cr_all rfl) rfl T.b_all bt_all (pa_cons (pe_lc (own := [("sign", 1)]) (g := (gName 1)) rfl sc_is_name.nd (pi_any (pv 0)) (blkOk_by (N := ["value", "sign"]) (sc := (defScope (top 13))) (own := [("sign", 1)]) (by decide +kernel)) (fun _ _ _ _ _ => (pg_name (i := 1) sc_is_name.nd rfl (by first | exact Or.inl rfl | exact Or.inr rfl))) (fun _ _ _ _ _ => pts_nil) (fun _ _ _ _ _ => (pe_cmpR u_in (pv 1) (pe_gstr rfl T.c_SMALL) rfl))) pa_nil)))))
theorem dv_is_standing {P : Program} {w : World} {K : PySem.W.Frag} {mg : Str → Option Value} {base : Heap} (T : Tx K mg) {cdv : Value} {A : Around} {outer : List Env} {s : Shared} {H : Hp} {E : XK} (hr : Room 2 (A.deeper (envOfC "is_standing" (defScope (top 14)) s.heap.objs.size (He.ga K "is_standing") cdv))) (G_is_name : FnOk P w K mg base CX0 1 (He.ga K "is_name") T.fd_is_name ["value"] (sp_is_name K)) (G_is_number : FnOk P w K mg base CX0 2 (He.ga K "is_number") T.fd_is_number ["value", "least", "most"] (sp_is_number K)) :
    PSs (cxOf CX0 P w K mg base ["value"] "is_standing" (defScope (top 14)) (He.ga K "is_standing") cdv A outer s H E) (defBody (top 14)) (t_is_standing K) :=
  PSs.nox (pss_cons (ps_if (PW.pt (pw_or (pt_not (pt_tru (pe_callB MR.u_isiM rfl T.b_isinstance bt_isinstance (pa_cons (pv 0) (pa_cons (pe_ty rfl T.b_tuple bt_tuple) pa_nil))) (by intro _; rfl))) (pw_or1 (pt_cmpR (u_ne hr.units) (pe_callB u_len rfl T.b_len bt_len (pa_cons (pv 0) pa_nil)) pe_int (nomark _))))) (pss_one (ps_ret pe_bl)) pss_nil) (pss_one (ps_ret (pe_and (pe_call G_is_name (hr.mono (by decide)) rfl T.g_is_name T.F_is_name.kp T.B_is_name .nil pass0 (pa_cons (pe_ix ix_seq (pv 0) pe_int (fun _ _ => rfl)) pa_nil)) (pe_one (pe_call G_is_number (hr.mono (by decide)) rfl T.g_is_number T.F_is_number.kp T.B_is_number .nil pass0 (pa_cons (pe_ix ix_seq (pv 0) pe_int (fun _ _ => rfl)) (pa_cons pe_int (pa_cons (pe_gint rfl T.c_MAX_HOUR) pa_nil)))))))))
theorem dv_need_names {P : Program} {w : World} {K : PySem.W.Frag} {mg : Str → Option Value} {base : Heap} (T : Tx K mg) {cdv : Value} {A : Around} {outer : List Env} {s : Shared} {H : Hp} {E : XK} (hr : Room 2 (A.deeper (envOfC "need_names" (defScope (top 19)) s.heap.objs.size (He.ga K "need_names") cdv))) (G_is_name : FnOk P w K mg base CX0 1 (He.ga K "is_name") T.fd_is_name ["value"] (sp_is_name K)) (G_InvalidName___init__ : FnOk P w K mg base CX0 1 (He.fAd K ("InvalidName", some "__init__")) T.fd_InvalidName___init__ ["self", "value"] (spX (He.ga K "InvalidName") 1 (fl1 "value" "InvalidName"))) :
    PSs (cxOf (L2.CX P w) P w K mg base ["name", "owner", "value"] "need_names" (defScope (top 19)) (He.ga K "need_names") cdv A outer s H E) (defBody (top 19)) (t_need_names K E) :=
  (pss_one (ps_for (passes_of rfl) rfl (pi_any (pe_tup (pa_cons (pv 0) (pa_cons (pv 1) pa_nil)))) (pg_name (i := 2) sc_need_names.nd rfl (by first | exact Or.inl rfl | exact Or.inr rfl)) (pss_one (ps_if (pt_not (pt_tru (pe_call G_is_name (hr.mono (by decide)) rfl T.g_is_name T.F_is_name.kp T.B_is_name .nil pass0 (pa_cons (pv 2) pa_nil)) (by intro _; rfl))) (pss_one (ps_raise rfl (takes_of rfl rfl rfl rfl) (pmk_x T.x_InvalidName.xc T.x_InvalidName.init T.x_InvalidName.ty G_InvalidName___init__ (hr.mono (by decide)) T.B_InvalidName___init__ rfl T.g_InvalidName (pa_cons (pv 2) pa_nil)))) pss_nil))))
theorem dv_need_terms {P : Program} {w : World} {K : PySem.W.Frag} {mg : Str → Option Value} {base : Heap} (T : Tx K mg) {cdv : Value} {A : Around} {outer : List Env} {s : Shared} {H : Hp} {E : XK} (hr : Room 2 (A.deeper (envOfC "need_terms" (defScope (top 20)) s.heap.objs.size (He.ga K "need_terms") cdv))) (G_is_number : FnOk P w K mg base CX0 2 (He.ga K "is_number") T.fd_is_number ["value", "least", "most"] (sp_is_number K)) (G_InvalidNumber___init__ : FnOk P w K mg base CX0 1 (He.fAd K ("InvalidNumber", some "__init__")) T.fd_InvalidNumber___init__ ["self", "value"] (spX (He.ga K "InvalidNumber") 1 (fl1 "value" "InvalidNumber"))) :
    PSs (cxOf (L2.CX P w) P w K mg base ["crews", "price"] "need_terms" (defScope (top 20)) (He.ga K "need_terms") cdv A outer s H E) (defBody (top 20)) (t_need_terms K E) :=
  (pss_cons (ps_if (pt_not (pt_tru (pe_call G_is_number (hr.mono (by decide)) rfl T.g_is_number T.F_is_number.kp T.B_is_number .nil pass0 (pa_cons (pv 0) (pa_cons pe_int (pa_cons (pe_gint rfl T.c_MAX_CREWS) pa_nil)))) (by intro _; rfl))) (pss_one (ps_raise rfl (takes_of rfl rfl rfl rfl) (pmk_x T.x_InvalidNumber.xc T.x_InvalidNumber.init T.x_InvalidNumber.ty G_InvalidNumber___init__ (hr.mono (by decide)) T.B_InvalidNumber___init__ rfl T.g_InvalidNumber (pa_cons (pv 0) pa_nil)))) pss_nil) (pss_one (ps_if (pt_not (pt_tru (pe_call G_is_number (hr.mono (by decide)) rfl T.g_is_number T.F_is_number.kp T.B_is_number .nil pass0 (pa_cons (pv 1) (pa_cons pe_int (pa_cons (pe_gint rfl T.c_MAX_PRICE) pa_nil)))) (by intro _; rfl))) (pss_one (ps_raise rfl (takes_of rfl rfl rfl rfl) (pmk_x T.x_InvalidNumber.xc T.x_InvalidNumber.init T.x_InvalidNumber.ty G_InvalidNumber___init__ (hr.mono (by decide)) T.B_InvalidNumber___init__ rfl T.g_InvalidNumber (pa_cons (pv 1) pa_nil)))) pss_nil)))
theorem dv_need_rank {P : Program} {w : World} {K : PySem.W.Frag} {mg : Str → Option Value} {base : Heap} (T : Tx K mg) {cdv : Value} {A : Around} {outer : List Env} {s : Shared} {H : Hp} {E : XK} (hr : Room 2 (A.deeper (envOfC "need_rank" (defScope (top 21)) s.heap.objs.size (He.ga K "need_rank") cdv))) (G_is_number : FnOk P w K mg base CX0 2 (He.ga K "is_number") T.fd_is_number ["value", "least", "most"] (sp_is_number K)) (G_InvalidNumber___init__ : FnOk P w K mg base CX0 1 (He.fAd K ("InvalidNumber", some "__init__")) T.fd_InvalidNumber___init__ ["self", "value"] (spX (He.ga K "InvalidNumber") 1 (fl1 "value" "InvalidNumber"))) :
    PSs (cxOf (L2.CX P w) P w K mg base ["rank"] "need_rank" (defScope (top 21)) (He.ga K "need_rank") cdv A outer s H E) (defBody (top 21)) (t_need_rank K E) :=
  (pss_one (ps_if (pt_not (pt_tru (pe_call G_is_number (hr.mono (by decide)) rfl T.g_is_number T.F_is_number.kp T.B_is_number .nil pass0 (pa_cons (pv 0) (pa_cons pe_int (pa_cons (pe_gint rfl T.c_MAX_RANK) pa_nil)))) (by intro _; rfl))) (pss_one (ps_raise rfl (takes_of rfl rfl rfl rfl) (pmk_x T.x_InvalidNumber.xc T.x_InvalidNumber.init T.x_InvalidNumber.ty G_InvalidNumber___init__ (hr.mono (by decide)) T.B_InvalidNumber___init__ rfl T.g_InvalidNumber (pa_cons (pv 0) pa_nil)))) pss_nil))
theorem dv_Asking___init__ {P : Program} {w : World} {K : PySem.W.Frag} {mg : Str → Option Value} {base : Heap} (T : Tx K mg) {cdv : Value} {A : Around} {outer : List Env} {s : Shared} {H : Hp} {E : XK} (hr : Room 0 (A.deeper (envOfC "Asking.__init__" (defScope (inClass (top 22) 0)) s.heap.objs.size (He.fAd K ("Asking", some "__init__")) cdv))) :
    PSs (cxOf CX0 P w K mg base ["self", "name", "owner", "crews", "price", "rank"] "Asking.__init__" (defScope (inClass (top 22) 0)) (He.fAd K ("Asking", some "__init__")) cdv A outer s H E) (defBody (inClass (top 22) 0)) (t_Asking___init__ K) :=
  PSs.nox (pss_cons (ps_fld (pv 0) (pv 1) rfl) (pss_cons (ps_fld (pv 0) (pv 2) rfl) (pss_cons (ps_fld (pv 0) (pv 3) rfl) (pss_cons (ps_fld (pv 0) (pv 4) rfl) (pss_one (ps_fld (pv 0) (pv 5) rfl))))))
theorem dv_Work___init__ {P : Program} {w : World} {K : PySem.W.Frag} {mg : Str → Option Value} {base : Heap} (T : Tx K mg) {cdv : Value} {cc : Addr} {A : Around} {outer : List Env} {s : Shared} {H : Hp} {E : XK} (SK : SupK P K (He.fAd K ("Work", some "__init__")) cc (He.ga K "Work") cdv (defArgs (inClass (top 23) 0)) "self") (hr : Room 3 (A.deeper (PySem.W.ksEnv "Work.__init__" (defScope (inClass (top 23) 0)) s.heap.objs.size (He.fAd K ("Work", some "__init__")) cdv cc))) (G_Asking___init__ : FnOk P w K mg base CX0 1 (He.fAd K ("Asking", some "__init__")) T.fd_Asking___init__ ["self", "name", "owner", "crews", "price", "rank"] (sp_Asking___init__ K)) (G_need_rank : FnOk P w K mg base (L2.CX P w) 3 (He.ga K "need_rank") T.fd_need_rank ["rank"] (sp_need_rank K)) (G_need_terms : FnOk P w K mg base (L2.CX P w) 3 (He.ga K "need_terms") T.fd_need_terms ["crews", "price"] (sp_need_terms K)) (G_is_standing : FnOk P w K mg base CX0 3 (He.ga K "is_standing") T.fd_is_standing ["value"] (sp_is_standing K)) (G_InvalidStanding___init__ : FnOk P w K mg base CX0 1 (He.fAd K ("InvalidStanding", some "__init__")) T.fd_InvalidStanding___init__ ["self", "value"] (spX (He.ga K "InvalidStanding") 1 (fl1 "value" "InvalidStanding"))) (G_need_names : FnOk P w K mg base (L2.CX P w) 3 (He.ga K "need_names") T.fd_need_names ["name", "owner"] (sp_need_names K)) :
    PSsA (cxSup (L2.CX P w) P w K mg base ["self", "name", "owner", "start", "end", "crews", "price", "rank"] "Work.__init__" (defScope (inClass (top 23) 0)) (He.fAd K ("Work", some "__init__")) cdv cc A outer s H E) (defBody (inClass (top 23) 0)) (defBody (inClass (top 23) 0)) (t_Work___init__ K E) :=
  (psa_cons (ps_expr (pe_call G_need_names (hr.mono (by decide)) rfl T.g_need_names T.F_need_names.kp T.B_need_names .nil (passes_call (takes_of rfl rfl rfl rfl) (fun _ _ _ _ h => h)) (pa_cons (pv 1) (pa_cons (pv 2) pa_nil)))) (psa_cons (ps_if (pt_not (pt_tru (pe_call G_is_standing (hr.mono (by decide)) rfl T.g_is_standing T.F_is_standing.kp T.B_is_standing .nil pass0 (pa_cons (pv 3) pa_nil)) (by intro _; rfl))) (pss_one (ps_raise rfl (takes_of rfl rfl rfl rfl) (pmk_x T.x_InvalidStanding.xc T.x_InvalidStanding.init T.x_InvalidStanding.ty G_InvalidStanding___init__ (hr.mono (by decide)) T.B_InvalidStanding___init__ rfl T.g_InvalidStanding (pa_cons (pv 3) pa_nil)))) pss_nil) (psa_cons (ps_if (PW.pt (pw_or (pt_not (pt_tru (pe_call G_is_standing (hr.mono (by decide)) rfl T.g_is_standing T.F_is_standing.kp T.B_is_standing .nil pass0 (pa_cons (pv 4) pa_nil)) (by intro _; rfl))) (pw_or1 (pt_cmpR u_le (pe_ix ix_seq (pv 4) pe_int (fun _ _ => rfl)) (pe_ix ix_seq (pv 3) pe_int (fun _ _ => rfl)) (nomark _))))) (pss_one (ps_raise rfl (takes_of rfl rfl rfl rfl) (pmk_x T.x_InvalidStanding.xc T.x_InvalidStanding.init T.x_InvalidStanding.ty G_InvalidStanding___init__ (hr.mono (by decide)) T.B_InvalidStanding___init__ rfl T.g_InvalidStanding (pa_cons (pv 4) pa_nil)))) pss_nil) (psa_cons (ps_expr (pe_call G_need_terms (hr.mono (by decide)) rfl T.g_need_terms T.F_need_terms.kp T.B_need_terms .nil (passes_call (takes_of rfl rfl rfl rfl) (fun _ _ _ _ h => h)) (pa_cons (pv 5) (pa_cons (pv 6) pa_nil)))) (psa_cons (ps_expr (pe_call G_need_rank (hr.mono (by decide)) rfl T.g_need_rank T.F_need_rank.kp T.B_need_rank .nil (passes_call (takes_of rfl rfl rfl rfl) (fun _ _ _ _ h => h)) (pa_cons (pv 7) pa_nil))) (psa_supM sc_Work___init__ SK T.b_super rfl T.s_Work G_Asking___init__ (hr.mono (by decide)) T.B_Asking___init__ pass0 (by decide) (pa_cons (pv 1) (pa_cons (pv 2) (pa_cons (pv 5) (pa_cons (pv 6) (pa_cons (pv 7) pa_nil))))) (psa_of (pss_cons (ps_fld (pv 0) (pv 3) rfl) (pss_cons (ps_fld (pv 0) (pv 4) rfl) (pss_cons (ps_fld (pv 0) (pe_tup (pa_cons pe_str (pa_cons (pv 1) pa_nil))) rfl) (pss_cons (ps_fld (pv 0) (pe_un un_neg (pv 6)) rfl) (pss_one (ps_fld (pv 0) (pe_ix ix_seq (pv 3) pe_int (fun _ _ => rfl)) rfl)))))))))))))
theorem dv_Hire___init__ {P : Program} {w : World} {K : PySem.W.Frag} {mg : Str → Option Value} {base : Heap} (T : Tx K mg) {cdv : Value} {cc : Addr} {A : Around} {outer : List Env} {s : Shared} {H : Hp} {E : XK} (SK : SupK P K (He.fAd K ("Hire", some "__init__")) cc (He.ga K "Hire") cdv (defArgs (inClass (top 24) 0)) "self") (hr : Room 3 (A.deeper (PySem.W.ksEnv "Hire.__init__" (defScope (inClass (top 24) 0)) s.heap.objs.size (He.fAd K ("Hire", some "__init__")) cdv cc))) (G_Asking___init__ : FnOk P w K mg base CX0 1 (He.fAd K ("Asking", some "__init__")) T.fd_Asking___init__ ["self", "name", "owner", "crews", "price", "rank"] (sp_Asking___init__ K)) (G_need_rank : FnOk P w K mg base (L2.CX P w) 3 (He.ga K "need_rank") T.fd_need_rank ["rank"] (sp_need_rank K)) (G_need_terms : FnOk P w K mg base (L2.CX P w) 3 (He.ga K "need_terms") T.fd_need_terms ["crews", "price"] (sp_need_terms K)) (G_is_standing : FnOk P w K mg base CX0 3 (He.ga K "is_standing") T.fd_is_standing ["value"] (sp_is_standing K)) (G_InvalidStanding___init__ : FnOk P w K mg base CX0 1 (He.fAd K ("InvalidStanding", some "__init__")) T.fd_InvalidStanding___init__ ["self", "value"] (spX (He.ga K "InvalidStanding") 1 (fl1 "value" "InvalidStanding"))) (G_need_names : FnOk P w K mg base (L2.CX P w) 3 (He.ga K "need_names") T.fd_need_names ["name", "owner"] (sp_need_names K)) :
    PSsA (cxSup (L2.CX P w) P w K mg base ["self", "name", "owner", "end", "crews", "price", "rank"] "Hire.__init__" (defScope (inClass (top 24) 0)) (He.fAd K ("Hire", some "__init__")) cdv cc A outer s H E) (defBody (inClass (top 24) 0)) (defBody (inClass (top 24) 0)) (t_Hire___init__ K E) :=
  (psa_cons (ps_expr (pe_call G_need_names (hr.mono (by decide)) rfl T.g_need_names T.F_need_names.kp T.B_need_names .nil (passes_call (takes_of rfl rfl rfl rfl) (fun _ _ _ _ h => h)) (pa_cons (pv 1) (pa_cons (pv 2) pa_nil)))) (psa_cons (ps_if (pt_not (pt_tru (pe_call G_is_standing (hr.mono (by decide)) rfl T.g_is_standing T.F_is_standing.kp T.B_is_standing .nil pass0 (pa_cons (pv 3) pa_nil)) (by intro _; rfl))) (pss_one (ps_raise rfl (takes_of rfl rfl rfl rfl) (pmk_x T.x_InvalidStanding.xc T.x_InvalidStanding.init T.x_InvalidStanding.ty G_InvalidStanding___init__ (hr.mono (by decide)) T.B_InvalidStanding___init__ rfl T.g_InvalidStanding (pa_cons (pv 3) pa_nil)))) pss_nil) (psa_cons (ps_expr (pe_call G_need_terms (hr.mono (by decide)) rfl T.g_need_terms T.F_need_terms.kp T.B_need_terms .nil (passes_call (takes_of rfl rfl rfl rfl) (fun _ _ _ _ h => h)) (pa_cons (pv 4) (pa_cons (pv 5) pa_nil)))) (psa_cons (ps_expr (pe_call G_need_rank (hr.mono (by decide)) rfl T.g_need_rank T.F_need_rank.kp T.B_need_rank .nil (passes_call (takes_of rfl rfl rfl rfl) (fun _ _ _ _ h => h)) (pa_cons (pv 6) pa_nil))) (psa_supM sc_Hire___init__ SK T.b_super rfl T.s_Hire G_Asking___init__ (hr.mono (by decide)) T.B_Asking___init__ pass0 (by decide) (pa_cons (pv 1) (pa_cons (pv 2) (pa_cons (pv 4) (pa_cons (pv 5) (pa_cons (pv 6) pa_nil))))) (psa_of (pss_cons (ps_fld (pv 0) (pe_tup pa_nil) rfl) (pss_cons (ps_fld (pv 0) (pv 3) rfl) (pss_cons (ps_fld (pv 0) (pe_tup (pa_cons pe_str (pa_cons (pv 1) pa_nil))) rfl) (pss_cons (ps_fld (pv 0) (pv 5) rfl) (pss_one (ps_fld (pv 0) (pe_ix ix_seq (pv 3) pe_int (fun _ _ => rfl)) rfl))))))))))))
theorem dv__law_bag {P : Program} {w : World} {K : PySem.W.Frag} {mg : Str → Option Value} {base : Heap} (T : Tx K mg) {cdv : Value} {A : Around} {outer : List Env} {s : Shared} {H : Hp} {E : XK} (hr : Room 0 (A.deeper (envOfC "_law_bag" (defScope (top 26)) s.heap.objs.size (He.ga K "_law_bag") cdv))) :
    PSs (cxOf CX0 P w K mg base ["_law_script", "_law_cells"] "_law_bag" (defScope (top 26)) (He.ga K "_law_bag") cdv A outer s H E) (defBody (top 26)) (t__law_bag K) :=
  PSs.nox (pss_cons (ps_set (i := 1) sc__law_bag.nd rfl (by first | exact Or.inl rfl | exact Or.inr rfl) (pe_callTy u_list rfl T.b_list bt_list (pa_cons (pe_slice u_sl (pv 0) po_none (po_some pe_int)) pa_nil))) (pss_one (ps_ret (pe_lst (pa_cons (pv 1) (pa_cons pe_int (pa_cons pe_int (pa_cons (pe_op u_add pe_int (pe_op u_mul pe_int (pe_callB u_len rfl T.b_len bt_len (pa_cons (pv 1) pa_nil)))) pa_nil))))))))
theorem dv__law_take {P : Program} {w : World} {K : PySem.W.Frag} {mg : Str → Option Value} {base : Heap} (T : Tx K mg) {cdv : Value} {A : Around} {outer : List Env} {s : Shared} {H : Hp} {E : XK} (hr : Room 0 (A.deeper (envOfC "_law_take" (defScope (top 27)) s.heap.objs.size (He.ga K "_law_take") cdv))) :
    PSs (cxOf CX0 P w K mg base ["_law_bag_here", "_law_size", "_law_cell", "_law_digit"] "_law_take" (defScope (top 27)) (He.ga K "_law_take") cdv A outer s H E) (defBody (top 27)) (t__law_take K) :=
  PSs.nox (pss_cons (ps_if (PW.pt (pw_and (pt_cmpR (u_eq hr.units) (pe_ix ix_seq (pv 0) pe_int (fun _ _ => rfl)) pe_int (nomark _)) (pw_and1 (pt_cmpR u_lt (pe_ix ix_seq (pv 0) pe_int (fun _ _ => rfl)) (pe_callB u_len rfl T.b_len bt_len (pa_cons (pe_ix ix_seq (pv 0) pe_int (fun _ _ => rfl)) pa_nil)) (nomark _))))) (pss_cons (ps_set (i := 2) sc__law_take.nd rfl (by first | exact Or.inl rfl | exact Or.inr rfl) (pe_ix ix_seq (pe_ix ix_seq (pv 0) pe_int (fun _ _ => rfl)) (pe_ix ix_seq (pv 0) pe_int (fun _ _ => rfl)) (fun _ _ => rfl))) (pss_cons (ps_asg (pe_op u_add (pe_ix ix_seq (pv 0) pe_int (fun _ _ => rfl)) pe_int) (pg_sub (pv 0) pe_int set_list)) (pss_cons (ps_asg (pe_op u_mod (pe_callTy u_int rfl T.b_int bt_int (pa_cons (pe_op u_add (pe_op u_add (pe_op u_mul (pe_ix ix_seq (pv 0) pe_int (fun _ _ => rfl)) pe_int) (pe_op u_mul (pe_op u_mod (pe_callTy u_int rfl T.b_int bt_int (pa_cons (pv 2) pa_nil)) pe_int) pe_int)) pe_int) pa_nil)) pe_int) (pg_sub (pv 0) pe_int set_list)) (pss_one (ps_if (pt_cmpR u_ge (pv 2) (pe_op u_pow pe_int pe_int) (nomark _)) (pss_one (ps_asg (pv 2) (pg_sub (pv 0) pe_int set_list))) pss_nil))))) pss_nil) (pss_cons (ps_if (pt_cmpR u_gt (pe_ix ix_seq (pv 0) pe_int (fun _ _ => rfl)) pe_int (nomark _)) (pss_cons (ps_set (i := 3) sc__law_take.nd rfl (by first | exact Or.inl rfl | exact Or.inr rfl) (pe_op u_mod (pe_callTy u_int rfl T.b_int bt_int (pa_cons (pe_ix ix_seq (pv 0) pe_int (fun _ _ => rfl)) pa_nil)) (pv 1))) (pss_cons (ps_asg (pe_op u_fdiv (pe_ix ix_seq (pv 0) pe_int (fun _ _ => rfl)) (pv 1)) (pg_sub (pv 0) pe_int set_list)) (pss_one (ps_ret (pv 3))))) pss_nil) (pss_cons (ps_asg (pe_op u_mod (pe_callTy u_int rfl T.b_int bt_int (pa_cons (pe_op u_add (pe_op u_add (pe_op u_mul (pe_ix ix_seq (pv 0) pe_int (fun _ _ => rfl)) (pe_ix ix_seq (pv 0) pe_int (fun _ _ => rfl))) (pe_op u_mul (pe_ix ix_seq (pv 0) pe_int (fun _ _ => rfl)) pe_int)) pe_int) pa_nil)) pe_int) (pg_sub (pv 0) pe_int set_list)) (pss_one (ps_ret (pe_op u_mod (pe_callTy u_int rfl T.b_int bt_int (pa_cons (pe_op u_add (pe_op u_fdiv (pe_ix ix_seq (pv 0) pe_int (fun _ _ => rfl)) pe_int) (pe_op u_mul (pe_op u_mod (pe_callTy u_int rfl T.b_int bt_int (pa_cons (pe_ix ix_seq (pv 0) pe_int (fun _ _ => rfl)) pa_nil)) pe_int) pe_int)) pa_nil)) (pv 1)))))))
theorem dv__law_of {P : Program} {w : World} {K : PySem.W.Frag} {mg : Str → Option Value} {base : Heap} (T : Tx K mg) {cdv : Value} {A : Around} {outer : List Env} {s : Shared} {H : Hp} {E : XK} (hr : Room 1 (A.deeper (envOfC "_law_of" (defScope (top 28)) s.heap.objs.size (He.ga K "_law_of") cdv))) (G__law_take : FnOk P w K mg base CX0 1 (He.ga K "_law_take") T.fd__law_take ["_law_bag_here", "_law_size"] (sp__law_take K)) :
    PSs (cxOf CX0 P w K mg base ["_law_bag_here", "_law_some"] "_law_of" (defScope (top 28)) (He.ga K "_law_of") cdv A outer s H E) (defBody (top 28)) (t__law_of K) :=
  PSs.nox (pss_one (ps_ret (pe_ix ix_seq (pv 1) (pe_call G__law_take (hr.mono (by decide)) rfl T.g__law_take T.F__law_take.kp T.B__law_take .nil pass0 (pa_cons (pv 0) (pa_cons (pe_callB u_len rfl T.b_len bt_len (pa_cons (pv 1) pa_nil)) pa_nil))) (fun _ _ => rfl))))
theorem dv__law_same {P : Program} {w : World} {K : PySem.W.Frag} {mg : Str → Option Value} {base : Heap} (T : Tx K mg) {cdv : Value} {A : Around} {outer : List Env} {s : Shared} {H : Hp} {E : XK} {kr : Nat} {rec : Sp} (hr : Room kr (A.deeper (envOfC "_law_same" (defScope (top 29)) s.heap.objs.size (He.ga K "_law_same") cdv))) (G__law_same : FnOk P w K mg base CX0 kr (He.ga K "_law_same") T.fd__law_same ["_law_found", "_law_due_here"] rec) :
    PSs (cxOf CX0 P w K mg base ["_law_found", "_law_due_here", "_law_k"] "_law_same" (defScope (top 29)) (He.ga K "_law_same") cdv A outer s H E) (defBody (top 29)) (t__law_same K rec) :=
  PSs.nox (pss_cons (ps_if (PW.pt (pw_or (pt_cmpR op_isN1 (pv 1) pe_non (nomark _)) (pw_or1 (pt_cmpR op_isN1 (pv 0) pe_non (nomark _))))) (pss_one (ps_ret (pe_and (pe_cmpR op_isN1 (pv 1) pe_non (nomark _)) (pe_one (pe_cmpR op_isN1 (pv 0) pe_non (nomark _)))))) pss_nil) (pss_cons (ps_if (pt_tru (pe_callB MR.u_isiM rfl T.b_isinstance bt_isinstance (pa_cons (pv 1) (pa_cons (pe_tup (pa_cons (pe_ty rfl T.b_list bt_list) (pa_cons (pe_ty rfl T.b_tuple bt_tuple) pa_nil))) pa_nil))) (by intro _; rfl)) (pss_cons (ps_if (PW.pt (pw_or (pt_cmpR (u_ne hr.units) (pe_callB MR.u_isiM rfl T.b_isinstance bt_isinstance (pa_cons (pv 0) (pa_cons (pe_ty rfl T.b_list bt_list) pa_nil))) (pe_callB MR.u_isiM rfl T.b_isinstance bt_isinstance (pa_cons (pv 1) (pa_cons (pe_ty rfl T.b_list bt_list) pa_nil))) (nomark _)) (pw_or1 (pt_cmpR (u_ne hr.units) (pe_callB MR.u_isiM rfl T.b_isinstance bt_isinstance (pa_cons (pv 0) (pa_cons (pe_ty rfl T.b_tuple bt_tuple) pa_nil))) (pe_callB MR.u_isiM rfl T.b_isinstance bt_isinstance (pa_cons (pv 1) (pa_cons (pe_ty rfl T.b_tuple bt_tuple) pa_nil))) (nomark _))))) (pss_one (ps_ret pe_bl)) pss_nil) (pss_one (ps_ret (pe_and (pe_cmpR (u_eq hr.units) (pe_callB u_len rfl T.b_len bt_len (pa_cons (pv 0) pa_nil)) (pe_callB u_len rfl T.b_len bt_len (pa_cons (pv 1) pa_nil)) (nomark _)) (pe_one (pe_cmpR (u_eq hr.units) (pe_lc (own := [("_law_k", 2)]) (g := (gName 2)) rfl sc__law_same.nd (pi_range1 rfl T.b_range (pa_cons (pe_callB u_len rfl T.b_len bt_len (pa_cons (pv 1) pa_nil)) pa_nil)) (blkOk_by (N := ["_law_found", "_law_due_here", "_law_k"]) (sc := (defScope (top 29))) (own := [("_law_k", 2)]) (by decide +kernel)) (fun _ _ _ _ _ => (pg_name (i := 2) sc__law_same.nd rfl (by first | exact Or.inl rfl | exact Or.inr rfl))) (fun _ _ _ _ _ => (pts_one (pt_not (pt_tru (pe_call G__law_same hr rfl T.g__law_same T.F__law_same.kp T.B__law_same .nil pass0 (pa_cons (pe_ix ix_seq (pv 0) (pv 2) (fun _ _ => rfl)) (pa_cons (pe_ix ix_seq (pv 1) (pv 2) (fun _ _ => rfl)) pa_nil))) (by intro _; rfl))))) (fun _ _ _ _ _ => (pv 2))) (pe_lst pa_nil) (nomark _))))))) pss_nil) (pss_cons (ps_if (pt_tru (pe_callB MR.u_isiM rfl T.b_isinstance bt_isinstance (pa_cons (pv 1) (pa_cons (pe_ty rfl T.b_dict bt_dict) pa_nil))) (by intro _; rfl)) (pss_one (ps_ret (pe_and (pe_callB MR.u_isiM rfl T.b_isinstance bt_isinstance (pa_cons (pv 0) (pa_cons (pe_ty rfl T.b_dict bt_dict) pa_nil))) (pe_one (pe_call G__law_same hr rfl T.g__law_same T.F__law_same.kp T.B__law_same .nil pass0 (pa_cons (LiI.pe_listItems rfl (pv 0) rfl T.b_list bt_list) (pa_cons (LiI.pe_listItems rfl (pv 1) rfl T.b_list bt_list) pa_nil))))))) pss_nil) (pss_cons (ps_if (PW.pt (pw_or (pt_cmpR (u_ne hr.units) (pe_callB MR.u_isiM rfl T.b_isinstance bt_isinstance (pa_cons (pv 1) (pa_cons (pe_ty rfl T.b_bool bt_bool) pa_nil))) (pe_callB MR.u_isiM rfl T.b_isinstance bt_isinstance (pa_cons (pv 0) (pa_cons (pe_ty rfl T.b_bool bt_bool) pa_nil))) (nomark _)) (pw_or1 (pt_cmpR (u_ne hr.units) (pe_callB MR.u_isiM rfl T.b_isinstance bt_isinstance (pa_cons (pv 1) (pa_cons (pe_ty rfl T.b_int bt_int) pa_nil))) (pe_callB MR.u_isiM rfl T.b_isinstance bt_isinstance (pa_cons (pv 0) (pa_cons (pe_ty rfl T.b_int bt_int) pa_nil))) (nomark _))))) (pss_one (ps_ret pe_bl)) pss_nil) (pss_one (ps_ret (pe_and (pe_cmpR (u_eq hr.units) (pe_callB MR.u_isiM rfl T.b_isinstance bt_isinstance (pa_cons (pv 1) (pa_cons (pe_ty rfl T.b_str bt_str) pa_nil))) (pe_callB MR.u_isiM rfl T.b_isinstance bt_isinstance (pa_cons (pv 0) (pa_cons (pe_ty rfl T.b_str bt_str) pa_nil))) (nomark _)) (pe_one (pe_cmpR (u_eq hr.units) (pv 0) (pv 1) (nomark _))))))))))
theorem dv__law_names {P : Program} {w : World} {K : PySem.W.Frag} {mg : Str → Option Value} {base : Heap} (T : Tx K mg) {cdv : Value} {A : Around} {outer : List Env} {s : Shared} {H : Hp} {E : XK} (hr : Room 2 (A.deeper (envOfC "_law_names" (defScope (top 30)) s.heap.objs.size (He.ga K "_law_names") cdv))) (G__law_take : FnOk P w K mg base CX0 1 (He.ga K "_law_take") T.fd__law_take ["_law_bag_here", "_law_size"] (sp__law_take K)) (G__law_of : FnOk P w K mg base CX0 2 (He.ga K "_law_of") T.fd__law_of ["_law_bag_here", "_law_some"] (sp__law_of K)) :
    PSs (cxOf CX0 P w K mg base ["_law_bag_here", "_law_count", "_law_cap", "_law_abc", "_law_stem", "_law_k", "_law_begin", "_law_step", "_law_found", "_law_tail", "_law_j"] "_law_names" (defScope (top 30)) (He.ga K "_law_names") cdv A outer s H E) (defBody (top 30)) (t__law_names K) :=
  PSs.nox (pss_cons (ps_set (i := 3) sc__law_names.nd rfl (by first | exact Or.inl rfl | exact Or.inr rfl) pe_str) (pss_cons (ps_set (i := 4) sc__law_names.nd rfl (by first | exact Or.inl rfl | exact Or.inr rfl) (pe_join pe_str (pe_lc (own := [("_law_k", 5)]) (g := (gName 5)) rfl sc__law_names.nd (pi_range1 rfl T.b_range (pa_cons (pe_call G__law_take (hr.mono (by decide)) rfl T.g__law_take T.F__law_take.kp T.B__law_take .nil pass0 (pa_cons (pv 0) (pa_cons (pv 2) pa_nil))) pa_nil)) (blkOk_by (N := ["_law_bag_here", "_law_count", "_law_cap", "_law_abc", "_law_stem", "_law_k", "_law_begin", "_law_step", "_law_found", "_law_tail", "_law_j"]) (sc := (defScope (top 30))) (own := [("_law_k", 5)]) (by decide +kernel)) (fun _ _ _ _ _ => (pg_name (i := 5) sc__law_names.nd rfl (by first | exact Or.inl rfl | exact Or.inr rfl))) (fun _ _ _ _ _ => pts_nil) (fun _ _ _ _ _ => (pe_call G__law_of (hr.mono (by decide)) rfl T.g__law_of T.F__law_of.kp T.B__law_of .nil pass0 (pa_cons (pv 0) (pa_cons (pv 3) pa_nil))))))) (pss_cons (ps_par3 (i := 6) (j := 7) (l := 8) rfl sc__law_names.nd rfl rfl rfl (by decide) (by decide) (by decide) rfl rfl rfl (pa_cons (pe_call G__law_take (hr.mono (by decide)) rfl T.g__law_take T.F__law_take.kp T.B__law_take .nil pass0 (pa_cons (pv 0) (pa_cons pe_int pa_nil))) (pa_cons (pe_call G__law_of (hr.mono (by decide)) rfl T.g__law_of T.F__law_of.kp T.B__law_of .nil pass0 (pa_cons (pv 0) (pa_cons (pe_lst (pa_cons pe_int (pa_cons pe_int (pa_cons pe_int (pa_cons pe_int (pa_cons pe_int (pa_cons pe_int pa_nil))))))) pa_nil))) (pa_cons (pe_lst pa_nil) pa_nil))) (by rfl)) (pss_cons (ps_for PassesOwn.never rfl (pi_range1 rfl T.b_range (pa_cons (pv 1) pa_nil)) (pg_name (i := 5) sc__law_names.nd rfl (by first | exact Or.inl rfl | exact Or.inr rfl)) (pss_cons (ps_set (i := 9) sc__law_names.nd rfl (by first | exact Or.inl rfl | exact Or.inr rfl) (pe_join pe_str (pe_lc (own := [("_law_j", 10)]) (g := (gName 10)) rfl sc__law_names.nd (pi_range1 rfl T.b_range (pa_cons (pe_call G__law_take (hr.mono (by decide)) rfl T.g__law_take T.F__law_take.kp T.B__law_take .nil pass0 (pa_cons (pv 0) (pa_cons (pe_op u_sub (pv 2) (pe_callB u_len rfl T.b_len bt_len (pa_cons (pv 4) pa_nil))) pa_nil))) pa_nil)) (blkOk_by (N := ["_law_bag_here", "_law_count", "_law_cap", "_law_abc", "_law_stem", "_law_k", "_law_begin", "_law_step", "_law_found", "_law_tail", "_law_j"]) (sc := (defScope (top 30))) (own := [("_law_j", 10)]) (by decide +kernel)) (fun _ _ _ _ _ => (pg_name (i := 10) sc__law_names.nd rfl (by first | exact Or.inl rfl | exact Or.inr rfl))) (fun _ _ _ _ _ => pts_nil) (fun _ _ _ _ _ => (pe_call G__law_of (hr.mono (by decide)) rfl T.g__law_of T.F__law_of.kp T.B__law_of .nil pass0 (pa_cons (pv 0) (pa_cons (pv 3) pa_nil))))))) (pss_one (ps_expr (pe_bm PySem.F.plainAttrs_list PySem.F.slot_list_append PySem.F.type_list_append mt_append (pv 8) (pa_cons (pe_op u_add (pe_op u_add (pv 4) (pe_ix ix_seq (pv 3) (pe_op u_mod (pe_callTy u_int rfl T.b_int bt_int (pa_cons (pe_op u_add (pv 6) (pe_op u_mul (pv 7) (pv 5))) pa_nil)) pe_int) (fun _ _ => rfl))) (pv 9)) pa_nil)))))) (pss_one (ps_ret (pv 8)))))))
theorem dv__law_parts {P : Program} {w : World} {K : PySem.W.Frag} {mg : Str → Option Value} {base : Heap} {cdv : Value} {A : Around} {outer : List Env} {s : Shared} {H : Hp} {a : Addr} {oe : Obj} {cls : Value} {d : Option Addr} (hz : Zc cls d oe) (hf : ∃ vs, oe.data = .fields vs) (hu : (A.deeper (envOfC "_law_parts" (defScope (top 31)) s.heap.objs.size (He.ga K "_law_parts") cdv)).units + 64 < cLine) :
    PSs (L2H.cxH CX0 P w K mg base ["_law_e"] "_law_parts" (defScope (top 31)) (He.ga K "_law_parts") cdv A outer s H E0 (a, oe)) (defBody (top 31)) (t__law_parts K a cls d) :=
  (pss_cons (ps_if (pt_cmpR u_in (pe_xfA (List.mem_singleton.mpr rfl) hz hf (pv 0)) (pe_tup (pa_cons pe_str (pa_cons pe_str (pa_cons pe_str pa_nil)))) rfl) (pss_one (ps_ret (pe_tup (pa_cons (pe_xfA (List.mem_singleton.mpr rfl) hz hf (pv 0)) pa_nil)))) pss_nil) (pss_cons (ps_if (pt_cmpR u_in (pe_xfA (List.mem_singleton.mpr rfl) hz hf (pv 0)) (pe_tup (pa_cons pe_str (pa_cons pe_str (pa_cons pe_str (pa_cons pe_str (pa_cons pe_str pa_nil)))))) rfl) (pss_one (ps_ret (pe_tup (pa_cons (pe_xfA (List.mem_singleton.mpr rfl) hz hf (pv 0)) pa_nil)))) pss_nil) (pss_cons (ps_if (pt_cmpR u_in (pe_xfA (List.mem_singleton.mpr rfl) hz hf (pv 0)) (pe_tup (pa_cons pe_str (pa_cons pe_str (pa_cons pe_str pa_nil)))) rfl) (pss_one (ps_ret (pe_tup (pa_cons (pe_xfA (List.mem_singleton.mpr rfl) hz hf (pv 0)) pa_nil)))) pss_nil) (pss_cons (ps_if (pt_cmpR (u_eq hu) (pe_xfA (List.mem_singleton.mpr rfl) hz hf (pv 0)) pe_str (nomark _)) (pss_one (ps_ret (pe_tup (pa_cons (pe_xfA (List.mem_singleton.mpr rfl) hz hf (pv 0)) pa_nil)))) pss_nil) (pss_cons (ps_if (pt_cmpR (u_eq hu) (pe_xfA (List.mem_singleton.mpr rfl) hz hf (pv 0)) pe_str (nomark _)) (pss_one (ps_ret (pe_tup (pa_cons (pe_xfA (List.mem_singleton.mpr rfl) hz hf (pv 0)) (pa_cons (pe_xfA (List.mem_singleton.mpr rfl) hz hf (pv 0)) pa_nil))))) pss_nil) (pss_one (ps_ret (pe_ifExp (pt_cmpR (u_eq hu) (pe_xfA (List.mem_singleton.mpr rfl) hz hf (pv 0)) pe_str (nomark _)) (pe_tup (pa_cons (pe_xfA (List.mem_singleton.mpr rfl) hz hf (pv 0)) pa_nil)) (pe_ifExp (pt_cmpR (u_eq hu) (pe_xfA (List.mem_singleton.mpr rfl) hz hf (pv 0)) pe_str (nomark _)) (pe_tup (pa_cons (pe_xfA (List.mem_singleton.mpr rfl) hz hf (pv 0)) pa_nil)) (pe_tup pa_nil))))))))))
theorem dv__law_try {P : Program} {w : World} {K : PySem.W.Frag} {mg : Str → Option Value} {base : Heap} (T : Tx K mg) {F0 : List Addr} {s0 : Shared} {H0 : Hp} {f c' : Addr} {q : Str} {j : Nat} {tl : XK → Hp → VK → Prop} {cdv : Value} {A : Around} {outer : List Env} {s : Shared} {H : Hp} (C : Callable P w K mg base F0 s0 H0 f c' q j tl) (hr : Room j (A.deeper (envOfC "_law_try" (defScope (top 32)) s.heap.objs.size (He.ga K "_law_try") cdv))) (l : Later F0 s0 H0 outer s H) :
    PSs (cxOf CX0 P w K mg base ["_law_ask", "_law_e"] "_law_try" (defScope (top 32)) (He.ga K "_law_try") cdv A outer s H E0).nox (defBody (top 32)) (t__law_try K (.ref (He.ga K "StandError")) (.ref (He.ga K "Missing")) f c' q tl) :=
  pss_one (ps_try_tup (X := (cxOf CX0 P w K mg base ["_law_ask", "_law_e"] "_law_try" (defScope (top 32)) (He.ga K "_law_try") cdv A outer s H E0).nox) (x1 := "StandError") (x2 := "Missing") (i := 1) rfl rfl sc__law_try.nd rfl rfl ⟨rfl, rfl, .inl T.g_StandError⟩ ⟨rfl, rfl, .inl T.g_Missing⟩
    (fun W pn xe tk _ => pss_one (ps_ret (pe_tup (pa_cons pe_str (pa_cons (pe_ask (i := 0) C (fun I => Later.un' l rfl I) hr tk rfl (.inl rfl)) pa_nil)))))
    (fun a oe cls d pn hz hf => pss_one (ps_ret (pe_op u_add (pe_tup (pa_cons (pe_xfA (List.mem_cons_self ..) hz hf (pv 1)) pa_nil))
      (pe_callPD T.F__law_parts sc__law_parts T.B__law_parts (List.mem_cons_self ..) rfl T.g__law_parts (mark_depth hr) (fun cdv s H => dv__law_parts hz hf (mark_units hr)) (pa_cons (pv 1) pa_nil))))))
theorem dv__law_why {P : Program} {w : World} {K : PySem.W.Frag} {mg : Str → Option Value} {base : Heap} (T : Tx K mg) {F0 : List Addr} {s0 : Shared} {H0 : Hp} {f c' : Addr} {q : Str} {j : Nat} {tl : XK → Hp → VK → Prop} {cdv : Value} {A : Around} {outer : List Env} {s : Shared} {H : Hp} (C : Callable P w K mg base F0 s0 H0 f c' q j tl) (M : Mono tl) (hr : Room (j + 1) (A.deeper (envOfC "_law_why" (defScope (top 33)) s.heap.objs.size (He.ga K "_law_why") cdv))) (l : Later F0 s0 H0 outer s H) (PT : LamProm P w K mg base 1 (He.ga K "_law_try") (TTry K (.ref (He.ga K "StandError")) (.ref (He.ga K "Missing")))) :
    PSs (cxOf CX0 P w K mg base ["_law_ask", "_law_found"] "_law_why" (defScope (top 33)) (He.ga K "_law_why") cdv A outer s H E0).nox (defBody (top 33)) (t__law_why K (.ref (He.ga K "StandError")) (.ref (He.ga K "Missing")) f c' q tl) :=
  pss_cons (ps_set (i := 1) sc__law_why.nd rfl (by first | exact Or.inl rfl | exact Or.inr rfl) (pe_tryAgain (i := 0) PT C M (fun I => Later.step l rfl rfl rfl I) hr rfl T.g__law_try T.F__law_try.kp rfl (.inl rfl)))
    (pss_one (ps_ret (pe_ifExp (pt_cmpR (u_eq hr.units) (pe_ix ix_seq (pv 1) pe_int (fun _ _ => rfl)) pe_str (nomark _)) (pe_tup pa_nil) (pv 1))))
theorem dv__law_is_count {P : Program} {w : World} {K : PySem.W.Frag} {mg : Str → Option Value} {base : Heap} (T : Tx K mg) {cdv : Value} {A : Around} {outer : List Env} {s : Shared} {H : Hp} {E : XK} (hr : Room 0 (A.deeper (envOfC "_law_is_count" (defScope (top 34)) s.heap.objs.size (He.ga K "_law_is_count") cdv))) :
    PSs (cxOf CX0 P w K mg base ["_law_thing", "_law_low", "_law_high"] "_law_is_count" (defScope (top 34)) (He.ga K "_law_is_count") cdv A outer s H E) (defBody (top 34)) (t__law_is_count K) :=
  PSs.nox (pss_one (ps_ret (pe_and (pe_callB MR.u_isiM rfl T.b_isinstance bt_isinstance (pa_cons (pv 0) (pa_cons (pe_ty rfl T.b_int bt_int) pa_nil))) (pe_and (pe_not (pe_callB MR.u_isiM rfl T.b_isinstance bt_isinstance (pa_cons (pv 0) (pa_cons (pe_ty rfl T.b_bool bt_bool) pa_nil)))) (pe_and (pe_cmpR u_le (pv 1) (pv 0) (nomark _)) (pe_one (pe_cmpR u_le (pv 0) (pv 2) (nomark _))))))))
theorem dv__law_is_call {P : Program} {w : World} {K : PySem.W.Frag} {mg : Str → Option Value} {base : Heap} (T : Tx K mg) {cdv : Value} {A : Around} {outer : List Env} {s : Shared} {H : Hp} {E : XK} (hr : Room 1 (A.deeper (envOfC "_law_is_call" (defScope (top 35)) s.heap.objs.size (He.ga K "_law_is_call") cdv))) (G__law_is_count : FnOk P w K mg base CX0 1 (He.ga K "_law_is_count") T.fd__law_is_count ["_law_thing", "_law_low", "_law_high"] (sp__law_is_count K)) :
    PSs (cxOf CX0 P w K mg base ["_law_thing", "_law_sign"] "_law_is_call" (defScope (top 35)) (He.ga K "_law_is_call") cdv A outer s H E) (defBody (top 35)) (t__law_is_call K) :=
  PSs.nox (pss_cons (ps_if (PW.pt (pw_or (pt_not (pt_tru (pe_callB MR.u_isiM rfl T.b_isinstance bt_isinstance (pa_cons (pv 0) (pa_cons (pe_ty rfl T.b_str bt_str) pa_nil))) (by intro _; rfl))) (pw_or1 (pt_not (pt_tru (pe_call G__law_is_count (hr.mono (by decide)) rfl T.g__law_is_count T.F__law_is_count.kp T.B__law_is_count .nil pass0 (pa_cons (pe_callB u_len rfl T.b_len bt_len (pa_cons (pv 0) pa_nil)) (pa_cons pe_int (pa_cons pe_int pa_nil)))) (by intro _; rfl)))))) (pss_one (ps_ret pe_bl)) pss_nil) (pss_one (ps_ret (pe_cmpR (u_eq hr.units) (pe_lc (own := [("_law_sign", 1)]) (g := (gName 1)) rfl sc__law_is_call.nd (pi_any (pv 0)) (blkOk_by (N := ["_law_thing", "_law_sign"]) (sc := (defScope (top 35))) (own := [("_law_sign", 1)]) (by decide +kernel)) (fun _ _ _ _ _ => (pg_name (i := 1) sc__law_is_call.nd rfl (by first | exact Or.inl rfl | exact Or.inr rfl))) (fun _ _ _ _ _ => (pts_one (pt_cmpR u_ni (pv 1) pe_str rfl))) (fun _ _ _ _ _ => (pv 1))) (pe_lst pa_nil) (nomark _)))))
theorem dv__law_is_spot {P : Program} {w : World} {K : PySem.W.Frag} {mg : Str → Option Value} {base : Heap} (T : Tx K mg) {cdv : Value} {A : Around} {outer : List Env} {s : Shared} {H : Hp} {E : XK} (hr : Room 2 (A.deeper (envOfC "_law_is_spot" (defScope (top 36)) s.heap.objs.size (He.ga K "_law_is_spot") cdv))) (G__law_is_call : FnOk P w K mg base CX0 2 (He.ga K "_law_is_call") T.fd__law_is_call ["_law_thing"] (sp__law_is_call K)) (G__law_is_count : FnOk P w K mg base CX0 1 (He.ga K "_law_is_count") T.fd__law_is_count ["_law_thing", "_law_low", "_law_high"] (sp__law_is_count K)) :
    PSs (cxOf CX0 P w K mg base ["_law_thing"] "_law_is_spot" (defScope (top 36)) (He.ga K "_law_is_spot") cdv A outer s H E) (defBody (top 36)) (t__law_is_spot K) :=
  PSs.nox (pss_one (ps_ret (pe_and (pe_callB MR.u_isiM rfl T.b_isinstance bt_isinstance (pa_cons (pv 0) (pa_cons (pe_ty rfl T.b_tuple bt_tuple) pa_nil))) (pe_and (pe_cmpR (u_eq hr.units) (pe_callB u_len rfl T.b_len bt_len (pa_cons (pv 0) pa_nil)) pe_int (nomark _)) (pe_and (pe_call G__law_is_call (hr.mono (by decide)) rfl T.g__law_is_call T.F__law_is_call.kp T.B__law_is_call .nil pass0 (pa_cons (pe_ix ix_seq (pv 0) pe_int (fun _ _ => rfl)) pa_nil)) (pe_one (pe_call G__law_is_count (hr.mono (by decide)) rfl T.g__law_is_count T.F__law_is_count.kp T.B__law_is_count .nil pass0 (pa_cons (pe_ix ix_seq (pv 0) pe_int (fun _ _ => rfl)) (pa_cons pe_int (pa_cons pe_int pa_nil))))))))))
theorem dv__law_due {P : Program} {w : World} {K : PySem.W.Frag} {mg : Str → Option Value} {base : Heap} (T : Tx K mg) {cdv : Value} {A : Around} {outer : List Env} {s : Shared} {H : Hp} {E : XK} (hr : Room 3 (A.deeper (envOfC "_law_due" (defScope (top 37)) s.heap.objs.size (He.ga K "_law_due") cdv))) (G__law_is_call : FnOk P w K mg base CX0 2 (He.ga K "_law_is_call") T.fd__law_is_call ["_law_thing"] (sp__law_is_call K)) (G__law_is_spot : FnOk P w K mg base CX0 3 (He.ga K "_law_is_spot") T.fd__law_is_spot ["_law_thing"] (sp__law_is_spot K)) (G__law_is_count : FnOk P w K mg base CX0 1 (He.ga K "_law_is_count") T.fd__law_is_count ["_law_thing", "_law_low", "_law_high"] (sp__law_is_count K)) :
    PSs (cxOf CX0 P w K mg base ["_law_row", "_law_word", "_law_call", "_law_boss", "_law_turn", "_law_here", "_law_there", "_law_heads", "_law_pay", "_law_thing", "_law_low", "_law_high"] "_law_due" (defScope (top 37)) (He.ga K "_law_due") cdv A outer s H E) (defBody (top 37)) (t__law_due K) :=
  PSs.nox (pss_cons (ps_asg (pv 0) (pg_tup rfl (pgs_cons (pg_name (i := 1) sc__law_due.nd rfl (by first | exact Or.inl rfl | exact Or.inr rfl)) (pgs_cons (pg_name (i := 2) sc__law_due.nd rfl (by first | exact Or.inl rfl | exact Or.inr rfl)) (pgs_cons (pg_name (i := 3) sc__law_due.nd rfl (by first | exact Or.inl rfl | exact Or.inr rfl)) (pgs_cons (pg_name (i := 4) sc__law_due.nd rfl (by first | exact Or.inl rfl | exact Or.inr rfl)) (pgs_cons (pg_name (i := 5) sc__law_due.nd rfl (by first | exact Or.inl rfl | exact Or.inr rfl)) (pgs_cons (pg_name (i := 6) sc__law_due.nd rfl (by first | exact Or.inl rfl | exact Or.inr rfl)) (pgs_cons (pg_name (i := 7) sc__law_due.nd rfl (by first | exact Or.inl rfl | exact Or.inr rfl)) (pgs_cons (pg_name (i := 8) sc__law_due.nd rfl (by first | exact Or.inl rfl | exact Or.inr rfl)) pgs_nil)))))))))) (pss_cons (ps_for PassesOwn.never rfl (pi_any (pe_tup (pa_cons (pv 2) (pa_cons (pv 3) pa_nil)))) (pg_name (i := 9) sc__law_due.nd rfl (by first | exact Or.inl rfl | exact Or.inr rfl)) (pss_one (ps_if (pt_not (pt_tru (pe_call G__law_is_call (hr.mono (by decide)) rfl T.g__law_is_call T.F__law_is_call.kp T.B__law_is_call .nil pass0 (pa_cons (pv 9) pa_nil)) (by intro _; rfl))) (pss_one (ps_ret (pe_tup (pa_cons pe_str (pa_cons (pv 9) pa_nil))))) pss_nil))) (pss_cons (ps_if (PW.pt (pw_and (pt_cmpR (u_eq hr.units) (pv 1) pe_str (nomark _)) (pw_and1 (pt_not (pt_tru (pe_call G__law_is_spot (hr.mono (by decide)) rfl T.g__law_is_spot T.F__law_is_spot.kp T.B__law_is_spot .nil pass0 (pa_cons (pv 5) pa_nil)) (by intro _; rfl)))))) (pss_one (ps_ret (pe_tup (pa_cons pe_str (pa_cons (pv 5) pa_nil))))) pss_nil) (pss_cons (ps_if (PW.pt (pw_or (pt_not (pt_tru (pe_call G__law_is_spot (hr.mono (by decide)) rfl T.g__law_is_spot T.F__law_is_spot.kp T.B__law_is_spot .nil pass0 (pa_cons (pv 6) pa_nil)) (by intro _; rfl))) (pw_or1 (PW.pt (pw_and (pt_cmpR (u_eq hr.units) (pv 1) pe_str (nomark _)) (pw_and1 (pt_cmpR u_le (pe_ix ix_seq (pv 6) pe_int (fun _ _ => rfl)) (pe_ix ix_seq (pv 5) pe_int (fun _ _ => rfl)) (nomark _)))))))) (pss_one (ps_ret (pe_tup (pa_cons pe_str (pa_cons (pv 6) pa_nil))))) pss_nil) (pss_cons (ps_for PassesOwn.never rfl (pi_any (pe_tup (pa_cons (pe_tup (pa_cons (pv 7) (pa_cons pe_int (pa_cons pe_int pa_nil)))) (pa_cons (pe_tup (pa_cons (pv 8) (pa_cons pe_int (pa_cons pe_int pa_nil)))) (pa_cons (pe_tup (pa_cons (pv 4) (pa_cons pe_int (pa_cons pe_int pa_nil)))) pa_nil))))) (pg_tup rfl (pgs_cons (pg_name (i := 9) sc__law_due.nd rfl (by first | exact Or.inl rfl | exact Or.inr rfl)) (pgs_cons (pg_name (i := 10) sc__law_due.nd rfl (by first | exact Or.inl rfl | exact Or.inr rfl)) (pgs_cons (pg_name (i := 11) sc__law_due.nd rfl (by first | exact Or.inl rfl | exact Or.inr rfl)) pgs_nil)))) (pss_one (ps_if (pt_not (pt_tru (pe_call G__law_is_count (hr.mono (by decide)) rfl T.g__law_is_count T.F__law_is_count.kp T.B__law_is_count .nil pass0 (pa_cons (pv 9) (pa_cons (pv 10) (pa_cons (pv 11) pa_nil)))) (by intro _; rfl))) (pss_one (ps_ret (pe_tup (pa_cons pe_str (pa_cons (pv 9) pa_nil))))) pss_nil))) (pss_one (ps_ret (pe_tup pa_nil))))))))
theorem dv__law_good {P : Program} {w : World} {K : PySem.W.Frag} {mg : Str → Option Value} {base : Heap} (T : Tx K mg) {cdv : Value} {A : Around} {outer : List Env} {s : Shared} {H : Hp} {E : XK} (hr : Room 2 (A.deeper (envOfC "_law_good" (defScope (top 38)) s.heap.objs.size (He.ga K "_law_good") cdv))) (G__law_of : FnOk P w K mg base CX0 2 (He.ga K "_law_of") T.fd__law_of ["_law_bag_here", "_law_some"] (sp__law_of K)) :
    PSs (cxOf CX0 P w K mg base ["_law_bag_here", "_law_calls", "_law_hour", "_law_late", "_law_word", "_law_turn", "_law_here", "_law_there", "_law_heads", "_law_pay"] "_law_good" (defScope (top 38)) (He.ga K "_law_good") cdv A outer s H E) (defBody (top 38)) (t__law_good K) :=
  PSs.nox (pss_cons (ps_set (i := 2) sc__law_good.nd rfl (by first | exact Or.inl rfl | exact Or.inr rfl) (pe_call G__law_of (hr.mono (by decide)) rfl T.g__law_of T.F__law_of.kp T.B__law_of .nil pass0 (pa_cons (pv 0) (pa_cons (pe_lst (pa_cons pe_int (pa_cons pe_int (pa_cons pe_int pa_nil)))) pa_nil)))) (pss_cons (ps_set (i := 3) sc__law_good.nd rfl (by first | exact Or.inl rfl | exact Or.inr rfl) (pe_call G__law_of (hr.mono (by decide)) rfl T.g__law_of T.F__law_of.kp T.B__law_of .nil pass0 (pa_cons (pv 0) (pa_cons (pe_lst (pa_cons (pe_op u_add (pv 2) pe_int) (pa_cons pe_int pa_nil))) pa_nil)))) (pss_cons (ps_par (i := 4) (j := 5) rfl sc__law_good.nd rfl rfl (by decide) rfl rfl (pa_cons (pe_call G__law_of (hr.mono (by decide)) rfl T.g__law_of T.F__law_of.kp T.B__law_of .nil pass0 (pa_cons (pv 0) (pa_cons (pe_lst (pa_cons pe_str (pa_cons pe_str (pa_cons pe_str pa_nil)))) pa_nil))) (pa_cons (pe_call G__law_of (hr.mono (by decide)) rfl T.g__law_of T.F__law_of.kp T.B__law_of .nil pass0 (pa_cons (pv 0) (pa_cons (pe_lst (pa_cons pe_int (pa_cons pe_int (pa_cons pe_int pa_nil)))) pa_nil))) pa_nil)) (by rfl)) (pss_cons (ps_par (i := 6) (j := 7) rfl sc__law_good.nd rfl rfl (by decide) rfl rfl (pa_cons (pe_tup (pa_cons (pe_call G__law_of (hr.mono (by decide)) rfl T.g__law_of T.F__law_of.kp T.B__law_of .nil pass0 (pa_cons (pv 0) (pa_cons (pv 1) pa_nil))) (pa_cons (pv 2) pa_nil))) (pa_cons (pe_tup (pa_cons (pe_call G__law_of (hr.mono (by decide)) rfl T.g__law_of T.F__law_of.kp T.B__law_of .nil pass0 (pa_cons (pv 0) (pa_cons (pv 1) pa_nil))) (pa_cons (pe_ifExp (pt_cmpR (u_eq hr.units) (pv 4) pe_str (nomark _)) (pv 3) (pe_call G__law_of (hr.mono (by decide)) rfl T.g__law_of T.F__law_of.kp T.B__law_of .nil pass0 (pa_cons (pv 0) (pa_cons (pe_lst (pa_cons pe_int (pa_cons pe_int (pa_cons pe_int pa_nil)))) pa_nil)))) pa_nil))) pa_nil)) (by rfl)) (pss_cons (ps_par (i := 8) (j := 9) rfl sc__law_good.nd rfl rfl (by decide) rfl rfl (pa_cons (pe_call G__law_of (hr.mono (by decide)) rfl T.g__law_of T.F__law_of.kp T.B__law_of .nil pass0 (pa_cons (pv 0) (pa_cons (pe_lst (pa_cons pe_int (pa_cons pe_int (pa_cons pe_int pa_nil)))) pa_nil))) (pa_cons (pe_call G__law_of (hr.mono (by decide)) rfl T.g__law_of T.F__law_of.kp T.B__law_of .nil pass0 (pa_cons (pv 0) (pa_cons (pe_lst (pa_cons pe_int (pa_cons pe_int (pa_cons pe_int pa_nil)))) pa_nil))) pa_nil)) (by rfl)) (pss_one (ps_ret (pe_tup (pa_cons (pv 4) (pa_cons (pe_call G__law_of (hr.mono (by decide)) rfl T.g__law_of T.F__law_of.kp T.B__law_of .nil pass0 (pa_cons (pv 0) (pa_cons (pv 1) pa_nil))) (pa_cons (pe_call G__law_of (hr.mono (by decide)) rfl T.g__law_of T.F__law_of.kp T.B__law_of .nil pass0 (pa_cons (pv 0) (pa_cons (pv 1) pa_nil))) (pa_cons (pv 5) (pa_cons (pe_ifExp (pt_cmpR (u_eq hr.units) (pv 4) pe_str (nomark _)) (pv 6) (pe_tup pa_nil)) (pa_cons (pv 7) (pa_cons (pv 8) (pa_cons (pv 9) pa_nil))))))))))))))))
theorem dv__law_bad {P : Program} {w : World} {K : PySem.W.Frag} {mg : Str → Option Value} {base : Heap} (T : Tx K mg) {cdv : Value} {A : Around} {outer : List Env} {s : Shared} {H : Hp} {E : XK} (hr : Room 2 (A.deeper (envOfC "_law_bad" (defScope (top 39)) s.heap.objs.size (He.ga K "_law_bad") cdv))) (G__law_of : FnOk P w K mg base CX0 2 (He.ga K "_law_of") T.fd__law_of ["_law_bag_here", "_law_some"] (sp__law_of K)) (G__law_is_count : FnOk P w K mg base CX0 1 (He.ga K "_law_is_count") T.fd__law_is_count ["_law_thing", "_law_low", "_law_high"] (sp__law_is_count K)) :
    PSs (cxOf CX0 P w K mg base ["_law_bag_here", "_law_row", "_law_at", "_law_hour", "_law_some"] "_law_bad" (defScope (top 39)) (He.ga K "_law_bad") cdv A outer s H E) (defBody (top 39)) (t__law_bad K) :=
  PSs.nox (pss_cons (ps_if (pt_cmpR u_in (pv 2) (pe_tup (pa_cons pe_int (pa_cons pe_int pa_nil))) rfl) (pss_one (ps_ret (pe_call G__law_of (hr.mono (by decide)) rfl T.g__law_of T.F__law_of.kp T.B__law_of .nil pass0 (pa_cons (pv 0) (pa_cons (pe_lst (pa_cons pe_str (pa_cons pe_str (pa_cons pe_str (pa_cons pe_str (pa_cons pe_str (pa_cons pe_non (pa_cons pe_bl (pa_cons pe_int (pa_cons (pe_tup (pa_cons pe_str pa_nil)) (pa_cons (pe_lst (pa_cons pe_str pa_nil)) (pa_cons pe_str pa_nil)))))))))))) pa_nil))))) pss_nil) (pss_cons (ps_if (pt_cmpR u_in (pv 2) (pe_tup (pa_cons pe_int (pa_cons pe_int pa_nil))) rfl) (pss_cons (ps_set (i := 3) sc__law_bad.nd rfl (by first | exact Or.inl rfl | exact Or.inr rfl) (pe_ifExp (PW.pt (pw_and (pt_tru (pe_callB MR.u_isiM rfl T.b_isinstance bt_isinstance (pa_cons (pe_ix ix_seq (pv 1) pe_int (fun _ _ => rfl)) (pa_cons (pe_ty rfl T.b_tuple bt_tuple) pa_nil))) (by intro _; rfl)) (pw_and (pt_cmpR (u_eq hr.units) (pe_callB u_len rfl T.b_len bt_len (pa_cons (pe_ix ix_seq (pv 1) pe_int (fun _ _ => rfl)) pa_nil)) pe_int (nomark _)) (pw_and1 (pt_tru (pe_call G__law_is_count (hr.mono (by decide)) rfl T.g__law_is_count T.F__law_is_count.kp T.B__law_is_count .nil pass0 (pa_cons (pe_ix ix_seq (pe_ix ix_seq (pv 1) pe_int (fun _ _ => rfl)) pe_int (fun _ _ => rfl)) (pa_cons pe_int (pa_cons pe_int pa_nil)))) (by intro _; rfl)))))) (pe_ix ix_seq (pe_ix ix_seq (pv 1) pe_int (fun _ _ => rfl)) pe_int (fun _ _ => rfl)) pe_int)) (pss_cons (ps_set (i := 4) sc__law_bad.nd rfl (by first | exact Or.inl rfl | exact Or.inr rfl) (pe_lst (pa_cons (pe_tup pa_nil) (pa_cons (pe_tup (pa_cons pe_str pa_nil)) (pa_cons (pe_tup (pa_cons pe_str (pa_cons pe_int pa_nil))) (pa_cons (pe_tup (pa_cons pe_str (pa_cons (pe_op u_sub pe_int pe_int) pa_nil))) (pa_cons (pe_tup (pa_cons pe_str (pa_cons pe_bl pa_nil))) (pa_cons (pe_tup (pa_cons pe_str (pa_cons pe_int pa_nil))) (pa_cons (pe_lst (pa_cons pe_str (pa_cons pe_int pa_nil))) (pa_cons pe_str (pa_cons pe_non (pa_cons (pe_tup (pa_cons pe_str (pa_cons pe_str pa_nil))) (pa_cons (pe_tup (pa_cons pe_str (pa_cons pe_int (pa_cons pe_int pa_nil)))) pa_nil))))))))))))) (pss_one (ps_ret (pe_call G__law_of (hr.mono (by decide)) rfl T.g__law_of T.F__law_of.kp T.B__law_of .nil pass0 (pa_cons (pv 0) (pa_cons (pe_op u_add (pv 4) (pe_lst (pa_cons (pe_tup (pa_cons pe_str (pa_cons (pv 3) pa_nil))) (pa_cons (pe_tup (pa_cons pe_str (pa_cons (pv 3) pa_nil))) (pa_cons (pe_tup (pa_cons pe_str (pa_cons (pe_ifExp (pt_cmpR u_gt (pv 3) pe_int (nomark _)) (pe_op u_sub (pv 3) pe_int) pe_int) pa_nil))) (pa_cons (pe_tup (pa_cons pe_str (pa_cons pe_int pa_nil))) pa_nil)))))) pa_nil))))))) pss_nil) (pss_one (ps_ret (pe_call G__law_of (hr.mono (by decide)) rfl T.g__law_of T.F__law_of.kp T.B__law_of .nil pass0 (pa_cons (pv 0) (pa_cons (pe_lst (pa_cons (pe_op u_sub pe_int pe_int) (pa_cons pe_int (pa_cons pe_int (pa_cons pe_int (pa_cons pe_int (pa_cons pe_int (pa_cons pe_bl (pa_cons pe_bl (pa_cons pe_non (pa_cons pe_str (pa_cons (pe_lst (pa_cons pe_int pa_nil)) (pa_cons (pe_tup (pa_cons pe_int pa_nil)) (pa_cons (pe_op u_pow pe_int pe_int) pa_nil)))))))))))))) pa_nil)))))))
theorem dv__law_asked {P : Program} {w : World} {K : PySem.W.Frag} {mg : Str → Option Value} {base : Heap} (T : Tx K mg) (LTb : Lt K mg base) {cdv : Value} {A : Around} {outer : List Env} {s : Shared} {H : Hp} {E : XK} (hcv : cdv = .ref LTb.c__law_asked) (hr : Room 8 (A.deeper (envOfC "_law_asked" (defScope (top 40)) s.heap.objs.size (He.ga K "_law_asked") cdv))) (G__law_take : FnOk P w K mg base CX0 1 (He.ga K "_law_take") T.fd__law_take ["_law_bag_here", "_law_size"] (sp__law_take K)) (G_Work___init__ : FnOk P w K mg base (L2.CX P w) 4 (He.fAd K ("Work", some "__init__")) T.fd_Work___init__ ["self", "name", "owner", "start", "end", "crews", "price", "rank"] (sp_Work___init__ K)) (G_Hire___init__ : FnOk P w K mg base (L2.CX P w) 4 (He.fAd K ("Hire", some "__init__")) T.fd_Hire___init__ ["self", "name", "owner", "end", "crews", "price", "rank"] (sp_Hire___init__ K)) (PM__law_why : LamProm P w K mg base 2 (He.ga K "_law_why") (TWhy K (.ref (He.ga K "StandError")) (.ref (He.ga K "Missing")))) :
    PSs (cxOf CX0 P w K mg base ["_law_bag_here", "_law_row", "_law_word", "_law_call", "_law_boss", "_law_turn", "_law_here", "_law_there", "_law_heads", "_law_pay"] "_law_asked" (defScope (top 40)) (He.ga K "_law_asked") cdv A outer s H E) (defBody (top 40)) (t__law_asked K) :=
  PSs.nox (pss_cons (ps_asg (pv 1) (pg_tup rfl (pgs_cons (pg_name (i := 2) sc__law_asked.nd rfl (by first | exact Or.inl rfl | exact Or.inr rfl)) (pgs_cons (pg_name (i := 3) sc__law_asked.nd rfl (by first | exact Or.inl rfl | exact Or.inr rfl)) (pgs_cons (pg_name (i := 4) sc__law_asked.nd rfl (by first | exact Or.inl rfl | exact Or.inr rfl)) (pgs_cons (pg_name (i := 5) sc__law_asked.nd rfl (by first | exact Or.inl rfl | exact Or.inr rfl)) (pgs_cons (pg_name (i := 6) sc__law_asked.nd rfl (by first | exact Or.inl rfl | exact Or.inr rfl)) (pgs_cons (pg_name (i := 7) sc__law_asked.nd rfl (by first | exact Or.inl rfl | exact Or.inr rfl)) (pgs_cons (pg_name (i := 8) sc__law_asked.nd rfl (by first | exact Or.inl rfl | exact Or.inr rfl)) (pgs_cons (pg_name (i := 9) sc__law_asked.nd rfl (by first | exact Or.inl rfl | exact Or.inr rfl)) pgs_nil)))))))))) (pss_cons (ps_if (pt_cmpR (u_eq hr.units) (pv 2) pe_str (nomark _)) (pss_cons (ps_if (pt_cmpR (u_eq hr.units) (pe_call G__law_take (hr.mono (by decide)) rfl T.g__law_take T.F__law_take.kp T.B__law_take .nil pass0 (pa_cons (pv 0) (pa_cons pe_int pa_nil))) pe_int (nomark _)) (pss_one (ps_ret (pe_lamU (k := 5) (T := tabs K) PM__law_why rfl T.g__law_why T.F__law_why.kp LTb.tb__law_asked hcv (mt__law_asked K) (hu_of T.dist (mt__law_asked K)) (hr.mono (by decide)) (LamX.lamS_by (sc := (defScope (top 40))) (by decide +kernel)) rfl (fun _ _ _ _ _ => rfl) (fun A outer s H E f c' hr => (pe_makeK T.c_Work.made G_Work___init__ (hr.mono (by decide)) rfl T.g_Work T.K_Work___init___7_rank (passes_call (takes_of rfl rfl rfl rfl) (fun _ _ _ _ h => h)) (pa_cons (pv 3) (pa_cons (pv 4) (pa_cons (pv 6) (pa_cons (pv 7) (pa_cons (pv 8) (pa_cons (pv 9) pa_nil)))))) (pk_cons (pv 5) pk_nil)))))) pss_nil) (pss_one (ps_ret (pe_lamU (k := 5) (T := tabs K) PM__law_why rfl T.g__law_why T.F__law_why.kp LTb.tb__law_asked hcv (mt__law_asked K) (hu_of T.dist (mt__law_asked K)) (hr.mono (by decide)) (LamX.lamS_by (sc := (defScope (top 40))) (by decide +kernel)) rfl (fun _ _ _ _ _ => rfl) (fun A outer s H E f c' hr => (pe_makeK0 T.c_Work.made G_Work___init__ (hr.mono (by decide)) rfl T.g_Work T.K_Work___init___1_rank_price_crews_end_start_owner_name (passes_call (takes_of rfl rfl rfl rfl) (fun _ _ _ _ h => h)) (pk_cons (pv 5) (pk_cons (pv 9) (pk_cons (pv 8) (pk_cons (pv 7) (pk_cons (pv 6) (pk_cons (pv 4) (pk_cons (pv 3) pk_nil))))))))))))) pss_nil) (pss_cons (ps_if (pt_cmpR (u_eq hr.units) (pe_call G__law_take (hr.mono (by decide)) rfl T.g__law_take T.F__law_take.kp T.B__law_take .nil pass0 (pa_cons (pv 0) (pa_cons pe_int pa_nil))) pe_int (nomark _)) (pss_one (ps_ret (pe_lamU (k := 5) (T := tabs K) PM__law_why rfl T.g__law_why T.F__law_why.kp LTb.tb__law_asked hcv (mt__law_asked K) (hu_of T.dist (mt__law_asked K)) (hr.mono (by decide)) (LamX.lamS_by (sc := (defScope (top 40))) (by decide +kernel)) rfl (fun _ _ _ _ _ => rfl) (fun A outer s H E f c' hr => (pe_makeK T.c_Hire.made G_Hire___init__ (hr.mono (by decide)) rfl T.g_Hire T.K_Hire___init___6_rank (passes_call (takes_of rfl rfl rfl rfl) (fun _ _ _ _ h => h)) (pa_cons (pv 3) (pa_cons (pv 4) (pa_cons (pv 7) (pa_cons (pv 8) (pa_cons (pv 9) pa_nil))))) (pk_cons (pv 5) pk_nil)))))) pss_nil) (pss_one (ps_ret (pe_lamU (k := 5) (T := tabs K) PM__law_why rfl T.g__law_why T.F__law_why.kp LTb.tb__law_asked hcv (mt__law_asked K) (hu_of T.dist (mt__law_asked K)) (hr.mono (by decide)) (LamX.lamS_by (sc := (defScope (top 40))) (by decide +kernel)) rfl (fun _ _ _ _ _ => rfl) (fun A outer s H E f c' hr => (pe_makeK0 T.c_Hire.made G_Hire___init__ (hr.mono (by decide)) rfl T.g_Hire T.K_Hire___init___1_rank_price_crews_end_owner_name (passes_call (takes_of rfl rfl rfl rfl) (fun _ _ _ _ h => h)) (pk_cons (pv 5) (pk_cons (pv 9) (pk_cons (pv 8) (pk_cons (pv 7) (pk_cons (pv 4) (pk_cons (pv 3) pk_nil))))))))))))))
theorem dv_law {P : Program} {w : World} {K : PySem.W.Frag} {mg : Str → Option Value} {base : Heap} (T : Tx K mg) {cdv : Value} {A : Around} {outer : List Env} {s : Shared} {H : Hp} {E : XK} (hr : Room 12 (A.deeper (envOfC "law" (defScope (top 41)) s.heap.objs.size (He.ga K "law") cdv))) (G__law_bag : FnOk P w K mg base CX0 1 (He.ga K "_law_bag") T.fd__law_bag ["_law_script"] (sp__law_bag K)) (G__law_good : FnOk P w K mg base CX0 3 (He.ga K "_law_good") T.fd__law_good ["_law_bag_here", "_law_calls"] (sp__law_good K)) (G__law_names : FnOk P w K mg base CX0 3 (He.ga K "_law_names") T.fd__law_names ["_law_bag_here", "_law_count", "_law_cap"] (sp__law_names K)) (G__law_same : FnOk P w K mg base CX0 12 (He.ga K "_law_same") T.fd__law_same ["_law_found", "_law_due_here"] (sp__law_same K)) (G__law_asked : FnOk P w K mg base CX0 9 (He.ga K "_law_asked") T.fd__law_asked ["_law_bag_here", "_law_row"] (sp__law_asked K)) (G__law_take : FnOk P w K mg base CX0 1 (He.ga K "_law_take") T.fd__law_take ["_law_bag_here", "_law_size"] (sp__law_take K)) (G__law_of : FnOk P w K mg base CX0 2 (He.ga K "_law_of") T.fd__law_of ["_law_bag_here", "_law_some"] (sp__law_of K)) (G__law_bad : FnOk P w K mg base CX0 3 (He.ga K "_law_bad") T.fd__law_bad ["_law_bag_here", "_law_row", "_law_at"] (sp__law_bad K)) (G__law_due : FnOk P w K mg base CX0 4 (He.ga K "_law_due") T.fd__law_due ["_law_row"] (sp__law_due K)) :
    PSs (cxOf CX0 P w K mg base ["_law_script", "_law_bag_here", "_law_turn", "_law_row", "_law_more", "_law_at"] "law" (defScope (top 41)) (He.ga K "law") cdv A outer s H E) (defBody (top 41)) (t_law K) :=
  PSs.nox (pss_cons (ps_set (i := 1) sc_law.nd rfl (by first | exact Or.inl rfl | exact Or.inr rfl) (pe_call G__law_bag (hr.mono (by decide)) rfl T.g__law_bag T.F__law_bag.kp T.B__law_bag .nil pass0 (pa_cons (pv 0) pa_nil))) (pss_cons (ps_for PassesOwn.never rfl (pi_range1 rfl T.b_range (pa_cons pe_int pa_nil)) (pg_name (i := 2) sc_law.nd rfl (by first | exact Or.inl rfl | exact Or.inr rfl)) (pss_cons (ps_set (i := 3) sc_law.nd rfl (by first | exact Or.inl rfl | exact Or.inr rfl) (pe_call G__law_good (hr.mono (by decide)) rfl T.g__law_good T.F__law_good.kp T.B__law_good .nil pass0 (pa_cons (pv 1) (pa_cons (pe_call G__law_names (hr.mono (by decide)) rfl T.g__law_names T.F__law_names.kp T.D__law_names_2.choose_spec.2 T.D__law_names_2.choose_spec.1 pass0 (pa_cons (pv 1) (pa_cons pe_int pa_nil))) pa_nil)))) (pss_cons (ps_if (pt_not (pt_tru (pe_call G__law_same (hr.mono (by decide)) rfl T.g__law_same T.F__law_same.kp T.B__law_same .nil pass0 (pa_cons (pe_call G__law_asked (hr.mono (by decide)) rfl T.g__law_asked T.F__law_asked.kp T.B__law_asked .nil pass0 (pa_cons (pv 1) (pa_cons (pv 3) pa_nil))) (pa_cons (pe_tup pa_nil) pa_nil))) (by intro _; rfl))) (pss_one (ps_ret pe_bl)) pss_nil) (pss_one (ps_for PassesOwn.never rfl (pi_range1 rfl T.b_range (pa_cons (pe_op u_add pe_int (pe_call G__law_take (hr.mono (by decide)) rfl T.g__law_take T.F__law_take.kp T.B__law_take .nil pass0 (pa_cons (pv 1) (pa_cons pe_int pa_nil)))) pa_nil)) (pg_name (i := 4) sc_law.nd rfl (by first | exact Or.inl rfl | exact Or.inr rfl)) (pss_cons (ps_set (i := 5) sc_law.nd rfl (by first | exact Or.inl rfl | exact Or.inr rfl) (pe_call G__law_of (hr.mono (by decide)) rfl T.g__law_of T.F__law_of.kp T.B__law_of .nil pass0 (pa_cons (pv 1) (pa_cons (pe_op u_add (pe_lst (pa_cons pe_int (pa_cons pe_int (pa_cons pe_int (pa_cons pe_int (pa_cons pe_int (pa_cons pe_int (pa_cons pe_int pa_nil)))))))) (pe_ifExp (pt_cmpR (u_eq hr.units) (pe_ix ix_seq (pv 3) pe_int (fun _ _ => rfl)) pe_str (nomark _)) (pe_lst (pa_cons pe_int (pa_cons pe_int pa_nil))) (pe_lst pa_nil))) pa_nil)))) (pss_cons (ps_set (i := 3) sc_law.nd rfl (by first | exact Or.inl rfl | exact Or.inr rfl) (pe_op u_add (pe_op u_add (pe_slice u_sl (pv 3) po_none (po_some (pv 5))) (pe_tup (pa_cons (pe_call G__law_bad (hr.mono (by decide)) rfl T.g__law_bad T.F__law_bad.kp T.B__law_bad .nil pass0 (pa_cons (pv 1) (pa_cons (pv 3) (pa_cons (pv 5) pa_nil)))) pa_nil))) (pe_slice u_sl (pv 3) (po_some (pe_op u_add (pv 5) pe_int)) po_none))) (pss_one (ps_if (pt_not (pt_tru (pe_call G__law_same (hr.mono (by decide)) rfl T.g__law_same T.F__law_same.kp T.B__law_same .nil pass0 (pa_cons (pe_call G__law_asked (hr.mono (by decide)) rfl T.g__law_asked T.F__law_asked.kp T.B__law_asked .nil pass0 (pa_cons (pv 1) (pa_cons (pv 3) pa_nil))) (pa_cons (pe_call G__law_due (hr.mono (by decide)) rfl T.g__law_due T.F__law_due.kp T.B__law_due .nil pass0 (pa_cons (pv 3) pa_nil)) pa_nil))) (by intro _; rfl))) (pss_one (ps_ret pe_bl)) pss_nil))))))))) (pss_one (ps_ret pe_bl))))
end K07

namespace K07
open PySem PySem.Spec PyProof.Rows L2 SW MPkg MLawA
theorem ok_InvalidName___init__ {P : Program} {w : World} {K : PySem.W.Frag} {mg : Str → Option Value} {base : Heap} (PS : PSup P "/claim/cut.py") (LTb : Lt K mg base) (T : Tx K mg) : FnOk P w K mg base CX0 1 (He.fAd K ("InvalidName", some "__init__")) T.fd_InvalidName___init__ ["self", "value"] (spX (He.ga K "InvalidName") 1 (fl1 "value" "InvalidName")) :=
  ok_x1 (txt := "a value is not a name that fits here") T.F_InvalidName___init__ PS T.x_InvalidName (by simp) (by simp) sc_InvalidName___init__ rfl rfl (fun cdv cc A outer s H E SK => psa_supX sc_InvalidName___init__ SK T.b_super rfl T.x_InvalidName.xc (pa_cons pe_str pa_nil) (psa_of (pss_cons (ps_xst (pv 0) (pv 1)) (pss_one (ps_xst (pv 0) pe_str)))))
theorem ok_InvalidNumber___init__ {P : Program} {w : World} {K : PySem.W.Frag} {mg : Str → Option Value} {base : Heap} (PS : PSup P "/claim/cut.py") (LTb : Lt K mg base) (T : Tx K mg) : FnOk P w K mg base CX0 1 (He.fAd K ("InvalidNumber", some "__init__")) T.fd_InvalidNumber___init__ ["self", "value"] (spX (He.ga K "InvalidNumber") 1 (fl1 "value" "InvalidNumber")) :=
  ok_x1 (txt := "a value is not a number that fits here") T.F_InvalidNumber___init__ PS T.x_InvalidNumber (by simp) (by simp) sc_InvalidNumber___init__ rfl rfl (fun cdv cc A outer s H E SK => psa_supX sc_InvalidNumber___init__ SK T.b_super rfl T.x_InvalidNumber.xc (pa_cons pe_str pa_nil) (psa_of (pss_cons (ps_xst (pv 0) (pv 1)) (pss_one (ps_xst (pv 0) pe_str)))))
theorem ok_InvalidStanding___init__ {P : Program} {w : World} {K : PySem.W.Frag} {mg : Str → Option Value} {base : Heap} (PS : PSup P "/claim/cut.py") (LTb : Lt K mg base) (T : Tx K mg) : FnOk P w K mg base CX0 1 (He.fAd K ("InvalidStanding", some "__init__")) T.fd_InvalidStanding___init__ ["self", "value"] (spX (He.ga K "InvalidStanding") 1 (fl1 "value" "InvalidStanding")) :=
  ok_x1 (txt := "a value is not a standing or place that fits here") T.F_InvalidStanding___init__ PS T.x_InvalidStanding (by simp) (by simp) sc_InvalidStanding___init__ rfl rfl (fun cdv cc A outer s H E SK => psa_supX sc_InvalidStanding___init__ SK T.b_super rfl T.x_InvalidStanding.xc (pa_cons pe_str pa_nil) (psa_of (pss_cons (ps_xst (pv 0) (pv 1)) (pss_one (ps_xst (pv 0) pe_str)))))
theorem ok_is_whole {P : Program} {w : World} {K : PySem.W.Frag} {mg : Str → Option Value} {base : Heap} (PS : PSup P "/claim/cut.py") (LTb : Lt K mg base) (T : Tx K mg) : FnOk P w K mg base CX0 1 (He.ga K "is_whole") T.fd_is_whole ["value"] (sp_is_whole K) :=
  T.F_is_whole.ok sc_is_whole (fun vs H Q E h => h.len) (fun cdv A outer s H vs Q E hr h => ⟨t_is_whole K, dv_is_whole T hr, MR.sim_def (N := ["value"]) (sim_is_whole T) h⟩)
theorem ok_is_number {P : Program} {w : World} {K : PySem.W.Frag} {mg : Str → Option Value} {base : Heap} (PS : PSup P "/claim/cut.py") (LTb : Lt K mg base) (T : Tx K mg) : FnOk P w K mg base CX0 2 (He.ga K "is_number") T.fd_is_number ["value", "least", "most"] (sp_is_number K) :=
  T.F_is_number.ok sc_is_number (fun vs H Q E h => h.len) (fun cdv A outer s H vs Q E hr h => ⟨t_is_number K, dv_is_number T hr (ok_is_whole PS LTb T), MR.sim_def (N := ["value", "least", "most"]) (sim_is_number T) h⟩)
theorem ok_is_name {P : Program} {w : World} {K : PySem.W.Frag} {mg : Str → Option Value} {base : Heap} (PS : PSup P "/claim/cut.py") (LTb : Lt K mg base) (T : Tx K mg) : FnOk P w K mg base CX0 1 (He.ga K "is_name") T.fd_is_name ["value"] (sp_is_name K) :=
  T.F_is_name.ok sc_is_name (fun vs H Q E h => h.len) (fun cdv A outer s H vs Q E hr h => ⟨t_is_name K, dv_is_name T hr, MR.sim_def (N := ["value", "sign"]) (sim_is_name T) h⟩)
theorem ok_is_standing {P : Program} {w : World} {K : PySem.W.Frag} {mg : Str → Option Value} {base : Heap} (PS : PSup P "/claim/cut.py") (LTb : Lt K mg base) (T : Tx K mg) : FnOk P w K mg base CX0 3 (He.ga K "is_standing") T.fd_is_standing ["value"] (sp_is_standing K) :=
  T.F_is_standing.ok sc_is_standing (fun vs H Q E h => h.len) (fun cdv A outer s H vs Q E hr h => ⟨t_is_standing K, dv_is_standing T hr (ok_is_name PS LTb T) (ok_is_number PS LTb T), MR.sim_def (N := ["value"]) (sim_is_standing T) h⟩)
theorem ok_need_names {P : Program} {w : World} {K : PySem.W.Frag} {mg : Str → Option Value} {base : Heap} (PS : PSup P "/claim/cut.py") (LTb : Lt K mg base) (T : Tx K mg) : FnOk P w K mg base (L2.CX P w) 3 (He.ga K "need_names") T.fd_need_names ["name", "owner"] (sp_need_names K) :=
  T.F_need_names.ok sc_need_names (fun vs H Q E h => h.len) (fun cdv A outer s H vs Q E hr h => ⟨t_need_names K E, dv_need_names T hr (ok_is_name PS LTb T) (ok_InvalidName___init__ PS LTb T), MR.sim_def (N := ["name", "owner", "value"]) (sim_need_names T) h⟩)
theorem ok_need_terms {P : Program} {w : World} {K : PySem.W.Frag} {mg : Str → Option Value} {base : Heap} (PS : PSup P "/claim/cut.py") (LTb : Lt K mg base) (T : Tx K mg) : FnOk P w K mg base (L2.CX P w) 3 (He.ga K "need_terms") T.fd_need_terms ["crews", "price"] (sp_need_terms K) :=
  T.F_need_terms.ok sc_need_terms (fun vs H Q E h => h.len) (fun cdv A outer s H vs Q E hr h => ⟨t_need_terms K E, dv_need_terms T hr (ok_is_number PS LTb T) (ok_InvalidNumber___init__ PS LTb T), MR.sim_def (N := ["crews", "price"]) (sim_need_terms T) h⟩)
theorem ok_need_rank {P : Program} {w : World} {K : PySem.W.Frag} {mg : Str → Option Value} {base : Heap} (PS : PSup P "/claim/cut.py") (LTb : Lt K mg base) (T : Tx K mg) : FnOk P w K mg base (L2.CX P w) 3 (He.ga K "need_rank") T.fd_need_rank ["rank"] (sp_need_rank K) :=
  T.F_need_rank.ok sc_need_rank (fun vs H Q E h => h.len) (fun cdv A outer s H vs Q E hr h => ⟨t_need_rank K E, dv_need_rank T hr (ok_is_number PS LTb T) (ok_InvalidNumber___init__ PS LTb T), MR.sim_def (N := ["rank"]) (sim_need_rank T) h⟩)
theorem ok_Asking___init__ {P : Program} {w : World} {K : PySem.W.Frag} {mg : Str → Option Value} {base : Heap} (PS : PSup P "/claim/cut.py") (LTb : Lt K mg base) (T : Tx K mg) : FnOk P w K mg base CX0 1 (He.fAd K ("Asking", some "__init__")) T.fd_Asking___init__ ["self", "name", "owner", "crews", "price", "rank"] (sp_Asking___init__ K) :=
  T.F_Asking___init__.ok sc_Asking___init__ (fun vs H Q E h => h.len) (fun cdv A outer s H vs Q E hr h => ⟨t_Asking___init__ K, dv_Asking___init__ T hr, MR.sim_def (N := ["self", "name", "owner", "crews", "price", "rank"]) (sim_Asking___init__ T) h⟩)
theorem ok_Work___init__ {P : Program} {w : World} {K : PySem.W.Frag} {mg : Str → Option Value} {base : Heap} (PS : PSup P "/claim/cut.py") (LTb : Lt K mg base) (T : Tx K mg) : FnOk P w K mg base (L2.CX P w) 4 (He.fAd K ("Work", some "__init__")) T.fd_Work___init__ ["self", "name", "owner", "start", "end", "crews", "price", "rank"] (sp_Work___init__ K) :=
  T.F_Work___init__.ok PS T.c_Work.cs sc_Work___init__ rfl rfl (fun vs H Q E h => h.len) (fun cdv cc A outer s H vs Q E SK hr h => ⟨t_Work___init__ K E, dv_Work___init__ T SK hr (ok_Asking___init__ PS LTb T) (ok_need_rank PS LTb T) (ok_need_terms PS LTb T) (ok_is_standing PS LTb T) (ok_InvalidStanding___init__ PS LTb T) (ok_need_names PS LTb T), MR.sim_def (N := ["self", "name", "owner", "start", "end", "crews", "price", "rank"]) (sim_Work___init__ T) h⟩)
theorem ok_Hire___init__ {P : Program} {w : World} {K : PySem.W.Frag} {mg : Str → Option Value} {base : Heap} (PS : PSup P "/claim/cut.py") (LTb : Lt K mg base) (T : Tx K mg) : FnOk P w K mg base (L2.CX P w) 4 (He.fAd K ("Hire", some "__init__")) T.fd_Hire___init__ ["self", "name", "owner", "end", "crews", "price", "rank"] (sp_Hire___init__ K) :=
  T.F_Hire___init__.ok PS T.c_Hire.cs sc_Hire___init__ rfl rfl (fun vs H Q E h => h.len) (fun cdv cc A outer s H vs Q E SK hr h => ⟨t_Hire___init__ K E, dv_Hire___init__ T SK hr (ok_Asking___init__ PS LTb T) (ok_need_rank PS LTb T) (ok_need_terms PS LTb T) (ok_is_standing PS LTb T) (ok_InvalidStanding___init__ PS LTb T) (ok_need_names PS LTb T), MR.sim_def (N := ["self", "name", "owner", "end", "crews", "price", "rank"]) (sim_Hire___init__ T) h⟩)
theorem ok__law_bag {P : Program} {w : World} {K : PySem.W.Frag} {mg : Str → Option Value} {base : Heap} (PS : PSup P "/claim/cut.py") (LTb : Lt K mg base) (T : Tx K mg) : FnOk P w K mg base CX0 1 (He.ga K "_law_bag") T.fd__law_bag ["_law_script"] (sp__law_bag K) :=
  T.F__law_bag.ok sc__law_bag (fun vs H Q E h => h.len) (fun cdv A outer s H vs Q E hr h => ⟨t__law_bag K, dv__law_bag T hr, MR.sim_def (N := ["_law_script", "_law_cells"]) (sim__law_bag T) h⟩)
theorem ok__law_take {P : Program} {w : World} {K : PySem.W.Frag} {mg : Str → Option Value} {base : Heap} (PS : PSup P "/claim/cut.py") (LTb : Lt K mg base) (T : Tx K mg) : FnOk P w K mg base CX0 1 (He.ga K "_law_take") T.fd__law_take ["_law_bag_here", "_law_size"] (sp__law_take K) :=
  T.F__law_take.ok sc__law_take (fun vs H Q E h => h.len) (fun cdv A outer s H vs Q E hr h => ⟨t__law_take K, dv__law_take T hr, MR.sim_def (N := ["_law_bag_here", "_law_size", "_law_cell", "_law_digit"]) (sim__law_take T) h⟩)
theorem ok__law_of {P : Program} {w : World} {K : PySem.W.Frag} {mg : Str → Option Value} {base : Heap} (PS : PSup P "/claim/cut.py") (LTb : Lt K mg base) (T : Tx K mg) : FnOk P w K mg base CX0 2 (He.ga K "_law_of") T.fd__law_of ["_law_bag_here", "_law_some"] (sp__law_of K) :=
  T.F__law_of.ok sc__law_of (fun vs H Q E h => h.len) (fun cdv A outer s H vs Q E hr h => ⟨t__law_of K, dv__law_of T hr (ok__law_take PS LTb T), MR.sim_def (N := ["_law_bag_here", "_law_some"]) (sim__law_of T) h⟩)
theorem okn__law_same {P : Program} {w : World} {K : PySem.W.Frag} {mg : Str → Option Value} {base : Heap} (PS : PSup P "/claim/cut.py") (LTb : Lt K mg base) (T : Tx K mg) : ∀ n, FnOk P w K mg base CX0 (n + 1) (He.ga K "_law_same") T.fd__law_same ["_law_found", "_law_due_here"] (spr__law_same K n)
  | 0 => T.F__law_same.ok sc__law_same (fun vs H Q E h => h.len) (fun cdv A outer s H vs Q E hr h => ⟨t__law_same K spNo, dv__law_same T hr fn_no, (h.2.elim fun _ h => h.elim fun _ h => h.elim fun _ h => h.2.2.2.2.elim)⟩)
  | n + 1 => T.F__law_same.ok sc__law_same (fun vs H Q E h => h.len) (fun cdv A outer s H vs Q E hr h => ⟨t__law_same K (spr__law_same K n), dv__law_same T hr (okn__law_same PS LTb T n), MR.sim_def (N := ["_law_found", "_law_due_here", "_law_k"]) (sim__law_same T) h⟩)
theorem ok__law_same {P : Program} {w : World} {K : PySem.W.Frag} {mg : Str → Option Value} {base : Heap} (PS : PSup P "/claim/cut.py") (LTb : Lt K mg base) (T : Tx K mg) : FnOk P w K mg base CX0 12 (He.ga K "_law_same") T.fd__law_same ["_law_found", "_law_due_here"] (sp__law_same K) := okn__law_same PS LTb T 11
theorem ok__law_names {P : Program} {w : World} {K : PySem.W.Frag} {mg : Str → Option Value} {base : Heap} (PS : PSup P "/claim/cut.py") (LTb : Lt K mg base) (T : Tx K mg) : FnOk P w K mg base CX0 3 (He.ga K "_law_names") T.fd__law_names ["_law_bag_here", "_law_count", "_law_cap"] (sp__law_names K) :=
  T.F__law_names.ok sc__law_names (fun vs H Q E h => h.len) (fun cdv A outer s H vs Q E hr h => ⟨t__law_names K, dv__law_names T hr (ok__law_take PS LTb T) (ok__law_of PS LTb T), MR.sim_def (N := ["_law_bag_here", "_law_count", "_law_cap", "_law_abc", "_law_stem", "_law_k", "_law_begin", "_law_step", "_law_found", "_law_tail", "_law_j"]) (sim__law_names T) h⟩)
theorem ok__law_try {P : Program} {w : World} {K : PySem.W.Frag} {mg : Str → Option Value} {base : Heap} (PS : PSup P "/claim/cut.py") (LTb : Lt K mg base) (T : Tx K mg) : LamProm P w K mg base 1 (He.ga K "_law_try") (TTry K (.ref (He.ga K "StandError")) (.ref (He.ga K "Missing"))) :=
  try_prom T.F__law_try sc__law_try T.B__law_try (fun F0 s0 H0 f c' q j tl cdv A outer s H C hr l => dv__law_try T C hr l)
theorem ok__law_why {P : Program} {w : World} {K : PySem.W.Frag} {mg : Str → Option Value} {base : Heap} (PS : PSup P "/claim/cut.py") (LTb : Lt K mg base) (T : Tx K mg) : LamProm P w K mg base 2 (He.ga K "_law_why") (TWhy K (.ref (He.ga K "StandError")) (.ref (He.ga K "Missing"))) :=
  why_prom T.F__law_why sc__law_why T.B__law_why (fun F0 s0 H0 f c' q j tl cdv A outer s H C M hr l => dv__law_why T C M hr l (ok__law_try PS LTb T))
theorem ok__law_is_count {P : Program} {w : World} {K : PySem.W.Frag} {mg : Str → Option Value} {base : Heap} (PS : PSup P "/claim/cut.py") (LTb : Lt K mg base) (T : Tx K mg) : FnOk P w K mg base CX0 1 (He.ga K "_law_is_count") T.fd__law_is_count ["_law_thing", "_law_low", "_law_high"] (sp__law_is_count K) :=
  T.F__law_is_count.ok sc__law_is_count (fun vs H Q E h => h.len) (fun cdv A outer s H vs Q E hr h => ⟨t__law_is_count K, dv__law_is_count T hr, MR.sim_def (N := ["_law_thing", "_law_low", "_law_high"]) (sim__law_is_count T) h⟩)
theorem ok__law_is_call {P : Program} {w : World} {K : PySem.W.Frag} {mg : Str → Option Value} {base : Heap} (PS : PSup P "/claim/cut.py") (LTb : Lt K mg base) (T : Tx K mg) : FnOk P w K mg base CX0 2 (He.ga K "_law_is_call") T.fd__law_is_call ["_law_thing"] (sp__law_is_call K) :=
  T.F__law_is_call.ok sc__law_is_call (fun vs H Q E h => h.len) (fun cdv A outer s H vs Q E hr h => ⟨t__law_is_call K, dv__law_is_call T hr (ok__law_is_count PS LTb T), MR.sim_def (N := ["_law_thing", "_law_sign"]) (sim__law_is_call T) h⟩)
theorem ok__law_is_spot {P : Program} {w : World} {K : PySem.W.Frag} {mg : Str → Option Value} {base : Heap} (PS : PSup P "/claim/cut.py") (LTb : Lt K mg base) (T : Tx K mg) : FnOk P w K mg base CX0 3 (He.ga K "_law_is_spot") T.fd__law_is_spot ["_law_thing"] (sp__law_is_spot K) :=
  T.F__law_is_spot.ok sc__law_is_spot (fun vs H Q E h => h.len) (fun cdv A outer s H vs Q E hr h => ⟨t__law_is_spot K, dv__law_is_spot T hr (ok__law_is_call PS LTb T) (ok__law_is_count PS LTb T), MR.sim_def (N := ["_law_thing"]) (sim__law_is_spot T) h⟩)
theorem ok__law_due {P : Program} {w : World} {K : PySem.W.Frag} {mg : Str → Option Value} {base : Heap} (PS : PSup P "/claim/cut.py") (LTb : Lt K mg base) (T : Tx K mg) : FnOk P w K mg base CX0 4 (He.ga K "_law_due") T.fd__law_due ["_law_row"] (sp__law_due K) :=
  T.F__law_due.ok sc__law_due (fun vs H Q E h => h.len) (fun cdv A outer s H vs Q E hr h => ⟨t__law_due K, dv__law_due T hr (ok__law_is_call PS LTb T) (ok__law_is_spot PS LTb T) (ok__law_is_count PS LTb T), MR.sim_def (N := ["_law_row", "_law_word", "_law_call", "_law_boss", "_law_turn", "_law_here", "_law_there", "_law_heads", "_law_pay", "_law_thing", "_law_low", "_law_high"]) (sim__law_due T) h⟩)
theorem ok__law_good {P : Program} {w : World} {K : PySem.W.Frag} {mg : Str → Option Value} {base : Heap} (PS : PSup P "/claim/cut.py") (LTb : Lt K mg base) (T : Tx K mg) : FnOk P w K mg base CX0 3 (He.ga K "_law_good") T.fd__law_good ["_law_bag_here", "_law_calls"] (sp__law_good K) :=
  T.F__law_good.ok sc__law_good (fun vs H Q E h => h.len) (fun cdv A outer s H vs Q E hr h => ⟨t__law_good K, dv__law_good T hr (ok__law_of PS LTb T), MR.sim_def (N := ["_law_bag_here", "_law_calls", "_law_hour", "_law_late", "_law_word", "_law_turn", "_law_here", "_law_there", "_law_heads", "_law_pay"]) (sim__law_good T) h⟩)
theorem ok__law_bad {P : Program} {w : World} {K : PySem.W.Frag} {mg : Str → Option Value} {base : Heap} (PS : PSup P "/claim/cut.py") (LTb : Lt K mg base) (T : Tx K mg) : FnOk P w K mg base CX0 3 (He.ga K "_law_bad") T.fd__law_bad ["_law_bag_here", "_law_row", "_law_at"] (sp__law_bad K) :=
  T.F__law_bad.ok sc__law_bad (fun vs H Q E h => h.len) (fun cdv A outer s H vs Q E hr h => ⟨t__law_bad K, dv__law_bad T hr (ok__law_of PS LTb T) (ok__law_is_count PS LTb T), MR.sim_def (N := ["_law_bag_here", "_law_row", "_law_at", "_law_hour", "_law_some"]) (sim__law_bad T) h⟩)
theorem ok__law_asked {P : Program} {w : World} {K : PySem.W.Frag} {mg : Str → Option Value} {base : Heap} (PS : PSup P "/claim/cut.py") (LTb : Lt K mg base) (T : Tx K mg) : FnOk P w K mg base CX0 9 (He.ga K "_law_asked") T.fd__law_asked ["_law_bag_here", "_law_row"] (sp__law_asked K) :=
  okC (y := ("_law_asked", none)) T.F__law_asked LTb.at__law_asked sc__law_asked (fun vs H Q E h => h.len) (fun cdv A outer s H vs Q E hcv hr h => ⟨t__law_asked K, dv__law_asked T LTb hcv hr (ok__law_take PS LTb T) (ok_Work___init__ PS LTb T) (ok_Hire___init__ PS LTb T) (ok__law_why PS LTb T), MR.sim_def (N := ["_law_bag_here", "_law_row", "_law_word", "_law_call", "_law_boss", "_law_turn", "_law_here", "_law_there", "_law_heads", "_law_pay"]) (sim__law_asked T) h⟩)
theorem ok_law {P : Program} {w : World} {K : PySem.W.Frag} {mg : Str → Option Value} {base : Heap} (PS : PSup P "/claim/cut.py") (LTb : Lt K mg base) (T : Tx K mg) : FnOk P w K mg base CX0 13 (He.ga K "law") T.fd_law ["_law_script"] (sp_law K) :=
  T.F_law.ok sc_law (fun vs H Q E h => Sp1.len h) (fun cdv A outer s H vs Q E hr h => ⟨t_law K, dv_law T hr (ok__law_bag PS LTb T) (ok__law_good PS LTb T) (ok__law_names PS LTb T) (ok__law_same PS LTb T) (ok__law_asked PS LTb T) (ok__law_take PS LTb T) (ok__law_of PS LTb T) (ok__law_bad PS LTb T) (ok__law_due PS LTb T), MR.sim_def (N := ["_law_script", "_law_bag_here", "_law_turn", "_law_row", "_law_more", "_law_at"]) (sim_law T) (MR.law_in main h)⟩)
end K07
namespace K07
open PySem PySem.Spec PyProof.Rows L2 SW
theorem facts {l : PySem.W.OpenLaw} {w : World} {K : PySem.W.Frag} {h : Heap} {mg : Str → Option Value} {f : Addr} (PS : PSup l.prog "/claim/cut.py") (X : K.In h) (G : h.Ns mainGlobals mg) (hfa : mg ("law" : Str) = some (.ref f)) (c : SaysY "/claim/cut.py" fa fn ex su K) (tb : ∀ x ∈ lmk, ∃ c P, TabOf h K x c P) :
    LamX.LawAtS l w K CX0 13 63 "_law_script" mg f h := by
  obtain ⟨T⟩ := tx_of X G c
  have e := hfa.symm.trans T.g_law
  cases e
  have b := FunD.bindsA (ps := ["_law_script"]) T.F_law fun _ _ _ _ _ _ us hl => match us, hl with | [_], _ => rfl
  obtain ⟨c0, P0, t0⟩ := tb ("_law_asked", none) (by decide +kernel)
  have e0 : P0 = tabAt K ("_law_asked", none) := tabOf_at X t0 (by have z := T.cd__law_asked; rw [t0.at_] at z; exact z)
  subst e0
  refine ⟨T.fd_law, [(c0, tabAt K ("_law_asked", none))], sp_law K, (fun p hp => by
      simp only [List.mem_cons, List.not_mem_nil, or_false] at hp
      rcases hp with rfl
      · exact t0.tab), (fun p hp => by
      simp only [List.mem_cons, List.not_mem_nil, or_false] at hp
      rcases hp with rfl
      · exact t0.no), (fun p hp => by
      simp only [List.mem_cons, List.not_mem_nil, or_false] at hp
      rcases hp with rfl
      · exact t0.hd), fun s v => b s [v] rfl, fun H a ns hl _ hH hS => ?_, fun base _ _ TB => ok_law PS ⟨trivial, c0, t0.at_, TB (c0, tabAt K ("_law_asked", none)) (by simp)⟩ T⟩
  exact ⟨_, rfl, a, ns, rfl, hS, hl, (Tabs.nil fun q hq => by
      have hq : q ∈ lms := hq
      simp only [lms, List.mem_cons, List.not_mem_nil, or_false] at hq
      rcases hq with rfl
      · exact hH (c0, tabAt K ("_law_asked", none)) (by simp)), fun _ => rfl⟩
end K07
open PySem PySem.W PySem.Calls PyProof.Rows
theorem PySem.Challenge.cw_standworth_k07_askings_refused_holds : PySem.Challenge.rw_standworth_k07_askings_refused.Holds := by
  w_on; o_law
  refine HandSHeadRun.head_any (r := OpenLaw.row PySem.Challenge.rw_standworth_k07_askings_refused) (q := view (OpenLaw.row PySem.Challenge.rw_standworth_k07_askings_refused).prog [41]) (H := K07.hk) (ob := K07.ob) (M := 4000) (loose := K07.loose) (d := HandSHeadRun.topDef (OpenLaw.row PySem.Challenge.rw_standworth_k07_askings_refused).prog 41) (kwd := []) K07.ob_eq
    (by kernel_rfl) (fun s => by kernel_rfl) K07.run (by kernel_rfl) (by kernel_rfl) (by kernel_rfl) (by rfl) (by first | assumption | decide +kernel) (by decide +kernel) ⟨rfl, rfl, rfl, rfl, rfl, by decide +kernel⟩ ?hw ?hc
  case hw => w_witness2
  case hc =>
    refine SW.walk_ofZ (l := PySem.Challenge.rw_standworth_k07_askings_refused) (n := 63) (k := 13) (x := "_law_script") (CX := L2.CX0) rfl (by decide) (by kernel_rfl) ⟨rfl, by decide, by decide⟩ ?F (fun _ _ _ _ z => z)
    intro w mg fa h Y G hmg0
    obtain ⟨K, KX, c, tb⟩ := Y
    have hmg : mg ("law" : PySem.Str) = some (.ref fa) := by
      have e : (HandSHeadRun.topDef (OpenLaw.row PySem.Challenge.rw_standworth_k07_askings_refused).prog 41).name = ("law" : PySem.Str) := by kernel_rfl
      rw [← e]
      exact hmg0
    exact ⟨K, KX, K07.facts ⟨by kernel_rfl, by kernel_rfl⟩ KX G hmg c tb⟩

