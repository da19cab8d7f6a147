import PyProof.Rows.All
import Wide.All
import OpenK.AllK
import Wide.FinOn
import KE.KStateDown
import HandS.ForMost
import HandS.ForExc
import HandS.More
import HandS.Defaults
import HandS.IsInst
import HandS.TupAny
import HandS.Style
import HandS.FStr
import HandS.Steps
import KE.IntTextLaws
import HandS.ListItems
import HandS.Head0
import HandS.Head1
import HandS.Head2
import HandS.HeadEnd
import HandS.HeadHook1
import HandS.HeadHook2
import PySem.Challenge.RW_standworth_k01_words_judged
set_option Elab.async false
set_option linter.all false
set_option maxRecDepth 100000
set_option maxHeartbeats 4000000
namespace SW
open PySem PySem.Spec PyProof.Rows L2
/-! ### a Hook of facts and one more test -/
abbrev AlX : Type := He.AlD × Bool
def obsX (fa : List He.Fa) (fn : List He.DefD) (ex : PySem.W.Frag → Bool) (K : PySem.W.Frag) : AlX := (He.obsD fa fn K, ex K)
def valX (fn : List He.DefD) : AlX := (He.valD fn, true)
def obsXG (n : Nat) (fa : List He.Fa) (fn : List He.DefD) (ex : PySem.W.Frag → Bool) (g : Addr → Option Obj) : AlX := obsX fa fn ex (He.frG g (He.asD g n))
def SaysX (fa : List He.Fa) (fn : List He.DefD) (ex : PySem.W.Frag → Bool) (K : PySem.W.Frag) : Prop := obsX fa fn ex K = valX fn
def hookX (n : Nat) (fa : List He.Fa) (fn : List He.DefD) (ex : PySem.W.Frag → Bool) : PySem.W.Hook where
  α := AlX
  obs := fun s => obsXG n fa fn ex s.heap.get?
  val := fun _ => valX fn
  says := fun _ h => ∃ K : PySem.W.Frag, K.In h ∧ SaysX fa fn ex K
  of := fun _ _ e => ⟨_, He.frG_in, e⟩
  keeps := fun _ _ _ ⟨K, hK, c⟩ k => ⟨K, PySem.W.Frag.In.keeps hK k, c⟩
theorem obsXG_eq {n : Nat} {fa : List He.Fa} {fn : List He.DefD} {ex : PySem.W.Frag → Bool} {g : Addr → Option Obj} {s : Shared} (h : ∀ a, g a = s.heap.get? a) : obsXG n fa fn ex g = (hookX n fa fn ex).obs s := by
  have e : g = s.heap.get? := funext h
  rw [e] <;> rfl
theorem SaysX.d {fa : List He.Fa} {fn : List He.DefD} {ex : PySem.W.Frag → Bool} {K : PySem.W.Frag} (c : SaysX fa fn ex K) : He.SaysD fa fn K := congrArg (fun z : AlX => z.1) c
theorem SaysX.x {fa : List He.Fa} {fn : List He.DefD} {ex : PySem.W.Frag → Bool} {K : PySem.W.Frag} (c : SaysX fa fn ex K) : ex K = true := congrArg (fun z : AlX => z.2) c

/-! ### promises by their number of arguments -/
def Sp1 (p : V → Hp → VK → XK → Prop) : Sp := fun vs H Q E => ∃ a, vs = [a] ∧ p a H Q E
def Sp2 (p : V → V → Hp → VK → XK → Prop) : Sp := fun vs H Q E => ∃ a b, vs = [a, b] ∧ p a b H Q E
def Sp3 (p : V → V → V → Hp → VK → XK → Prop) : Sp := fun vs H Q E => ∃ a b c, vs = [a, b, c] ∧ p a b c H Q E
def Sp4 (p : V → V → V → V → Hp → VK → XK → Prop) : Sp := fun vs H Q E => ∃ a b c d, vs = [a, b, c, d] ∧ p a b c d H Q E
theorem Sp1.len {p : V → Hp → VK → XK → Prop} {vs : List V} {H : Hp} {Q : VK} {E : XK} (h : Sp1 p vs H Q E) : vs.length = 1 := by obtain ⟨a, rfl, _⟩ := h; rfl
theorem Sp2.len {p : V → V → Hp → VK → XK → Prop} {vs : List V} {H : Hp} {Q : VK} {E : XK} (h : Sp2 p vs H Q E) : vs.length = 2 := by obtain ⟨a, b, rfl, _⟩ := h; rfl
theorem Sp3.len {p : V → V → V → Hp → VK → XK → Prop} {vs : List V} {H : Hp} {Q : VK} {E : XK} (h : Sp3 p vs H Q E) : vs.length = 3 := by obtain ⟨a, b, c, rfl, _⟩ := h; rfl
theorem Sp4.len {p : V → V → V → V → Hp → VK → XK → Prop} {vs : List V} {H : Hp} {Q : VK} {E : XK} (h : Sp4 p vs H Q E) : vs.length = 4 := by obtain ⟨a, b, c, d, rfl, _⟩ := h; rfl

/-! ### data on the heap -/
/-- a text of a size and of signs that are served -/
structure Sok (x : Str) : Prop where
  len : x.length ≤ 100000
  ok : ∀ c ∈ x.cps.toList, c < 1114112
theorem Sok.strOk {x : Str} (h : Sok x) : PyData.strOk x = true := by
  unfold PyData.strOk
  rw [Array.all_eq_true_iff_forall_mem]
  intro c hc
  exact decide_eq_true (h.ok c (Array.mem_toList_iff.mpr hc))
theorem sok_lit {x : Str} (h : (decide (x.length ≤ 100000) && x.cps.toList.all fun c => decide (c < 1114112)) = true) : Sok x := by
  obtain ⟨h1, h2⟩ := Bool.and_eq_true_iff.mp h
  exact ⟨of_decide_eq_true h1, fun c hc => of_decide_eq_true (List.all_eq_true.mp h2 c hc)⟩
mutual
inductive Rp (K : PySem.W.Frag) (H : Hp) : V → PyData → Prop
  | non : Rp K H .non .none
  | bl (b : Bool) : Rp K H (.bl b) (.bool b)
  | int (i : Int) : Rp K H (.int i) (.int i)
  | str (x : Str) (h : Sok x) : Rp K H (.str x) (.str x)
  | lst {a : Addr} {xs : List V} {ds : List PyData} : SqL K H a xs → RpA K H xs ds → xs.length ≤ 100000 → Rp K H (.ref a) (.list ds)
  | tup {a : Addr} {xs : List V} {ds : List PyData} : SqT K H a xs → RpA K H xs ds → xs.length ≤ 100000 → Rp K H (.ref a) (.tuple ds)
  | dct {a : Addr} {kvs : List (Key × V)} {ds : List (PyData × PyData)} : H a = some (.dK kvs) → RpK K H kvs ds → kvs.length ≤ 100000 → Rp K H (.ref a) (.dict ds)
inductive RpA (K : PySem.W.Frag) (H : Hp) : List V → List PyData → Prop
  | nil : RpA K H [] []
  | cons {v : V} {vs : List V} {d : PyData} {ds : List PyData} : Rp K H v d → RpA K H vs ds → RpA K H (v :: vs) (d :: ds)
inductive RpK (K : PySem.W.Frag) (H : Hp) : List (Key × V) → List (PyData × PyData) → Prop
  | nil : RpK K H [] []
  | consI {i : Int} {v : V} {vs : List (Key × V)} {d : PyData} {ds : List (PyData × PyData)} : Rp K H v d → RpK K H vs ds → RpK K H ((Sum.inl i, v) :: vs) ((.int i, d) :: ds)
  | consS {x : Str} {v : V} {vs : List (Key × V)} {d : PyData} {ds : List (PyData × PyData)} : Sok x → Rp K H v d → RpK K H vs ds → RpK K H ((Sum.inr x, v) :: vs) ((.str x, d) :: ds)
end
theorem Same.seqT {K : PySem.W.Frag} {H H' : Hp} {a : Addr} {xs : List V} (e : Same H H') (h : SqT K H a xs) : SqT K H' a xs := by
  rcases h with (h | ⟨o, h⟩) | h
  · exact .inl (.inl (e _ _ h))
  · exact .inl (.inr ⟨o, e _ _ h⟩)
  · exact .inr h
mutual
theorem Rp.mono {K : PySem.W.Frag} {H H' : Hp} (e : Same H H') : ∀ {v : V} {d : PyData}, Rp K H v d → Rp K H' v d
  | _, _, .non => .non
  | _, _, .bl b => .bl b
  | _, _, .int i => .int i
  | _, _, .str x h => .str x h
  | _, _, .lst h a z => .lst (e.seq h) (RpA.mono e a) z
  | _, _, .tup h a z => .tup (Same.seqT e h) (RpA.mono e a) z
  | _, _, .dct h a z => .dct (e _ _ h) (RpK.mono e a) z
theorem RpA.mono {K : PySem.W.Frag} {H H' : Hp} (e : Same H H') : ∀ {v : List V} {d : List PyData}, RpA K H v d → RpA K H' v d
  | _, _, .nil => .nil
  | _, _, .cons h a => .cons (Rp.mono e h) (RpA.mono e a)
theorem RpK.mono {K : PySem.W.Frag} {H H' : Hp} (e : Same H H') : ∀ {v : List (Key × V)} {d : List (PyData × PyData)}, RpK K H v d → RpK K H' v d
  | _, _, .nil => .nil
  | _, _, .consI h a => .consI (Rp.mono e h) (RpK.mono e a)
  | _, _, .consS l h a => .consS l (Rp.mono e h) (RpK.mono e a)
end
theorem RpA.length {K : PySem.W.Frag} {H : Hp} : ∀ {v : List V} {d : List PyData}, RpA K H v d → v.length = d.length
  | _, _, .nil => rfl
  | _, _, .cons _ a => congrArg Nat.succ (RpA.length a)
theorem RpA.get {K : PySem.W.Frag} {H : Hp} : ∀ {v : List V} {d : List PyData} {i : Nat} {x : V}, RpA K H v d → v[i]? = some x → ∃ y, d[i]? = some y ∧ Rp K H x y
  | _, _, _, _, .nil, e => by simp at e
  | _, _, 0, _, .cons h _, e => by
    have e' := Option.some.inj (show some _ = some _ from e)
    subst e'
    exact ⟨_, rfl, h⟩
  | _, _, i + 1, _, .cons _ a, e => RpA.get (i := i) a (by simpa using e)
theorem RpA.get' {K : PySem.W.Frag} {H : Hp} : ∀ {v : List V} {d : List PyData} {i : Nat} {y : PyData}, RpA K H v d → d[i]? = some y → ∃ x, v[i]? = some x ∧ Rp K H x y
  | _, _, _, _, .nil, e => by simp at e
  | _, _, 0, _, .cons h _, e => by
    have e' := Option.some.inj (show some _ = some _ from e)
    subst e'
    exact ⟨_, rfl, h⟩
  | _, _, i + 1, _, .cons _ a, e => RpA.get' (i := i) a (by simpa using e)
theorem RpA.append {K : PySem.W.Frag} {H : Hp} : ∀ {v w : List V} {d c : List PyData}, RpA K H v d → RpA K H w c → RpA K H (v ++ w) (d ++ c)
  | _, _, _, _, .nil, b => b
  | _, _, _, _, .cons h a, b => .cons h (RpA.append a b)
theorem RpA.drop {K : PySem.W.Frag} {H : Hp} : ∀ {v : List V} {d : List PyData} (n : Nat), RpA K H v d → RpA K H (v.drop n) (d.drop n)
  | _, _, 0, h => h
  | _, _, _ + 1, .nil => .nil
  | _, _, n + 1, .cons _ a => RpA.drop n a
theorem RpA.take {K : PySem.W.Frag} {H : Hp} : ∀ {v : List V} {d : List PyData} (n : Nat), RpA K H v d → RpA K H (v.take n) (d.take n)
  | _, _, 0, _ => .nil
  | _, _, _ + 1, .nil => .nil
  | _, _, n + 1, .cons h a => .cons h (RpA.take n a)
theorem RpA.mem {K : PySem.W.Frag} {H : Hp} {v : List V} {d : List PyData} {x : V} (h : RpA K H v d) (m : x ∈ v) : ∃ y, y ∈ d ∧ Rp K H x y := by
  obtain ⟨i, hi⟩ := List.getElem?_of_mem m
  obtain ⟨y, h1, h2⟩ := h.get hi
  exact ⟨y, List.mem_of_getElem? h1, h2⟩
def tyN : PyData → String
  | .none => "NoneType"
  | .bool _ => "bool"
  | .int _ => "int"
  | .str _ => "str"
  | .list _ => "list"
  | .tuple _ => "tuple"
  | .dict _ => "dict"
theorem SqL.ty {K : PySem.W.Frag} {H : Hp} {a : Addr} {xs : List V} (h : SqL K H a xs) : TyX K H (.ref a) (.type "list") := by
  rcases h with (h | ⟨o, h⟩) | ⟨o, its, n, h, c, _⟩
  · exact .base (.lst h)
  · exact .base (.frz h)
  · exact .kList h c
theorem SqT.ty {K : PySem.W.Frag} {H : Hp} {a : Addr} {xs : List V} (h : SqT K H a xs) : TyX K H (.ref a) (.type "tuple") := by
  rcases h with (h | ⟨o, h⟩) | ⟨o, its, n, h, c, _⟩
  · exact .base (.tup h)
  · exact .fTuple h
  · exact .kTuple h c
theorem Rp.ty {K : PySem.W.Frag} {H : Hp} {v : V} {d : PyData} (h : Rp K H v d) : TyX K H v (.type (tyN d)) := by
  cases h with
  | non => exact .base .non
  | bl b => exact .base (.bl b)
  | int i => exact .base (.int i)
  | str x _ => exact .base (.str x)
  | lst h _ _ => exact SqL.ty h
  | tup h _ _ => exact SqT.ty h
  | dct h _ _ => exact .base (.dK h)
/-- isinstance(d, the built-in T) -/
def isBS (s T : String) : Bool := s == T || (s == "bool" && T == "int")
def isB (d : PyData) (T : String) : Bool := isBS (tyN d) T
def tyNames : List String := ["NoneType", "bool", "int", "str", "list", "tuple", "dict"]
def tyAsked : List String := ["int", "bool", "str", "list", "tuple", "dict"]
theorem isBS_all : (tyNames.all fun s => tyAsked.all fun T => decide (kitB s T = some (isBS s T))) = true := by decide +kernel
theorem tyN_mem (d : PyData) : tyN d ∈ tyNames := by cases d <;> simp [tyN, tyNames]
theorem isB_ok {d : PyData} {T : String} (hT : T ∈ tyAsked) : kitB (tyN d) T = some (isB d T) :=
  of_decide_eq_true (List.all_eq_true.mp (List.all_eq_true.mp isBS_all _ (tyN_mem d)) _ hT)

/-! ### the universal operations -/
def uAdd (K : PySem.W.Frag) : R2 := fun x y H Q => rI0 (fun i j => .int (i + j)) x y H Q ∨ (∃ i j, x = .str i ∧ y = .str j ∧ i.length + j.length ≤ sizeLine ∧ Q (.str (i ++ j)) H) ∨ rCat x y H Q ∨ rCatA K x y H Q
def uEq (K : PySem.W.Frag) : R2 := fun x y H Q => rEq x y H Q ∨ rEqD K x y H Q
def uNe (K : PySem.W.Frag) : R2 := fun x y H Q => rNe x y H Q ∨ rNeD K x y H Q
def uIsi (K : PySem.W.Frag) : List V → Hp → VK → Prop := fun xs H Q => rIsi K xs H Q ∨ rIsiT K xs H Q
def uLen (K : PySem.W.Frag) : List V → Hp → VK → Prop := fun xs H Q => ∃ x n, xs = [x] ∧ LenV K x H n ∧ Q (.int n) H
def uInt : List V → Hp → VK → Prop := fun xs H Q => ((∃ i, xs = [.int i] ∧ Q (.int i) H) ∨ ∃ k, xs = [.bl k] ∧ Q (.int (if k then 1 else 0)) H) ∨ ∃ x n, xs = [.str x] ∧ PySem.intText? x = some n ∧ x.length ≤ 640 ∧ Q (.int n) H
def uSl (K : PySem.W.Frag) : V → Option Int → Option Int → Hp → VK → Prop := fun x lo hi H Q => rSlL K x lo hi H Q ∨ rSlA K x lo hi H Q ∨ rSlS x lo hi H Q
def uList (K : PySem.W.Frag) : List V → Hp → VK → Prop := fun xs H Q => ∃ p ys, xs = [.ref p] ∧ (SqL K H p ys ∨ SqT K H p ys) ∧ ∀ l, H l = none → Q (.ref l) (upd H l (.lst ys))
def uStr : List V → Hp → VK → Prop := fun xs H Q => ∃ i, xs = [.int i] ∧ i.natAbs.log2 < 1920 ∧ Q (.str (toString i)) H
/-- in, not in: a sign in a text; flat things in a list or tuple -/
def uIn (K : PySem.W.Frag) : R2 := fun x y H Q => (∃ (c : Nat) (z : Str), x = .str ⟨#[c]⟩ ∧ y = .str z ∧ Q (.bl (decide (c ∈ z.cps.toList))) H) ∨ rIn K false x y H Q
def uNi (K : PySem.W.Frag) : R2 := fun x y H Q => (∃ (c : Nat) (z : Str), x = .str ⟨#[c]⟩ ∧ y = .str z ∧ Q (.bl (!decide (c ∈ z.cps.toList))) H) ∨ rIn K true x y H Q
section
variable {X : Cx}
theorem u_add : OpR X (binaryOp .Add) (uAdd X.K) := op_add.or (op_add_str.or (op_cat.or op_catA))
theorem u_eq (hu : X.A.units + 64 < cLine) : OpR X (compareOp .Eq) (uEq X.K) := op_eq.or (op_eqD hu)
theorem u_ne (hu : X.A.units + 64 < cLine) : OpR X (compareOp .NotEq) (uNe X.K) := op_ne.or (op_neD hu)
theorem u_isi : CallR X (.builtin "isinstance") (uIsi X.K) := call_isi.or call_isiT
theorem u_len : CallR X (.builtin "len") (uLen X.K) := call_len
theorem u_int : CallR X (.type "int") uInt := call_int1.or call_int_str
theorem u_str : CallR X (.type "str") uStr := call_str_int
theorem u_list : CallR X (.type "list") (uList X.K) := call_list_of
theorem u_in : OpR X (compareOp .In) (uIn X.K) := op_in_sign.or op_in_seq
theorem u_ni : OpR X (compareOp .NotIn) (uNi X.K) := op_notIn_sign.or op_notIn_seq
theorem u_sl : SlR X (uSl X.K) := sl_list.or (sl_tupA.or sl_str)
/-- a module's number, text -/
theorem pe_gint {x : Str} {i : Int} {pos : Pos} (hg : Gl X x) (hm : ∃ t, X.mg x = some (.int i t)) (hd : (x == ("__debug__" : Str)) = false := by decide) : PE X (.Name x pos) (tC (.int i)) := by
  obtain ⟨t, h⟩ := hm
  exact pe_glob hg h ⟨t, rfl⟩ hd
theorem pe_gstr {x z : Str} {pos : Pos} (hg : Gl X x) (hm : ∃ t, X.mg x = some (.str z t)) (hd : (x == ("__debug__" : Str)) = false := by decide) : PE X (.Name x pos) (tC (.str z)) := by
  obtain ⟨t, h⟩ := hm
  exact pe_glob hg h ⟨t, rfl⟩ hd
/-- a built-in class as a value -/
theorem pe_ty {x : Str} {T : String} {pos : Pos} (hg : Gl X x) (hm : X.mg x = none) (hv : bootBuiltins x = some (.type T)) (hn : x ≠ "__name__" := by decide) (hd : (x == ("__debug__" : Str)) = false := by decide) : PE X (.Name x pos) (tC (.ty T)) :=
  pe_bltn (v := .ty T) hg hm hv rfl hn hd
/-- f(k = v, ..), no place -/
theorem pe_callN0 {CX : CXT} {k : Nat} {f : Addr} {fd : FuncData} {ps ks : List Str} {sp : Sp} {E : XK} {x : Str} {p pos : Pos} {kws : List Keyword} {tk : TA} {g : List Value → List Value → List Value} {gV : List V → List V → List V}
    (F : FnOk X.prog X.w X.K X.mg X.base CX k f fd ps sp) (hr : Room k X.A) (hg : Gl X x) (hm : X.mg x = some (.ref f)) (hk : PySem.W.keepIn X.K (.ref f) = true) (hb : KBn X.K fd ps 0 ks g gV) (hx : Passes CX X E) (hkw : PK X kws tk)
    (hall : (backToKw pos (keywordEach kws X.env)).all (·.1.isSome) = true := by rfl) (hks : (backToKw pos (keywordEach kws X.env)).filterMap (·.1) = ks := by rfl) (hdb : (x == ("__debug__" : Str)) = false := by decide)
    (hpl : ((backTo pos (starEach [] X.env)).any (·.1) || (backToKw pos (keywordEach kws X.env)).any (·.1.isNone)) = false := by rfl) :
    PE X (.Call (.Name x p) [] kws pos) (tCallN 0 ks.length sp gV E tNil tk) := by
  refine ⟨fun pins s σ H Q I h => ?_⟩
  refine wpAny_Call_Name_kw (ld_glob I hg hm ?_ hdb)
  refine PySem.W.callWith_KW0 (h₀ := X.base) I.ok.mod.kin hk hall ?_ hpl
  refine thn (hkw.run pos pins s σ H _ I h) fun ws s2 ⟨zs, H2, I2, rz, l1, l2, q2⟩ => ⟨I2.kIn, ?_⟩
  rw [hks]
  exact run_fnN (us := []) (vs := []) F hr hb hx I2 .nil rz rfl l2 q2
end

/-! ### more readings -/
abbrev uSub : R2 := rI0 fun i j => .int (i - j)
abbrev uMul : R2 := rI CMul fun i j => .int (i * j)
abbrev uFdiv : R2 := rI CDiv fun i j => .int (i / j)
abbrev uMod : R2 := rI (fun _ j => 0 < j) fun i j => .int (i % j)
abbrev uPow : R2 := rI CPow fun i j => .int (i ^ j.toNat)
abbrev uLt : R2 := rI0 fun i j => .bl (decide (i < j))
abbrev uLe : R2 := rI0 fun i j => .bl (decide (i ≤ j))
abbrev uGt : R2 := rI0 fun i j => .bl (decide (j < i))
abbrev uGe : R2 := rI0 fun i j => .bl (decide (j ≤ i))
abbrev uNeg : V → Hp → VK → Prop := rU fun i => .int (-i)
def uMax : List V → Hp → VK → Prop := fun xs H Q => ∃ i j, xs = [.int i, .int j] ∧ Q (.int (if j > i then j else i)) H
def uMin : List V → Hp → VK → Prop := fun xs H Q => ∃ i j, xs = [.int i, .int j] ∧ Q (.int (if j < i then j else i)) H
def tFs (ts : List TE) : TE := fun σ H Q => tJs ts Str.empty σ H fun out H1 => Q (.str out) H1
def m_split (_ : PySem.W.Frag) : V → List V → Hp → VK → Prop := fun x xs H Q => ∃ a b, x = .str a ∧ xs = [.str b] ∧ (b.length == 0) = false ∧ a.length + 2 ≤ sizeLine ∧ rNewStrs (Txt.split a b) H Q
def m_partition (_ : PySem.W.Frag) : V → List V → Hp → VK → Prop := fun x xs H Q => ∃ a b, x = .str a ∧ xs = [.str b] ∧ (b.length == 0) = false ∧ a.length ≤ sizeLine ∧
      ∀ p, H p = none → Q (.ref p) (upd H p (.tup [.str (Txt.partition a b).1, .str (Txt.partition a b).2.1, .str (Txt.partition a b).2.2]))
def m_join (K : PySem.W.Frag) : V → List V → Hp → VK → Prop := fun x xs H Q => ∃ a p, ∃ ys : List Str, x = .str a ∧ xs = [.ref p] ∧ (SqL K H p (ys.map V.str) ∨ SqT K H p (ys.map V.str)) ∧
      (ys.map (·.length)).sum + ys.length * a.length ≤ 16777216 ∧ Q (.str (Txt.join a ys)) H
/-- a list, a tuple, a text walked -/
def iAny (K : PySem.W.Frag) (tl : TE) : TI := fun σ H R => iList K tl σ H R ∨ iTup K tl σ H R ∨ iStr tl σ H R
section
variable {X : Cx} {tg e : Expr} {te : TE}
theorem u_sub : OpR X (binaryOp .Sub) uSub := op_sub
theorem u_mul : OpR X (binaryOp .Mult) uMul := op_mul
theorem u_fdiv : OpR X (binaryOp .FloorDiv) uFdiv := op_fdiv
theorem u_mod : OpR X (binaryOp .Mod) uMod := op_mod
theorem u_pow : OpR X (binaryOp .Pow) uPow := op_pow
theorem u_lt : OpR X (compareOp .Lt) uLt := op_lt
theorem u_le : OpR X (compareOp .LtE) uLe := op_le
theorem u_gt : OpR X (compareOp .Gt) uGt := op_gt
theorem u_ge : OpR X (compareOp .GtE) uGe := op_ge
theorem pi_any (he : PE X e te) : PI X tg e (iAny X.K te) := ⟨fun pins s σ H R I h => by
  rcases h with h | h | h
  · exact (pi_list he).run pins s σ H R I h
  · exact (pi_tup he).run pins s σ H R I h
  · exact (pi_str he).run pins s σ H R I h⟩
theorem pt_tru (ha : PE X e te) (he : ∀ whole, isTrue e X.env whole = (do let v ← whole; standAt e.pos; holding [v] (truthy v))) : PT X e (tTru X.K te) := pt_truth ha he
theorem bt_int : bootBuiltins "int" = some (.type "int") := by decide +kernel
theorem bt_bool : bootBuiltins "bool" = some (.type "bool") := by decide +kernel
theorem bt_str : bootBuiltins "str" = some (.type "str") := by decide +kernel
theorem bt_list : bootBuiltins "list" = some (.type "list") := by decide +kernel
theorem bt_tuple : bootBuiltins "tuple" = some (.type "tuple") := by decide +kernel
theorem bt_dict : bootBuiltins "dict" = some (.type "dict") := by decide +kernel
theorem bt_len : bootBuiltins "len" = some (.builtin "len") := by decide +kernel
theorem bt_all : bootBuiltins "all" = some (.builtin "all") := by decide +kernel
theorem bt_any : bootBuiltins "any" = some (.builtin "any") := by decide +kernel
theorem bt_max : bootBuiltins "max" = some (.builtin "max") := by decide +kernel
theorem bt_min : bootBuiltins "min" = some (.builtin "min") := by decide +kernel
theorem bt_sum : bootBuiltins "sum" = some (.builtin "sum") := by decide +kernel
theorem bt_isinstance : bootBuiltins "isinstance" = some (.builtin "isinstance") := by decide +kernel
theorem kbn_of {K : PySem.W.Frag} {x qual : Str} {params : Arguments} {body : List Stmt} {scope : Scope} {kws : List (Str × V)} {f : Addr} {fd : FuncData} {ps : List Str} {n : Nat} {ks : List Str} {g : List Value → List Value → List Value} {gV : List V → List V → List V}
    (F : FunD K x qual params body scope [] kws f fd)
    (h : ∀ (kV doc pm : Value) (an : Option Addr) (cdv ct : Value) (us ws : List Value), us.length = n → ws.length = ks.length → bindArgs (PySem.W.fnOf x qual params body scope .none kV doc pm an cdv ct) ⟨us, ks.zip ws⟩ = pure (ps.zip (g us ws)))
    (rel : ∀ {vs : List V} {us : List Value} {zs : List V} {ws : List Value}, Vals vs us → Vals zs ws → Vals (gV vs zs) (g us ws)) : KBn K fd ps n ks g gV := by
  obtain ⟨oc, od, dV, kV, doc, pm, an, cdv, ct, osl, rfl, lk, hcd, hD, hK⟩ := F.ex
  rcases hD with ⟨_, rfl⟩ | ⟨e, _⟩
  · exact ⟨fun s us ws _ l1 l2 => .of_eq (h kV doc pm an cdv ct us ws l1 l2), rel⟩
  · exact absurd rfl e
end
end SW

namespace SW
open PySem PySem.Spec PyProof.Rows L2
section
variable {K : PySem.W.Frag} {σ : L2.St} {H H' H1 H2 : Hp} {Q : VK} {D : Ends} {t u : TS} {c c2 : TT} {te ta tb tc : TE} {r r' : R2} {v x y : V} {i j : Nat} {E : XK} {g : TG} {QT : Bool → Hp → Prop} {QA : List V → Hp → Prop} {tr : TA} {rc : List V → Hp → VK → Prop} {vs : List V}
/-! ### statements -/
theorem s_seq (h : t { D with nx := u D } σ H) : tSeq t u D σ H := h
theorem s_ifS (h : c σ H fun b H1 => if b = true then t D σ H1 else u D σ H1) : tIfS c t u D σ H := h
theorem s_ret (h : te σ H D.rt) : tRet te D σ H := h
theorem s_next (h : D.nx σ H) : tNext D σ H := h
theorem s_drop (h : te σ H fun _ H1 => D.nx σ H1) : tDrop te D σ H := h
theorem s_asg (h : te σ H fun x H1 => g x σ H1 D.nx) : tAsg te g D σ H := h
theorem s_gName {QS : L2.St → Hp → Prop} (h : QS (σ.set i (some v)) H) : gName i v σ H QS := h
theorem s_par (h : tr σ H fun vs H1 => ∃ v w, vs = [v, w] ∧ D.nx ((σ.set i (some v)).set j (some w)) H1) : tPar i j tr D σ H := h
theorem s_par3 {l : Nat} (h : tr σ H fun vs H1 => ∃ u v w, vs = [u, v, w] ∧ D.nx (((σ.set i (some u)).set j (some v)).set l (some w)) H1) : tPar3 i j l tr D σ H := h
theorem s_ex2 {v w : V} {P : V → V → Prop} (h : P v w) : ∃ a b, [v, w] = [a, b] ∧ P a b := ⟨v, w, rfl, h⟩
theorem s_ex3 {u v w : V} {P : V → V → V → Prop} (h : P u v w) : ∃ a b c, [u, v, w] = [a, b, c] ∧ P a b c := ⟨u, v, w, rfl, h⟩
/-! ### expressions -/
theorem s_var (h : σ[i]? = some (some v)) (k : Q v H) : tVar i σ H Q := ⟨v, h, k⟩
theorem s_c (k : Q v H) : tC v σ H Q := k
theorem s_op (h : ta σ H fun x H1 => tb σ H1 fun y H2 => r x y H2 Q) : tOp r ta tb σ H Q := h
theorem s_un {r : V → Hp → VK → Prop} (h : ta σ H fun x H1 => r x H1 Q) : tUn r ta σ H Q := h
theorem s_CB (h : tr σ H fun vs H1 => rc vs H1 Q) : tCB rc tr σ H Q := h
theorem s_cons (h : ta σ H fun x H1 => tr σ H1 fun xs H2 => QA (x :: xs) H2) : tCons ta tr σ H QA := h
theorem s_nil (h : QA [] H) : tNil σ H QA := h
theorem s_call {sp : Sp} {dvs : List V} (h : tr σ H fun vs H1 => sp (vs ++ dvs) H1 Q E) : tCall sp dvs E tr σ H Q := h
theorem s_not (h : c σ H fun b H1 => QT (!b) H1) : tNot c σ H QT := h
theorem s_and (h : c σ H fun b H1 => if b = true then c2 σ H1 QT else QT false H1) : tAnd c c2 σ H QT := h
theorem s_or (h : c σ H fun b H1 => if b = true then QT true H1 else c2 σ H1 QT) : tOr c c2 σ H QT := h
theorem s_andV (h : ta σ H fun x H1 => ∃ c, x = .bl c ∧ if c = true then tb σ H1 Q else Q (.bl false) H1) : tAndV ta tb σ H Q := h
theorem s_orV (h : ta σ H fun x H1 => ∃ c, x = .bl c ∧ if c = true then Q (.bl true) H1 else tb σ H1 Q) : tOrV ta tb σ H Q := h
theorem s_notV (h : ta σ H fun x H1 => ∃ c, x = .bl c ∧ Q (.bl (!c)) H1) : tNotV ta σ H Q := h
theorem s_if (h : c σ H fun b H1 => if b = true then ta σ H1 Q else tb σ H1 Q) : tIf c ta tb σ H Q := h
theorem s_test (h : te σ H fun x H' => ∃ k, x = .bl k ∧ QT k H') : tTest te σ H QT := h
theorem s_tru (h : te σ H fun x H' => ∃ k, TruV K x H' k ∧ QT k H') : tTru K te σ H QT := h
theorem s_chain (h : ta σ H fun x H1 => tb σ H1 fun y H2 => r x y H2 fun z H3 => ∃ k, z = .bl k ∧ (if k = true then tc σ H3 fun w' H4 => r' y w' H4 Q else Q (.bl false) H3)) : tChain r r' ta tb tc σ H Q := h
theorem s_sl {ru : V → Option Int → Option Int → Hp → VK → Prop} {tl th : TO} (h : te σ H fun x H1 => tl σ H1 fun l H2 => th σ H2 fun u H3 => ru x l u H3 Q) : tSl ru te tl th σ H Q := h
theorem s_noPart {QO : Option Int → Hp → Prop} (h : QO none H) : tNoPart σ H QO := h
theorem s_part {QO : Option Int → Hp → Prop} (h : te σ H fun x H1 => ∃ i, x = .int i ∧ QO (some i) H1) : tPart te σ H QO := h
theorem s_M1 {rm : V → List V → Hp → VK → Prop} (h : ta σ H fun x H1 => (∃ a, x = .str a) ∧ tb σ H1 fun y H2 => rm x [y] H2 Q) : tM1 rm ta tb σ H Q := h
theorem s_exS {a : Str} {P : Prop} (h : P) : (∃ b, V.str a = .str b) ∧ P := ⟨⟨a, rfl⟩, h⟩
/-! ### leaves -/
theorem s_exI {a : Int} {P : Int → Prop} (h : P a) : ∃ k, V.int a = .int k ∧ P k := ⟨a, rfl, h⟩
theorem s_exB {b : Bool} {P : Bool → Prop} (h : P b) : ∃ k, V.bl b = .bl k ∧ P k := ⟨b, rfl, h⟩
theorem s_truB {b : Bool} {P : Bool → Prop} (h : P b) : ∃ k, TruV K (.bl b) H k ∧ P k := ⟨b, rfl, h⟩
theorem s_rI0 {g : Int → Int → V} {a b : Int} (h : Q (g a b) H) : rI0 g (.int a) (.int b) H Q := ⟨a, b, rfl, rfl, h⟩
theorem s_rI {C : Int → Int → Prop} {g : Int → Int → V} {a b : Int} (hc : C a b) (h : Q (g a b) H) : rI C g (.int a) (.int b) H Q := ⟨a, b, rfl, rfl, hc, h⟩
theorem s_rU {g : Int → V} {a : Int} (h : Q (g a) H) : rU g (.int a) H Q := ⟨a, rfl, h⟩
theorem s_addI {a b : Int} (h : Q (.int (a + b)) H) : uAdd K (.int a) (.int b) H Q := .inl ⟨a, b, rfl, rfl, h⟩
theorem s_addS {a b : Str} (hz : a.length + b.length ≤ sizeLine) (h : Q (.str (a ++ b)) H) : uAdd K (.str a) (.str b) H Q := .inr (.inl ⟨a, b, rfl, rfl, hz, h⟩)
theorem s_eqI {a b : Int} (h : Q (.bl (decide (a = b))) H) : uEq K (.int a) (.int b) H Q := .inl ⟨rfl, by
  have e : decide (V.int a = V.int b) = decide (a = b) := by rw [Bool.eq_iff_iff]; simp
  rw [e]; exact h⟩
theorem s_neI {a b : Int} (h : Q (.bl (!decide (a = b))) H) : uNe K (.int a) (.int b) H Q := .inl ⟨rfl, by
  have e : decide (V.int a = V.int b) = decide (a = b) := by rw [Bool.eq_iff_iff]; simp
  rw [e]; exact h⟩
theorem s_eqS {a b : Str} (h : Q (.bl (decide (a = b))) H) : uEq K (.str a) (.str b) H Q := .inl ⟨rfl, by
  have e : decide (V.str a = V.str b) = decide (a = b) := by rw [Bool.eq_iff_iff]; simp
  rw [e]; exact h⟩
theorem s_neS {a b : Str} (h : Q (.bl (!decide (a = b))) H) : uNe K (.str a) (.str b) H Q := .inl ⟨rfl, by
  have e : decide (V.str a = V.str b) = decide (a = b) := by rw [Bool.eq_iff_iff]; simp
  rw [e]; exact h⟩
theorem s_isN {a : V} (h : Q (.bl (decide (a = .non))) H) : rIsN a .non H Q := ⟨rfl, h⟩
theorem s_notN {a : V} (h : Q (.bl (!decide (a = .non))) H) : rNotN a .non H Q := ⟨rfl, h⟩
/-- isinstance(x, T) -/
theorem s_isi {d : PyData} {T : String} (h : Rp K H v d) (hT : T ∈ tyAsked) (k : Q (.bl (isB d T)) H) : uIsi K [v, .ty T] H Q :=
  .inl ⟨v, .ty T, _, _, isB d T, rfl, .ty T, h.ty, kit_ty (isB_ok hT), k⟩
theorem s_lenS {a : Str} (hz : a.length ≤ 100000) (h : Q (.int a.length) H) : uLen K [.str a] H Q := ⟨.str a, a.length, rfl, ⟨Nat.le_trans hz (by decide), rfl⟩, h⟩
theorem s_lenT {p : Addr} {xs : List V} (hx : SqT K H p xs) (h : Q (.int xs.length) H) : uLen K [.ref p] H Q := ⟨.ref p, xs.length, rfl, .inr ⟨xs, hx, rfl⟩, h⟩
theorem s_lenL {p : Addr} {xs : List V} (hx : SqL K H p xs) (h : Q (.int xs.length) H) : uLen K [.ref p] H Q := ⟨.ref p, xs.length, rfl, .inl ⟨xs, hx, rfl⟩, h⟩
theorem s_ixT {p : Addr} {xs : List V} {k : Int} (hx : SqT K H p xs) (hi : atI xs k = some v) (h : Q v H) : rIx K (.ref p) (.int k) H Q := .inr (.inl ⟨p, xs, k, v, rfl, rfl, hx, hi, h⟩)
theorem s_ixL {p : Addr} {xs : List V} {k : Int} (hx : SqL K H p xs) (hi : atI xs k = some v) (h : Q v H) : rIx K (.ref p) (.int k) H Q := .inl ⟨p, xs, k, v, rfl, rfl, hx, hi, h⟩
theorem s_ixS {a : Str} {k : Int} {z : Nat} (hz : a.length ≤ 100000) (hi : atI a.cps.toList k = some z) (h : Q (.str ⟨#[z]⟩) H) : rIx K (.str a) (.int k) H Q := .inr (.inr ⟨a, k, z, rfl, rfl, Nat.le_trans hz (by decide), hi, h⟩)
theorem s_int1 {a : Int} (h : Q (.int a) H) : uInt [.int a] H Q := .inl (.inl ⟨a, rfl, h⟩)
theorem s_tup (h : tr σ H fun xs H1 => xs.length ≤ sizeLine ∧ ∀ p, H1 p = none → Q (.ref p) (upd H1 p (.tup xs))) : tTup tr σ H Q := h
theorem s_lst (h : tr σ H fun xs H1 => xs.length ≤ sizeLine ∧ ∀ p, H1 p = none → Q (.ref p) (upd H1 p (.lst xs))) : tLst tr σ H Q := h
/-- a new object: all that was stands -/
theorem s_new {o : HO} (hz : vs.length ≤ sizeLine) (k : ∀ p H', H p = none → Same H H' → H' = upd H p o → Q (.ref p) H') : vs.length ≤ sizeLine ∧ ∀ p, H p = none → Q (.ref p) (upd H p o) :=
  ⟨hz, fun p hp => k p _ hp (fun b o e => by rw [upd_ne (ne_of_none e hp)]; exact e) rfl⟩
theorem same_new {p : Addr} {o : HO} (hp : H p = none) : Same H (upd H p o) := fun b o e => by rw [upd_ne (ne_of_none e hp)]; exact e
theorem s_sp1 {p : V → Hp → VK → XK → Prop} (h : p v H Q E) : Sp1 p ([v] ++ []) H Q E := ⟨v, rfl, h⟩
theorem s_sp2 {p : V → V → Hp → VK → XK → Prop} {w : V} (h : p v w H Q E) : Sp2 p ([v, w] ++ []) H Q E := ⟨v, w, rfl, h⟩
theorem s_sp3 {p : V → V → V → Hp → VK → XK → Prop} {w z : V} (h : p v w z H Q E) : Sp3 p ([v, w, z] ++ []) H Q E := ⟨v, w, z, rfl, h⟩
theorem s_bite {b : Bool} {A B : Prop} (h1 : b = true → A) (h2 : b = false → B) : if b = true then A else B := by
  cases b
  · exact (h2 rfl)
  · exact (h1 rfl)
end
/-- a pure def of one datum -/
abbrev SpD (K : PySem.W.Frag) (f : PyData → V) : Sp := Sp1 fun v H Q _ => ∃ d, Rp K H v d ∧ ∀ H', Same H H' → Q (f d) H'
theorem s_spD {K : PySem.W.Frag} {H : Hp} {Q : VK} {E : XK} {f : PyData → V} {v : V} {d : PyData} (h : Rp K H v d) (k : ∀ H', Same H H' → Q (f d) H') : SpD K f ([v] ++ []) H Q E := ⟨v, rfl, d, h, k⟩
theorem Rp.tup' {K : PySem.W.Frag} {H : Hp} {v : V} {ds : List PyData} (h : Rp K H v (.tuple ds)) : ∃ a xs, v = .ref a ∧ SqT K H a xs ∧ RpA K H xs ds := by
  cases h with
  | tup hs ha _ => exact ⟨_, _, rfl, hs, ha⟩
theorem Rp.lst' {K : PySem.W.Frag} {H : Hp} {v : V} {ds : List PyData} (h : Rp K H v (.list ds)) : ∃ a xs, v = .ref a ∧ SqL K H a xs ∧ RpA K H xs ds := by
  cases h with
  | lst hs ha _ => exact ⟨_, _, rfl, hs, ha⟩
theorem Rp.len {K : PySem.W.Frag} {H : Hp} {v : V} {ds : List PyData} (h : Rp K H v (.tuple ds) ∨ Rp K H v (.list ds)) : ds.length ≤ 100000 := by
  rcases h with h | h
  · cases h with
    | tup hs ha z => rw [← ha.length]; exact z
  · cases h with
    | lst hs ha z => rw [← ha.length]; exact z
theorem RpA.cons' {K : PySem.W.Frag} {H : Hp} {xs : List V} {d : PyData} {ds : List PyData} (h : RpA K H xs (d :: ds)) : ∃ v vs, xs = v :: vs ∧ Rp K H v d ∧ RpA K H vs ds := by
  cases h with
  | cons h1 h2 => exact ⟨_, _, rfl, h1, h2⟩
theorem RpA.nil' {K : PySem.W.Frag} {H : Hp} {xs : List V} (h : RpA K H xs []) : xs = [] := by
  cases h with
  | nil => rfl

/-! ### what is walked, as a list -/
def Yl (J : It) (H : Hp) (xs : List V) : Prop := (∀ i H', Same H H' → xs.length ≤ i → J.stop i H') ∧ ∀ i H', Same H H' → i < xs.length → J.go i H' ∧ ∀ x H'', J.yld i H' x H'' → H'' = H' ∧ xs[i]? = some x
theorem Yl.list {K : PySem.W.Frag} {H : Hp} {a : Addr} {xs : List V} (h : SqL K H a xs) : Yl (Itl K a) H xs :=
  ⟨fun i H' e hi => ⟨xs, e.seq h, hi⟩, fun i H' e hi => ⟨⟨xs, xs[i], e.seq h, by simp [hi]⟩, fun x H'' y => ⟨y.1, y.2 xs (e.seq h)⟩⟩⟩
theorem Yl.tup {K : PySem.W.Frag} {H : Hp} {a : Addr} {xs : List V} (h : SqT K H a xs) : Yl (Itt K a) H xs :=
  ⟨fun i H' e hi => ⟨xs, Same.seqT e h, hi⟩, fun i H' e hi => ⟨⟨xs, xs[i], Same.seqT e h, by simp [hi]⟩, fun x H'' y => ⟨y.1, y.2 xs (Same.seqT e h)⟩⟩⟩
def signs (x : Str) : List V := x.cps.toList.map fun c => V.str ⟨#[c]⟩
theorem signs_length (x : Str) : (signs x).length = x.length := by simp [signs, Str.length]
theorem Yl.str {H : Hp} (x : Str) : Yl (Its x) H (signs x) := by
  refine ⟨fun i H' e hi => ?_, fun i H' e hi => ⟨?_, fun v H'' y => ?_⟩⟩
  · show x.cps.size ≤ i
    simpa [signs] using hi
  · show i < x.cps.size
    simpa [signs] using hi
  · obtain ⟨e1, c, hc, rfl⟩ := y
    refine ⟨e1, ?_⟩
    unfold signs
    rw [List.getElem?_map]
    have : x.cps.toList[i]? = some c := by simpa using hc
    rw [this]; rfl
def rngV (lo : Int) (n : Nat) : List V := (List.range n).map fun (i : Nat) => V.int (lo + (i : Int))
theorem rngV_length (lo : Int) (n : Nat) : (rngV lo n).length = n := by simp [rngV]
theorem Yl.rng {H : Hp} (lo : Int) (n : Nat) : Yl (Itr lo n) H (rngV lo n) := by
  refine ⟨fun i H' e hi => ?_, fun i H' e hi => ⟨?_, fun v H'' y => ?_⟩⟩
  · show n ≤ i
    simpa [rngV] using hi
  · show i < n
    simpa [rngV] using hi
  · obtain ⟨e1, rfl⟩ := y
    refine ⟨e1, ?_⟩
    have hi' : i < n := by simpa [rngV] using hi
    unfold rngV
    rw [List.getElem?_map, List.getElem?_range hi']; rfl
theorem filtT {α : Type} (l : List α) : l.filter (fun _ => true) = l := List.filter_eq_self.mpr (by simp)
theorem filtF {α : Type} (l : List α) : l.filter (fun _ => false) = [] := List.filter_eq_nil_iff.mpr (by simp)
theorem take_succ_filter {fb : V → Bool} {fv : V → V} {xs : List V} {i : Nat} {x : V} (h : xs[i]? = some x) :
    (((xs.take (i + 1)).filter fb).map fv) = ((xs.take i).filter fb).map fv ++ (if fb x = true then [fv x] else []) := by
  rw [List.take_add_one, h, List.filter_append, List.map_append]
  congr 1
  cases hb : fb x <;> simp [hb]
/-- what a comprehension asks of what is walked -/
def LcK (g : TG) (tt : TT) (te : TE) (vs : List Nat) (σ : L2.St) (Q : VK) (J : It) (H : Hp) : Prop := ∀ Dl, H Dl = none → ∃ W : Nat → Nat → Hp → Prop, (∃ m, W 0 m (upd H Dl (.lst []))) ∧ ∀ i m H, W i m H →
      (J.stop i H ∧ Q (.ref Dl) H) ∨ (J.go i H ∧ ∃ Nx : Hp → Prop, (∀ H', Nx H' → ∃ m', m' < m ∧ W (i + 1) m' H') ∧ ∀ x H', J.yld i H x H' → g x (wipe σ vs) H' fun σ2 H2 => wipe σ2 vs = wipe σ vs ∧ tt σ2 H2 fun b H3 =>
        if b = true then te σ2 H3 fun y H4 => ∃ acc, H4 Dl = some (.lst acc) ∧ acc.length < sizeLine ∧ Nx (upd H4 Dl (.lst (acc ++ [y]))) else Nx H3)
theorem s_lc {wi : TI} {g : TG} {tt : TT} {te : TE} {vs : List Nat} {σ : L2.St} {H : Hp} {Q : VK} (h : wi σ H (LcK g tt te vs σ Q)) : tLc wi g tt te vs σ H Q := h
/-- what a for asks of what is walked -/
def ForK (g : TG) (tb : TS) (D : Ends) (σ : L2.St) (J : It) (H1 : Hp) : Prop := ∃ W : Nat → Nat → L2.St → Hp → Prop, (∃ m, W 0 m σ H1) ∧ ∀ i m σ H, W i m σ H →
  (J.stop i H ∧ D.nx σ H) ∨ (J.go i H ∧ ∃ N : L2.St → Hp → Prop, (∀ σ' H', N σ' H' → ∃ m', m' < m ∧ W (i + 1) m' σ' H') ∧ ∀ x H', J.yld i H x H' → g x σ H' fun σ2 H2 => tb { D with nx := N, ct := N, bk := D.nx } σ2 H2)
theorem s_for {wi : TI} {g : TG} {tb : TS} {D : Ends} {σ : L2.St} {H : Hp} (h : wi σ H (ForK g tb D σ)) : tFor wi g tb D σ H := h
theorem i_list {K : PySem.W.Frag} {te : TE} {σ : L2.St} {H : Hp} {R : It → Hp → Prop} (h : te σ H fun x H1 => ∃ a, x = .ref a ∧ (∃ xs, SqL K H1 a xs) ∧ R (Itl K a) H1) : iAny K te σ H R := .inl h
theorem i_tup {K : PySem.W.Frag} {te : TE} {σ : L2.St} {H : Hp} {R : It → Hp → Prop} (h : te σ H fun x H1 => ∃ a, x = .ref a ∧ (∃ xs, SqT K H1 a xs) ∧ R (Itt K a) H1) : iAny K te σ H R := .inr (.inl h)
theorem i_str {K : PySem.W.Frag} {te : TE} {σ : L2.St} {H : Hp} {R : It → Hp → Prop} (h : te σ H fun v H1 => ∃ x, v = .str x ∧ R (Its x) H1) : iAny K te σ H R := .inr (.inr h)
theorem i_rng1 {ta : TA} {σ : L2.St} {H : Hp} {R : It → Hp → Prop} (h : ta σ H fun vs H1 => ∃ j : Int, vs = [.int j] ∧ -(2 ^ 62) ≤ j ∧ j < 2 ^ 62 ∧ R (Itr 0 j.toNat) H1) : iRng1 ta σ H R := h
/-- a comprehension that changes nothing, over what is walked: the items that pass, each by fv -/
theorem lc_pure {J : It} {H : Hp} {xs : List V} {σ : L2.St} {j : Nat} {tt : TT} {te : TE} {vs : List Nat} {Q : VK} (yl : Yl J H xs) (fb : V → Bool) (fv : V → V) (hz : (xs.filter fb).length ≤ 100000)
    (hw : ∀ x, wipe ((wipe σ vs).set j (some x)) vs = wipe σ vs)
    (ht : ∀ x H', x ∈ xs → Same H H' → ∀ QT : Bool → Hp → Prop, (∀ H'', Same H' H'' → QT (fb x) H'') → tt ((wipe σ vs).set j (some x)) H' QT)
    (he : ∀ x H', x ∈ xs → fb x = true → Same H H' → ∀ QV : VK, (∀ H'', Same H' H'' → QV (fv x) H'') → te ((wipe σ vs).set j (some x)) H' QV)
    (k : ∀ Dl H', H Dl = none → Same H H' → H' Dl = some (.lst ((xs.filter fb).map fv)) → Q (.ref Dl) H') :
    LcK (gName j) tt te vs σ Q J H := by
  intro Dl hD
  have hline : sizeLine = 16777216 := sizeLine_eq
  refine ⟨fun i m H' => m = xs.length - i ∧ i ≤ xs.length ∧ Same H H' ∧ H' Dl = some (.lst (((xs.take i).filter fb).map fv)), ⟨xs.length, by simp, Nat.zero_le _, same_new hD, by rw [upd_same]; simp⟩, ?_⟩
  rintro i m H1 ⟨rfl, hi, e1, hl⟩
  by_cases hlt : i < xs.length
  · obtain ⟨hg, hy⟩ := yl.2 i H1 e1 hlt
    refine .inr ⟨hg, fun H' => i + 1 ≤ xs.length ∧ Same H H' ∧ H' Dl = some (.lst (((xs.take (i + 1)).filter fb).map fv)), fun H' p => ⟨xs.length - (i + 1), by omega, rfl, p.1, p.2⟩, fun x H' y => ?_⟩
    obtain ⟨rfl, hx⟩ := hy x H' y
    have hm : x ∈ xs := List.mem_of_getElem? hx
    refine ⟨hw x, ht x _ hm e1 _ fun H3 e3 => ?_⟩
    cases hb : fb x with
    | true =>
      rw [if_pos rfl]
      refine he x H3 hm hb (e1.trans e3) _ fun H4 e4 => ⟨_, e4 _ _ (e3 _ _ hl), ?_, hlt, ?_, ?_⟩
      · have h1 : ((xs.take i).filter fb).length ≤ (xs.filter fb).length := ((List.take_sublist i xs).filter fb).length_le
        rw [List.length_map]; omega
      · intro b o e
        rw [upd_ne (ne_of_none e hD)]
        exact e4 _ _ (e3 _ _ (e1 _ _ e))
      · rw [upd_same, take_succ_filter hx, hb]; simp
    | false =>
      rw [if_neg Bool.false_ne_true]
      refine ⟨hlt, e1.trans e3, ?_⟩
      rw [e3 _ _ hl, take_succ_filter hx, hb]; simp
  · have e : i = xs.length := by omega
    subst e
    refine .inl ⟨yl.1 _ _ e1 (Nat.le_refl _), k Dl H1 hD e1 ?_⟩
    rw [hl, List.take_length]
theorem cut_whole {xs : List V} {lo hi : Option Int} (h : HT.sIx xs.length 0 lo = 0 ∧ HT.sIx xs.length xs.length hi = xs.length) : cutV xs lo hi = xs := by
  unfold cutV
  rw [h.1, h.2]
  simp
theorem cut_from (xs : List V) (n : Nat) : cutV xs (some (n : Int)) none = xs.drop n := by
  unfold cutV
  rw [HT.sIx_nat, HT.sIx_none]
  have h : xs.drop (min n xs.length) = xs.drop n := by
    rcases Nat.le_total n xs.length with h | h
    · rw [Nat.min_eq_left h]
    · rw [Nat.min_eq_right h, List.drop_of_length_le (Nat.le_refl _), List.drop_of_length_le h]
  rw [h]
  refine List.take_of_length_le ?_
  rw [List.length_drop]
  omega
theorem cut_to (xs : List V) (n : Nat) : cutV xs none (some (n : Int)) = xs.take n := by
  unfold cutV
  rw [HT.sIx_nat, HT.sIx_none, List.drop_zero, Nat.sub_zero]
  rcases Nat.le_total n xs.length with h | h
  · rw [Nat.min_eq_left h]
  · rw [Nat.min_eq_right h, List.take_of_length_le (Nat.le_refl _), List.take_of_length_le h]
theorem s_slT {K : PySem.W.Frag} {H : Hp} {Q : VK} {p : Addr} {xs : List V} {lo hi : Option Int} (hx : SqT K H p xs) (k : ∀ q H', Same H H' → SqT K H' q (cutV xs lo hi) → Q (.ref q) H') : uSl K (.ref p) lo hi H Q :=
  .inr (.inl ⟨p, xs, rfl, hx, fun hw => k p H (Same.refl H) (by rw [cut_whole hw]; exact hx), fun _ q hq => k q _ (same_new hq) (SqT.of upd_same)⟩)
theorem s_slL {K : PySem.W.Frag} {H : Hp} {Q : VK} {p : Addr} {xs : List V} {lo hi : Option Int} (hx : SqL K H p xs) (k : ∀ q H', H q = none → Same H H' → H' q = some (.lst (cutV xs lo hi)) → Q (.ref q) H') : uSl K (.ref p) lo hi H Q :=
  .inl ⟨p, xs, rfl, hx, fun q hq => k q _ hq (same_new hq) upd_same⟩
theorem s_slS {K : PySem.W.Frag} {H : Hp} {Q : VK} {x : Str} {lo hi : Option Int} (hz : x.length ≤ 100000) (k : Q (.str (cutS x lo hi)) H) : uSl K (.str x) lo hi H Q :=
  .inr (.inr ⟨x, rfl, Nat.le_trans hz (by decide), k⟩)
theorem inV_strs (w : Str) (ws : List Str) : inV (.str w) (ws.map V.str) = decide (w ∈ ws) := by
  unfold inV
  rw [List.any_map]
  have e : (fun y : V => eqV y (.str w)) ∘ V.str = fun z : Str => z == w := by
    funext z
    show eqV (.str z) (.str w) = _
    rfl
  rw [e, Bool.eq_iff_iff]
  simp
theorem flat_strs (ws : List Str) : (ws.map V.str).all flatV = true := by
  rw [List.all_eq_true]
  intro x hx
  obtain ⟨w, _, rfl⟩ := List.mem_map.mp hx
  rfl
/-- w in (a, b, ..): written texts, the tuple new -/
theorem s_inNew {K : PySem.W.Frag} {H : Hp} {Q : VK} {w : Str} {vs : List V} (ws : List Str) (hv : vs = ws.map V.str) (hz : ws.length ≤ 1000) (k : ∀ H', Same H H' → Q (.bl (decide (w ∈ ws))) H') :
    vs.length ≤ sizeLine ∧ ∀ p, H p = none → uIn K (.str w) (.ref p) (upd H p (.tup vs)) Q := by
  subst hv
  refine ⟨by rw [List.length_map]; exact Nat.le_trans hz (by decide), fun p hp => .inr ⟨p, ws.map V.str, rfl, .inr (SqT.of upd_same), rfl, flat_strs ws, ?_⟩⟩
  show Q (.bl (inV (.str w) (ws.map V.str))) _
  rw [inV_strs]
  exact k _ (same_new hp)
theorem s_partition {K : PySem.W.Frag} {H : Hp} {Q : VK} {x b : Str} (hb : (b.length == 0) = false) (hx : x.length ≤ 100000)
    (k : ∀ p H', Same H H' → H' p = some (.tup [.str (Txt.partition x b).1, .str (Txt.partition x b).2.1, .str (Txt.partition x b).2.2]) → Q (.ref p) H') : m_partition K (.str x) [.str b] H Q :=
  ⟨x, b, rfl, rfl, hb, Nat.le_trans hx (by decide), fun p hp => k p _ (same_new hp) upd_same⟩
theorem s_split {K : PySem.W.Frag} {H : Hp} {Q : VK} {x b : Str} (hb : (b.length == 0) = false) (hx : x.length ≤ 100000)
    (k : ∀ p H', H p = none → Same H H' → H' p = some (.lst ((Txt.split x b).map V.str)) → Q (.ref p) H') : m_split K (.str x) [.str b] H Q :=
  ⟨x, b, rfl, rfl, hb, (by have h : sizeLine = 16777216 := sizeLine_eq; omega), fun p hp => k p _ hp (same_new hp) upd_same⟩
theorem s_gTup3 {K : PySem.W.Frag} {σ : L2.St} {H : Hp} {p : Addr} {a b c : V} {i j l : Nat} {QS : L2.St → Hp → Prop} (h : SqT K H p [a, b, c]) (k : QS (((σ.set i (some a)).set j (some b)).set l (some c)) H) :
    gTup K 3 (gCons (gName i) (gCons (gName j) (gCons (gName l) gNil))) (.ref p) σ H QS := ⟨p, _, rfl, h, rfl, _, _, rfl, _, _, rfl, _, _, rfl, rfl, k⟩
theorem s_gTup2 {K : PySem.W.Frag} {σ : L2.St} {H : Hp} {p : Addr} {a b : V} {i j : Nat} {QS : L2.St → Hp → Prop} (h : SqT K H p [a, b]) (k : QS ((σ.set i (some a)).set j (some b)) H) :
    gTup K 2 (gCons (gName i) (gCons (gName j) gNil)) (.ref p) σ H QS := ⟨p, _, rfl, h, rfl, _, _, rfl, _, _, rfl, rfl, k⟩
theorem s_inC {K : PySem.W.Frag} {H : Hp} {Q : VK} {c : Nat} {z : Str} (k : Q (.bl (decide (c ∈ z.cps.toList))) H) : uIn K (.str ⟨#[c]⟩) (.str z) H Q := .inl ⟨c, z, rfl, rfl, k⟩
theorem s_niC {K : PySem.W.Frag} {H : Hp} {Q : VK} {c : Nat} {z : Str} (k : Q (.bl (!decide (c ∈ z.cps.toList))) H) : uNi K (.str ⟨#[c]⟩) (.str z) H Q := .inl ⟨c, z, rfl, rfl, k⟩
theorem s_fs {ts : List TE} {σ : L2.St} {H : Hp} {Q : VK} (h : tJs ts Str.empty σ H fun out H1 => Q (.str out) H1) : tFs ts σ H Q := h
theorem s_js {t : TE} {ts : List TE} {acc : Str} {σ : L2.St} {H : Hp} {QS : Str → Hp → Prop} (h : t σ H fun x H1 => ∃ y : Str, x = .str y ∧ (acc ++ y).length ≤ sizeLine ∧ tJs ts (acc ++ y) σ H1 QS) : tJs (t :: ts) acc σ H QS := h
theorem s_jsN {acc : Str} {σ : L2.St} {H : Hp} {QS : Str → Hp → Prop} (h : QS acc H) : tJs [] acc σ H QS := h
theorem s_jsE {acc y : Str} {P : Str → Prop} (hz : acc.length + y.length ≤ 100000) (h : P y) : ∃ z : Str, V.str y = .str z ∧ (acc ++ z).length ≤ sizeLine ∧ P z :=
  ⟨y, rfl, (by rw [TL.len_tl, TL.tl_append, List.length_append, ← TL.len_tl, ← TL.len_tl]; have h : sizeLine = 16777216 := sizeLine_eq; omega), h⟩
theorem s_fmt {te : TE} {σ : L2.St} {H : Hp} {Q : VK} (h : te σ H fun x H1 => (∃ y : Str, x = .str y ∧ y.length ≤ sizeLine ∧ Q (.str y) H1) ∨ ∃ i : Int, x = .int i ∧ i.natAbs.log2 < 1920 ∧ Q (.str (toString i)) H1) : tFmt te σ H Q := h
theorem s_fmtS {x : Str} {P : Str → Prop} {R : Int → Prop} (hz : x.length ≤ 100000) (h : P x) : (∃ y : Str, V.str x = .str y ∧ y.length ≤ sizeLine ∧ P y) ∨ ∃ i : Int, V.str x = .int i ∧ R i :=
  .inl ⟨x, rfl, Nat.le_trans hz (by decide), h⟩
theorem log2_small {n : Int} (h0 : -1000000000000 ≤ n) (h1 : n ≤ 1000000000000) : n.natAbs.log2 < 1920 := by
  have h : n.natAbs < 2 ^ 1920 := Nat.lt_of_lt_of_le (show n.natAbs < 2 ^ 40 by omega) (Nat.pow_le_pow_right (by decide) (by decide))
  by_cases hz : n.natAbs = 0
  · rw [hz]; decide
  · exact (Nat.log2_lt hz).mpr h
theorem s_fmtI {n : Int} {P : Str → Prop} {R : Int → Prop} (h0 : -1000000000000 ≤ n) (h1 : n ≤ 1000000000000) (h : R n) : (∃ y : Str, V.int n = .str y ∧ P y) ∨ ∃ i : Int, V.int n = .int i ∧ i.natAbs.log2 < 1920 ∧ R i :=
  .inr ⟨n, rfl, log2_small h0 h1, h⟩
theorem len_app (a b : Str) : (a ++ b).length = a.length + b.length := by rw [TL.len_tl, TL.tl_append, List.length_append, ← TL.len_tl, ← TL.len_tl]
theorem len_hour {n : Int} (h0 : 0 ≤ n) (h8 : n ≤ 8) : ((toString n : Str)).length = 1 := by
  have h : ∀ m : Nat, m ≤ 8 → ((toString ((m : Nat) : Int) : Str)).length = 1 := by
    intro m hm
    match m, hm with
    | 0, _ => decide +kernel
    | 1, _ => decide +kernel
    | 2, _ => decide +kernel
    | 3, _ => decide +kernel
    | 4, _ => decide +kernel
    | 5, _ => decide +kernel
    | 6, _ => decide +kernel
    | 7, _ => decide +kernel
    | 8, _ => decide +kernel
    | m + 9, h => omega
  obtain ⟨m, rfl⟩ := Int.eq_ofNat_of_zero_le h0
  exact h m (by omega)
theorem s_str {n : Int} {H : Hp} {Q : VK} (h0 : -1000000000000 ≤ n) (h1 : n ≤ 1000000000000) (h : Q (.str (toString n)) H) : uStr [.int n] H Q := ⟨n, rfl, log2_small h0 h1, h⟩
theorem s_gSub {σ : L2.St} {H : Hp} {v : V} {to ti : TE} {ts : TSet} {QS : L2.St → Hp → Prop} (h : to σ H fun o H1 => ti σ H1 fun i H2 => ts o i v H2 fun H3 => QS σ H3) : gSub to ti ts v σ H QS := h
theorem s_setL {H : Hp} {v : V} {p : Addr} {xs : List V} {k : Int} {j : Nat} {QH : Hp → Prop} (hp : H p = some (.lst xs)) (hj : ixN xs.length k = some j) (h : QH (upd H p (.lst (xs.set j v)))) : rSetL (.ref p) (.int k) v H QH := ⟨p, xs, k, j, rfl, rfl, hp, hj, h⟩
theorem s_BM {K : PySem.W.Frag} {T : String} {r : V → List V → Hp → VK → Prop} {to : TE} {t : TA} {σ : L2.St} {H : Hp} {Q : VK} (h : to σ H fun x H1 => tyV K T x H1 ∧ t σ H1 fun xs H2 => r x xs H2 Q) : tBM K T r to t σ H Q := h
theorem s_tyL {K : PySem.W.Frag} {H : Hp} {p : Addr} {xs : List V} {P : Prop} (hp : SqL K H p xs) (h : P) : tyV K "list" (.ref p) H ∧ P := ⟨.inl ⟨rfl, xs, hp⟩, h⟩
theorem s_append {H : Hp} {Q : VK} {p : Addr} {xs : List V} {y : V} (hp : H p = some (.lst xs)) (hz : xs.length < 100000) (h : Q .non (upd H p (.lst (xs ++ [y])))) : rAppend (.ref p) [y] H Q := ⟨p, xs, y, rfl, rfl, hp, Nat.lt_of_lt_of_le hz (by decide), h⟩
theorem s_eqB {K : PySem.W.Frag} {H : Hp} {Q : VK} {a b : Bool} (h : Q (.bl (a == b)) H) : uEq K (.bl a) (.bl b) H Q := .inl ⟨rfl, by rw [dec_bl]; exact h⟩
theorem s_neB {K : PySem.W.Frag} {H : Hp} {Q : VK} {a b : Bool} (h : Q (.bl (!(a == b))) H) : uNe K (.bl a) (.bl b) H Q := .inl ⟨rfl, by rw [dec_bl]; exact h⟩
theorem s_yes {σ : L2.St} {H : Hp} {QT : Bool → Hp → Prop} (h : QT true H) : tYes σ H QT := h
theorem s_iteNF {A B : Prop} (h : A) : if (!false) = true then A else B := h
theorem s_iteNT {A B : Prop} (h : B) : if (!true) = true then A else B := h
theorem s_iteNNF {A B : Prop} (h : B) : if (!!false) = true then A else B := h
theorem s_iteNNT {A B : Prop} (h : A) : if (!!true) = true then A else B := h
theorem s_nbite {b : Bool} {A B : Prop} (h1 : b = true → B) (h2 : b = false → A) : if (!b) = true then A else B := by
  cases b
  · exact (h2 rfl)
  · exact (h1 rfl)
theorem s_dec {p A B : Prop} [Decidable p] (h1 : p → A) (h2 : ¬ p → B) : if decide p = true then A else B := by
  by_cases h : p
  · rw [if_pos (decide_eq_true h)]; exact h1 h
  · rw [if_neg (by simp [h])]; exact h2 h
theorem s_ndec {p A B : Prop} [Decidable p] (h1 : p → B) (h2 : ¬ p → A) : if (!decide p) = true then A else B := by
  by_cases h : p
  · rw [if_neg (by simp [h])]; exact h1 h
  · rw [if_pos (by simp [h])]; exact h2 h
theorem isB_str {d : PyData} (h : isB d "str" = true) : ∃ x, d = .str x := by cases d <;> simp [isB, isBS, tyN] at h ⊢
theorem isB_tup {d : PyData} (h : isB d "tuple" = true) : ∃ x, d = .tuple x := by cases d <;> simp [isB, isBS, tyN] at h ⊢
theorem isB_lst {d : PyData} (h : isB d "list" = true) : ∃ x, d = .list x := by cases d <;> simp [isB, isBS, tyN] at h ⊢
theorem isB_dct {d : PyData} (h : isB d "dict" = true) : ∃ x, d = .dict x := by cases d <;> simp [isB, isBS, tyN] at h ⊢
theorem isB_bl {d : PyData} (h : isB d "bool" = true) : ∃ x, d = .bool x := by cases d <;> simp [isB, isBS, tyN] at h ⊢
theorem m_int : "int" ∈ tyAsked := by decide
theorem m_bool : "bool" ∈ tyAsked := by decide
theorem m_str : "str" ∈ tyAsked := by decide
theorem m_list : "list" ∈ tyAsked := by decide
theorem m_tuple : "tuple" ∈ tyAsked := by decide
theorem m_dict : "dict" ∈ tyAsked := by decide
end SW

local macro_rules | `(tactic| walk_at "rp") => `(tactic| first | assumption | exact SW.Rp.non | exact SW.Rp.bl _ | exact SW.Rp.int _ | (refine SW.Rp.mono (by assumption) ?_; walk_at "rp"))
local macro_rules | `(tactic| walk_at "ty") => `(tactic| first | exact SW.m_int | exact SW.m_bool | exact SW.m_str | exact SW.m_list | exact SW.m_tuple | exact SW.m_dict)
local macro_rules | `(tactic| walk_at "st") => `(tactic| with_reducible first
  | refine SW.s_seq ?_ | refine SW.s_ifS ?_ | refine SW.s_ret ?_ | refine SW.s_next ?_ | refine SW.s_drop ?_ | refine SW.s_asg ?_ | refine SW.s_gName ?_
  | refine SW.s_var rfl ?_ | refine SW.s_c ?_ | refine SW.s_op ?_ | refine SW.s_un ?_ | refine SW.s_CB ?_ | refine SW.s_cons ?_ | refine SW.s_nil ?_ | refine SW.s_call ?_
  | refine SW.s_not ?_ | refine SW.s_and ?_ | refine SW.s_or ?_ | refine SW.s_andV ?_ | refine SW.s_orV ?_ | refine SW.s_notV ?_ | refine SW.s_if ?_ | refine SW.s_test ?_ | refine SW.s_tru ?_ | refine SW.s_chain ?_
  | refine SW.s_sl ?_ | refine SW.s_noPart ?_ | refine SW.s_part ?_ | refine SW.s_M1 ?_ | refine SW.s_exS ?_ | refine SW.s_exI ?_ | refine SW.s_exB ?_ | refine SW.s_truB ?_
  | refine SW.s_rI0 ?_ | refine SW.s_rU ?_ | refine SW.s_addI ?_ | refine SW.s_eqI ?_ | refine SW.s_neI ?_ | refine SW.s_eqS ?_ | refine SW.s_neS ?_ | refine SW.s_isN ?_ | refine SW.s_notN ?_ | refine SW.s_int1 ?_
  | refine SW.s_isi (by walk_at "rp") (by walk_at "ty") ?_
  | refine L2.iteT ?_ | refine L2.iteF ?_ | refine SW.s_iteNF ?_ | refine SW.s_iteNT ?_ | refine SW.s_iteNNF ?_ | refine SW.s_iteNNT ?_ | refine SW.s_gSub ?_ | refine SW.s_BM ?_ | refine SW.s_eqB ?_ | refine SW.s_neB ?_ | refine SW.s_lc ?_ | refine SW.s_for ?_ | refine SW.i_rng1 ?_ | refine SW.s_fs ?_ | refine SW.s_js ?_ | refine SW.s_jsN ?_ | refine SW.s_fmt ?_ | refine SW.s_tup ?_ | refine SW.s_lst ?_ | refine SW.s_par ?_ | refine SW.s_par3 ?_ | refine SW.s_ex2 ?_ | refine SW.s_ex3 ?_)
local macro_rules | `(tactic| walk_at "go") => `(tactic| repeat walk_at "st")
local macro_rules | `(tactic| walk_at "sb") => `(tactic| with_reducible first
  | refine SW.s_seq ?_ | refine SW.s_ifS ?_ | refine SW.s_ret ?_ | refine SW.s_next ?_ | refine SW.s_drop ?_ | refine SW.s_asg ?_ | refine SW.s_gName ?_
  | refine SW.s_var rfl ?_ | refine SW.s_c ?_ | refine SW.s_op ?_ | refine SW.s_un ?_ | refine SW.s_CB ?_ | refine SW.s_cons ?_ | refine SW.s_nil ?_ | refine SW.s_call ?_
  | refine SW.s_not ?_ | refine SW.s_and ?_ | refine SW.s_or ?_ | refine SW.s_andV ?_ | refine SW.s_orV ?_ | refine SW.s_notV ?_ | refine SW.s_if ?_ | refine SW.s_test ?_ | refine SW.s_tru ?_ | refine SW.s_chain ?_
  | refine SW.s_sl ?_ | refine SW.s_noPart ?_ | refine SW.s_part ?_ | refine SW.s_M1 ?_ | refine SW.s_exS ?_ | refine SW.s_exI ?_ | refine SW.s_exB ?_ | refine SW.s_truB ?_
  | refine SW.s_rI0 ?_ | refine SW.s_rU ?_ | refine SW.s_addI ?_ | refine SW.s_eqI ?_ | refine SW.s_neI ?_ | refine SW.s_eqS ?_ | refine SW.s_neS ?_ | refine SW.s_isN ?_ | refine SW.s_notN ?_ | refine SW.s_int1 ?_
  | refine SW.s_isi (by walk_at "rp") (by walk_at "ty") ?_
  | refine L2.iteT ?_ | refine L2.iteF ?_ | refine SW.s_iteNF ?_ | refine SW.s_iteNT ?_ | refine SW.s_iteNNF ?_ | refine SW.s_iteNNT ?_ | refine SW.s_gSub ?_ | refine SW.s_BM ?_ | refine SW.s_eqB ?_ | refine SW.s_neB ?_ | refine SW.s_lc ?_ | refine SW.s_for ?_ | refine SW.i_rng1 ?_ | refine SW.s_fs ?_ | refine SW.s_js ?_ | refine SW.s_jsN ?_ | refine SW.s_fmt ?_ | refine SW.s_par ?_ | refine SW.s_par3 ?_ | refine SW.s_ex2 ?_ | refine SW.s_ex3 ?_)
local macro_rules | `(tactic| walk_at "gb") => `(tactic| repeat walk_at "sb")
local macro_rules | `(tactic| walk_at "sc") => `(tactic| with_reducible first
  | refine SW.s_seq ?_ | refine SW.s_ifS ?_ | refine SW.s_ret ?_ | refine SW.s_next ?_ | refine SW.s_drop ?_ | refine SW.s_asg ?_ | refine SW.s_gName ?_
  | refine SW.s_var rfl ?_ | refine SW.s_c ?_ | refine SW.s_op ?_ | refine SW.s_un ?_ | refine SW.s_CB ?_ | refine SW.s_cons ?_ | refine SW.s_nil ?_ | refine SW.s_call ?_
  | refine SW.s_not ?_ | refine SW.s_and ?_ | refine SW.s_or ?_ | refine SW.s_andV ?_ | refine SW.s_orV ?_ | refine SW.s_notV ?_ | refine SW.s_if ?_ | refine SW.s_test ?_ | refine SW.s_tru ?_ | refine SW.s_chain ?_
  | refine SW.s_sl ?_ | refine SW.s_noPart ?_ | refine SW.s_part ?_ | refine SW.s_M1 ?_ | refine SW.s_exS ?_ | refine SW.s_exI ?_ | refine SW.s_exB ?_ | refine SW.s_truB ?_
  | refine SW.s_rI0 ?_ | refine SW.s_rU ?_ | refine SW.s_addI ?_ | refine SW.s_eqI ?_ | refine SW.s_neI ?_ | refine SW.s_eqS ?_ | refine SW.s_neS ?_ | refine SW.s_isN ?_ | refine SW.s_notN ?_ | refine SW.s_int1 ?_
  | refine SW.s_isi (by walk_at "rp") (by walk_at "ty") ?_
  | refine L2.iteT ?_ | refine L2.iteF ?_ | refine SW.s_iteNF ?_ | refine SW.s_iteNT ?_ | refine SW.s_iteNNF ?_ | refine SW.s_iteNNT ?_ | refine SW.s_gSub ?_ | refine SW.s_BM ?_ | refine SW.s_eqB ?_ | refine SW.s_neB ?_ | refine SW.s_for ?_ | refine SW.i_rng1 ?_ | refine SW.s_fs ?_ | refine SW.s_js ?_ | refine SW.s_jsN ?_ | refine SW.s_fmt ?_ | refine SW.s_par ?_ | refine SW.s_par3 ?_ | refine SW.s_ex2 ?_ | refine SW.s_ex3 ?_)
local macro_rules | `(tactic| walk_at "gc") => `(tactic| repeat walk_at "sc")
namespace SW
open PySem PySem.Spec PyProof.Rows L2
/-! ### what the judgements of words say -/
def SMALLs : Str := "abcdefghijklmnopqrstuvwxyz"
def DIGITSs : Str := "0123456789"
def HOURSs : Str := "012345678"
def isWholeD (d : PyData) : Bool := isB d "int" && !isB d "bool"
def isNumD (d : PyData) (lo hi : Int) : Bool := match d with
  | .int i => decide (lo ≤ i) && decide (i ≤ hi)
  | _ => false
def allIn (x z : Str) : Bool := x.cps.toList.all fun c => decide (c ∈ z.cps.toList)
def isNameS (x : Str) : Bool := decide (1 ≤ x.length) && (decide (x.length ≤ 6) && allIn x SMALLs)
def isNameD (d : PyData) : Bool := match d with
  | .str x => isNameS x
  | _ => false
def isStandD (d : PyData) : Bool := match d with
  | .tuple [a, b] => isNameD a && isNumD b 0 8
  | _ => false
def isPlaceD (d : PyData) : Bool := match d with
  | .tuple [] => true
  | d => isStandD d
def isKeyL (w : Str) (rest : List PyData) : Bool :=
  if w = "hire" ∨ w = "work" then (match rest with
    | [a] => isNameD a
    | _ => false)
  else if w = "buy" ∨ w = "free" ∨ w = "wait" then isStandD (.tuple rest)
  else if w = "walk" then (match rest with
    | [a, b, c] => isNameD a && (isStandD (.tuple [b, c]) && !PyData.eqv a b)
    | _ => false)
  else false
def isKeyD (d : PyData) : Bool := match d with
  | .tuple (.str w :: rest) => isKeyL w rest
  | _ => false
/-- the part ahead of the first blank, and the part behind it -/
def cutAt (c : Nat) : List Nat → List Nat × Option (List Nat)
  | [] => ([], none)
  | x :: r => if x = c then ([], some r) else (x :: (cutAt c r).1, (cutAt c r).2)
def tailOk (y r : List Nat) : Bool := match r with
  | [h] => isNameS ⟨y.toArray⟩ && decide (h ∈ HOURSs.cps.toList)
  | _ => false
def isAcctS (x : Str) : Bool := x == Str.empty || (isNameS x || (match cutAt 32 x.cps.toList with
  | (y, some r) => tailOk y r
  | _ => false))
def isAcctD (d : PyData) : Bool := match d with
  | .str x => isAcctS x
  | _ => false
def acctS (x : Str) (h : Int) : Str := x ++ " " ++ (toString h : Str)
def numS (x : Str) : Option Int := if decide (1 ≤ x.length) && (decide (x.length ≤ 9) && allIn x DIGITSs) && (x == "0" || x.cps.toList.head? != some 48) then PySem.intText? x else none
def numV (d : PyData) : V := match d with
  | .str x => (match numS x with
    | some n => .int n
    | none => .non)
  | _ => .non
/-! ### the promises -/
abbrev sp_is_whole (K : PySem.W.Frag) : Sp := SpD K fun d => .bl (isWholeD d)
abbrev sp_is_number (K : PySem.W.Frag) : Sp := Sp3 fun v lo hi H Q _ => ∃ d i j, Rp K H v d ∧ lo = .int i ∧ hi = .int j ∧ ∀ H', Same H H' → Q (.bl (isNumD d i j)) H'
abbrev sp_is_name (K : PySem.W.Frag) : Sp := SpD K fun d => .bl (isNameD d)
abbrev sp_is_standing (K : PySem.W.Frag) : Sp := SpD K fun d => .bl (isStandD d)
abbrev sp_is_place (K : PySem.W.Frag) : Sp := SpD K fun d => .bl (isPlaceD d)
abbrev sp_is_key (K : PySem.W.Frag) : Sp := SpD K fun d => .bl (isKeyD d)
abbrev sp_is_account (K : PySem.W.Frag) : Sp := SpD K fun d => .bl (isAcctD d)
abbrev sp_number_in (K : PySem.W.Frag) : Sp := SpD K fun d => numV d
abbrev sp_account_of (K : PySem.W.Frag) : Sp := Sp1 fun v H Q _ => ∃ x h, Rp K H v (.tuple [.str x, .int h]) ∧ x.length ≤ 1000 ∧ 0 ≤ h ∧ h ≤ 8 ∧ ∀ H', Same H H' → Q (.str (acctS x h)) H'
end SW

namespace SW
open PySem PySem.Spec PyProof.Rows L2
def t_is_whole (K : PySem.W.Frag) : TS := (tRet (tAndV (tCB (uIsi K) (tCons (tVar 0) (tCons (tC (.ty "int")) tNil))) (tNotV (tCB (uIsi K) (tCons (tVar 0) (tCons (tC (.ty "bool")) tNil))))))
def t_is_number (K : PySem.W.Frag) : TS := (tRet (tAndV (tCall (sp_is_whole K) [] E0 (tCons (tVar 0) tNil)) (tChain uLe uLe (tVar 1) (tVar 0) (tVar 2))))
def t_is_name (K : PySem.W.Frag) : TS := (tSeq (tIfS (tOr (tNot (tTru K (tCB (uIsi K) (tCons (tVar 0) (tCons (tC (.ty "str")) tNil))))) (tNot (tTest (tChain uLe uLe (tC (.int 1)) (tCB (uLen K) (tCons (tVar 0) tNil)) (tC (.int 6)))))) (tRet (tC (.bl false))) tNext) (tRet (tCB (rAll K) (tCons (tLc (iAny K (tVar 0)) (gName 1) tYes (tOp (uIn K) (tVar 1) (tC (.str "abcdefghijklmnopqrstuvwxyz"))) [1]) tNil))))
def t_is_standing (K : PySem.W.Frag) : TS := (tSeq (tIfS (tOr (tNot (tTru K (tCB (uIsi K) (tCons (tVar 0) (tCons (tC (.ty "tuple")) tNil))))) (tTest (tOp (uNe K) (tCB (uLen K) (tCons (tVar 0) tNil)) (tC (.int 2))))) (tRet (tC (.bl false))) tNext) (tRet (tAndV (tCall (sp_is_name K) [] E0 (tCons (tOp (rIx K) (tVar 0) (tC (.int 0))) tNil)) (tCall (sp_is_number K) [] E0 (tCons (tOp (rIx K) (tVar 0) (tC (.int 1))) (tCons (tC (.int 0)) (tCons (tC (.int 8)) tNil)))))))
def t_is_place (K : PySem.W.Frag) : TS := (tRet (tAndV (tCB (uIsi K) (tCons (tVar 0) (tCons (tC (.ty "tuple")) tNil))) (tOrV (tOp (uEq K) (tCB (uLen K) (tCons (tVar 0) tNil)) (tC (.int 0))) (tCall (sp_is_standing K) [] E0 (tCons (tVar 0) tNil)))))
def t_is_key (K : PySem.W.Frag) : TS := (tSeq (tIfS (tOr (tNot (tTru K (tCB (uIsi K) (tCons (tVar 0) (tCons (tC (.ty "tuple")) tNil))))) (tOr (tTest (tOp (uEq K) (tCB (uLen K) (tCons (tVar 0) tNil)) (tC (.int 0)))) (tNot (tTru K (tCB (uIsi K) (tCons (tOp (rIx K) (tVar 0) (tC (.int 0))) (tCons (tC (.ty "str")) tNil))))))) (tRet (tC (.bl false))) tNext) (tSeq (tPar 1 2 (tCons (tOp (rIx K) (tVar 0) (tC (.int 0))) (tCons (tSl (uSl K) (tVar 0) (tPart (tC (.int 1))) tNoPart) tNil))) (tSeq (tIfS (tTest (tOp (uIn K) (tVar 1) (tTup (tCons (tC (.str "hire")) (tCons (tC (.str "work")) tNil))))) (tRet (tAndV (tOp (uEq K) (tCB (uLen K) (tCons (tVar 2) tNil)) (tC (.int 1))) (tCall (sp_is_name K) [] E0 (tCons (tOp (rIx K) (tVar 2) (tC (.int 0))) tNil)))) tNext) (tSeq (tIfS (tTest (tOp (uIn K) (tVar 1) (tTup (tCons (tC (.str "buy")) (tCons (tC (.str "free")) (tCons (tC (.str "wait")) tNil)))))) (tRet (tCall (sp_is_standing K) [] E0 (tCons (tVar 2) tNil))) tNext) (tRet (tAndV (tOp (uEq K) (tVar 1) (tC (.str "walk"))) (tAndV (tOp (uEq K) (tCB (uLen K) (tCons (tVar 2) tNil)) (tC (.int 3))) (tAndV (tCall (sp_is_name K) [] E0 (tCons (tOp (rIx K) (tVar 2) (tC (.int 0))) tNil)) (tAndV (tCall (sp_is_standing K) [] E0 (tCons (tSl (uSl K) (tVar 2) (tPart (tC (.int 1))) tNoPart) tNil)) (tOp (uNe K) (tOp (rIx K) (tVar 2) (tC (.int 0))) (tOp (rIx K) (tVar 2) (tC (.int 1)))))))))))))
def t_is_account (K : PySem.W.Frag) : TS := (tSeq (tIfS (tNot (tTru K (tCB (uIsi K) (tCons (tVar 0) (tCons (tC (.ty "str")) tNil))))) (tRet (tC (.bl false))) tNext) (tSeq (tIfS (tOr (tTest (tOp (uEq K) (tVar 0) (tC (.str "")))) (tTru K (tCall (sp_is_name K) [] E0 (tCons (tVar 0) tNil)))) (tRet (tC (.bl true))) tNext) (tSeq (tAsg (tM1 (m_partition K) (tVar 0) (tC (.str " "))) (gTup K 3 (gCons (gName 1) (gCons (gName 2) (gCons (gName 3) gNil))))) (tRet (tAndV (tCall (sp_is_name K) [] E0 (tCons (tVar 1) tNil)) (tAndV (tOp (uEq K) (tCB (uLen K) (tCons (tVar 3) tNil)) (tC (.int 1))) (tOp (uIn K) (tVar 3) (tC (.str "012345678")))))))))
def t_account_of (K : PySem.W.Frag) : TS := (tRet (tFs [(tFmt (tOp (rIx K) (tVar 0) (tC (.int 0)))), (tC (.str " ")), (tFmt (tOp (rIx K) (tVar 0) (tC (.int 1))))]))
def t_number_in (K : PySem.W.Frag) : TS := (tSeq (tIfS (tOr (tNot (tTru K (tCB (uIsi K) (tCons (tVar 0) (tCons (tC (.ty "str")) tNil))))) (tOr (tNot (tTest (tChain uLe uLe (tC (.int 1)) (tCB (uLen K) (tCons (tVar 0) tNil)) (tC (.int 9))))) (tNot (tTru K (tCB (rAll K) (tCons (tLc (iAny K (tVar 0)) (gName 1) tYes (tOp (uIn K) (tVar 1) (tC (.str "0123456789"))) [1]) tNil)))))) (tRet (tC .non)) tNext) (tRet (tIf (tOr (tTest (tOp (uEq K) (tVar 0) (tC (.str "0")))) (tTest (tOp (uNe K) (tOp (rIx K) (tVar 0) (tC (.int 0))) (tC (.str "0"))))) (tCB uInt (tCons (tVar 0) tNil)) (tC .non))))
end SW

namespace SW
open PySem PySem.Spec PyProof.Rows L2
section
variable {K : PySem.W.Frag} {v : V} {H : Hp} {Q : VK} {d : PyData}
abbrev Dn (Q : VK) : Ends := { nx := fun _ H' => Q .non H', rt := Q }
theorem rd_is_whole (h : Rp K H v d) (k : ∀ H', Same H H' → Q (.bl (isWholeD d)) H') : t_is_whole K (Dn Q) [some v] H := by
  unfold t_is_whole
  walk_at "go"
  refine s_bite (fun hb => ?_) (fun hb => ?_)
  · walk_at "go"
    have := k H (Same.refl H)
    simpa [isWholeD, hb] using this
  · have := k H (Same.refl H)
    simpa [isWholeD, hb] using this
theorem isWhole_int {d : PyData} (h : isWholeD d = true) : ∃ i, d = .int i := by
  cases d <;> simp [isWholeD, isB, isBS, tyN] at h ⊢
theorem isWhole_num {d : PyData} {lo hi : Int} (h : isWholeD d = false) : isNumD d lo hi = false := by
  cases d <;> simp [isWholeD, isB, isBS, tyN, isNumD] at h ⊢
theorem rd_is_number {i j : Int} (h : Rp K H v d) (k : ∀ H', Same H H' → Q (.bl (isNumD d i j)) H') : t_is_number K (Dn Q) [some v, some (.int i), some (.int j)] H := by
  unfold t_is_number
  walk_at "go"
  refine s_spD h fun H1 e1 => ?_
  walk_at "go"
  refine s_bite (fun hb => ?_) (fun hb => ?_)
  · obtain ⟨n, rfl⟩ := isWhole_int hb
    cases h
    walk_at "go"
    refine s_bite (fun h1 => ?_) (fun h1 => ?_)
    · walk_at "go"
      have := k H1 e1
      simpa [isNumD, h1] using this
    · have := k H1 e1
      simpa [isNumD, h1] using this
  · have := k H1 e1
    rw [isWhole_num hb] at this
    exact this
/-- all([c in Z for c in text]) -/
theorem s_allIn {x z : Str} {σ : L2.St} {i j : Nat} (hx : σ[i]? = some (some (.str x))) (hj : ∀ y, wipe ((wipe σ [j]).set j (some y)) [j] = wipe σ [j]) (hg : ∀ y : V, ((wipe σ [j]).set j (some y))[j]? = some (some y)) (hz : x.length ≤ 100000) (k : ∀ H', Same H H' → Q (.bl (allIn x z)) H') :
    tCB (rAll K) (tCons (tLc (iAny K (tVar i)) (gName j) tYes (tOp (uIn K) (tVar j) (tC (.str z))) [j]) tNil) σ H Q := by
  refine s_CB (s_cons (s_lc (i_str (s_var hx ⟨x, rfl, ?_⟩))))
  refine lc_pure (Yl.str x) (fun _ => true) (fun y => match y with | .str w => .bl (decide (w.cps.getD 0 0 ∈ z.cps.toList)) | y => y) (by rw [filtT, signs_length]; exact hz) hj (fun _ H' _ _ QT q => q H' (Same.refl _)) (fun y H' hm _ _ QV q => ?_) (fun Dl H' hD e hl => ?_)
  · obtain ⟨c, hc, rfl⟩ := List.mem_map.mp hm
    refine s_op (s_var (hg _) (s_c ?_))
    exact .inl ⟨c, z, rfl, rfl, q H' (Same.refl _)⟩
  · refine s_nil ⟨Dl, x.cps.toList.map fun c => decide (c ∈ z.cps.toList), rfl, SqL.of ?_, ?_⟩
    · rw [hl, filtT]
      simp [signs, List.map_map, Function.comp_def]
    · have := k H' e
      simpa [allIn, List.all_map, Function.comp_def] using this
theorem isName_no {d : PyData} (h : isB d "str" = false) : isNameD d = false := by
  cases d <;> simp [isB, isBS, tyN, isNameD] at h ⊢
theorem rd_is_name (h : Rp K H v d) (k : ∀ H', Same H H' → Q (.bl (isNameD d)) H') : t_is_name K (Dn Q) [some v, none] H := by
  unfold t_is_name
  walk_at "go"
  refine s_nbite (fun hb => ?_) (fun hb => ?_)
  · obtain ⟨x, rfl⟩ := isB_str hb
    cases h with
    | str _ hxs =>
    have hx := hxs.len
    walk_at "go"
    refine s_lenS hx ?_
    walk_at "go"
    refine s_dec (fun h1 => ?_) (fun h1 => ?_)
    · walk_at "go"
      refine s_ndec (fun h2 => ?_) (fun h2 => ?_)
      · walk_at "go"
        refine s_allIn rfl (fun _ => rfl) (fun _ => rfl) hx fun H1 e1 => ?_
        have := k H1 e1
        have h1' : 1 ≤ x.length := by omega
        have h2' : x.length ≤ 6 := by omega
        simpa [isNameD, isNameS, h1', h2', SMALLs] using this
      · walk_at "go"
        have := k H (Same.refl _)
        have h2' : ¬ x.length ≤ 6 := by omega
        simpa [isNameD, isNameS, h2'] using this
    · walk_at "go"
      have := k H (Same.refl _)
      have h1' : ¬ 1 ≤ x.length := by omega
      simpa [isNameD, isNameS, h1'] using this
  · walk_at "go"
    have := k H (Same.refl H)
    rw [isName_no hb] at this
    exact this

theorem RpA.two {xs : List V} {a b : PyData} (h : RpA K H xs [a, b]) : ∃ v w, xs = [v, w] ∧ Rp K H v a ∧ Rp K H w b := by
  obtain ⟨v, vs, rfl, h1, h2⟩ := h.cons'
  obtain ⟨w, ws, rfl, h3, h4⟩ := h2.cons'
  cases h4.nil'
  exact ⟨v, w, rfl, h1, h3⟩
theorem RpA.one {xs : List V} {a : PyData} (h : RpA K H xs [a]) : ∃ v, xs = [v] ∧ Rp K H v a := by
  obtain ⟨v, vs, rfl, h1, h2⟩ := h.cons'
  cases h2.nil'
  exact ⟨v, rfl, h1⟩
theorem RpA.three {xs : List V} {a b c : PyData} (h : RpA K H xs [a, b, c]) : ∃ v w z, xs = [v, w, z] ∧ Rp K H v a ∧ Rp K H w b ∧ Rp K H z c := by
  obtain ⟨v, vs, rfl, h1, h2⟩ := h.cons'
  obtain ⟨w, z, rfl, h3, h4⟩ := h2.two
  exact ⟨v, w, z, rfl, h1, h3, h4⟩
theorem isStand_no {d : PyData} (h : isB d "tuple" = false) : isStandD d = false := by
  cases d <;> simp [isB, isBS, tyN, isStandD] at h ⊢
theorem isStand_len {ds : List PyData} (h : ds.length ≠ 2) : isStandD (.tuple ds) = false := by
  match ds, h with
  | [], _ => rfl
  | [_], _ => rfl
  | [_, _], h => exact absurd rfl h
  | _ :: _ :: _ :: _, _ => rfl
theorem list_two {α : Type} {l : List α} (h : l.length = 2) : ∃ a b, l = [a, b] := by
  match l, h with
  | [a, b], _ => exact ⟨a, b, rfl⟩
theorem rd_is_standing (h : Rp K H v d) (k : ∀ H', Same H H' → Q (.bl (isStandD d)) H') : t_is_standing K (Dn Q) [some v] H := by
  unfold t_is_standing
  walk_at "go"
  refine s_nbite (fun hb => ?_) (fun hb => ?_)
  · obtain ⟨ds, rfl⟩ := isB_tup hb
    obtain ⟨a, xs, rfl, hs, ha⟩ := h.tup'
    walk_at "go"
    refine s_lenT hs ?_
    walk_at "go"
    refine s_ndec (fun h1 => ?_) (fun h1 => ?_)
    · have hl : ds.length = 2 := by rw [← ha.length]; omega
      obtain ⟨p, q, rfl⟩ := list_two hl
      obtain ⟨x, y, rfl, hx, hy⟩ := ha.two
      walk_at "go"
      refine s_ixT hs (by rfl) ?_
      walk_at "go"
      refine s_spD hx fun H1 e1 => ?_
      walk_at "go"
      refine s_bite (fun h2 => ?_) (fun h2 => ?_)
      · walk_at "go"
        refine s_ixT (Same.seqT e1 hs) (by rfl) ?_
        walk_at "go"
        refine s_sp3 ⟨_, _, _, hy.mono e1, rfl, rfl, fun H2 e2 => ?_⟩
        have := k H2 (e1.trans e2)
        simpa [isStandD, h2] using this
      · have := k H1 e1
        simpa [isStandD, h2] using this
    · walk_at "go"
      have := k H (Same.refl _)
      rw [isStand_len (by rw [← ha.length]; omega)] at this
      exact this
  · walk_at "go"
    have := k H (Same.refl H)
    rw [isStand_no hb] at this
    exact this
theorem isPlace_ne {ds : List PyData} (h : ds ≠ []) : isPlaceD (.tuple ds) = isStandD (.tuple ds) := by
  cases ds with
  | nil => exact absurd rfl h
  | cons a r => rfl
theorem isPlace_no {d : PyData} (h : isB d "tuple" = false) : isPlaceD d = false := by
  cases d <;> simp [isB, isBS, tyN, isPlaceD, isStandD] at h ⊢
theorem rd_is_place (h : Rp K H v d) (k : ∀ H', Same H H' → Q (.bl (isPlaceD d)) H') : t_is_place K (Dn Q) [some v] H := by
  unfold t_is_place
  walk_at "go"
  refine s_bite (fun hb => ?_) (fun hb => ?_)
  · obtain ⟨ds, rfl⟩ := isB_tup hb
    obtain ⟨a, xs, rfl, hs, ha⟩ := h.tup'
    walk_at "go"
    refine s_lenT hs ?_
    walk_at "go"
    refine s_dec (fun h1 => ?_) (fun h1 => ?_)
    · have hl : ds.length = 0 := by rw [← ha.length]; omega
      cases List.length_eq_zero_iff.mp hl
      exact k H (Same.refl H)
    · walk_at "go"
      have hne : ds ≠ [] := fun z => by subst z; rw [ha.nil'] at h1; exact h1 rfl
      refine s_spD h fun H1 e1 => ?_
      have := k H1 e1
      rw [isPlace_ne hne] at this
      exact this
  · have := k H (Same.refl H)
    rw [isPlace_no hb] at this
    exact this

theorem isKey_no {d : PyData} (h : isB d "tuple" = false) : isKeyD d = false := by
  cases d <;> simp [isB, isBS, tyN, isKeyD] at h ⊢
theorem isName_str {d : PyData} (h : isNameD d = true) : ∃ x, d = .str x := by
  cases d <;> simp [isNameD] at h ⊢
theorem isStand_tup {d : PyData} (h : isStandD d = true) : ∃ x n, d = .tuple [.str x, .int n] ∧ isNameS x = true ∧ 0 ≤ n ∧ n ≤ 8 := by
  unfold isStandD at h
  split at h
  · rename_i a b
    have h := (Bool.and_eq_true_iff.mp h)
    obtain ⟨x, rfl⟩ := isName_str h.1
    have h2 := h.2
    cases b with
    | int n =>
      have h2 := Bool.and_eq_true_iff.mp h2
      exact ⟨x, n, rfl, h.1, of_decide_eq_true h2.1, of_decide_eq_true h2.2⟩
    | _ => cases h2
  · cases h
theorem list_three {α : Type} {l : List α} (h : l.length = 3) : ∃ a b c, l = [a, b, c] := by
  match l, h with
  | [a, b, c], _ => exact ⟨a, b, c, rfl⟩
theorem list_one {α : Type} {l : List α} (h : l.length = 1) : ∃ a, l = [a] := by
  match l, h with
  | [a], _ => exact ⟨a, rfl⟩
theorem rd_is_key (h : Rp K H v d) (k : ∀ H', Same H H' → Q (.bl (isKeyD d)) H') : t_is_key K (Dn Q) [some v, none, none] H := by
  unfold t_is_key
  walk_at "go"
  refine s_nbite (fun hb => ?_) (fun hb => ?_)
  case refine_2 =>
    walk_at "go"
    have := k H (Same.refl H)
    rw [isKey_no hb] at this
    exact this
  obtain ⟨ds, rfl⟩ := isB_tup hb
  obtain ⟨a, xs, rfl, hs, ha⟩ := h.tup'
  walk_at "go"
  refine s_lenT hs ?_
  walk_at "go"
  cases ha with
  | nil =>
    have e0 : decide ((([] : List V).length : Int) = 0) = true := rfl
    rw [e0]
    walk_at "go"
    exact k H (Same.refl H)
  | @cons v0 vs d0 ds0 h0 hr =>
  have e0 : decide (((v0 :: vs).length : Int) = 0) = false := decide_eq_false (by simp; omega)
  rw [e0]
  walk_at "go"
  refine s_ixT hs (atI_nat (j := 0) rfl) ?_
  walk_at "go"
  refine s_nbite (fun hb0 => ?_) (fun hb0 => ?_)
  case refine_2 =>
    walk_at "go"
    have := k H (Same.refl H)
    have e : isKeyD (.tuple (d0 :: ds0)) = false := by
      cases d0 <;> simp [isB, isBS, tyN, isKeyD] at hb0 ⊢
    rw [e] at this
    exact this
  obtain ⟨w, rfl⟩ := isB_str hb0
  cases h0 with
  | str _ hw =>
  walk_at "go"
  refine s_ixT hs (atI_nat (j := 0) rfl) ?_
  walk_at "go"
  refine s_slT hs fun q H1 e1 hq => ?_
  have hq1 : SqT K H1 q vs := by
    have := cut_from (V.str w :: vs) 1
    rw [show (((1 : Nat) : Int)) = (1 : Int) from rfl] at this
    rw [this] at hq
    exact hq
  walk_at "go"
  refine s_inNew ["hire", "work"] rfl (by decide) fun H2 e2 => ?_
  walk_at "go"
  have hr2 : RpA K H2 vs ds0 := hr.mono (e1.trans e2)
  have hq2 : SqT K H2 q vs := Same.seqT e2 hq1
  have hk : ∀ H', Same H2 H' → Q (.bl (isKeyL w ds0)) H' := fun H' e => k H' ((e1.trans e2).trans e)
  refine s_dec (fun hw1 => ?_) (fun hw1 => ?_)
  · have hw1' : w = "hire" ∨ w = "work" := by simpa using hw1
    walk_at "go"
    refine s_lenT hq2 ?_
    walk_at "go"
    refine s_dec (fun hl => ?_) (fun hl => ?_)
    · have hl1 : ds0.length = 1 := by rw [← hr2.length]; omega
      obtain ⟨d1, rfl⟩ := list_one hl1
      obtain ⟨v1, rfl, h1⟩ := hr2.one
      walk_at "go"
      refine s_ixT hq2 (by rfl) ?_
      walk_at "go"
      refine s_spD h1 fun H3 e3 => ?_
      have := hk H3 e3
      simpa [isKeyL, hw1'] using this
    · have hl1 : ds0.length ≠ 1 := by rw [← hr2.length]; omega
      have := hk H2 (Same.refl _)
      have e : isKeyL w ds0 = false := by
        unfold isKeyL
        rw [if_pos hw1']
        split
        · simp at hl1
        · rfl
      rw [e] at this
      exact this
  have hw1' : ¬ (w = "hire" ∨ w = "work") := by simpa using hw1
  walk_at "go"
  refine s_inNew ["buy", "free", "wait"] rfl (by decide) fun H3 e3 => ?_
  walk_at "go"
  have hr3 : RpA K H3 vs ds0 := hr2.mono e3
  have hq3 : SqT K H3 q vs := Same.seqT e3 hq2
  refine s_dec (fun hw2 => ?_) (fun hw2 => ?_)
  · have hw2' : w = "buy" ∨ w = "free" ∨ w = "wait" := by simpa using hw2
    walk_at "go"
    refine s_spD (Rp.tup hq3 hr3 (by have := Rp.len (.inl h); rw [hr3.length]; simp at this; omega)) fun H4 e4 => ?_
    have := hk H4 (e3.trans e4)
    simpa [isKeyL, hw1', hw2'] using this
  have hw2' : ¬ (w = "buy" ∨ w = "free" ∨ w = "wait") := by simpa using hw2
  walk_at "go"
  refine s_dec (fun hw3 => ?_) (fun hw3 => ?_)
  case refine_2 =>
    have := hk H3 e3
    simpa [isKeyL, hw1', hw2', hw3] using this
  walk_at "go"
  refine s_lenT hq3 ?_
  walk_at "go"
  refine s_dec (fun hl => ?_) (fun hl => ?_)
  case refine_2 =>
    have hl1 : ds0.length ≠ 3 := by rw [← hr3.length]; omega
    have := hk H3 e3
    have e : isKeyL w ds0 = false := by
      unfold isKeyL
      rw [if_neg hw1', if_neg hw2', if_pos hw3]
      split
      · simp at hl1
      · rfl
    rw [e] at this
    exact this
  have hl1 : ds0.length = 3 := by rw [← hr3.length]; omega
  obtain ⟨d1, d2, d3, rfl⟩ := list_three hl1
  obtain ⟨v1, v2, v3, rfl, h1, h2, h3⟩ := hr3.three
  have e : isKeyL w [d1, d2, d3] = (isNameD d1 && (isStandD (.tuple [d2, d3]) && !PyData.eqv d1 d2)) := by
    unfold isKeyL
    rw [if_neg hw1', if_neg hw2', if_pos hw3]
  rw [e] at hk
  walk_at "go"
  refine s_ixT hq3 (by rfl) ?_
  walk_at "go"
  refine s_spD h1 fun H4 e4 => ?_
  walk_at "go"
  refine s_bite (fun hn => ?_) (fun hn => ?_)
  case refine_2 =>
    have := hk H4 (e3.trans e4)
    simpa [hn] using this
  walk_at "go"
  refine s_slT (Same.seqT e4 hq3) fun p5 H5 e5 hp5 => ?_
  have hp5' : SqT K H5 p5 [v2, v3] := by
    have := cut_from [v1, v2, v3] 1
    rw [show (((1 : Nat) : Int)) = (1 : Int) from rfl] at this
    rw [this] at hp5
    exact hp5
  walk_at "go"
  refine s_spD (d := .tuple [d2, d3]) (Rp.tup hp5' ((RpA.cons h2 (.cons h3 .nil)).mono (e4.trans e5)) (by simp)) fun H6 e6 => ?_
  walk_at "go"
  refine s_bite (fun hn2 => ?_) (fun hn2 => ?_)
  case refine_2 =>
    have := hk H6 (e3.trans (e4.trans (e5.trans e6)))
    simpa [hn, hn2] using this
  obtain ⟨x, rfl⟩ := isName_str hn
  obtain ⟨y, n, e7, _⟩ := isStand_tup hn2
  injection e7 with e7
  injection e7 with e8 _
  subst e8
  cases h1 with
  | str _ hxs =>
  have hx := hxs.len
  cases h2 with
  | str _ hy =>
  walk_at "go"
  have hq6 := Same.seqT (e4.trans (e5.trans e6)) hq3
  refine s_ixT hq6 (by rfl) ?_
  walk_at "go"
  refine s_ixT hq6 (by rfl) ?_
  walk_at "go"
  have := hk H6 (e3.trans (e4.trans (e5.trans e6)))
  rw [hn, hn2] at this
  have e9 : PyData.eqv (.str x) (.str y) = decide (x = y) := by
    show (x == y) = _
    rw [Bool.eq_iff_iff]; simp
  rw [e9] at this
  simpa using this

/-! ### accounts -/
theorem pre32 (c : Nat) (r : List Nat) : TL.pre [32] (c :: r) = decide (c = 32) := by
  unfold TL.pre
  rw [Bool.eq_iff_iff]
  simp
theorem par32 : ∀ (l acc : List Nat), TL.par [32] acc l = (match cutAt 32 l with
    | (y, some r) => some (acc ++ y, r)
    | (_, none) => none)
  | [], acc => rfl
  | c :: r, acc => by
    show (if TL.pre [32] (c :: r) = true then some (acc, (c :: r).drop 1) else TL.par [32] (acc ++ [c]) r) = _
    rw [pre32]
    unfold cutAt
    by_cases h : c = 32
    · simp [h]
    · have ih := par32 r (acc ++ [c])
      simp only [h, decide_false, Bool.false_eq_true, if_false, ih]
      cases e : cutAt 32 r with
      | mk y o => cases o <;> simp
theorem cutAt_len : ∀ {l y r : List Nat}, cutAt 32 l = (y, some r) → y.length + 1 + r.length = l.length
  | [], y, r, h => by cases h
  | c :: t, y, r, h => by
    unfold cutAt at h
    by_cases hc : c = 32
    · rw [if_pos hc] at h
      obtain ⟨rfl, h2⟩ := Prod.mk.inj h
      cases Option.some.inj h2
      simp only [List.length_cons, List.length_nil]
      omega
    · rw [if_neg hc] at h
      obtain ⟨rfl, h2⟩ := Prod.mk.inj h
      have := cutAt_len (l := t) (y := (cutAt 32 t).1) (r := r) (by rw [← h2])
      simp only [List.length_cons]
      omega
theorem cutAt_sub : ∀ {l y r : List Nat}, cutAt 32 l = (y, some r) → ∀ z ∈ y, z ∈ l
  | [], y, r, h => by cases h
  | c :: t, y, r, h => by
    unfold cutAt at h
    by_cases hc : c = 32
    · rw [if_pos hc] at h
      obtain ⟨rfl, h2⟩ := Prod.mk.inj h
      intro z hz
      cases hz
    · rw [if_neg hc] at h
      obtain ⟨rfl, h2⟩ := Prod.mk.inj h
      have := cutAt_sub (l := t) (y := (cutAt 32 t).1) (r := r) (by rw [← h2])
      intro z hz
      rcases List.mem_cons.mp hz with rfl | hz
      · exact List.mem_cons_self ..
      · exact List.mem_cons_of_mem _ (this z hz)
theorem rd_is_account (h : Rp K H v d) (k : ∀ H', Same H H' → Q (.bl (isAcctD d)) H') : t_is_account K (Dn Q) [some v, none, none, none] H := by
  unfold t_is_account
  walk_at "go"
  refine s_nbite (fun hb => ?_) (fun hb => ?_)
  case refine_2 =>
    walk_at "go"
    have := k H (Same.refl H)
    have e : isAcctD d = false := by cases d <;> simp [isB, isBS, tyN, isAcctD] at hb ⊢
    rw [e] at this
    exact this
  obtain ⟨x, rfl⟩ := isB_str hb
  cases h with
  | str _ hxs =>
  have hx := hxs.len
  walk_at "go"
  refine s_dec (fun h0 => ?_) (fun h0 => ?_)
  · walk_at "go"
    have := k H (Same.refl H)
    have e : isAcctD (.str x) = true := by rw [h0]; decide +kernel
    rw [e] at this
    exact this
  walk_at "go"
  refine s_spD (.str x hxs) fun H1 e1 => ?_
  walk_at "go"
  refine s_bite (fun h1 => ?_) (fun h1 => ?_)
  · walk_at "go"
    have := k H1 e1
    have e : isAcctD (.str x) = true := by
      have h1' : isNameS x = true := h1
      show (x == Str.empty || (isNameS x || _)) = true
      rw [h1']; simp
    rw [e] at this
    exact this
  walk_at "go"
  refine s_partition (by decide +kernel) hx fun p H2 e2 hp => ?_
  have hpp := TL.partition_par x " " (by decide +kernel)
  have e32 : TL.tl (" " : Str) = [32] := by decide +kernel
  rw [e32, par32] at hpp
  have e3 := e1.trans e2
  cases hc : cutAt 32 (TL.tl x) with
  | mk y o =>
  rw [hc] at hpp
  cases o with
  | none =>
    rw [hpp] at hp
    refine s_gTup3 (SqT.of hp) ?_
    walk_at "go"
    refine s_spD (.str x hxs) fun H4 e4 => ?_
    rw [h1]
    walk_at "go"
    have := k H4 (e3.trans e4)
    have e : isAcctD (.str x) = false := by
      show (x == Str.empty || (isNameS x || _)) = false
      have hn : isNameS x = false := h1
      have h0' : (x == Str.empty) = false := beq_eq_false_iff_ne.mpr h0
      rw [hn, h0']
      simp only [Bool.false_or]
      rw [show x.cps.toList = TL.tl x from rfl, hc]
    rw [e] at this
    exact this
  | some r =>
    simp only [List.nil_append] at hpp
    rw [hpp] at hp
    refine s_gTup3 (SqT.of hp) ?_
    walk_at "go"
    have hlen : y.length ≤ 100000 ∧ r.length ≤ 100000 := by
      have h9 := cutAt_len hc
      rw [← TL.len_tl x] at h9
      omega
    have e : isAcctD (.str x) = tailOk y r := by
      show (x == Str.empty || (isNameS x || _)) = _
      have hn : isNameS x = false := h1
      have h0' : (x == Str.empty) = false := beq_eq_false_iff_ne.mpr h0
      rw [hn, h0']
      simp only [Bool.false_or]
      rw [show x.cps.toList = TL.tl x from rfl, hc]
    rw [e] at k
    refine s_spD (.str ⟨y.toArray⟩ ⟨by simpa [Str.length] using hlen.1, fun z hz => hxs.ok z (cutAt_sub hc z hz)⟩) fun H4 e4 => ?_
    walk_at "go"
    refine s_bite (fun hn => ?_) (fun hn => ?_)
    case refine_2 =>
      have := k H4 (e3.trans e4)
      have e5 : tailOk y r = false := by
        unfold tailOk
        have hn' : isNameS ⟨y.toArray⟩ = false := hn
        split
        · rw [hn']; rfl
        · rfl
      rw [e5] at this
      exact this
    walk_at "go"
    refine s_lenS (by simpa [Str.length] using hlen.2) ?_
    walk_at "go"
    refine s_dec (fun hl => ?_) (fun hl => ?_)
    · have hl' : r.length = 1 := by simp [Str.length] at hl; omega
      obtain ⟨c, rfl⟩ := list_one hl'
      walk_at "go"
      refine s_inC ?_
      have := k H4 (e3.trans e4)
      have hn' : isNameS ⟨y.toArray⟩ = true := hn
      have e5 : tailOk y [c] = decide (c ∈ HOURSs.cps.toList) := by
        show (isNameS ⟨y.toArray⟩ && _) = _
        rw [hn']; rfl
      rw [e5] at this
      exact this
    · have hl' : r.length ≠ 1 := by simp [Str.length] at hl; omega
      have := k H4 (e3.trans e4)
      have e5 : tailOk y r = false := by
        unfold tailOk
        split
        · simp at hl'
        · rfl
      rw [e5] at this
      exact this
theorem rd_account_of {x : Str} {n : Int} (h : Rp K H v (.tuple [.str x, .int n])) (hxl : x.length ≤ 1000) (h0 : 0 ≤ n) (h8 : n ≤ 8) (k : ∀ H', Same H H' → Q (.str (acctS x n)) H') : t_account_of K (Dn Q) [some v] H := by
  unfold t_account_of
  obtain ⟨a, xs, rfl, hs, ha⟩ := h.tup'
  obtain ⟨v1, v2, rfl, h1, h2⟩ := ha.two
  cases h1 with
  | str _ hxs =>
  have hx := hxs.len
  cases h2
  walk_at "go"
  refine s_ixT hs (by rfl) (s_fmtS hx ?_)
  have h1 : (" " : Str).length = 1 := by decide +kernel
  have h2 : Str.empty.length = 0 := rfl
  refine s_jsE (by omega) ?_
  walk_at "go"
  have e0 : Str.empty ++ x = x := TL.ext_tl (by rw [TL.tl_append]; rfl)
  rw [e0]
  refine s_jsE (by omega) ?_
  walk_at "go"
  refine s_ixT hs (by rfl) (s_fmtI (by omega) (by omega) ?_)
  refine s_jsE (by rw [len_app, len_hour h0 h8]; omega) ?_
  walk_at "go"
  exact k H (Same.refl H)
theorem num_some {x : Str} (h1 : 1 ≤ x.length) (h2 : x.length ≤ 4300) (h3 : allIn x DIGITSs = true) : ∃ n, PySem.intText? x = some n := by
  refine ⟨_, PySem.intText_digits ?_ ?_ h2⟩
  · intro c hc
    have := of_decide_eq_true (List.all_eq_true.mp h3 c hc)
    have e : DIGITSs.cps.toList = [48, 49, 50, 51, 52, 53, 54, 55, 56, 57] := by decide +kernel
    rw [e] at this
    simp at this
    omega
  · intro e
    rw [TL.len_tl, TL.tl, e] at h1
    simp at h1
theorem rd_number_in (h : Rp K H v d) (k : ∀ H', Same H H' → Q (numV d) H') : t_number_in K (Dn Q) [some v, none] H := by
  unfold t_number_in
  walk_at "go"
  refine s_nbite (fun hb => ?_) (fun hb => ?_)
  case refine_2 =>
    walk_at "go"
    have := k H (Same.refl H)
    have e : numV d = .non := by cases d <;> simp [isB, isBS, tyN, numV] at hb ⊢
    rw [e] at this
    exact this
  obtain ⟨x, rfl⟩ := isB_str hb
  cases h with
  | str _ hxs =>
  have hx := hxs.len
  walk_at "go"
  refine s_lenS hx ?_
  walk_at "go"
  refine s_dec (fun h1 => ?_) (fun h1 => ?_)
  case refine_2 =>
    walk_at "go"
    have := k H (Same.refl H)
    have h1' : ¬ 1 ≤ x.length := by omega
    have e : numV (.str x) = .non := by simp [numV, numS, h1']
    rw [e] at this
    exact this
  have h1' : 1 ≤ x.length := by omega
  walk_at "go"
  refine s_ndec (fun h2 => ?_) (fun h2 => ?_)
  case refine_2 =>
    walk_at "go"
    have := k H (Same.refl H)
    have h2' : ¬ x.length ≤ 9 := by omega
    have e : numV (.str x) = .non := by simp [numV, numS, h2']
    rw [e] at this
    exact this
  have h2' : x.length ≤ 9 := by omega
  walk_at "go"
  refine s_allIn rfl (fun _ => rfl) (fun _ => rfl) hx fun H1 e1 => ?_
  walk_at "go"
  refine s_nbite (fun h3 => ?_) (fun h3 => ?_)
  case refine_2 =>
    walk_at "go"
    have := k H1 e1
    have h3' : allIn x DIGITSs = false := h3
    have e : numV (.str x) = .non := by simp [numV, numS, h3']
    rw [e] at this
    exact this
  have h3' : allIn x DIGITSs = true := h3
  obtain ⟨n, hn⟩ := num_some h1' (by omega) h3'
  walk_at "go"
  refine s_dec (fun h4 => ?_) (fun h4 => ?_)
  · walk_at "go"
    refine .inr ⟨x, n, rfl, hn, by omega, ?_⟩
    have := k H1 e1
    have h4' : (x == ("0" : Str)) = true := beq_iff_eq.mpr h4
    have e : numV (.str x) = .int n := by simp [numV, numS, h1', h2', h3', h4', hn]
    rw [e] at this
    exact this
  walk_at "go"
  obtain ⟨c, l, hcl⟩ : ∃ c l, x.cps.toList = c :: l := by
    cases hh : x.cps.toList with
    | nil => rw [TL.len_tl, TL.tl, hh] at h1'; simp at h1'
    | cons c l => exact ⟨c, l, rfl⟩
  refine s_ixS (z := c) hx (by rw [hcl]; exact atI_nat (j := 0) rfl) ?_
  walk_at "go"
  have hc : decide ((⟨#[c]⟩ : Str) = ("0" : Str)) = decide (c = 48) := by
    rw [Bool.eq_iff_iff]
    simp only [decide_eq_true_eq]
    constructor
    · intro e
      have e2 : (⟨#[c]⟩ : Str).cps.toList = ("0" : Str).cps.toList := by rw [e]
      have e3 : ("0" : Str).cps.toList = [48] := by decide +kernel
      rw [e3] at e2
      simpa using e2
    · intro e
      subst e
      decide +kernel
  rw [hc]
  refine s_ndec (fun h5 => ?_) (fun h5 => ?_)
  · walk_at "go"
    have := k H1 e1
    have h4' : (x == ("0" : Str)) = false := beq_eq_false_iff_ne.mpr h4
    have e : numV (.str x) = .non := by simp [numV, numS, h1', h2', h3', h4', hcl, h5]
    rw [e] at this
    exact this
  · walk_at "go"
    refine .inr ⟨x, n, rfl, hn, by omega, ?_⟩
    have := k H1 e1
    have e : numV (.str x) = .int n := by simp [numV, numS, h1', h2', h3', hcl, h5, hn]
    rw [e] at this
    exact this
end
end SW

namespace SW
open PySem PySem.Spec PyProof.Rows L2
/-! ### the bag of drawn numbers; the heap without it -/
def mn (H : Hp) (b : Addr) : Hp := fun a => if a = b then none else H a
theorem mn_ne {H : Hp} {a b : Addr} (h : a ≠ b) : mn H b a = H a := by unfold mn; rw [if_neg h]
theorem mn_same (H : Hp) (b : Addr) : Same (mn H b) H := fun a o e => by
  unfold mn at e
  split at e
  · cases e
  · exact e
theorem mn_upd (H : Hp) (b : Addr) (o : HO) : mn (upd H b o) b = mn H b := by
  funext a
  unfold mn upd
  split
  · rfl
  · rfl
theorem mn_at {H : Hp} {a b : Addr} {o : HO} (e : mn H b a = some o) : a ≠ b ∧ H a = some o := by
  unfold mn at e
  split at e
  · cases e
  · rename_i h; exact ⟨h, e⟩
theorem Same.mn {H H' : Hp} (e : Same H H') (b : Addr) : Same (mn H b) (SW.mn H' b) := fun a o h => by
  obtain ⟨h1, h2⟩ := mn_at h
  rw [mn_ne h1]
  exact e a o h2
theorem mn_new {H : Hp} {b p : Addr} {o : HO} (hp : H p = none) (hb : H b ≠ none) : Same (mn H b) (mn (upd H p o) b) := Same.mn (same_new hp) b
/-- the bag: the cells, how many were taken, the rest of a great cell, a stirred number -/
def Bag (H : Hp) (b c : Addr) : Prop := ∃ (ns : List Int) (i g z : Int), H b = some (.lst [.ref c, .int i, .int g, .int z]) ∧ H c = some (.lst (ns.map V.int)) ∧ c ≠ b ∧ 0 ≤ i ∧ 0 ≤ g ∧ 0 ≤ z ∧ z < 2147483629
theorem Bag.same {H H' : Hp} {b c : Addr} (B : Bag H b c) (e : Same H H') : Bag H' b c := by
  obtain ⟨ns, i, g, z, h1, h2, h3⟩ := B
  exact ⟨ns, i, g, z, e _ _ h1, e _ _ h2, h3⟩
theorem bag_some {H : Hp} {b c : Addr} (B : Bag H b c) : H b ≠ none := by
  obtain ⟨ns, i, g, z, h1, _⟩ := B
  rw [h1]; exact fun z => by cases z
theorem bag_ne {H : Hp} {b c p : Addr} (B : Bag H b c) (hp : H p = none) : p ≠ b ∧ p ≠ c := by
  obtain ⟨ns, i, g, z, h1, h2, _⟩ := B
  exact ⟨(fun e => by rw [e, h1] at hp; cases hp), (fun e => by rw [e, h2] at hp; cases hp)⟩
/-- another object may change -/
theorem bag_mut {H : Hp} {b c p : Addr} {o : HO} (B : Bag H b c) (h1 : p ≠ b) (h2 : p ≠ c) : Bag (upd H p o) b c := by
  obtain ⟨ns, i, g, z, hb, hc, h⟩ := B
  exact ⟨ns, i, g, z, by rw [upd_ne (Ne.symm h1)]; exact hb, by rw [upd_ne (Ne.symm h2)]; exact hc, h⟩
abbrev sp__law_bag (K : PySem.W.Frag) : Sp := Sp1 fun v H Q _ => ∃ (a : Addr) (ns : List Int), v = .ref a ∧ SqL K H a (ns.map V.int) ∧ ns.length ≤ 63 ∧ ∀ b c H', H b = none → H c = none → Bag H' b c → Same H (mn H' b) → Q (.ref b) H'
abbrev sp__law_take (K : PySem.W.Frag) : Sp := Sp2 fun v w H Q _ => ∃ b c n, v = .ref b ∧ w = .int n ∧ Bag H b c ∧ 0 < n ∧ n < 1073741824 ∧ ∀ r H', 0 ≤ r → r < n → Bag H' b c → Same (mn H b) (mn H' b) → Q (.int r) H'
/-- what is drawn out of w -/
inductive Drawn (K : PySem.W.Frag) (H : Hp) : V → (V → Prop) → Prop
  | lst {p : Addr} {xs : List V} : SqL K H p xs → xs ≠ [] → xs.length ≤ 100000 → Drawn K H (.ref p) (fun x => x ∈ xs)
  | tup {p : Addr} {xs : List V} : SqT K H p xs → xs ≠ [] → xs.length ≤ 100000 → Drawn K H (.ref p) (fun x => x ∈ xs)
  | str {s : Str} : s.cps.toList ≠ [] → s.length ≤ 100000 → Drawn K H (.str s) (fun x => ∃ c, c ∈ s.cps.toList ∧ x = .str ⟨#[c]⟩)
abbrev sp__law_of (K : PySem.W.Frag) : Sp := Sp2 fun v w H Q _ => ∃ b c M, v = .ref b ∧ Bag H b c ∧ Drawn K (mn H b) w M ∧ ∀ x H', M x → Bag H' b c → Same (mn H b) (mn H' b) → Q x H'
/-! ### how deep data are -/
mutual
def rk : PyData → Nat
  | .list ds => rkL ds + 1
  | .tuple ds => rkL ds + 1
  | .dict kvs => rkK kvs + 3
  | _ => 0
def rkL : List PyData → Nat
  | [] => 0
  | d :: ds => max (rk d) (rkL ds)
def rkK : List (PyData × PyData) → Nat
  | [] => 0
  | (a, b) :: ds => max (max (rk a) (rk b)) (rkK ds)
end
theorem rkL_mem : ∀ {ds : List PyData} {d : PyData}, d ∈ ds → rk d ≤ rkL ds
  | [], _, h => nomatch h
  | a :: ds, d, h => by
    rcases List.mem_cons.mp h with rfl | h
    · exact Nat.le_max_left _ _
    · exact Nat.le_trans (rkL_mem h) (Nat.le_max_right _ _)
/-- equal data: True -/
def spSame (K : PySem.W.Frag) (n : Nat) : Sp := Sp2 fun v w H Q _ => ∃ d, Rp K H v d ∧ Rp K H w d ∧ rk d ≤ n ∧ ∀ H', Same H H' → Q (.bl true) H'
abbrev sp__law_same (K : PySem.W.Frag) : Sp := spSame K 11
abbrev sp__law_names (K : PySem.W.Frag) : Sp := Sp3 fun v w u H Q _ => ∃ b c n, v = .ref b ∧ w = .int n ∧ u = .int 6 ∧ Bag H b c ∧ 0 ≤ n ∧ n ≤ 26 ∧
  ∀ (p : Addr) (ws : List Str) (H' : Hp), H p = none → Bag H' b c → Same (mn H b) (mn H' b) → mn H' b p = some (.lst (ws.map V.str)) → (ws.length : Int) = n → (∀ w ∈ ws, isNameS w = true) → ws.Nodup → Q (.ref p) H'
def odds : List PyData := [.none, .bool true, .bool false, .str "", .str "A", .str "abcdefg", .str "a b", .str "a1", .tuple [.str "a"], .tuple [.str "a", .int 9], .tuple [.str "a", .bool true],
  .tuple [.str "A", .int 1], .dict [], .dict [(.str "a", .int 1)], .tuple [.int 1, .int 2]]
abbrev sp__law_odd (K : PySem.W.Frag) : Sp := Sp1 fun v H Q _ => ∃ b c, v = .ref b ∧ Bag H b c ∧ ∀ x d H', d ∈ odds → Rp K (mn H' b) x d → Bag H' b c → Same (mn H b) (mn H' b) → Q x H'
end SW

namespace SW
open PySem PySem.Spec PyProof.Rows L2
def t__law_bag (K : PySem.W.Frag) : TS := (tSeq (tAsg (tCB (uList K) (tCons (tSl (uSl K) (tVar 0) tNoPart (tPart (tC (.int 63)))) tNil)) (gName 1)) (tRet (tLst (tCons (tVar 1) (tCons (tC (.int 0)) (tCons (tC (.int 0)) (tCons (tOp (uAdd K) (tC (.int 12029)) (tOp uMul (tC (.int 31)) (tCB (uLen K) (tCons (tVar 1) tNil)))) tNil)))))))
def t__law_take (K : PySem.W.Frag) : TS := (tSeq (tIfS (tAnd (tTest (tOp (uEq K) (tOp (rIx K) (tVar 0) (tC (.int 2))) (tC (.int 0)))) (tTest (tOp uLt (tOp (rIx K) (tVar 0) (tC (.int 1))) (tCB (uLen K) (tCons (tOp (rIx K) (tVar 0) (tC (.int 0))) tNil))))) (tSeq (tAsg (tOp (rIx K) (tOp (rIx K) (tVar 0) (tC (.int 0))) (tOp (rIx K) (tVar 0) (tC (.int 1)))) (gName 2)) (tSeq (tAsg (tOp (uAdd K) (tOp (rIx K) (tVar 0) (tC (.int 1))) (tC (.int 1))) (gSub (tVar 0) (tC (.int 1)) rSetL)) (tSeq (tAsg (tOp uMod (tCB uInt (tCons (tOp (uAdd K) (tOp (uAdd K) (tOp uMul (tOp (rIx K) (tVar 0) (tC (.int 3))) (tC (.int 48271))) (tOp uMul (tOp uMod (tCB uInt (tCons (tVar 2) tNil)) (tC (.int 1000003))) (tC (.int 6151)))) (tC (.int 7919))) tNil)) (tC (.int 2147483629))) (gSub (tVar 0) (tC (.int 3)) rSetL)) (tIfS (tTest (tOp uGe (tVar 2) (tOp uPow (tC (.int 10)) (tC (.int 18))))) (tAsg (tVar 2) (gSub (tVar 0) (tC (.int 2)) rSetL)) tNext)))) tNext) (tSeq (tIfS (tTest (tOp uGt (tOp (rIx K) (tVar 0) (tC (.int 2))) (tC (.int 0)))) (tSeq (tAsg (tOp uMod (tCB uInt (tCons (tOp (rIx K) (tVar 0) (tC (.int 2))) tNil)) (tVar 1)) (gName 3)) (tSeq (tAsg (tOp uFdiv (tOp (rIx K) (tVar 0) (tC (.int 2))) (tVar 1)) (gSub (tVar 0) (tC (.int 2)) rSetL)) (tRet (tVar 3)))) tNext) (tSeq (tAsg (tOp uMod (tCB uInt (tCons (tOp (uAdd K) (tOp (uAdd K) (tOp uMul (tOp (rIx K) (tVar 0) (tC (.int 3))) (tOp (rIx K) (tVar 0) (tC (.int 3)))) (tOp uMul (tOp (rIx K) (tVar 0) (tC (.int 3))) (tC (.int 40692)))) (tC (.int 1231))) tNil)) (tC (.int 2147483629))) (gSub (tVar 0) (tC (.int 3)) rSetL)) (tRet (tOp uMod (tCB uInt (tCons (tOp (uAdd K) (tOp uFdiv (tOp (rIx K) (tVar 0) (tC (.int 3))) (tC (.int 97))) (tOp uMul (tOp uMod (tCB uInt (tCons (tOp (rIx K) (tVar 0) (tC (.int 3))) tNil)) (tC (.int 7919))) (tC (.int 89)))) tNil)) (tVar 1))))))
def t__law_of (K : PySem.W.Frag) : TS := (tRet (tOp (rIx K) (tVar 1) (tCall (sp__law_take K) [] E0 (tCons (tVar 0) (tCons (tCB (uLen K) (tCons (tVar 1) tNil)) tNil)))))
def t__law_same (K : PySem.W.Frag) (rec : Sp) : TS := (tSeq (tIfS (tOr (tTest (tOp rIsN (tVar 1) (tC .non))) (tTest (tOp rIsN (tVar 0) (tC .non)))) (tRet (tAndV (tOp rIsN (tVar 1) (tC .non)) (tOp rIsN (tVar 0) (tC .non)))) tNext) (tSeq (tIfS (tTru K (tCB (uIsi K) (tCons (tVar 1) (tCons (tTup (tCons (tC (.ty "list")) (tCons (tC (.ty "tuple")) tNil))) tNil)))) (tSeq (tIfS (tOr (tTest (tOp (uNe K) (tCB (uIsi K) (tCons (tVar 0) (tCons (tC (.ty "list")) tNil))) (tCB (uIsi K) (tCons (tVar 1) (tCons (tC (.ty "list")) tNil))))) (tTest (tOp (uNe K) (tCB (uIsi K) (tCons (tVar 0) (tCons (tC (.ty "tuple")) tNil))) (tCB (uIsi K) (tCons (tVar 1) (tCons (tC (.ty "tuple")) tNil)))))) (tRet (tC (.bl false))) tNext) (tRet (tAndV (tOp (uEq K) (tCB (uLen K) (tCons (tVar 0) tNil)) (tCB (uLen K) (tCons (tVar 1) tNil))) (tOp (uEq K) (tLc (iRng1 (tCons (tCB (uLen K) (tCons (tVar 1) tNil)) tNil)) (gName 2) (tNot (tTru K (tCall rec [] E0 (tCons (tOp (rIx K) (tVar 0) (tVar 2)) (tCons (tOp (rIx K) (tVar 1) (tVar 2)) tNil))))) (tVar 2) [2]) (tLst tNil))))) tNext) (tSeq (tIfS (tTru K (tCB (uIsi K) (tCons (tVar 1) (tCons (tC (.ty "dict")) tNil)))) (tRet (tAndV (tCB (uIsi K) (tCons (tVar 0) (tCons (tC (.ty "dict")) tNil))) (tCall rec [] E0 (tCons (LiI.tListItems (tVar 0)) (tCons (LiI.tListItems (tVar 1)) tNil))))) tNext) (tSeq (tIfS (tOr (tTest (tOp (uNe K) (tCB (uIsi K) (tCons (tVar 1) (tCons (tC (.ty "bool")) tNil))) (tCB (uIsi K) (tCons (tVar 0) (tCons (tC (.ty "bool")) tNil))))) (tTest (tOp (uNe K) (tCB (uIsi K) (tCons (tVar 1) (tCons (tC (.ty "int")) tNil))) (tCB (uIsi K) (tCons (tVar 0) (tCons (tC (.ty "int")) tNil)))))) (tRet (tC (.bl false))) tNext) (tRet (tAndV (tOp (uEq K) (tCB (uIsi K) (tCons (tVar 1) (tCons (tC (.ty "str")) tNil))) (tCB (uIsi K) (tCons (tVar 0) (tCons (tC (.ty "str")) tNil)))) (tOp (uEq K) (tVar 0) (tVar 1))))))))
def t__law_names (K : PySem.W.Frag) : TS := (tSeq (tAsg (tC (.str "abcdefghijklmnopqrstuvwxyz")) (gName 3)) (tSeq (tAsg (tM1 (m_join K) (tC (.str "")) (tLc (iRng1 (tCons (tCall (sp__law_take K) [] E0 (tCons (tVar 0) (tCons (tVar 2) tNil))) tNil)) (gName 5) tYes (tCall (sp__law_of K) [] E0 (tCons (tVar 0) (tCons (tVar 3) tNil))) [5])) (gName 4)) (tSeq (tPar3 6 7 8 (tCons (tCall (sp__law_take K) [] E0 (tCons (tVar 0) (tCons (tC (.int 26)) tNil))) (tCons (tCall (sp__law_of K) [] E0 (tCons (tVar 0) (tCons (tLst (tCons (tC (.int 1)) (tCons (tC (.int 3)) (tCons (tC (.int 5)) (tCons (tC (.int 7)) (tCons (tC (.int 11)) (tCons (tC (.int 25)) tNil))))))) tNil))) (tCons (tLst tNil) tNil)))) (tSeq (tFor (iRng1 (tCons (tVar 1) tNil)) (gName 5) (tSeq (tAsg (tM1 (m_join K) (tC (.str "")) (tLc (iRng1 (tCons (tCall (sp__law_take K) [] E0 (tCons (tVar 0) (tCons (tOp uSub (tVar 2) (tCB (uLen K) (tCons (tVar 4) tNil))) tNil))) tNil)) (gName 10) tYes (tCall (sp__law_of K) [] E0 (tCons (tVar 0) (tCons (tVar 3) tNil))) [10])) (gName 9)) (tDrop (tBM K "list" rAppend (tVar 8) (tCons (tOp (uAdd K) (tOp (uAdd K) (tVar 4) (tOp (rIx K) (tVar 3) (tOp uMod (tCB uInt (tCons (tOp (uAdd K) (tVar 6) (tOp uMul (tVar 7) (tVar 5))) tNil)) (tC (.int 26))))) (tVar 9)) tNil))))) (tRet (tVar 8))))))
def t__law_odd (K : PySem.W.Frag) : TS := (tRet (tCall (sp__law_of K) [] E0 (tCons (tVar 0) (tCons (tLst (tCons (tC .non) (tCons (tC (.bl true)) (tCons (tC (.bl false)) (tCons (tC (.str "")) (tCons (tC (.str "A")) (tCons (tC (.str "abcdefg")) (tCons (tC (.str "a b")) (tCons (tC (.str "a1")) (tCons (tTup (tCons (tC (.str "a")) tNil)) (tCons (tTup (tCons (tC (.str "a")) (tCons (tC (.int 9)) tNil))) (tCons (tTup (tCons (tC (.str "a")) (tCons (tC (.bl true)) tNil))) (tCons (tTup (tCons (tC (.str "A")) (tCons (tC (.int 1)) tNil))) (tCons tDNewK (tCons (tDisp [((tC (.str "a")), (tC (.int 1)))]) (tCons (tTup (tCons (tC (.int 1)) (tCons (tC (.int 2)) tNil))) tNil)))))))))))))))) tNil))))
end SW

namespace SW
open PySem PySem.Spec PyProof.Rows L2
section
variable {K : PySem.W.Frag} {v : V} {H : Hp} {Q : VK} {d : PyData}
theorem rd__law_bag {a : Addr} {ns : List Int} (hS : SqL K H a (ns.map V.int)) (hl : ns.length ≤ 63) (k : ∀ b c H', H b = none → H c = none → Bag H' b c → Same H (mn H' b) → Q (.ref b) H') : t__law_bag K (Dn Q) [some (.ref a), none] H := by
  unfold t__law_bag
  walk_at "go"
  refine s_slL hS fun q H1 hq e1 hq1 => ?_
  walk_at "go"
  have ec : cutV (ns.map V.int) none (some 63) = ns.map V.int := by
    have := cut_to (ns.map V.int) 63
    rw [show (((63 : Nat) : Int)) = (63 : Int) from rfl] at this
    rw [this, List.take_of_length_le (by rw [List.length_map]; omega)]
  rw [ec] at hq1
  refine ⟨q, ns.map V.int, rfl, .inl (SqL.of hq1), fun c hc => ?_⟩
  have e2 : Same H1 (upd H1 c (.lst (ns.map V.int))) := same_new hc
  generalize hH2 : upd H1 c (.lst (ns.map V.int)) = H2 at e2
  have hc2 : H2 c = some (.lst (ns.map V.int)) := by rw [← hH2]; exact upd_same
  walk_at "go"
  refine s_lenL (SqL.of hc2) ?_
  walk_at "go"
  refine s_rI (.inl ⟨by decide, by decide⟩) ?_
  walk_at "go"
  rw [List.length_map]
  refine ⟨by show 4 ≤ sizeLine; decide, fun b hb => ?_⟩
  have e3 : Same H2 (upd H2 b _) := same_new (o := .lst [.ref c, .int 0, .int 0, .int (12029 + 31 * (ns.length : Int))]) hb
  have hcb : c ≠ b := ne_of_none hc2 hb
  have hb0 : H b = none := Same.free (e1.trans e2) hb
  refine k b c _ hb0 (Same.free e1 hc) ⟨ns, 0, 0, 12029 + 31 * (ns.length : Int), upd_same, ?_, hcb, by omega, by omega, by omega, by omega⟩ ?_
  · rw [upd_ne hcb]; exact hc2
  · intro x o e
    have hx : x ≠ b := ne_of_none e hb0
    rw [mn_ne hx]
    exact e3 _ _ (e2 _ _ (e1 _ _ e))
theorem bag_upd {H : Hp} {b c : Addr} {ns : List Int} {i g z : Int} {o : HO} (ho : o = .lst [.ref c, .int i, .int g, .int z]) (hc : H c = some (.lst (ns.map V.int))) (hn : c ≠ b) (h0 : 0 ≤ i) (h1 : 0 ≤ g) (h2 : 0 ≤ z) (h3 : z < 2147483629) : Bag (L2.upd H b o) b c :=
  ⟨ns, i, g, z, by rw [upd_same, ho], by rw [upd_ne hn]; exact hc, hn, h0, h1, h2, h3⟩
/-- the second half of a draw: from the bag as it stands -/
theorem take_end {b c : Addr} {n : Int} {vc vd : Option V} (B : Bag H b c) (hn : 0 < n) (hn2 : n < 1073741824) (k : ∀ r H', 0 ≤ r → r < n → Bag H' b c → mn H b = mn H' b → Q (.int r) H') :
    (tSeq (tIfS (tTest (tOp uGt (tOp (rIx K) (tVar 0) (tC (.int 2))) (tC (.int 0)))) (tSeq (tAsg (tOp uMod (tCB uInt (tCons (tOp (rIx K) (tVar 0) (tC (.int 2))) tNil)) (tVar 1)) (gName 3)) (tSeq (tAsg (tOp uFdiv (tOp (rIx K) (tVar 0) (tC (.int 2))) (tVar 1)) (gSub (tVar 0) (tC (.int 2)) rSetL)) (tRet (tVar 3)))) tNext) (tSeq (tAsg (tOp uMod (tCB uInt (tCons (tOp (uAdd K) (tOp (uAdd K) (tOp uMul (tOp (rIx K) (tVar 0) (tC (.int 3))) (tOp (rIx K) (tVar 0) (tC (.int 3)))) (tOp uMul (tOp (rIx K) (tVar 0) (tC (.int 3))) (tC (.int 40692)))) (tC (.int 1231))) tNil)) (tC (.int 2147483629))) (gSub (tVar 0) (tC (.int 3)) rSetL)) (tRet (tOp uMod (tCB uInt (tCons (tOp (uAdd K) (tOp uFdiv (tOp (rIx K) (tVar 0) (tC (.int 3))) (tC (.int 97))) (tOp uMul (tOp uMod (tCB uInt (tCons (tOp (rIx K) (tVar 0) (tC (.int 3))) tNil)) (tC (.int 7919))) (tC (.int 89)))) tNil)) (tVar 1))))) (Dn Q) [some (.ref b), some (.int n), vc, vd] H := by
  obtain ⟨ns, i, g, z, hb, hc, hcb, hi, hg, hz, hz2⟩ := B
  walk_at "go"
  refine s_ixL (SqL.of hb) (by rfl) ?_
  walk_at "go"
  refine s_dec (fun hg0 => ?_) (fun hg0 => ?_)
  · walk_at "go"
    refine s_ixL (SqL.of hb) (by rfl) ?_
    walk_at "go"
    refine s_rI hn ?_
    walk_at "go"
    refine s_ixL (SqL.of hb) (by rfl) ?_
    walk_at "go"
    refine s_rI ⟨hn, hn2⟩ ?_
    walk_at "go"
    refine s_setL hb (j := 2) rfl ?_
    walk_at "go"
    refine k _ _ (Int.emod_nonneg _ (by omega)) (Int.emod_lt_of_pos _ hn) (bag_upd (i := i) (g := g / n) (z := z) rfl hc hcb hi (Int.ediv_nonneg hg (by omega)) hz hz2) ?_
    rw [mn_upd]
  · walk_at "go"
    refine s_ixL (SqL.of hb) (by rfl) ?_
    walk_at "go"
    refine s_ixL (SqL.of hb) (by rfl) ?_
    walk_at "go"
    refine s_rI (.inl ⟨by omega, by omega⟩) ?_
    walk_at "go"
    refine s_ixL (SqL.of hb) (by rfl) ?_
    walk_at "go"
    refine s_rI (.inl ⟨by omega, by omega⟩) ?_
    walk_at "go"
    refine s_rI (by decide) ?_
    walk_at "go"
    refine s_setL hb (j := 3) rfl ?_
    walk_at "go"
    have hm : ∀ e : Int, 0 ≤ e % 2147483629 ∧ e % 2147483629 < 2147483629 := fun e => ⟨Int.emod_nonneg _ (by decide), Int.emod_lt_of_pos _ (by decide)⟩
    obtain ⟨m1, m2⟩ := hm (z * z + z * 40692 + 1231)
    have hb2 : (L2.upd H b (.lst ([V.ref c, .int i, .int g, .int z].set 3 (.int ((z * z + z * 40692 + 1231) % 2147483629))))) b = some (.lst [.ref c, .int i, .int g, .int ((z * z + z * 40692 + 1231) % 2147483629)]) := upd_same
    generalize (z * z + z * 40692 + 1231) % 2147483629 = y at m1 m2 hb2 ⊢
    refine s_ixL (SqL.of hb2) (by rfl) ?_
    walk_at "go"
    refine s_rI ⟨by decide, by decide⟩ ?_
    walk_at "go"
    refine s_ixL (SqL.of hb2) (by rfl) ?_
    walk_at "go"
    refine s_rI (by decide) ?_
    walk_at "go"
    refine s_rI (.inl ⟨by omega, by omega⟩) ?_
    walk_at "go"
    refine s_rI hn ?_
    refine k _ _ (Int.emod_nonneg _ (by omega)) (Int.emod_lt_of_pos _ hn) (bag_upd (i := i) (g := g) (z := y) rfl hc hcb hi hg m1 m2) ?_
    rw [mn_upd]
theorem rd__law_take {b c : Addr} {n : Int} (B : Bag H b c) (hn : 0 < n) (hn2 : n < 1073741824) (k : ∀ r H', 0 ≤ r → r < n → Bag H' b c → Same (mn H b) (mn H' b) → Q (.int r) H') : t__law_take K (Dn Q) [some (.ref b), some (.int n), none, none] H := by
  have k' : ∀ r H', 0 ≤ r → r < n → Bag H' b c → mn H b = mn H' b → Q (.int r) H' := fun r H' h1 h2 h3 h4 => k r H' h1 h2 h3 (by rw [h4]; exact Same.refl _)
  obtain ⟨ns, i, g, z, hb, hc, hcb, hi, hg, hz, hz2⟩ := id B
  unfold t__law_take
  refine s_seq (s_ifS (s_and ?_))
  walk_at "go"
  refine s_ixL (SqL.of hb) (by rfl) ?_
  walk_at "go"
  refine s_dec (fun hg0 => ?_) (fun hg0 => ?_)
  case refine_2 =>
    refine L2.iteF (s_next ?_)
    exact take_end B hn hn2 k'
  walk_at "go"
  refine s_ixL (SqL.of hb) (by rfl) ?_
  walk_at "go"
  refine s_ixL (SqL.of hb) (by rfl) ?_
  walk_at "go"
  refine s_lenL (SqL.of hc) ?_
  walk_at "go"
  refine s_dec (fun hlt => ?_) (fun hlt => ?_)
  case refine_2 =>
    refine s_next ?_
    exact take_end B hn hn2 k'
  rw [List.length_map] at hlt
  obtain ⟨j, rfl⟩ := Int.eq_ofNat_of_zero_le hi
  have hj : j < ns.length := by omega
  walk_at "go"
  refine s_ixL (SqL.of hb) (by rfl) ?_
  walk_at "go"
  refine s_ixL (SqL.of hb) (by rfl) ?_
  refine s_ixL (SqL.of hc) (atI_nat (v := .int (ns[j])) (by rw [List.getElem?_map, List.getElem?_eq_getElem hj]; rfl)) ?_
  walk_at "go"
  refine s_ixL (SqL.of hb) (by rfl) ?_
  walk_at "go"
  refine s_setL hb (j := 1) rfl ?_
  walk_at "go"
  generalize hH1 : L2.upd H b (.lst ([V.ref c, .int (j : Int), .int g, .int z].set 1 (.int ((j : Int) + 1)))) = H1
  have hb1 : H1 b = some (.lst [.ref c, .int ((j : Int) + 1), .int g, .int z]) := by rw [← hH1]; exact upd_same
  have hc1 : H1 c = some (.lst (ns.map V.int)) := by rw [← hH1, upd_ne hcb]; exact hc
  have hm1 : mn H b = mn H1 b := by rw [← hH1, mn_upd]
  refine s_ixL (SqL.of hb1) (by rfl) ?_
  walk_at "go"
  refine s_rI (.inl ⟨by omega, by omega⟩) ?_
  walk_at "go"
  refine s_rI (by decide) ?_
  walk_at "go"
  have hmm : ∀ e : Int, 0 ≤ e % 1000003 ∧ e % 1000003 < 1000003 := fun e => ⟨Int.emod_nonneg _ (by decide), Int.emod_lt_of_pos _ (by decide)⟩
  obtain ⟨q1, q2⟩ := hmm ns[j]
  refine s_rI (.inl ⟨by omega, by omega⟩) ?_
  walk_at "go"
  refine s_rI (by decide) ?_
  walk_at "go"
  refine s_setL hb1 (j := 3) rfl ?_
  have hm : ∀ e : Int, 0 ≤ e % 2147483629 ∧ e % 2147483629 < 2147483629 := fun e => ⟨Int.emod_nonneg _ (by decide), Int.emod_lt_of_pos _ (by decide)⟩
  obtain ⟨m1, m2⟩ := hm (z * 48271 + ns[j] % 1000003 * 6151 + 7919)
  generalize (z * 48271 + ns[j] % 1000003 * 6151 + 7919) % 2147483629 = y at m1 m2 ⊢
  generalize hH2 : L2.upd H1 b (.lst ([V.ref c, .int ((j : Int) + 1), .int g, .int z].set 3 (.int y))) = H2
  have hb2 : H2 b = some (.lst [.ref c, .int ((j : Int) + 1), .int g, .int y]) := by rw [← hH2]; exact upd_same
  have hc2 : H2 c = some (.lst (ns.map V.int)) := by rw [← hH2, upd_ne hcb]; exact hc1
  have hm2 : mn H b = mn H2 b := by rw [hm1, ← hH2, mn_upd]
  walk_at "go"
  refine s_rI ⟨by decide, by decide, by decide⟩ ?_
  walk_at "go"
  refine s_dec (fun hge => ?_) (fun hge => ?_)
  · walk_at "go"
    refine s_setL hb2 (j := 2) rfl ?_
    have hg2 : (0 : Int) ≤ ns[j] := Int.le_trans (by decide) hge
    refine take_end (bag_upd (i := (j : Int) + 1) (g := ns[j]) (z := y) rfl hc2 hcb (by omega) hg2 m1 m2) hn hn2 fun r H' h1 h2 h3 h4 => k' r H' h1 h2 h3 ?_
    rw [hm2, ← h4, mn_upd]
  · refine s_next ?_
    refine take_end ⟨ns, (j : Int) + 1, g, y, hb2, hc2, hcb, by omega, hg, m1, m2⟩ hn hn2 fun r H' h1 h2 h3 h4 => k' r H' h1 h2 h3 ?_
    rw [hm2, ← h4]

theorem seq_mn {a b : Addr} {xs : List V} (h : SqL K (mn H b) a xs) : SqL K H a xs := Same.seq (mn_same H b) h
theorem seqT_mn {a b : Addr} {xs : List V} (h : SqT K (mn H b) a xs) : SqT K H a xs := Same.seqT (mn_same H b) h
theorem mem_at {xs : List V} {r : Int} (h0 : 0 ≤ r) (h1 : r < xs.length) : ∃ x, atI xs r = some x ∧ x ∈ xs := by
  obtain ⟨j, rfl⟩ := Int.eq_ofNat_of_zero_le h0
  have hj : j < xs.length := by omega
  exact ⟨xs[j], atI_nat (List.getElem?_eq_getElem hj), List.getElem_mem hj⟩
theorem rd__law_of {b c : Addr} {w : V} {M : V → Prop} (B : Bag H b c) (hD : Drawn K (mn H b) w M) (k : ∀ x H', M x → Bag H' b c → Same (mn H b) (mn H' b) → Q x H') : t__law_of K (Dn Q) [some (.ref b), some w] H := by
  unfold t__law_of
  walk_at "go"
  cases hD with
  | @lst p xs hx hne hz =>
    refine s_lenL (seq_mn hx) ?_
    walk_at "go"
    have hpos : 0 < xs.length := List.length_pos_iff.mpr hne
    refine s_sp2 ⟨b, c, _, rfl, rfl, B, by omega, by omega, fun r H1 h0 h1 B1 e1 => ?_⟩
    obtain ⟨x, hx1, hx2⟩ := mem_at h0 h1
    exact s_ixL (seq_mn (Same.seq e1 hx)) hx1 (k x H1 hx2 B1 e1)
  | @tup p xs hx hne hz =>
    refine s_lenT (seqT_mn hx) ?_
    walk_at "go"
    have hpos : 0 < xs.length := List.length_pos_iff.mpr hne
    refine s_sp2 ⟨b, c, _, rfl, rfl, B, by omega, by omega, fun r H1 h0 h1 B1 e1 => ?_⟩
    obtain ⟨x, hx1, hx2⟩ := mem_at h0 h1
    exact s_ixT (seqT_mn (Same.seqT e1 hx)) hx1 (k x H1 hx2 B1 e1)
  | @str s hne hz =>
    refine s_lenS hz ?_
    walk_at "go"
    have hpos : 0 < s.length := by rw [TL.len_tl]; exact List.length_pos_iff.mpr hne
    refine s_sp2 ⟨b, c, _, rfl, rfl, B, by omega, by omega, fun r H1 h0 h1 B1 e1 => ?_⟩
    obtain ⟨j, rfl⟩ := Int.eq_ofNat_of_zero_le h0
    have hj : j < s.cps.toList.length := by rw [← TL.tl, ← TL.len_tl]; omega
    exact s_ixS hz (atI_nat (List.getElem?_eq_getElem hj)) (k _ H1 ⟨_, List.getElem_mem hj, rfl⟩ B1 e1)
/-! ### values laid in a row, with what they hold -/
/-- a new tuple beside the bag -/
theorem new_tup {b p : Addr} {xs : List V} {ds : List PyData} (hp : H p = none) (hb : H b ≠ none) (h : RpA K (mn H b) xs ds) (hz : ds.length ≤ 100000) : Rp K (mn (L2.upd H p (.tup xs)) b) (.ref p) (.tuple ds) := by
  have hpb : p ≠ b := fun e => hb (by rw [← e]; exact hp)
  exact Rp.tup (SqT.of (by rw [mn_ne hpb]; exact upd_same)) (h.mono (mn_new hp hb)) (by rw [h.length]; exact hz)
theorem new_lst {b p : Addr} {xs : List V} {ds : List PyData} (hp : H p = none) (hb : H b ≠ none) (h : RpA K (mn H b) xs ds) (hz : ds.length ≤ 100000) : Rp K (mn (L2.upd H p (.lst xs)) b) (.ref p) (.list ds) := by
  have hpb : p ≠ b := fun e => hb (by rw [← e]; exact hp)
  exact Rp.lst (SqL.of (by rw [mn_ne hpb]; exact upd_same)) (h.mono (mn_new hp hb)) (by rw [h.length]; exact hz)
/-- an argument list that leaves the bag: each value with its datum, at the heap's end -/
def ArgsD (K : PySem.W.Frag) (b c : Addr) (t : TA) (σ : L2.St) (ds : List PyData) (H : Hp) : Prop := ∀ H1, Bag H1 b c → Same (mn H b) (mn H1 b) → ∀ QA : List V → Hp → Prop,
  (∀ vs H2, RpA K (mn H2 b) vs ds → Bag H2 b c → Same (mn H1 b) (mn H2 b) → QA vs H2) → t σ H1 QA
def ExprD (K : PySem.W.Frag) (b c : Addr) (t : TE) (σ : L2.St) (d : PyData) (H : Hp) : Prop := ∀ H1, Bag H1 b c → Same (mn H b) (mn H1 b) → ∀ Q : VK,
  (∀ v H2, Rp K (mn H2 b) v d → Bag H2 b c → Same (mn H1 b) (mn H2 b) → Q v H2) → t σ H1 Q
section
variable {b c : Addr} {σ : L2.St} {ds : List PyData} {t : TA} {te : TE}
theorem ad_nil : ArgsD K b c tNil σ [] H := fun H1 B e QA k => k [] H1 .nil B (Same.refl _)
theorem ad_cons (h : ExprD K b c te σ d H) (hr : ArgsD K b c t σ ds H) : ArgsD K b c (tCons te t) σ (d :: ds) H := fun H1 B e QA k =>
  h H1 B e _ fun v H2 hv B2 e2 => hr H2 B2 (e.trans e2) _ fun vs H3 hvs B3 e3 => k (v :: vs) H3 (.cons (hv.mono e3) hvs) B3 (e2.trans e3)
theorem ed_c {v : V} (h : ∀ H', Rp K H' v d) : ExprD K b c (tC v) σ d H := fun H1 B e Q k => k v H1 (h _) B (Same.refl _)
theorem ed_int (i : Int) : ExprD K b c (tC (.int i)) σ (.int i) H := ed_c fun _ => .int i
theorem ed_bl (i : Bool) : ExprD K b c (tC (.bl i)) σ (.bool i) H := ed_c fun _ => .bl i
theorem ed_non : ExprD K b c (tC .non) σ .none H := ed_c fun _ => .non
theorem ed_str (x : Str) (hx : Sok x) : ExprD K b c (tC (.str x)) σ (.str x) H := ed_c fun _ => .str x hx
theorem ed_var {i : Nat} {v : V} (h : σ[i]? = some (some v)) (hv : Rp K (mn H b) v d) : ExprD K b c (tVar i) σ d H := fun H1 B e Q k => s_var h (k v H1 (hv.mono e) B (Same.refl _))
theorem ed_sub {i j : Int} : ExprD K b c (tOp uSub (tC (.int i)) (tC (.int j))) σ (.int (i - j)) H := fun H1 B e Q k => s_op (s_c (s_c (s_rI0 (k _ H1 (.int _) B (Same.refl _)))))
theorem ed_tup (h : ArgsD K b c t σ ds H) (hz : ds.length ≤ 100000) : ExprD K b c (tTup t) σ (.tuple ds) H := fun H1 B e Q k =>
  h H1 B e _ fun vs H2 hvs B2 e2 => ⟨by rw [hvs.length]; exact Nat.le_trans hz (by decide), fun p hp => k (.ref p) _ (new_tup hp (bag_some B2) hvs hz) (B2.same (same_new hp)) (e2.trans (mn_new hp (bag_some B2)))⟩
theorem ed_lst (h : ArgsD K b c t σ ds H) (hz : ds.length ≤ 100000) : ExprD K b c (tLst t) σ (.list ds) H := fun H1 B e Q k =>
  h H1 B e _ fun vs H2 hvs B2 e2 => ⟨by rw [hvs.length]; exact Nat.le_trans hz (by decide), fun p hp => k (.ref p) _ (new_lst hp (bag_some B2) hvs hz) (B2.same (same_new hp)) (e2.trans (mn_new hp (bag_some B2)))⟩
theorem ed_dict0 : ExprD K b c tDNewK σ (.dict []) H := fun H1 B e Q k p hp => by
  have hpb : p ≠ b := fun e => (bag_some B) (by rw [← e]; exact hp)
  exact k (.ref p) _ (Rp.dct (kvs := []) (by rw [mn_ne hpb]; exact upd_same) .nil (by simp)) (B.same (same_new hp)) (mn_new hp (bag_some B))
theorem ed_dictA (x : Str) (hx : Sok x) (i : Int) : ExprD K b c (tDisp [((tC (.str x)), (tC (.int i)))]) σ (.dict [(.str x, .int i)]) H := fun H1 B e Q k p hp => by
  have hpb : p ≠ b := fun e => (bag_some B) (by rw [← e]; exact hp)
  refine ⟨upd_same, [(Sum.inr x, .int i)], rfl, by simp, ?_⟩
  rw [upd_upd]
  exact k (.ref p) _ (Rp.dct (kvs := [(Sum.inr x, .int i)]) (by rw [mn_ne hpb]; exact upd_same) (.consS hx (.int i) .nil) (by simp)) (B.same (same_new hp)) (mn_new hp (bag_some B))
end
theorem rd__law_odd {b c : Addr} (B : Bag H b c) (k : ∀ x d H', d ∈ odds → Rp K (mn H' b) x d → Bag H' b c → Same (mn H b) (mn H' b) → Q x H') : t__law_odd K (Dn Q) [some (.ref b)] H := by
  unfold t__law_odd
  refine s_ret (s_call (s_cons (s_var rfl (s_cons ?_))))
  have h : ArgsD K b c _ [some (V.ref b)] odds H := ad_cons ed_non (ad_cons (ed_bl true) (ad_cons (ed_bl false) (ad_cons (ed_str "" (sok_lit (by decide +kernel))) (ad_cons (ed_str "A" (sok_lit (by decide +kernel))) (ad_cons (ed_str "abcdefg" (sok_lit (by decide +kernel)))
    (ad_cons (ed_str "a b" (sok_lit (by decide +kernel))) (ad_cons (ed_str "a1" (sok_lit (by decide +kernel))) (ad_cons (ed_tup (ad_cons (ed_str "a" (sok_lit (by decide +kernel))) ad_nil) (by decide)) (ad_cons (ed_tup (ad_cons (ed_str "a" (sok_lit (by decide +kernel))) (ad_cons (ed_int 9) ad_nil)) (by decide))
    (ad_cons (ed_tup (ad_cons (ed_str "a" (sok_lit (by decide +kernel))) (ad_cons (ed_bl true) ad_nil)) (by decide)) (ad_cons (ed_tup (ad_cons (ed_str "A" (sok_lit (by decide +kernel))) (ad_cons (ed_int 1) ad_nil)) (by decide)) (ad_cons ed_dict0 (ad_cons (ed_dictA "a" (sok_lit (by decide +kernel)) 1)
    (ad_cons (ed_tup (ad_cons (ed_int 1) (ad_cons (ed_int 2) ad_nil)) (by decide)) ad_nil))))))))))))))
  refine ed_lst h (by decide) H B (Same.refl _) _ fun v H2 hv B2 e2 => ?_
  obtain ⟨p, xs, rfl, hs, ha⟩ := hv.lst'
  refine s_nil (s_sp2 ⟨b, c, _, rfl, B2, .lst hs (fun z => ?_) ?_, fun x H3 hx B3 e3 => ?_⟩)
  · subst z; cases ha
  · rw [ha.length]; decide
  · obtain ⟨d, hd, hr⟩ := ha.mem hx
    exact k x d H3 hd (hr.mono e3) B3 (e2.trans e3)

/-! ### same: equal data -/
theorem kitAny2 {K : PySem.W.Frag} {T1 T2 : String} {d : PyData} (h1 : T1 ∈ tyAsked) (h2 : T2 ∈ tyAsked) : PySem.W.kitAny K (.type (tyN d)) [.type T1, .type T2] = some (isB d T1 || isB d T2) := by
  refine kitAny_cons (b := isB d T1) (kit_ty (isB_ok h1)) (fun hb => ?_) (fun hb => by rw [hb]; rfl)
  rw [hb, Bool.false_or]
  exact kitAny_cons (b := isB d T2) (kit_ty (isB_ok h2)) (fun hb => by rw [hb]; exact kitAny_nil) (fun hb => hb)
theorem s_isi2 {T1 T2 : String} (h : Rp K H v d) (h1 : T1 ∈ tyAsked) (h2 : T2 ∈ tyAsked) (k : ∀ H', Same H H' → Q (.bl (isB d T1 || isB d T2)) H') :
    [V.ty T1, V.ty T2].length ≤ sizeLine ∧ ∀ p, H p = none → uIsi K [v, .ref p] (L2.upd H p (.tup [.ty T1, .ty T2])) Q :=
  ⟨by show 2 ≤ sizeLine; decide, fun p hp => .inr ⟨v, p, [.ty T1, .ty T2], _, [.type T1, .type T2], _, rfl, upd_same, .cons (.ty T1) (.cons (.ty T2) .nil), (h.mono (same_new hp)).ty, kitAny2 h1 h2, k _ (same_new hp)⟩⟩
def pairD (q : PyData × PyData) : PyData := .tuple [q.1, q.2]
theorem items_rp {H' : Hp} (e : Same H H') : ∀ {kvs : List (Key × V)} {ds : List (PyData × PyData)} {ts : List Addr}, RpK K H kvs ds → Paired (fun (t : Addr) (q : Key × V) => H' t = some (.tup [kV q.1, q.2])) ts kvs → RpA K H' (ts.map V.ref) (ds.map pairD)
  | _, _, _, .nil, .nil => .nil
  | _, _, _, .consI h hr, .cons p pr => .cons (.tup (SqT.of p) (.cons (.int _) (.cons (h.mono e) .nil)) (by simp)) (items_rp e hr pr)
  | _, _, _, .consS l h hr, .cons p pr => .cons (.tup (SqT.of p) (.cons (.str _ l) (.cons (h.mono e) .nil)) (by simp)) (items_rp e hr pr)
theorem rk_items : ∀ (ds : List (PyData × PyData)), rkL (ds.map pairD) ≤ rkK ds + 1
  | [] => Nat.zero_le _
  | (a, b) :: ds => by
    have ih := rk_items ds
    show max (rk (pairD (a, b))) (rkL (ds.map pairD)) ≤ max (max (rk a) (rk b)) (rkK ds) + 1
    have e : rk (pairD (a, b)) = max (rk a) (rk b) + 1 := by simp [pairD, rk, rkL]
    omega
theorem s_items {te : TE} {σ : L2.St} {x : V} (ht : ∀ Q : VK, Q x H → te σ H Q) {ds : List (PyData × PyData)} (hx : Rp K H x (.dict ds)) (k : ∀ p H', Same H H' → Rp K H' (.ref p) (.list (ds.map pairD)) → Q (.ref p) H') : LiI.tListItems te σ H Q := by
  cases hx with
  | @dct a kvs _ h hr hz =>
    refine ht _ ⟨a, kvs, rfl, h, fun H' p ts e hp ht hpt hl hpd => k p H' e (.lst (SqL.of hl) (items_rp e hr hpd) (by rw [List.length_map, hpd.length]; exact hz))⟩
theorem rd__law_same {n : Nat} {w : V} {rec : Sp} (hv : Rp K H v d) (hw : Rp K H w d) (hn : rk d ≤ n) (k : ∀ H', Same H H' → Q (.bl true) H')
    (hrec : ∀ (v w : V) (H : Hp) (Q : VK) (E : XK) (d' : PyData), Rp K H v d' → Rp K H w d' → rk d' < n → (∀ H', Same H H' → Q (.bl true) H') → rec ([v, w] ++ []) H Q E) : t__law_same K rec (Dn Q) [some v, some w, none] H := by
  unfold t__law_same
  refine s_seq (s_ifS ?_)
  walk_at "go"
  by_cases hd : d = .none
  · subst hd
    cases hv
    cases hw
    show (if true = true then _ else _)
    walk_at "go"
    show (if true = true then _ else _)
    walk_at "go"
    exact k H (Same.refl H)
  have nv : decide (v = .non) = false := by cases hv <;> first | rfl | exact absurd rfl hd
  have nw : decide (w = .non) = false := by cases hw <;> first | rfl | exact absurd rfl hd
  rw [nw]
  walk_at "go"
  rw [nv]
  walk_at "go"
  refine s_isi2 hw m_list m_tuple fun H1 e1 => ?_
  have hv1 := hv.mono e1
  have hw1 := hw.mono e1
  walk_at "go"
  have nb : ∀ a : Bool, (!(a == a)) = false := fun a => by cases a <;> rfl
  refine s_bite (fun hb => ?_) (fun hb => ?_)
  · walk_at "go"
    rw [nb]
    walk_at "go"
    rw [nb]
    walk_at "go"
    -- lists and tuples alike
    obtain ⟨ds, hds, hlen, a, xs, rfl, c, ys, rfl, hx, hy, hlx, hly, hix, hiy⟩ : ∃ ds, (∀ e ∈ ds, rk e < n) ∧ ds.length ≤ 100000 ∧ ∃ a xs, v = .ref a ∧ ∃ c ys, w = .ref c ∧ RpA K H1 xs ds ∧ RpA K H1 ys ds ∧
        (∀ H', Same H1 H' → ∀ Q : VK, Q (.int xs.length) H' → uLen K [.ref a] H' Q) ∧ (∀ H', Same H1 H' → ∀ Q : VK, Q (.int ys.length) H' → uLen K [.ref c] H' Q) ∧
        (∀ H', Same H1 H' → ∀ (i : Int) x (Q : VK), atI xs i = some x → Q x H' → rIx K (.ref a) (.int i) H' Q) ∧ (∀ H', Same H1 H' → ∀ (i : Int) x (Q : VK), atI ys i = some x → Q x H' → rIx K (.ref c) (.int i) H' Q) := by
      cases d with
      | list ds =>
        obtain ⟨a, xs, rfl, hs, ha⟩ := hv1.lst'
        obtain ⟨c, ys, rfl, hs2, ha2⟩ := hw1.lst'
        refine ⟨ds, fun e he => ?_, Rp.len (.inr hv1), a, xs, rfl, c, ys, rfl, ha, ha2, fun H' e Q q => s_lenL (e.seq hs) q, fun H' e Q q => s_lenL (e.seq hs2) q, fun H' e i x Q hi q => s_ixL (e.seq hs) hi q, fun H' e i x Q hi q => s_ixL (e.seq hs2) hi q⟩
        have := rkL_mem he
        simp only [rk] at hn
        omega
      | tuple ds =>
        obtain ⟨a, xs, rfl, hs, ha⟩ := hv1.tup'
        obtain ⟨c, ys, rfl, hs2, ha2⟩ := hw1.tup'
        refine ⟨ds, fun e he => ?_, Rp.len (.inl hv1), a, xs, rfl, c, ys, rfl, ha, ha2, fun H' e Q q => s_lenT (Same.seqT e hs) q, fun H' e Q q => s_lenT (Same.seqT e hs2) q, fun H' e i x Q hi q => s_ixT (Same.seqT e hs) hi q, fun H' e i x Q hi q => s_ixT (Same.seqT e hs2) hi q⟩
        have := rkL_mem he
        simp only [rk] at hn
        omega
      | _ => simp [isB, isBS, tyN] at hb
    refine hlx H1 (Same.refl _) _ ?_
    walk_at "go"
    refine hly H1 (Same.refl _) _ ?_
    walk_at "go"
    rw [hx.length, hy.length]
    have e0 : decide ((ds.length : Int) = ds.length) = true := decide_eq_true rfl
    rw [e0]
    walk_at "go"
    refine hly H1 (Same.refl _) _ ?_
    walk_at "go"
    have hyl := hy.length
    refine ⟨_, rfl, by omega, by omega, ?_⟩
    refine lc_pure (Yl.rng 0 _) (fun _ => false) (fun y => y) (by rw [filtF]; simp) (fun _ => rfl) (fun x H' hm e QT q => ?_) (fun x H' hm hf => by cases hf) (fun Dl H' hD e hl => ?_)
    · obtain ⟨j, hj, rfl⟩ := List.mem_map.mp hm
      have hj' : j < ys.length := by simpa using hj
      have hjd : j < ds.length := by omega
      obtain ⟨x1, hx1, hr1⟩ := hx.get' (List.getElem?_eq_getElem hjd)
      obtain ⟨y1, hy1, hr2⟩ := hy.get' (List.getElem?_eq_getElem hjd)
      have ez : (0 : Int) + (j : Int) = (j : Int) := by omega
      rw [ez]
      walk_at "go"
      refine hix H' e _ _ _ (atI_nat hx1) ?_
      walk_at "go"
      refine hiy H' e _ _ _ (atI_nat hy1) ?_
      walk_at "go"
      refine hrec _ _ _ _ _ _ (hr1.mono e) (hr2.mono e) (hds _ (List.getElem_mem hjd)) fun H2 e2 => ?_
      walk_at "go"
      exact q H2 e2
    · rw [filtF] at hl
      walk_at "go"
      refine ⟨by show 0 ≤ sizeLine; decide, fun p hp => ?_⟩
      have e3 : Same H' (L2.upd H' p (.lst [])) := same_new hp
      refine .inr ⟨.list [], .list [], .lst (SqL.of (e3 _ _ hl)) .nil, .lst (SqL.of upd_same) .nil, rfl, rfl, ?_⟩
      exact k _ (e1.trans (e.trans e3))
  · walk_at "go"
    refine s_bite (fun hb2 => ?_) (fun hb2 => ?_)
    · walk_at "go"
      rw [hb2]
      walk_at "go"
      obtain ⟨ds, rfl⟩ := isB_dct hb2
      refine s_items (x := v) (fun Q q => s_var rfl q) hv1 fun p H2 e2 hp => ?_
      walk_at "go"
      refine s_items (x := w) (fun Q q => s_var rfl q) (hw1.mono e2) fun q H3 e3 hq => ?_
      walk_at "go"
      refine hrec _ _ _ _ _ _ (hp.mono e3) hq ?_ fun H4 e4 => ?_
      · have := rk_items ds
        simp only [rk] at hn ⊢
        omega
      · exact k H4 (e1.trans (e2.trans (e3.trans e4)))
    · walk_at "go"
      rw [nb]
      walk_at "go"
      rw [nb]
      walk_at "go"
      have nb2 : ∀ a : Bool, (a == a) = true := fun a => by cases a <;> rfl
      rw [nb2]
      walk_at "go"
      cases d with
      | none => exact absurd rfl hd
      | bool x =>
        cases hv; cases hw
        refine s_eqB ?_
        rw [nb2]
        exact k H1 e1
      | int x =>
        cases hv; cases hw
        refine s_eqI ?_
        rw [decide_eq_true rfl]
        exact k H1 e1
      | str x =>
        cases hv; cases hw
        refine s_eqS ?_
        rw [decide_eq_true rfl]
        exact k H1 e1
      | list ds => simp [isB, isBS, tyN] at hb
      | tuple ds => simp [isB, isBS, tyN] at hb
      | dict ds => simp [isB, isBS, tyN] at hb2
end
end SW

namespace SW
open PySem PySem.Spec PyProof.Rows L2
section
variable {K : PySem.W.Frag} {v : V} {H : Hp} {Q : VK} {d : PyData}
/-! ### names -/
def sg (z : Nat) : Str := ⟨#[z]⟩
theorem joinL_nil : ∀ parts : List (List Nat), TL.joinL [] parts = parts.flatten
  | [] => rfl
  | [p] => by show p = [p].flatten; simp
  | p :: q :: r => by
    show p ++ ([] ++ TL.joinL [] (q :: r)) = _
    rw [joinL_nil (q :: r)]
    simp
theorem join_sg (cs : List Nat) : Txt.join "" (cs.map sg) = ⟨cs.toArray⟩ := by
  refine TL.ext_tl ?_
  rw [TL.join_eq, TL.tl_join]
  have e : TL.tl ("" : Str) = [] := by decide +kernel
  rw [e, joinL_nil, TL.tl_mk, List.map_map]
  induction cs with
  | nil => rfl
  | cons a r ih => rw [List.map_cons, List.flatten_cons, ih]; rfl
theorem small_codes : SMALLs.cps.toList = [97, 98, 99, 100, 101, 102, 103, 104, 105, 106, 107, 108, 109, 110, 111, 112, 113, 114, 115, 116, 117, 118, 119, 120, 121, 122] := by decide +kernel
theorem small_iff (z : Nat) : z ∈ SMALLs.cps.toList ↔ 97 ≤ z ∧ z ≤ 122 := by
  rw [small_codes]
  simp
  omega
theorem small_len : SMALLs.length = 26 := by decide +kernel
/-- letters drawn, one by one -/
theorem lc_rnd {b c : Addr} {σ : L2.St} {j m : Nat} (B : Bag H b c) (h0 : ∀ y, ((wipe σ [j]).set j (some y))[0]? = some (some (.ref b))) (h3 : ∀ y, ((wipe σ [j]).set j (some y))[3]? = some (some (.str SMALLs)))
    (hw : ∀ y, wipe ((wipe σ [j]).set j (some y)) [j] = wipe σ [j]) (hm : m ≤ 1000)
    (k : ∀ (Dl : Addr) (cs : List Nat) (H' : Hp), H Dl = none → Bag H' b c → Same (mn H b) (mn H' b) → H' Dl = some (.lst ((cs.map sg).map V.str)) → cs.length = m → (∀ z ∈ cs, 97 ≤ z ∧ z ≤ 122) → Q (.ref Dl) H') :
    LcK (gName j) tYes (tCall (sp__law_of K) [] E0 (tCons (tVar 0) (tCons (tVar 3) tNil))) [j] σ Q (Itr 0 m) H := by
  intro Dl hD
  obtain ⟨nb, nc⟩ := bag_ne B hD
  refine lc_range (lo := 0) (n := m) (fun i H' => ∃ cs : List Nat, cs.length = i ∧ (∀ z ∈ cs, 97 ≤ z ∧ z ≤ 122) ∧ Bag H' b c ∧ Same (mn H b) (mn H' b) ∧ H' Dl = some (.lst ((cs.map sg).map V.str))) ?_ ?_ ?_
  · exact ⟨[], rfl, by simp, bag_mut B nb nc, mn_new hD (bag_some B), upd_same⟩
  · rintro i H1 hi ⟨cs, hl, hcs, B1, e1, hd⟩
    refine ⟨hw _, ?_⟩
    refine s_yes (L2.iteT ?_)
    refine s_call (s_cons (s_var (h0 _) (s_cons (s_var (h3 _) (s_nil ?_)))))
    refine s_sp2 ⟨b, c, _, rfl, B1, .str (by rw [small_codes]; simp) (by rw [small_len]; decide), fun x H2 hx B2 e2 => ?_⟩
    obtain ⟨z, hz, rfl⟩ := hx
    have hd2 : H2 Dl = some (.lst ((cs.map sg).map V.str)) := by
      have := e2 Dl _ (by rw [mn_ne nb]; exact hd)
      rw [mn_ne nb] at this
      exact this
    refine ⟨_, hd2, ?_, cs ++ [z], ?_, ?_, bag_mut B2 nb nc, ?_, ?_⟩
    · have : sizeLine = 16777216 := sizeLine_eq
      rw [List.length_map, List.length_map]; omega
    · rw [List.length_append, hl]; rfl
    · intro y hy
      rcases List.mem_append.mp hy with h | h
      · exact hcs y h
      · rw [List.mem_singleton.mp h]; exact (small_iff z).mp hz
    · intro a o e
      have ha : a ≠ Dl := ne_of_none (mn_at e).2 hD
      have hb : a ≠ b := (mn_at e).1
      have := e2 a o (e1 a o e)
      rw [mn_ne hb] at this ⊢
      rw [upd_ne ha]
      exact this
    · rw [upd_same]
      simp [sg]
  · rintro H1 ⟨cs, hl, hcs, B1, e1, hd⟩
    exact k Dl cs H1 hD B1 e1 hd hl hcs
/-- ''.join of them -/
theorem s_joinR {Dl : Addr} {cs : List Nat} (hd : H Dl = some (.lst ((cs.map sg).map V.str))) (hl : cs.length ≤ 1000) (k : Q (.str ⟨cs.toArray⟩) H) : m_join K (.str "") [.ref Dl] H Q := by
  refine ⟨"", Dl, cs.map sg, rfl, rfl, .inl (SqL.of hd), ?_, ?_⟩
  · have e : ((cs.map sg).map (·.length)).sum = cs.length := by
      clear hd hl k
      induction cs with
      | nil => rfl
      | cons a r ih =>
        rw [List.map_cons, List.map_cons, List.sum_cons, ih, List.length_cons]
        show 1 + r.length = _
        omega
    have e2 : ("" : Str).length = 0 := by decide +kernel
    rw [e, e2]
    omega
  · rw [join_sg]; exact k
/-- a name out of the draw: the stem, its letter, a tail -/
def letter (beg stp : Int) (i : Nat) : Nat := 97 + ((beg + stp * (i : Int)) % 26).toNat
theorem letter_inj {beg stp : Int} (hs : stp = 1 ∨ stp = 3 ∨ stp = 5 ∨ stp = 7 ∨ stp = 11 ∨ stp = 25) {i j : Nat} (hi : i < 26) (hj : j < 26) (e : letter beg stp i = letter beg stp j) : i = j := by
  unfold letter at e
  have h1 : 0 ≤ (beg + stp * (i : Int)) % 26 := Int.emod_nonneg _ (by decide)
  have h2 : 0 ≤ (beg + stp * (j : Int)) % 26 := Int.emod_nonneg _ (by decide)
  have e2 : (beg + stp * (i : Int)) % 26 = (beg + stp * (j : Int)) % 26 := by omega
  rcases hs with rfl | rfl | rfl | rfl | rfl | rfl <;> omega
def NamedSo (st : List Nat) (beg stp : Int) (i : Nat) (w : Str) : Prop := ∃ tail : List Nat, TL.tl w = st ++ letter beg stp i :: tail ∧ st.length + 1 + tail.length ≤ 6 ∧ ∀ z ∈ tail, 97 ≤ z ∧ z ≤ 122
theorem NamedSo.name {st : List Nat} {beg stp : Int} {i : Nat} {w : Str} (h : NamedSo st beg stp i w) (hst : ∀ z ∈ st, 97 ≤ z ∧ z ≤ 122) : isNameS w = true := by
  obtain ⟨tail, e, hl, ht⟩ := h
  have hlen : w.length = st.length + 1 + tail.length := by
    rw [TL.len_tl, e, List.length_append, List.length_cons]; omega
  unfold isNameS
  have h1 : 1 ≤ w.length := by omega
  have h2 : w.length ≤ 6 := by omega
  have h3 : allIn w SMALLs = true := by
    unfold allIn
    rw [List.all_eq_true]
    intro z hz
    refine decide_eq_true ((small_iff z).mpr ?_)
    have hz' : z ∈ TL.tl w := hz
    rw [e] at hz'
    rcases List.mem_append.mp hz' with h | h
    · exact hst z h
    · rcases List.mem_cons.mp h with rfl | h
      · unfold letter
        have h1 : 0 ≤ (beg + stp * (i : Int)) % 26 := Int.emod_nonneg _ (by decide)
        have h2 : (beg + stp * (i : Int)) % 26 < 26 := Int.emod_lt_of_pos _ (by decide)
        omega
      · exact ht z h
  rw [decide_eq_true h1, decide_eq_true h2, h3]
  rfl
theorem NamedSo.inj {st : List Nat} {beg stp : Int} (hs : stp = 1 ∨ stp = 3 ∨ stp = 5 ∨ stp = 7 ∨ stp = 11 ∨ stp = 25) {i j : Nat} (hi : i < 26) (hj : j < 26) {w : Str} (h1 : NamedSo st beg stp i w) (h2 : NamedSo st beg stp j w) : i = j := by
  obtain ⟨t1, e1, _⟩ := h1
  obtain ⟨t2, e2, _⟩ := h2
  rw [e1] at e2
  have := List.append_cancel_left e2
  injection this with e3 _
  exact letter_inj hs hi hj e3
theorem names_nodup {st : List Nat} {beg stp : Int} (hs : stp = 1 ∨ stp = 3 ∨ stp = 5 ∨ stp = 7 ∨ stp = 11 ∨ stp = 25) {ws : List Str} (hl : ws.length ≤ 26) (h : ∀ (i : Nat) w, ws[i]? = some w → NamedSo st beg stp i w) : ws.Nodup := by
  refine List.pairwise_iff_getElem.mpr fun i j hi hj hij e => ?_
  have h1 := h i ws[i] (List.getElem?_eq_getElem hi)
  have h2 := h j ws[j] (List.getElem?_eq_getElem hj)
  rw [← e] at h2
  have := NamedSo.inj hs (by omega) (by omega) h1 h2
  omega
theorem letter_at (beg stp : Int) (i : Nat) : atI SMALLs.cps.toList ((beg + stp * (i : Int)) % 26) = some (letter beg stp i) := by
  have h1 : 0 ≤ (beg + stp * (i : Int)) % 26 := Int.emod_nonneg _ (by decide)
  have h2 : (beg + stp * (i : Int)) % 26 < 26 := Int.emod_lt_of_pos _ (by decide)
  unfold letter
  generalize (beg + stp * (i : Int)) % 26 = r at h1 h2
  obtain ⟨m, rfl⟩ := Int.eq_ofNat_of_zero_le h1
  refine atI_nat ?_
  rw [small_codes]
  have h : ∀ m : Nat, m < 26 → ([97, 98, 99, 100, 101, 102, 103, 104, 105, 106, 107, 108, 109, 110, 111, 112, 113, 114, 115, 116, 117, 118, 119, 120, 121, 122] : List Nat)[m]? = some (97 + m) := by decide
  have := h m (by omega)
  rw [this]
  simp
theorem rd__law_names {b c : Addr} {n : Int} (B : Bag H b c) (hn0 : 0 ≤ n) (hn : n ≤ 26)
    (k : ∀ (p : Addr) (ws : List Str) (H' : Hp), H p = none → Bag H' b c → Same (mn H b) (mn H' b) → mn H' b p = some (.lst (ws.map V.str)) → (ws.length : Int) = n → (∀ w ∈ ws, isNameS w = true) → ws.Nodup → Q (.ref p) H') :
    t__law_names K (Dn Q) [some (.ref b), some (.int n), some (.int 6), none, none, none, none, none, none, none, none] H := by
  unfold t__law_names
  walk_at "gb"
  refine s_sp2 ⟨b, c, 6, rfl, rfl, B, by decide, by decide, fun r H1 r0 r1 B1 e1 => ?_⟩
  walk_at "gb"
  refine ⟨r, rfl, by omega, by omega, ?_⟩
  refine lc_rnd B1 (fun _ => rfl) (fun _ => rfl) (fun _ => rfl) (by omega) fun D1 st H2 hD1 B2 e2 hd1 hst hsl => ?_
  walk_at "gb"
  refine s_joinR hd1 (by omega) ?_
  walk_at "gb"
  refine s_sp2 ⟨b, c, 26, rfl, rfl, B2, by decide, by decide, fun beg H3 g0 g1 B3 e3 => ?_⟩
  walk_at "gb"
  refine ed_lst (K := K) (ds := [.int 1, .int 3, .int 5, .int 7, .int 11, .int 25]) (ad_cons (ed_int 1) (ad_cons (ed_int 3) (ad_cons (ed_int 5) (ad_cons (ed_int 7) (ad_cons (ed_int 11) (ad_cons (ed_int 25) ad_nil)))))) (by decide) H3 B3 (Same.refl _) _ fun v4 H4 hv4 B4 e4 => ?_
  obtain ⟨q4, xs4, rfl, hs4, ha4⟩ := hv4.lst'
  walk_at "gb"
  refine s_sp2 ⟨b, c, _, rfl, B4, .lst hs4 (fun z => by subst z; cases ha4) (by rw [ha4.length]; decide), fun v5 H5 hv5 B5 e5 => ?_⟩
  obtain ⟨d5, hd5, hr5⟩ := ha4.mem hv5
  obtain ⟨stp, rfl, hstp⟩ : ∃ stp, v5 = .int stp ∧ (stp = 1 ∨ stp = 3 ∨ stp = 5 ∨ stp = 7 ∨ stp = 11 ∨ stp = 25) := by
    simp only [List.mem_cons, List.not_mem_nil, or_false] at hd5
    rcases hd5 with rfl | rfl | rfl | rfl | rfl | rfl <;> (cases hr5; exact ⟨_, rfl, by simp⟩)
  walk_at "gb"
  refine s_lst (s_nil ⟨by show 0 ≤ sizeLine; decide, fun p hp => ?_⟩)
  obtain ⟨npb, npc⟩ := bag_ne B5 hp
  have e05 : Same (mn H b) (mn H5 b) := e1.trans (e2.trans (e3.trans (e4.trans e5)))
  have hp0 : H p = none := by
    have : mn H5 b p = none := by rw [mn_ne npb]; exact hp
    have := Same.free e05 this
    rw [mn_ne npb] at this
    exact this
  walk_at "gb"
  refine ⟨n, rfl, by omega, by omega, ?_⟩
  refine for_range (lo := 0) (n := n.toNat) (fun i σ' H' => ∃ (ws : List Str) (vk vt vj : Option V), σ' = [some (.ref b), some (.int n), some (.int 6), some (.str SMALLs), some (.str ⟨st.toArray⟩), vk, some (.int beg), some (.int stp), some (.ref p), vt, vj] ∧
    ws.length = i ∧ Bag H' b c ∧ Same (mn H b) (mn H' b) ∧ H' p = some (.lst (ws.map V.str)) ∧ ∀ (i : Nat) w, ws[i]? = some w → NamedSo st beg stp i w) ?_ ?_ ?_
  · exact ⟨[], _, _, _, rfl, rfl, bag_mut B5 npb npc, e05.trans (mn_new hp (bag_some B5)), upd_same, by simp⟩
  · rintro i σ' H6 hi ⟨ws, vk, vt, vj, rfl, hwl, B6, e6, hp6, hws⟩
    have ez : (0 : Int) + (i : Int) = (i : Int) := by omega
    rw [ez]
    have hstl : (⟨st.toArray⟩ : Str).length = st.length := by simp [Str.length]
    walk_at "gb"
    refine s_lenS (by rw [hstl]; omega) ?_
    walk_at "gb"
    refine s_sp2 ⟨b, c, _, rfl, rfl, B6, by rw [hstl]; omega, by omega, fun r7 H7 r70 r71 B7 e7 => ?_⟩
    walk_at "gb"
    refine ⟨r7, rfl, by omega, by omega, ?_⟩
    rw [hstl] at r71
    refine lc_rnd B7 (fun _ => rfl) (fun _ => rfl) (fun _ => rfl) (by omega) fun D8 tail H8 hD8 B8 e8 hd8 htl htr => ?_
    walk_at "gb"
    refine s_joinR hd8 (by omega) ?_
    walk_at "gb"
    have hp8 : H8 p = some (.lst (ws.map V.str)) := by
      have := (e7.trans e8) p _ (by rw [mn_ne npb]; exact hp6)
      rw [mn_ne npb] at this
      exact this
    refine s_tyL (SqL.of hp8) ?_
    walk_at "gb"
    refine s_rI (.inl ⟨by rcases hstp with rfl | rfl | rfl | rfl | rfl | rfl <;> decide, by rcases hstp with rfl | rfl | rfl | rfl | rfl | rfl <;> decide⟩) ?_
    walk_at "gb"
    refine s_rI (by decide) ?_
    refine s_ixS (by rw [small_len]; decide) (letter_at beg stp i) ?_
    have hs1 : (⟨#[letter beg stp i]⟩ : Str).length = 1 := rfl
    have htl2 : (⟨tail.toArray⟩ : Str).length = tail.length := by simp [Str.length]
    have hline : sizeLine = 16777216 := sizeLine_eq
    refine s_addS (by rw [hstl, hs1]; omega) ?_
    walk_at "gb"
    refine s_addS (by rw [len_app, hstl, hs1, htl2]; omega) ?_
    walk_at "gb"
    have hw2 : (ws.map V.str).length < 100000 := by rw [List.length_map]; omega
    refine s_append hp8 hw2 ?_
    refine ⟨ws ++ [(⟨st.toArray⟩ : Str) ++ ⟨#[letter beg stp i]⟩ ++ ⟨tail.toArray⟩], _, _, _, rfl, by rw [List.length_append, hwl]; rfl, bag_mut B8 npb npc, ?_, by rw [upd_same]; simp, fun j w hj => ?_⟩
    · intro a o e
      have ha : a ≠ p := ne_of_none (mn_at e).2 hp0
      have hb : a ≠ b := (mn_at e).1
      have := (e7.trans e8) a o (e6 a o e)
      rw [mn_ne hb] at this ⊢
      rw [upd_ne ha]
      exact this
    · by_cases hjl : j < ws.length
      · rw [List.getElem?_append_left hjl] at hj
        exact hws j w hj
      · have hj2 : j = i := by
          have := (List.getElem?_eq_some_iff.mp hj).1
          rw [List.length_append, List.length_singleton] at this
          omega
        subst hj2
        rw [List.getElem?_append_right (by omega), hwl, Nat.sub_self] at hj
        have hj := Option.some.inj hj
        subst hj
        refine ⟨tail, ?_, by omega, htr⟩
        rw [TL.tl_append, TL.tl_append, TL.tl_mk, TL.tl_mk, List.append_assoc]
        rfl
  · rintro σ' H6 ⟨ws, vk, vt, vj, rfl, hwl, B6, e6, hp6, hws⟩
    walk_at "gb"
    refine k p ws H6 hp0 B6 e6 (by rw [mn_ne npb]; exact hp6) (by omega) (fun w hw => ?_) (names_nodup hstp (by omega) hws)
    obtain ⟨j, hj⟩ := List.getElem?_of_mem hw
    exact (hws j w hj).name hsl
end
end SW

namespace SW
open PySem PySem.Spec PyProof.Rows L2
/-! ### == of data without dicts -/
mutual
def noD : PyData → Bool
  | .list ds => noDL ds
  | .tuple ds => noDL ds
  | .dict _ => false
  | _ => true
def noDL : List PyData → Bool
  | [] => true
  | d :: ds => noD d && noDL ds
end
mutual
theorem Rp.dp {K : PySem.W.Frag} {H : Hp} : ∀ {v : V} {d : PyData}, Rp K H v d → noD d = true → Dp K H v d ∧ PyData.canLay0 d = true
  | _, _, .non, _ => ⟨.non, rfl⟩
  | _, _, .bl b, _ => ⟨.bl b, rfl⟩
  | _, _, .int i, _ => ⟨.int i, rfl⟩
  | _, _, .str x h, _ => ⟨.str x, h.strOk⟩
  | _, _, .lst hs ha _, n => ⟨.lst hs (RpA.dp ha n).1, (RpA.dp ha n).2⟩
  | _, _, .tup hs ha _, n => ⟨.tup hs (RpA.dp ha n).1, (RpA.dp ha n).2⟩
  | _, _, .dct hs ha _, n => by cases n
theorem RpA.dp {K : PySem.W.Frag} {H : Hp} : ∀ {v : List V} {d : List PyData}, RpA K H v d → noDL d = true → DpAll K H v d ∧ PyData.canLayAll0 d = true
  | _, _, .nil, _ => ⟨.nil, rfl⟩
  | _, _, .cons h a, n => by
    obtain ⟨n1, n2⟩ := Bool.and_eq_true_iff.mp n
    have h1 := Rp.dp h n1
    have h2 := RpA.dp a n2
    exact ⟨.cons h1.1 h2.1, by show (_ && _) = true; rw [h1.2, h2.2]; rfl⟩
end
section
variable {K : PySem.W.Frag} {v w : V} {H : Hp} {Q : VK} {d e : PyData}
theorem shaped_of (h : Rp K H v d) (n : noD d = true) (z : PyData.depth d ≤ 64) : SeqAt.shaped d = true := by
  unfold SeqAt.shaped
  rw [(h.dp n).2, decide_eq_true z]
  rfl
theorem s_eqD (h1 : Rp K H v d) (h2 : Rp K H w e) (n1 : noD d = true) (n2 : noD e = true) (z1 : PyData.depth d ≤ 64) (z2 : PyData.depth e ≤ 64) (k : Q (.bl (PyData.eqv d e)) H) : uEq K v w H Q :=
  .inr ⟨d, e, (h1.dp n1).1, (h2.dp n2).1, shaped_of h1 n1 z1, shaped_of h2 n2 z2, k⟩
theorem s_neD (h1 : Rp K H v d) (h2 : Rp K H w e) (n1 : noD d = true) (n2 : noD e = true) (z1 : PyData.depth d ≤ 64) (z2 : PyData.depth e ≤ 64) (k : Q (.bl (!PyData.eqv d e)) H) : uNe K v w H Q :=
  .inr ⟨d, e, (h1.dp n1).1, (h2.dp n2).1, shaped_of h1 n1 z1, shaped_of h2 n2 z2, k⟩
theorem noDL_strs : ∀ l : List Str, noDL (l.map PyData.str) = true
  | [] => rfl
  | _ :: l => by show (true && noDL (l.map PyData.str)) = true; rw [noDL_strs l]; rfl
theorem depth_strs : ∀ l : List Str, PyData.depthAll (l.map PyData.str) = 0
  | [] => rfl
  | _ :: l => by show max 0 (PyData.depthAll (l.map PyData.str)) = 0; rw [depth_strs l]; rfl
theorem eqv_nil (ds : List PyData) : PyData.eqv (.list ds) (.list []) = ds.isEmpty := by cases ds <;> rfl
/-- signs of a text that are none of z -/
def bads (x z : Str) : List Str := (x.cps.toList.filter fun c => !decide (c ∈ z.cps.toList)).map fun c => ⟨#[c]⟩
theorem bads_empty (x z : Str) : ((bads x z).map PyData.str).isEmpty = allIn x z := by
  unfold bads allIn
  generalize x.cps.toList = l
  induction l with
  | nil => rfl
  | cons c r ih =>
    by_cases h : c ∈ z.cps.toList
    · rw [List.filter_cons_of_neg (by simp [h] at *), ih, List.all_cons, decide_eq_true h, Bool.true_and]
    · rw [List.filter_cons_of_pos (by simp only [Bool.not_eq_true', decide_eq_false_iff_not]; exact h), List.all_cons, decide_eq_false h, Bool.false_and]
      rfl
theorem s_bads {x z : Str} {σ : L2.St} {i j : Nat} (hx : σ[i]? = some (some (.str x))) (hj : ∀ y, wipe ((wipe σ [j]).set j (some y)) [j] = wipe σ [j]) (hg : ∀ y : V, ((wipe σ [j]).set j (some y))[j]? = some (some y)) (hz : Sok x)
    (k : ∀ Dl H', Same H H' → Rp K H' (.ref Dl) (.list ((bads x z).map PyData.str)) → Q (.ref Dl) H') :
    tLc (iAny K (tVar i)) (gName j) (tTest (tOp (uNi K) (tVar j) (tC (.str z)))) (tVar j) [j] σ H Q := by
  refine s_lc (i_str (s_var hx ⟨x, rfl, ?_⟩))
  have hlen : ((signs x).filter (fun y => match y with | .str w => !decide (w.cps.getD 0 0 ∈ z.cps.toList) | _ => false)).length ≤ 100000 := by
    refine Nat.le_trans (List.length_filter_le _ _) ?_
    rw [signs_length]; exact hz.len
  refine lc_pure (Yl.str x) (fun y => match y with | .str w => !decide (w.cps.getD 0 0 ∈ z.cps.toList) | _ => false) (fun y => y) hlen hj (fun y H' hm e QT q => ?_) (fun y H' hm _ e QV q => ?_) (fun Dl H' hD e hl => ?_)
  · obtain ⟨c, hc, rfl⟩ := List.mem_map.mp hm
    refine s_test (s_op (s_var (hg _) (s_c (s_niC (s_exB ?_)))))
    exact q H' (Same.refl _)
  · obtain ⟨c, hc, rfl⟩ := List.mem_map.mp hm
    exact s_var (hg _) (q H' (Same.refl _))
  · refine k Dl H' e ?_
    have el : (signs x).filter (fun y => match y with | .str w => !decide (w.cps.getD 0 0 ∈ z.cps.toList) | _ => false) = (bads x z).map V.str := by
      unfold signs bads
      rw [List.filter_map, List.map_map]
      rfl
    rw [el, List.map_id'] at hl
    refine Rp.lst (SqL.of hl) ?_ ?_
    · have hsub : ∀ w ∈ bads x z, Sok w := by
        intro w hw
        unfold bads at hw
        obtain ⟨c, hc, rfl⟩ := List.mem_map.mp hw
        exact ⟨by show 1 ≤ 100000; decide, fun y hy => by
          rw [show (⟨#[c]⟩ : Str).cps.toList = [c] from rfl] at hy
          rw [List.mem_singleton.mp hy]
          exact hz.ok c (List.mem_filter.mp hc).1⟩
      clear hl el hlen
      generalize bads x z = l at hsub
      induction l with
      | nil => exact .nil
      | cons a r ih => exact .cons (.str a (hsub a (List.mem_cons_self ..))) (ih fun w hw => hsub w (List.mem_cons_of_mem _ hw))
    · rw [List.length_map]
      have : (bads x z).length ≤ x.cps.toList.length := by
        unfold bads
        rw [List.length_map]
        exact List.length_filter_le _ _
      have h2 := hz.len
      rw [TL.len_tl] at h2
      exact Nat.le_trans this h2
/-- .. == []: a new empty list -/
theorem s_eqNew {a : Addr} {l : List Str} (h : Rp K H (.ref a) (.list (l.map PyData.str))) {σ : L2.St} (k : ∀ H', Same H H' → Q (.bl (l.map PyData.str).isEmpty) H') : tLst tNil σ H fun y H2 => uEq K (.ref a) y H2 Q :=
  s_lst (s_nil ⟨by show 0 ≤ sizeLine; decide, fun p hp => s_eqD (h.mono (same_new hp)) (.lst (SqL.of upd_same) .nil (by simp)) (noDL_strs l) rfl (by show PyData.depthAll _ + 1 ≤ 64; rw [depth_strs]; decide) (by decide) (by rw [eqv_nil]; exact k _ (same_new hp))⟩)
theorem s_neNew {a : Addr} {l : List Str} (h : Rp K H (.ref a) (.list (l.map PyData.str))) {σ : L2.St} (k : ∀ H', Same H H' → Q (.bl (!(l.map PyData.str).isEmpty)) H') : tLst tNil σ H fun y H2 => uNe K (.ref a) y H2 Q :=
  s_lst (s_nil ⟨by show 0 ≤ sizeLine; decide, fun p hp => s_neD (h.mono (same_new hp)) (.lst (SqL.of upd_same) .nil (by simp)) (noDL_strs l) rfl (by show PyData.depthAll _ + 1 ≤ 64; rw [depth_strs]; decide) (by decide) (by rw [eqv_nil]; exact k _ (same_new hp))⟩)
end
end SW

namespace SW
open PySem PySem.Spec PyProof.Rows L2
section
variable {K : PySem.W.Frag} {v : V} {H : Hp} {Q : VK} {d : PyData} {E : XK}
/-! ### drawn out of a list that is written there -/
def EP (K : PySem.W.Frag) (b c : Addr) (t : TE) (σ : L2.St) (P : PyData → Prop) (H : Hp) : Prop := ∀ H1, Bag H1 b c → Same (mn H b) (mn H1 b) → ∀ Q : VK,
  (∀ v d H2, Rp K (mn H2 b) v d → P d → Bag H2 b c → Same (mn H1 b) (mn H2 b) → Q v H2) → t σ H1 Q
def AP (K : PySem.W.Frag) (b c : Addr) (t : TA) (σ : L2.St) (P : PyData → Prop) (n : Nat) (H : Hp) : Prop := ∀ H1, Bag H1 b c → Same (mn H b) (mn H1 b) → ∀ QA : List V → Hp → Prop,
  (∀ vs ds H2, RpA K (mn H2 b) vs ds → ds.length = n → (∀ d ∈ ds, P d) → Bag H2 b c → Same (mn H1 b) (mn H2 b) → QA vs H2) → t σ H1 QA
variable {b c : Addr} {σ : L2.St} {P : PyData → Prop} {te : TE} {t : TA} {n : Nat} {ds : List PyData}
theorem ep_ed (h : ExprD K b c te σ d H) (hp : P d) : EP K b c te σ P H := fun H1 B e Q k => h H1 B e _ fun v H2 hv B2 e2 => k v d H2 hv hp B2 e2
theorem ap_nil : AP K b c tNil σ P 0 H := fun H1 B e QA k => k [] [] H1 .nil rfl (fun _ h => nomatch h) B (Same.refl _)
theorem ap_cons (h : EP K b c te σ P H) (hr : AP K b c t σ P n H) : AP K b c (tCons te t) σ P (n + 1) H := fun H1 B e QA k =>
  h H1 B e _ fun v d H2 hv hp B2 e2 => hr H2 B2 (e.trans e2) _ fun vs ds H3 hvs hl hps B3 e3 =>
    k (v :: vs) (d :: ds) H3 (.cons (hv.mono e3) hvs) (by rw [List.length_cons, hl]) (fun q hq => by
      rcases List.mem_cons.mp hq with rfl | hq
      · exact hp
      · exact hps q hq) B3 (e2.trans e3)
theorem ap_ad (h : ArgsD K b c t σ ds H) (hp : ∀ d ∈ ds, P d) : AP K b c t σ P ds.length H := fun H1 B e QA k => h H1 B e _ fun vs H2 hvs B2 e2 => k vs ds H2 hvs rfl hp B2 e2
theorem draw_seq {w : V} (B : Bag H b c) (hw : Rp K (mn H b) w (.list ds) ∨ Rp K (mn H b) w (.tuple ds)) (hn : ds ≠ []) (hz : ds.length ≤ 100000) (hp : ∀ d ∈ ds, P d) (k : ∀ v d H2, Rp K (mn H2 b) v d → P d → Bag H2 b c → Same (mn H b) (mn H2 b) → Q v H2) :
    sp__law_of K [.ref b, w] H Q E := by
  rcases hw with hw | hw
  · obtain ⟨p, xs, rfl, hs, ha⟩ := hw.lst'
    refine ⟨_, _, rfl, b, c, _, rfl, B, .lst hs (fun z => ?_) (by rw [ha.length]; exact hz), fun x H3 hx B3 e3 => ?_⟩
    · subst z; cases ha; exact hn rfl
    · obtain ⟨d, hd, hr⟩ := ha.mem hx
      exact k x d H3 (hr.mono e3) (hp d hd) B3 e3
  · obtain ⟨p, xs, rfl, hs, ha⟩ := hw.tup'
    refine ⟨_, _, rfl, b, c, _, rfl, B, .tup hs (fun z => ?_) (by rw [ha.length]; exact hz), fun x H3 hx B3 e3 => ?_⟩
    · subst z; cases ha; exact hn rfl
    · obtain ⟨d, hd, hr⟩ := ha.mem hx
      exact k x d H3 (hr.mono e3) (hp d hd) B3 e3
theorem draw_lst (B : Bag H b c) (h : AP K b c t σ P n H) (hn : 0 < n) (hz : n ≤ 100000) (k : ∀ v d H2, Rp K (mn H2 b) v d → P d → Bag H2 b c → Same (mn H b) (mn H2 b) → Q v H2) :
    tLst t σ H fun x H1 => tNil σ H1 fun xs H2 => sp__law_of K ((.ref b :: x :: xs) ++ []) H2 Q E :=
  s_lst (h H B (Same.refl _) _ fun vs ds H2 hvs hl hps B2 e2 => ⟨by rw [hvs.length, hl]; exact Nat.le_trans hz (by decide), fun p hp => s_nil (draw_seq (B2.same (same_new hp)) (.inl (new_lst hp (bag_some B2) hvs (by rw [hl]; exact hz)))
    (fun z => by subst z; simp at hl; omega) (by rw [hl]; exact hz) hps fun v d H3 hv hp3 B3 e3 => k v d H3 hv hp3 B3 (e2.trans ((mn_new hp (bag_some B2)).trans e3)))⟩)
theorem draw_ad (B : Bag H b c) (h : ArgsD K b c t σ ds H) (hn : 0 < ds.length) (hz : ds.length ≤ 100000) (k : ∀ v d H2, d ∈ ds → Rp K (mn H2 b) v d → Bag H2 b c → Same (mn H b) (mn H2 b) → Q v H2) :
    tLst t σ H fun x H1 => tNil σ H1 fun xs H2 => sp__law_of K ((.ref b :: x :: xs) ++ []) H2 Q E :=
  draw_lst B (ap_ad (P := fun d => d ∈ ds) h fun _ h => h) hn hz fun v d H2 h1 h2 => k v d H2 h2 h1
theorem new_ad (B : Bag H b c) (h : ArgsD K b c t σ ds H) (hz : ds.length ≤ 100000) (k : ∀ p H2, Rp K (mn H2 b) (.ref p) (.list ds) → Bag H2 b c → Same (mn H b) (mn H2 b) → Q (.ref p) H2) : tLst t σ H Q :=
  h H B (Same.refl _) _ fun vs H2 hvs B2 e2 => ⟨by rw [hvs.length]; exact Nat.le_trans hz (by decide), fun p hp => k p _ (new_lst hp (bag_some B2) hvs hz) (B2.same (same_new hp)) (e2.trans (mn_new hp (bag_some B2)))⟩
theorem new_adT (B : Bag H b c) (h : ArgsD K b c t σ ds H) (hz : ds.length ≤ 100000) (k : ∀ p H2, Rp K (mn H2 b) (.ref p) (.tuple ds) → Bag H2 b c → Same (mn H b) (mn H2 b) → Q (.ref p) H2) : tTup t σ H Q :=
  h H B (Same.refl _) _ fun vs H2 hvs B2 e2 => ⟨by rw [hvs.length]; exact Nat.le_trans hz (by decide), fun p hp => k p _ (new_tup hp (bag_some B2) hvs hz) (B2.same (same_new hp)) (e2.trans (mn_new hp (bag_some B2)))⟩
/-- a drawn thing among the items of a list -/
theorem ep_draw {i j : Nat} {w : V} (hi : σ[i]? = some (some (.ref b))) (hj : σ[j]? = some (some w)) (hw : Rp K (mn H b) w (.list ds)) (hn : ds ≠ []) (hz : ds.length ≤ 100000) (hp : ∀ d ∈ ds, P d) :
    EP K b c (tCall (sp__law_of K) [] E (tCons (tVar i) (tCons (tVar j) tNil))) σ P H := fun H1 B e Q k =>
  s_call (s_cons (s_var hi (s_cons (s_var hj (s_nil (draw_seq B (.inl (hw.mono e)) hn hz hp fun v d H2 h1 h2 B2 e2 => k v d H2 h1 h2 B2 e2))))))
/-! ### texts -/
theorem cutS_sub {x : Str} {lo hi : Option Int} {z : Nat} (h : z ∈ (cutS x lo hi).cps.toList) : z ∈ x.cps.toList := by
  unfold cutS at h
  exact List.mem_of_mem_drop (List.mem_of_mem_take h)
theorem Sok.cut {x : Str} (h : Sok x) (lo hi : Option Int) : Sok (cutS x lo hi) := ⟨Nat.le_trans (cutS_length x lo hi) h.len, fun c hc => h.ok c (cutS_sub hc)⟩
theorem Sok.app {x y : Str} (h : Sok x) (g : Sok y) (hz : x.length + y.length ≤ 100000) : Sok (x ++ y) := ⟨by rw [len_app]; exact hz, fun c hc => by
  have e : (x ++ y).cps.toList = x.cps.toList ++ y.cps.toList := TL.tl_append x y
  rw [e] at hc
  rcases List.mem_append.mp hc with hc | hc
  · exact h.ok c hc
  · exact g.ok c hc⟩
theorem s_addS' {a b : Str} (ha : a.length ≤ 100000) (hb : b.length ≤ 100000) (h : Q (.str (a ++ b)) H) : uAdd K (.str a) (.str b) H Q := s_addS (by have h : sizeLine = 16777216 := sizeLine_eq; omega) h
theorem isName_sok {x : Str} (h : isNameS x = true) : x.length ≤ 6 ∧ 1 ≤ x.length ∧ Sok x := by
  unfold isNameS at h
  rw [Bool.and_eq_true, Bool.and_eq_true] at h
  obtain ⟨h1, h2, h3⟩ := h
  have h1 := of_decide_eq_true h1
  have h2 := of_decide_eq_true h2
  refine ⟨h2, h1, by omega, fun z hz => ?_⟩
  have := List.all_eq_true.mp h3 z hz
  have := (small_iff z).mp (of_decide_eq_true this)
  omega
theorem s_catT {x y : V} {xs ys : List PyData} (hx : Rp K H x (.tuple xs)) (hy : Rp K H y (.tuple ys)) (hz : xs.length + ys.length ≤ 100000) (k : ∀ z H', Same H H' → Rp K H' z (.tuple (xs ++ ys)) → Q z H') : uAdd K x y H Q := by
  obtain ⟨p, us, rfl, hs, ha⟩ := hx.tup'
  obtain ⟨q, ws, rfl, hs2, ha2⟩ := hy.tup'
  have hl := ha.length
  have hl2 := ha2.length
  have hline : sizeLine = 16777216 := sizeLine_eq
  refine .inr (.inr (.inr ⟨p, q, us, ws, rfl, rfl, hs, hs2, by omega, fun e => ?_, fun _ e => ?_, fun _ _ r hr => ?_⟩))
  · subst e; cases ha; exact k _ H (Same.refl _) hy
  · subst e; cases ha2; rw [List.append_nil] at k; exact k _ H (Same.refl _) hx
  · exact k _ _ (same_new hr) (.tup (SqT.of upd_same) ((ha.append ha2).mono (same_new hr)) (by rw [List.length_append]; omega))
theorem s_catL {p q : Addr} {xs ys : List V} (hx : H p = some (.lst xs)) (hy : H q = some (.lst ys)) (hz : xs.length + ys.length ≤ 100000) (k : ∀ r H', H r = none → Same H H' → H' r = some (.lst (xs ++ ys)) → Q (.ref r) H') : uAdd K (.ref p) (.ref q) H Q :=
  .inr (.inr (.inl ⟨p, q, xs, ys, rfl, rfl, hx, hy, Nat.le_trans hz (by decide), fun r hr => k r _ hr (same_new hr) upd_same⟩))
theorem s_lstK {xs : List V} (hz : xs.length ≤ 100000) (k : ∀ p H', H p = none → Same H H' → H' p = some (.lst xs) → Q (.ref p) H') : xs.length ≤ sizeLine ∧ ∀ p, H p = none → Q (.ref p) (L2.upd H p (.lst xs)) :=
  ⟨Nat.le_trans hz (by decide), fun p hp => k p _ hp (same_new hp) upd_same⟩
theorem s_tupK {xs : List V} (hz : xs.length ≤ 100000) (k : ∀ p H', H p = none → Same H H' → H' p = some (.tup xs) → Q (.ref p) H') : xs.length ≤ sizeLine ∧ ∀ p, H p = none → Q (.ref p) (L2.upd H p (.tup xs)) :=
  ⟨Nat.le_trans hz (by decide), fun p hp => k p _ hp (same_new hp) upd_same⟩
theorem s_callN {n m : Nat} {sp : Sp} {gV : List V → List V → List V} {t tk : TA} {σ : L2.St} (h : t σ H fun vs H1 => tk σ H1 fun zs H2 => vs.length = n ∧ zs.length = m ∧ sp (gV vs zs) H2 Q E) : L2.tCallN n m sp gV E t tk σ H Q := h
theorem cutV_sub_len (xs : List V) (lo hi : Option Int) : (cutV xs lo hi).length ≤ xs.length := by
  unfold cutV
  rw [List.length_take, List.length_drop]
  omega
def cutD (xs : List PyData) (lo hi : Option Int) : List PyData := (xs.drop (HT.sIx xs.length 0 lo)).take (HT.sIx xs.length xs.length hi - HT.sIx xs.length 0 lo)
theorem RpA.cut {xs : List V} {ds : List PyData} (h : RpA K H xs ds) (lo hi : Option Int) : RpA K H (cutV xs lo hi) (cutD ds lo hi) := by
  unfold cutV cutD
  rw [h.length]
  exact (h.drop _).take _
theorem cutD_len (xs : List PyData) (lo hi : Option Int) : (cutD xs lo hi).length ≤ xs.length := by
  unfold cutD
  rw [List.length_take, List.length_drop]
  omega
theorem s_slT' {x : V} {ds : List PyData} {lo hi : Option Int} (hx : Rp K H x (.tuple ds)) (k : ∀ z H', Same H H' → Rp K H' z (.tuple (cutD ds lo hi)) → Q z H') : uSl K x lo hi H Q := by
  have hz := Rp.len (.inl hx)
  obtain ⟨p, us, rfl, hs, ha⟩ := hx.tup'
  refine s_slT hs fun q H' e hq => k _ H' e (.tup hq ((ha.cut lo hi).mono e) ?_)
  rw [(ha.cut lo hi).length]
  exact Nat.le_trans (cutD_len ds lo hi) hz
theorem s_slL' {x : V} {ds : List PyData} {lo hi : Option Int} (hx : Rp K H x (.list ds)) (k : ∀ q H', H q = none → Same H H' → Rp K H' (.ref q) (.list (cutD ds lo hi)) → Q (.ref q) H') : uSl K x lo hi H Q := by
  have hz := Rp.len (.inr hx)
  obtain ⟨p, us, rfl, hs, ha⟩ := hx.lst'
  refine s_slL hs fun q H' hn e hq => k _ H' hn e (.lst (SqL.of hq) ((ha.cut lo hi).mono e) ?_)
  rw [(ha.cut lo hi).length]
  exact Nat.le_trans (cutD_len ds lo hi) hz
/-! ### the same beside a bag -/
theorem mn_tup {p : Addr} {xs : List V} {ds : List PyData} (B : Bag H b c) (hp : H p = none) (h : RpA K (mn H b) xs ds) (hz : ds.length ≤ 100000) (k : ∀ q H', Bag H' b c → Same (mn H b) (mn H' b) → Rp K (mn H' b) (.ref q) (.tuple ds) → Q (.ref q) H') : Q (.ref p) (L2.upd H p (.tup xs)) :=
  k p _ (B.same (same_new hp)) (mn_new hp (bag_some B)) (new_tup hp (bag_some B) h hz)
theorem b_catT {x y : V} {xs ys : List PyData} (B : Bag H b c) (hx : Rp K (mn H b) x (.tuple xs)) (hy : Rp K (mn H b) y (.tuple ys)) (hz : xs.length + ys.length ≤ 100000) (k : ∀ z H', Bag H' b c → Same (mn H b) (mn H' b) → Rp K (mn H' b) z (.tuple (xs ++ ys)) → Q z H') : uAdd K x y H Q := by
  obtain ⟨p, us, rfl, hs, ha⟩ := hx.tup'
  obtain ⟨q, ws, rfl, hs2, ha2⟩ := hy.tup'
  have hl := ha.length
  have hl2 := ha2.length
  have hline : sizeLine = 16777216 := sizeLine_eq
  refine .inr (.inr (.inr ⟨p, q, us, ws, rfl, rfl, seqT_mn hs, seqT_mn hs2, by omega, fun e => ?_, fun _ e => ?_, fun _ _ r hr => ?_⟩))
  · subst e; cases ha; exact k _ H B (Same.refl _) hy
  · subst e; cases ha2; rw [List.append_nil] at k; exact k _ H B (Same.refl _) hx
  · exact mn_tup B hr (ha.append ha2) (by rw [List.length_append]; omega) fun q H' => k _ H'
theorem b_slT {x : V} {ds : List PyData} {lo hi : Option Int} (B : Bag H b c) (hx : Rp K (mn H b) x (.tuple ds)) (k : ∀ z H', Bag H' b c → Same (mn H b) (mn H' b) → Rp K (mn H' b) z (.tuple (cutD ds lo hi)) → Q z H') : uSl K x lo hi H Q := by
  have hz := Rp.len (.inl hx)
  obtain ⟨p, us, rfl, hs, ha⟩ := hx.tup'
  have hlen := Nat.le_trans (cutD_len ds lo hi) hz
  refine .inr (.inl ⟨p, us, rfl, seqT_mn hs, fun hw => k _ H B (Same.refl _) (.tup hs ?_ ?_), fun _ q hq => mn_tup B hq (ha.cut lo hi) hlen fun q H' => k _ H'⟩)
  · have := ha.cut lo hi
    rwa [cut_whole hw] at this
  · have := (ha.cut lo hi).length
    rw [cut_whole hw] at this
    rw [this]; exact hlen
/-- a tuple of what was found -/
theorem b_tup {xs : List V} {ds : List PyData} {f : V → Hp → Prop} (B : Bag H b c) (h : RpA K (mn H b) xs ds) (hz : ds.length ≤ 100000) (k : ∀ q H', Bag H' b c → Same (mn H b) (mn H' b) → Rp K (mn H' b) (.ref q) (.tuple ds) → f (.ref q) H') :
    xs.length ≤ sizeLine ∧ ∀ p, H p = none → f (.ref p) (L2.upd H p (.tup xs)) :=
  ⟨by rw [h.length]; exact Nat.le_trans hz (by decide), fun p hp => mn_tup B hp h hz k⟩
theorem b_lst {xs : List V} {ds : List PyData} {f : V → Hp → Prop} (B : Bag H b c) (h : RpA K (mn H b) xs ds) (hz : ds.length ≤ 100000) (k : ∀ q H', Bag H' b c → Same (mn H b) (mn H' b) → Rp K (mn H' b) (.ref q) (.list ds) → f (.ref q) H') :
    xs.length ≤ sizeLine ∧ ∀ p, H p = none → f (.ref p) (L2.upd H p (.lst xs)) :=
  ⟨by rw [h.length]; exact Nat.le_trans hz (by decide), fun p hp => k p _ (B.same (same_new hp)) (mn_new hp (bag_some B)) (new_lst hp (bag_some B) h hz)⟩
end
end SW

local macro_rules | `(tactic| walk_at "ad") => `(tactic| first
  | with_reducible exact SW.ad_nil | ((with_reducible apply SW.ad_cons); (walk_at "ad"); (walk_at "ad")) | with_reducible exact SW.ed_int _ | with_reducible exact SW.ed_bl _ | with_reducible exact SW.ed_non | ((with_reducible apply SW.ed_str); exact SW.sok_lit (by decide +kernel)) | with_reducible exact SW.ed_sub
  | ((with_reducible apply SW.ed_tup); (walk_at "ad"); exact Nat.le_of_ble_eq_true rfl) | ((with_reducible apply SW.ed_lst); (walk_at "ad"); exact Nat.le_of_ble_eq_true rfl) | with_reducible exact SW.ed_dict0 | exact SW.ed_var rfl (by walk_at "rp"))
namespace SW
open PySem PySem.Spec PyProof.Rows L2
section
variable {K : PySem.W.Frag} {vs : List V} {H : Hp} {Q : VK} {E : XK}
def spNo : Sp := fun _ _ _ _ => False
theorem fn_no {P : Program} {w : World} {mg : Str → Option Value} {base : Heap} {CX : CXT} {k : Nat} {f : Addr} {fd : FuncData} {ps : List Str} : FnOk P w K mg base CX k f fd ps spNo := ⟨fun _ _ _ _ h => h.elim, fun _ _ _ _ _ _ _ _ _ _ _ _ _ h => h.elim⟩
theorem in_is_whole (h : sp_is_whole K vs H Q E) : t_is_whole K (Dn Q) (start ["value"] vs) H := by obtain ⟨v, rfl, d, hd, k⟩ := h; exact rd_is_whole hd k
theorem in_is_number (h : sp_is_number K vs H Q E) : t_is_number K (Dn Q) (start ["value", "least", "most"] vs) H := by obtain ⟨_, _, _, rfl, d, i, j, hd, rfl, rfl, k⟩ := h; exact rd_is_number hd k
theorem in_is_name (h : sp_is_name K vs H Q E) : t_is_name K (Dn Q) (start ["value", "sign"] vs) H := by obtain ⟨v, rfl, d, hd, k⟩ := h; exact rd_is_name hd k
theorem in_is_standing (h : sp_is_standing K vs H Q E) : t_is_standing K (Dn Q) (start ["value"] vs) H := by obtain ⟨v, rfl, d, hd, k⟩ := h; exact rd_is_standing hd k
theorem in_is_place (h : sp_is_place K vs H Q E) : t_is_place K (Dn Q) (start ["value"] vs) H := by obtain ⟨v, rfl, d, hd, k⟩ := h; exact rd_is_place hd k
theorem in_is_key (h : sp_is_key K vs H Q E) : t_is_key K (Dn Q) (start ["value", "word", "rest"] vs) H := by obtain ⟨v, rfl, d, hd, k⟩ := h; exact rd_is_key hd k
theorem in_is_account (h : sp_is_account K vs H Q E) : t_is_account K (Dn Q) (start ["value", "yard", "mark", "hour"] vs) H := by obtain ⟨v, rfl, d, hd, k⟩ := h; exact rd_is_account hd k
theorem in_account_of (h : sp_account_of K vs H Q E) : t_account_of K (Dn Q) (start ["standing"] vs) H := by obtain ⟨v, rfl, x, n, hd, h1, h2, h3, k⟩ := h; exact rd_account_of hd h1 h2 h3 k
theorem in_number_in (h : sp_number_in K vs H Q E) : t_number_in K (Dn Q) (start ["text", "sign"] vs) H := by obtain ⟨v, rfl, d, hd, k⟩ := h; exact rd_number_in hd k
theorem in__law_bag (h : sp__law_bag K vs H Q E) : t__law_bag K (Dn Q) (start ["_law_script", "_law_cells"] vs) H := by obtain ⟨v, rfl, a, ns, rfl, hs, hl, k⟩ := h; exact rd__law_bag hs hl k
theorem in__law_take (h : sp__law_take K vs H Q E) : t__law_take K (Dn Q) (start ["_law_bag_here", "_law_size", "_law_cell", "_law_digit"] vs) H := by obtain ⟨_, _, rfl, b, c, n, rfl, rfl, B, h1, h2, k⟩ := h; exact rd__law_take B h1 h2 k
theorem in__law_of (h : sp__law_of K vs H Q E) : t__law_of K (Dn Q) (start ["_law_bag_here", "_law_some"] vs) H := by obtain ⟨_, _, rfl, b, c, M, rfl, B, hD, k⟩ := h; exact rd__law_of B hD k
abbrev spr__law_same (K : PySem.W.Frag) (n : Nat) : Sp := spSame K n
theorem in0__law_same (h : spSame K 0 vs H Q E) : t__law_same K spNo (Dn Q) (start ["_law_found", "_law_due", "_law_k"] vs) H := by
  obtain ⟨_, _, rfl, d, h1, h2, h3, k⟩ := h
  exact rd__law_same h1 h2 h3 k fun _ _ _ _ _ _ _ _ h => absurd h (Nat.not_lt_zero _)
theorem inS__law_same {n : Nat} (h : spSame K (n + 1) vs H Q E) : t__law_same K (spSame K n) (Dn Q) (start ["_law_found", "_law_due", "_law_k"] vs) H := by
  obtain ⟨_, _, rfl, d, h1, h2, h3, k⟩ := h
  exact rd__law_same h1 h2 h3 k fun v w H Q E d' q1 q2 q3 q4 => ⟨v, w, rfl, d', q1, q2, Nat.le_of_lt_succ q3, q4⟩
theorem in__law_names (h : sp__law_names K vs H Q E) : t__law_names K (Dn Q) (start ["_law_bag_here", "_law_count", "_law_cap", "_law_abc", "_law_stem", "_law_k", "_law_begin", "_law_step", "_law_found", "_law_tail", "_law_j"] vs) H := by
  obtain ⟨_, _, _, rfl, b, c, n, rfl, rfl, rfl, B, h1, h2, k⟩ := h; exact rd__law_names B h1 h2 k
theorem in__law_odd (h : sp__law_odd K vs H Q E) : t__law_odd K (Dn Q) (start ["_law_bag_here"] vs) H := by obtain ⟨_, rfl, b, c, rfl, B, k⟩ := h; exact rd__law_odd B k
end
end SW

namespace K01
open PySem PySem.Spec PyProof.Rows L2 SW
def top (i : Nat) : Stmt := PySem.Challenge.pw_standworth_k01_words_judged.main.body.getD i (.Pass ⟨0, 0, 0, 0⟩)
def dd (x : Str) (i : Nat) (dfl : List He.Dv := []) : He.DefD := ⟨(x, none), x, x, defArgs (top i), defBody (top i), defScope (top i), dfl, []⟩
def fn : List He.DefD := ([dd "is_whole" 8, dd "is_number" 9, dd "is_name" 10, dd "is_standing" 11, dd "is_place" 12, dd "is_key" 13, dd "is_account" 14, dd "account_of" 15, dd "number_in" 16, dd "_law_bag" 18, dd "_law_take" 19, dd "_law_of" 20] : List He.DefD) ++ ([dd "_law_same" 21, dd "_law_names" 22 [.int 6], dd "_law_odd" 23, dd "_law_own_name" 24, dd "_law_own_number" 25, dd "_law_own_standing" 26, dd "_law_own_key" 27, dd "_law_own_account" 28, dd "_law_own_read" 29, dd "_law_good" 30, dd "_law_bent_text" 31, dd "_law_bent" 32] : List He.DefD) ++ ([dd "_law_value" 33, dd "law" 34] : List He.DefD)
def fa : List He.Fa := ([.glo "is_whole", .glo "is_number", .glo "is_name", .glo "is_standing", .glo "is_place", .glo "is_key", .glo "is_account", .glo "account_of", .glo "number_in", .glo "_law_bag", .glo "_law_take", .glo "_law_of"] : List He.Fa) ++ ([.glo "_law_same", .glo "_law_names", .glo "_law_odd", .glo "_law_own_name", .glo "_law_own_number", .glo "_law_own_standing", .glo "_law_own_key", .glo "_law_own_account", .glo "_law_own_read", .glo "_law_good", .glo "_law_bent_text", .glo "_law_bent"] : List He.Fa) ++ ([.glo "_law_value", .glo "law", .str "SMALL" "abcdefghijklmnopqrstuvwxyz", .str "DIGITS" "0123456789", .str "HOURS" "012345678", .int "MAX_NAME" 6, .int "MAX_HOUR" 8, .int "MAX_DIGITS" 9, .glo "HABITS", .free "all", .free "list", .free "isinstance"] : List He.Fa) ++ ([.free "dict", .free "range", .free "int", .free "str", .free "tuple", .free "bool", .free "len"] : List He.Fa)
def ex (K : PySem.W.Frag) : Bool := He.tupB K "HABITS" [.str "least", .str "greatest", .str "middle"]
abbrev R : PySem.W.OpenRow := PySem.W.OpenLaw.row PySem.Challenge.rw_standworth_k01_words_judged
abbrev hk : PySem.W.Hook := hookX 5 fa fn ex
def ob (s : PySem.W.SharedT) : AlX := obsXG 5 fa fn ex (HandSHeadRun.getT s)
theorem ob_eq (s : PySem.W.SharedT) : ob s = hk.obs s.abs := obsXG_eq (HandSHeadRun.getT_eq s)
def loose : List Str := (["__name__", "SMALL", "DIGITS", "HOURS", "HABITS", "MAX_NAME", "MAX_HOUR", "MAX_DIGITS", "is_whole", "is_number", "is_name", "is_standing"] : List Str) ++ (["is_place", "is_key", "is_account", "account_of", "number_in", "_law_bag", "_law_take", "_law_of", "_law_same", "_law_names", "_law_odd", "_law_own_name"] : List Str) ++ (["_law_own_number", "_law_own_standing", "_law_own_key", "_law_own_account", "_law_own_read", "_law_good", "_law_bent_text", "_law_bent", "_law_value"] : List Str)
theorem run (w : World) : HandSHeadRun.RunEq R (PySem.W.view R.prog [34]) hk ob 4000 loose w := by
  intro os
  kernel_rfl
namespace KB
def g_account_of_0_standing {α : Type} (us ws : List α) : List α := ((ws.drop 0).take 1)
def g_is_account_0_value {α : Type} (us ws : List α) : List α := ((ws.drop 0).take 1)
def g_is_key_0_value {α : Type} (us ws : List α) : List α := ((ws.drop 0).take 1)
def g_is_name_0_value {α : Type} (us ws : List α) : List α := ((ws.drop 0).take 1)
def g_is_number_0_least_most_value {α : Type} (us ws : List α) : List α := (((ws.drop 2).take 1) ++ (((ws.drop 0).take 1) ++ ((ws.drop 1).take 1)))
def g_is_place_0_value {α : Type} (us ws : List α) : List α := ((ws.drop 0).take 1)
def g_is_standing_0_value {α : Type} (us ws : List α) : List α := ((ws.drop 0).take 1)
def g_number_in_0_text {α : Type} (us ws : List α) : List α := ((ws.drop 0).take 1)
end KB
structure Tx (K : PySem.W.Frag) (mg : Str → Option Value) where
  fd_is_whole : FuncData
  F_is_whole : FunD K "is_whole" "is_whole" (defArgs (top 8)) (defBody (top 8)) (defScope (top 8)) [] [] (He.ga K "is_whole") fd_is_whole
  g_is_whole : mg "is_whole" = some (.ref (He.ga K "is_whole"))
  B_is_whole : Binds K fd_is_whole ["value"] []
  fd_is_number : FuncData
  F_is_number : FunD K "is_number" "is_number" (defArgs (top 9)) (defBody (top 9)) (defScope (top 9)) [] [] (He.ga K "is_number") fd_is_number
  g_is_number : mg "is_number" = some (.ref (He.ga K "is_number"))
  B_is_number : Binds K fd_is_number ["value", "least", "most"] []
  fd_is_name : FuncData
  F_is_name : FunD K "is_name" "is_name" (defArgs (top 10)) (defBody (top 10)) (defScope (top 10)) [] [] (He.ga K "is_name") fd_is_name
  g_is_name : mg "is_name" = some (.ref (He.ga K "is_name"))
  B_is_name : Binds K fd_is_name ["value"] []
  fd_is_standing : FuncData
  F_is_standing : FunD K "is_standing" "is_standing" (defArgs (top 11)) (defBody (top 11)) (defScope (top 11)) [] [] (He.ga K "is_standing") fd_is_standing
  g_is_standing : mg "is_standing" = some (.ref (He.ga K "is_standing"))
  B_is_standing : Binds K fd_is_standing ["value"] []
  fd_is_place : FuncData
  F_is_place : FunD K "is_place" "is_place" (defArgs (top 12)) (defBody (top 12)) (defScope (top 12)) [] [] (He.ga K "is_place") fd_is_place
  g_is_place : mg "is_place" = some (.ref (He.ga K "is_place"))
  B_is_place : Binds K fd_is_place ["value"] []
  fd_is_key : FuncData
  F_is_key : FunD K "is_key" "is_key" (defArgs (top 13)) (defBody (top 13)) (defScope (top 13)) [] [] (He.ga K "is_key") fd_is_key
  g_is_key : mg "is_key" = some (.ref (He.ga K "is_key"))
  B_is_key : Binds K fd_is_key ["value"] []
  fd_is_account : FuncData
  F_is_account : FunD K "is_account" "is_account" (defArgs (top 14)) (defBody (top 14)) (defScope (top 14)) [] [] (He.ga K "is_account") fd_is_account
  g_is_account : mg "is_account" = some (.ref (He.ga K "is_account"))
  B_is_account : Binds K fd_is_account ["value"] []
  fd_account_of : FuncData
  F_account_of : FunD K "account_of" "account_of" (defArgs (top 15)) (defBody (top 15)) (defScope (top 15)) [] [] (He.ga K "account_of") fd_account_of
  g_account_of : mg "account_of" = some (.ref (He.ga K "account_of"))
  B_account_of : Binds K fd_account_of ["standing"] []
  fd_number_in : FuncData
  F_number_in : FunD K "number_in" "number_in" (defArgs (top 16)) (defBody (top 16)) (defScope (top 16)) [] [] (He.ga K "number_in") fd_number_in
  g_number_in : mg "number_in" = some (.ref (He.ga K "number_in"))
  B_number_in : Binds K fd_number_in ["text"] []
  fd__law_bag : FuncData
  F__law_bag : FunD K "_law_bag" "_law_bag" (defArgs (top 18)) (defBody (top 18)) (defScope (top 18)) [] [] (He.ga K "_law_bag") fd__law_bag
  g__law_bag : mg "_law_bag" = some (.ref (He.ga K "_law_bag"))
  B__law_bag : Binds K fd__law_bag ["_law_script"] []
  fd__law_take : FuncData
  F__law_take : FunD K "_law_take" "_law_take" (defArgs (top 19)) (defBody (top 19)) (defScope (top 19)) [] [] (He.ga K "_law_take") fd__law_take
  g__law_take : mg "_law_take" = some (.ref (He.ga K "_law_take"))
  B__law_take : Binds K fd__law_take ["_law_bag_here", "_law_size"] []
  fd__law_of : FuncData
  F__law_of : FunD K "_law_of" "_law_of" (defArgs (top 20)) (defBody (top 20)) (defScope (top 20)) [] [] (He.ga K "_law_of") fd__law_of
  g__law_of : mg "_law_of" = some (.ref (He.ga K "_law_of"))
  B__law_of : Binds K fd__law_of ["_law_bag_here", "_law_some"] []
  fd__law_same : FuncData
  F__law_same : FunD K "_law_same" "_law_same" (defArgs (top 21)) (defBody (top 21)) (defScope (top 21)) [] [] (He.ga K "_law_same") fd__law_same
  g__law_same : mg "_law_same" = some (.ref (He.ga K "_law_same"))
  B__law_same : Binds K fd__law_same ["_law_found", "_law_due"] []
  fd__law_names : FuncData
  F__law_names : FunD K "_law_names" "_law_names" (defArgs (top 22)) (defBody (top 22)) (defScope (top 22)) [.int 6] [] (He.ga K "_law_names") fd__law_names
  g__law_names : mg "_law_names" = some (.ref (He.ga K "_law_names"))
  fd__law_odd : FuncData
  F__law_odd : FunD K "_law_odd" "_law_odd" (defArgs (top 23)) (defBody (top 23)) (defScope (top 23)) [] [] (He.ga K "_law_odd") fd__law_odd
  g__law_odd : mg "_law_odd" = some (.ref (He.ga K "_law_odd"))
  B__law_odd : Binds K fd__law_odd ["_law_bag_here"] []
  fd__law_own_name : FuncData
  F__law_own_name : FunD K "_law_own_name" "_law_own_name" (defArgs (top 24)) (defBody (top 24)) (defScope (top 24)) [] [] (He.ga K "_law_own_name") fd__law_own_name
  g__law_own_name : mg "_law_own_name" = some (.ref (He.ga K "_law_own_name"))
  B__law_own_name : Binds K fd__law_own_name ["_law_thing"] []
  fd__law_own_number : FuncData
  F__law_own_number : FunD K "_law_own_number" "_law_own_number" (defArgs (top 25)) (defBody (top 25)) (defScope (top 25)) [] [] (He.ga K "_law_own_number") fd__law_own_number
  g__law_own_number : mg "_law_own_number" = some (.ref (He.ga K "_law_own_number"))
  B__law_own_number : Binds K fd__law_own_number ["_law_thing", "_law_low", "_law_high"] []
  fd__law_own_standing : FuncData
  F__law_own_standing : FunD K "_law_own_standing" "_law_own_standing" (defArgs (top 26)) (defBody (top 26)) (defScope (top 26)) [] [] (He.ga K "_law_own_standing") fd__law_own_standing
  g__law_own_standing : mg "_law_own_standing" = some (.ref (He.ga K "_law_own_standing"))
  B__law_own_standing : Binds K fd__law_own_standing ["_law_thing"] []
  fd__law_own_key : FuncData
  F__law_own_key : FunD K "_law_own_key" "_law_own_key" (defArgs (top 27)) (defBody (top 27)) (defScope (top 27)) [] [] (He.ga K "_law_own_key") fd__law_own_key
  g__law_own_key : mg "_law_own_key" = some (.ref (He.ga K "_law_own_key"))
  B__law_own_key : Binds K fd__law_own_key ["_law_thing"] []
  fd__law_own_account : FuncData
  F__law_own_account : FunD K "_law_own_account" "_law_own_account" (defArgs (top 28)) (defBody (top 28)) (defScope (top 28)) [] [] (He.ga K "_law_own_account") fd__law_own_account
  g__law_own_account : mg "_law_own_account" = some (.ref (He.ga K "_law_own_account"))
  B__law_own_account : Binds K fd__law_own_account ["_law_thing"] []
  fd__law_own_read : FuncData
  F__law_own_read : FunD K "_law_own_read" "_law_own_read" (defArgs (top 29)) (defBody (top 29)) (defScope (top 29)) [] [] (He.ga K "_law_own_read") fd__law_own_read
  g__law_own_read : mg "_law_own_read" = some (.ref (He.ga K "_law_own_read"))
  B__law_own_read : Binds K fd__law_own_read ["_law_thing"] []
  fd__law_good : FuncData
  F__law_good : FunD K "_law_good" "_law_good" (defArgs (top 30)) (defBody (top 30)) (defScope (top 30)) [] [] (He.ga K "_law_good") fd__law_good
  g__law_good : mg "_law_good" = some (.ref (He.ga K "_law_good"))
  B__law_good : Binds K fd__law_good ["_law_bag_here", "_law_some"] []
  fd__law_bent_text : FuncData
  F__law_bent_text : FunD K "_law_bent_text" "_law_bent_text" (defArgs (top 31)) (defBody (top 31)) (defScope (top 31)) [] [] (He.ga K "_law_bent_text") fd__law_bent_text
  g__law_bent_text : mg "_law_bent_text" = some (.ref (He.ga K "_law_bent_text"))
  B__law_bent_text : Binds K fd__law_bent_text ["_law_bag_here", "_law_text"] []
  fd__law_bent : FuncData
  F__law_bent : FunD K "_law_bent" "_law_bent" (defArgs (top 32)) (defBody (top 32)) (defScope (top 32)) [] [] (He.ga K "_law_bent") fd__law_bent
  g__law_bent : mg "_law_bent" = some (.ref (He.ga K "_law_bent"))
  B__law_bent : Binds K fd__law_bent ["_law_bag_here", "_law_thing"] []
  fd__law_value : FuncData
  F__law_value : FunD K "_law_value" "_law_value" (defArgs (top 33)) (defBody (top 33)) (defScope (top 33)) [] [] (He.ga K "_law_value") fd__law_value
  g__law_value : mg "_law_value" = some (.ref (He.ga K "_law_value"))
  B__law_value : Binds K fd__law_value ["_law_bag_here", "_law_some"] []
  fd_law : FuncData
  F_law : FunD K "law" "law" (defArgs (top 34)) (defBody (top 34)) (defScope (top 34)) [] [] (He.ga K "law") fd_law
  g_law : mg "law" = some (.ref (He.ga K "law"))
  D__law_names_2 : ∃ ds : List Value, Vals ([.int 6] : List V) ds ∧ Binds K fd__law_names ["_law_bag_here", "_law_count", "_law_cap"] ds
  K_account_of_0_standing : KBn K fd_account_of ["standing"] 0 ["standing"] (fun us ws => KB.g_account_of_0_standing us ws) (fun vs zs => KB.g_account_of_0_standing vs zs)
  K_is_account_0_value : KBn K fd_is_account ["value"] 0 ["value"] (fun us ws => KB.g_is_account_0_value us ws) (fun vs zs => KB.g_is_account_0_value vs zs)
  K_is_key_0_value : KBn K fd_is_key ["value"] 0 ["value"] (fun us ws => KB.g_is_key_0_value us ws) (fun vs zs => KB.g_is_key_0_value vs zs)
  K_is_name_0_value : KBn K fd_is_name ["value"] 0 ["value"] (fun us ws => KB.g_is_name_0_value us ws) (fun vs zs => KB.g_is_name_0_value vs zs)
  K_is_number_0_least_most_value : KBn K fd_is_number ["value", "least", "most"] 0 ["least", "most", "value"] (fun us ws => KB.g_is_number_0_least_most_value us ws) (fun vs zs => KB.g_is_number_0_least_most_value vs zs)
  K_is_place_0_value : KBn K fd_is_place ["value"] 0 ["value"] (fun us ws => KB.g_is_place_0_value us ws) (fun vs zs => KB.g_is_place_0_value vs zs)
  K_is_standing_0_value : KBn K fd_is_standing ["value"] 0 ["value"] (fun us ws => KB.g_is_standing_0_value us ws) (fun vs zs => KB.g_is_standing_0_value vs zs)
  K_number_in_0_text : KBn K fd_number_in ["text"] 0 ["text"] (fun us ws => KB.g_number_in_0_text us ws) (fun vs zs => KB.g_number_in_0_text vs zs)
  c_SMALL : ∃ t, mg "SMALL" = some (.str "abcdefghijklmnopqrstuvwxyz" t)
  c_DIGITS : ∃ t, mg "DIGITS" = some (.str "0123456789" t)
  c_HOURS : ∃ t, mg "HOURS" = some (.str "012345678" t)
  c_MAX_NAME : ∃ t, mg "MAX_NAME" = some (.int 6 t)
  c_MAX_HOUR : ∃ t, mg "MAX_HOUR" = some (.int 8 t)
  c_MAX_DIGITS : ∃ t, mg "MAX_DIGITS" = some (.int 9 t)
  g_HABITS : mg "HABITS" = some (.ref (He.ga K "HABITS"))
  t_HABITS : ∀ H, SqT K H (He.ga K "HABITS") [.str "least", .str "greatest", .str "middle"]
  b_all : mg "all" = none
  b_list : mg "list" = none
  b_isinstance : mg "isinstance" = none
  b_dict : mg "dict" = none
  b_range : mg "range" = none
  b_int : mg "int" = none
  b_str : mg "str" = none
  b_tuple : mg "tuple" = none
  b_bool : mg "bool" = none
  b_len : mg "len" = none
theorem tx_D__law_names_2 {K : PySem.W.Frag} {fd : FuncData} (F : FunD K "_law_names" "_law_names" (defArgs (top 22)) (defBody (top 22)) (defScope (top 22)) [.int 6] [] (He.ga K "_law_names") fd) : ∃ ds : List Value, Vals ([.int 6] : List V) ds ∧ Binds K fd ["_law_bag_here", "_law_count", "_law_cap"] ds :=
  FunD.binds1 F 2 0 (by simp) rfl (fun _ _ _ _ _ _ _ us its hu hi => match us, its, hu, hi with | [_, _], [_], _, _ => ⟨_, rfl, rfl⟩)
theorem tx_K_account_of_0_standing {K : PySem.W.Frag} {fd : FuncData} (F : FunD K "account_of" "account_of" (defArgs (top 15)) (defBody (top 15)) (defScope (top 15)) [] [] (He.ga K "account_of") fd) : KBn K fd ["standing"] 0 ["standing"] (fun us ws => KB.g_account_of_0_standing us ws) (fun vs zs => KB.g_account_of_0_standing vs zs) :=
  kbn_of F (fun _ _ _ _ _ _ us ws hu hw => match us, ws, hu, hw with | [], [_], _, _ => rfl) (fun r1 r2 => ((r2.drop 0).take 1))
theorem tx_K_is_account_0_value {K : PySem.W.Frag} {fd : FuncData} (F : FunD K "is_account" "is_account" (defArgs (top 14)) (defBody (top 14)) (defScope (top 14)) [] [] (He.ga K "is_account") fd) : KBn K fd ["value"] 0 ["value"] (fun us ws => KB.g_is_account_0_value us ws) (fun vs zs => KB.g_is_account_0_value vs zs) :=
  kbn_of F (fun _ _ _ _ _ _ us ws hu hw => match us, ws, hu, hw with | [], [_], _, _ => rfl) (fun r1 r2 => ((r2.drop 0).take 1))
theorem tx_K_is_key_0_value {K : PySem.W.Frag} {fd : FuncData} (F : FunD K "is_key" "is_key" (defArgs (top 13)) (defBody (top 13)) (defScope (top 13)) [] [] (He.ga K "is_key") fd) : KBn K fd ["value"] 0 ["value"] (fun us ws => KB.g_is_key_0_value us ws) (fun vs zs => KB.g_is_key_0_value vs zs) :=
  kbn_of F (fun _ _ _ _ _ _ us ws hu hw => match us, ws, hu, hw with | [], [_], _, _ => rfl) (fun r1 r2 => ((r2.drop 0).take 1))
theorem tx_K_is_name_0_value {K : PySem.W.Frag} {fd : FuncData} (F : FunD K "is_name" "is_name" (defArgs (top 10)) (defBody (top 10)) (defScope (top 10)) [] [] (He.ga K "is_name") fd) : KBn K fd ["value"] 0 ["value"] (fun us ws => KB.g_is_name_0_value us ws) (fun vs zs => KB.g_is_name_0_value vs zs) :=
  kbn_of F (fun _ _ _ _ _ _ us ws hu hw => match us, ws, hu, hw with | [], [_], _, _ => rfl) (fun r1 r2 => ((r2.drop 0).take 1))
theorem tx_K_is_number_0_least_most_value {K : PySem.W.Frag} {fd : FuncData} (F : FunD K "is_number" "is_number" (defArgs (top 9)) (defBody (top 9)) (defScope (top 9)) [] [] (He.ga K "is_number") fd) : KBn K fd ["value", "least", "most"] 0 ["least", "most", "value"] (fun us ws => KB.g_is_number_0_least_most_value us ws) (fun vs zs => KB.g_is_number_0_least_most_value vs zs) :=
  kbn_of F (fun _ _ _ _ _ _ us ws hu hw => match us, ws, hu, hw with | [], [_, _, _], _, _ => rfl) (fun r1 r2 => (((r2.drop 2).take 1).append (((r2.drop 0).take 1).append ((r2.drop 1).take 1))))
theorem tx_K_is_place_0_value {K : PySem.W.Frag} {fd : FuncData} (F : FunD K "is_place" "is_place" (defArgs (top 12)) (defBody (top 12)) (defScope (top 12)) [] [] (He.ga K "is_place") fd) : KBn K fd ["value"] 0 ["value"] (fun us ws => KB.g_is_place_0_value us ws) (fun vs zs => KB.g_is_place_0_value vs zs) :=
  kbn_of F (fun _ _ _ _ _ _ us ws hu hw => match us, ws, hu, hw with | [], [_], _, _ => rfl) (fun r1 r2 => ((r2.drop 0).take 1))
theorem tx_K_is_standing_0_value {K : PySem.W.Frag} {fd : FuncData} (F : FunD K "is_standing" "is_standing" (defArgs (top 11)) (defBody (top 11)) (defScope (top 11)) [] [] (He.ga K "is_standing") fd) : KBn K fd ["value"] 0 ["value"] (fun us ws => KB.g_is_standing_0_value us ws) (fun vs zs => KB.g_is_standing_0_value vs zs) :=
  kbn_of F (fun _ _ _ _ _ _ us ws hu hw => match us, ws, hu, hw with | [], [_], _, _ => rfl) (fun r1 r2 => ((r2.drop 0).take 1))
theorem tx_K_number_in_0_text {K : PySem.W.Frag} {fd : FuncData} (F : FunD K "number_in" "number_in" (defArgs (top 16)) (defBody (top 16)) (defScope (top 16)) [] [] (He.ga K "number_in") fd) : KBn K fd ["text"] 0 ["text"] (fun us ws => KB.g_number_in_0_text us ws) (fun vs zs => KB.g_number_in_0_text vs zs) :=
  kbn_of F (fun _ _ _ _ _ _ us ws hu hw => match us, ws, hu, hw with | [], [_], _, _ => rfl) (fun r1 r2 => ((r2.drop 0).take 1))
theorem tx_of {K : PySem.W.Frag} {h : Heap} {mg : Str → Option Value} (X : K.In h) (G : h.Ns mainGlobals mg) (c0 : SaysX fa fn ex K) : Nonempty (Tx K mg) := by
  have c := c0.d
  obtain ⟨fd0, F0⟩ := c.def_ 0 (d := dd "is_whole" 8) rfl
  obtain ⟨fd1, F1⟩ := c.def_ 1 (d := dd "is_number" 9) rfl
  obtain ⟨fd2, F2⟩ := c.def_ 2 (d := dd "is_name" 10) rfl
  obtain ⟨fd3, F3⟩ := c.def_ 3 (d := dd "is_standing" 11) rfl
  obtain ⟨fd4, F4⟩ := c.def_ 4 (d := dd "is_place" 12) rfl
  obtain ⟨fd5, F5⟩ := c.def_ 5 (d := dd "is_key" 13) rfl
  obtain ⟨fd6, F6⟩ := c.def_ 6 (d := dd "is_account" 14) rfl
  obtain ⟨fd7, F7⟩ := c.def_ 7 (d := dd "account_of" 15) rfl
  obtain ⟨fd8, F8⟩ := c.def_ 8 (d := dd "number_in" 16) rfl
  obtain ⟨fd9, F9⟩ := c.def_ 9 (d := dd "_law_bag" 18) rfl
  obtain ⟨fd10, F10⟩ := c.def_ 10 (d := dd "_law_take" 19) rfl
  obtain ⟨fd11, F11⟩ := c.def_ 11 (d := dd "_law_of" 20) rfl
  obtain ⟨fd12, F12⟩ := c.def_ 12 (d := dd "_law_same" 21) rfl
  obtain ⟨fd13, F13⟩ := c.def_ 13 (d := dd "_law_names" 22 [.int 6]) rfl
  obtain ⟨fd14, F14⟩ := c.def_ 14 (d := dd "_law_odd" 23) rfl
  obtain ⟨fd15, F15⟩ := c.def_ 15 (d := dd "_law_own_name" 24) rfl
  obtain ⟨fd16, F16⟩ := c.def_ 16 (d := dd "_law_own_number" 25) rfl
  obtain ⟨fd17, F17⟩ := c.def_ 17 (d := dd "_law_own_standing" 26) rfl
  obtain ⟨fd18, F18⟩ := c.def_ 18 (d := dd "_law_own_key" 27) rfl
  obtain ⟨fd19, F19⟩ := c.def_ 19 (d := dd "_law_own_account" 28) rfl
  obtain ⟨fd20, F20⟩ := c.def_ 20 (d := dd "_law_own_read" 29) rfl
  obtain ⟨fd21, F21⟩ := c.def_ 21 (d := dd "_law_good" 30) rfl
  obtain ⟨fd22, F22⟩ := c.def_ 22 (d := dd "_law_bent_text" 31) rfl
  obtain ⟨fd23, F23⟩ := c.def_ 23 (d := dd "_law_bent" 32) rfl
  obtain ⟨fd24, F24⟩ := c.def_ 24 (d := dd "_law_value" 33) rfl
  obtain ⟨fd25, F25⟩ := c.def_ 25 (d := dd "law" 34) rfl
  have B0 : Binds K fd0 ["value"] [] := FunD.bindsN F0 fun _ _ _ _ _ _ us hl => match us, hl with | [_], _ => rfl
  have B1 : Binds K fd1 ["value", "least", "most"] [] := FunD.bindsN F1 fun _ _ _ _ _ _ us hl => match us, hl with | [_, _, _], _ => rfl
  have B2 : Binds K fd2 ["value"] [] := FunD.bindsN F2 fun _ _ _ _ _ _ us hl => match us, hl with | [_], _ => rfl
  have B3 : Binds K fd3 ["value"] [] := FunD.bindsN F3 fun _ _ _ _ _ _ us hl => match us, hl with | [_], _ => rfl
  have B4 : Binds K fd4 ["value"] [] := FunD.bindsN F4 fun _ _ _ _ _ _ us hl => match us, hl with | [_], _ => rfl
  have B5 : Binds K fd5 ["value"] [] := FunD.bindsN F5 fun _ _ _ _ _ _ us hl => match us, hl with | [_], _ => rfl
  have B6 : Binds K fd6 ["value"] [] := FunD.bindsN F6 fun _ _ _ _ _ _ us hl => match us, hl with | [_], _ => rfl
  have B7 : Binds K fd7 ["standing"] [] := FunD.bindsN F7 fun _ _ _ _ _ _ us hl => match us, hl with | [_], _ => rfl
  have B8 : Binds K fd8 ["text"] [] := FunD.bindsN F8 fun _ _ _ _ _ _ us hl => match us, hl with | [_], _ => rfl
  have B9 : Binds K fd9 ["_law_script"] [] := FunD.bindsN F9 fun _ _ _ _ _ _ us hl => match us, hl with | [_], _ => rfl
  have B10 : Binds K fd10 ["_law_bag_here", "_law_size"] [] := FunD.bindsN F10 fun _ _ _ _ _ _ us hl => match us, hl with | [_, _], _ => rfl
  have B11 : Binds K fd11 ["_law_bag_here", "_law_some"] [] := FunD.bindsN F11 fun _ _ _ _ _ _ us hl => match us, hl with | [_, _], _ => rfl
  have B12 : Binds K fd12 ["_law_found", "_law_due"] [] := FunD.bindsN F12 fun _ _ _ _ _ _ us hl => match us, hl with | [_, _], _ => rfl
  have B14 : Binds K fd14 ["_law_bag_here"] [] := FunD.bindsN F14 fun _ _ _ _ _ _ us hl => match us, hl with | [_], _ => rfl
  have B15 : Binds K fd15 ["_law_thing"] [] := FunD.bindsN F15 fun _ _ _ _ _ _ us hl => match us, hl with | [_], _ => rfl
  have B16 : Binds K fd16 ["_law_thing", "_law_low", "_law_high"] [] := FunD.bindsN F16 fun _ _ _ _ _ _ us hl => match us, hl with | [_, _, _], _ => rfl
  have B17 : Binds K fd17 ["_law_thing"] [] := FunD.bindsN F17 fun _ _ _ _ _ _ us hl => match us, hl with | [_], _ => rfl
  have B18 : Binds K fd18 ["_law_thing"] [] := FunD.bindsN F18 fun _ _ _ _ _ _ us hl => match us, hl with | [_], _ => rfl
  have B19 : Binds K fd19 ["_law_thing"] [] := FunD.bindsN F19 fun _ _ _ _ _ _ us hl => match us, hl with | [_], _ => rfl
  have B20 : Binds K fd20 ["_law_thing"] [] := FunD.bindsN F20 fun _ _ _ _ _ _ us hl => match us, hl with | [_], _ => rfl
  have B21 : Binds K fd21 ["_law_bag_here", "_law_some"] [] := FunD.bindsN F21 fun _ _ _ _ _ _ us hl => match us, hl with | [_, _], _ => rfl
  have B22 : Binds K fd22 ["_law_bag_here", "_law_text"] [] := FunD.bindsN F22 fun _ _ _ _ _ _ us hl => match us, hl with | [_, _], _ => rfl
  have B23 : Binds K fd23 ["_law_bag_here", "_law_thing"] [] := FunD.bindsN F23 fun _ _ _ _ _ _ us hl => match us, hl with | [_, _], _ => rfl
  have B24 : Binds K fd24 ["_law_bag_here", "_law_some"] [] := FunD.bindsN F24 fun _ _ _ _ _ _ us hl => match us, hl with | [_, _], _ => rfl
  exact ⟨{
    fd_is_whole := fd0,
    F_is_whole := F0,
    g_is_whole := He.glo_ok X G (c.fact 0 (f := .glo "is_whole") rfl),
    B_is_whole := B0,
    fd_is_number := fd1,
    F_is_number := F1,
    g_is_number := He.glo_ok X G (c.fact 1 (f := .glo "is_number") rfl),
    B_is_number := B1,
    fd_is_name := fd2,
    F_is_name := F2,
    g_is_name := He.glo_ok X G (c.fact 2 (f := .glo "is_name") rfl),
    B_is_name := B2,
    fd_is_standing := fd3,
    F_is_standing := F3,
    g_is_standing := He.glo_ok X G (c.fact 3 (f := .glo "is_standing") rfl),
    B_is_standing := B3,
    fd_is_place := fd4,
    F_is_place := F4,
    g_is_place := He.glo_ok X G (c.fact 4 (f := .glo "is_place") rfl),
    B_is_place := B4,
    fd_is_key := fd5,
    F_is_key := F5,
    g_is_key := He.glo_ok X G (c.fact 5 (f := .glo "is_key") rfl),
    B_is_key := B5,
    fd_is_account := fd6,
    F_is_account := F6,
    g_is_account := He.glo_ok X G (c.fact 6 (f := .glo "is_account") rfl),
    B_is_account := B6,
    fd_account_of := fd7,
    F_account_of := F7,
    g_account_of := He.glo_ok X G (c.fact 7 (f := .glo "account_of") rfl),
    B_account_of := B7,
    fd_number_in := fd8,
    F_number_in := F8,
    g_number_in := He.glo_ok X G (c.fact 8 (f := .glo "number_in") rfl),
    B_number_in := B8,
    fd__law_bag := fd9,
    F__law_bag := F9,
    g__law_bag := He.glo_ok X G (c.fact 9 (f := .glo "_law_bag") rfl),
    B__law_bag := B9,
    fd__law_take := fd10,
    F__law_take := F10,
    g__law_take := He.glo_ok X G (c.fact 10 (f := .glo "_law_take") rfl),
    B__law_take := B10,
    fd__law_of := fd11,
    F__law_of := F11,
    g__law_of := He.glo_ok X G (c.fact 11 (f := .glo "_law_of") rfl),
    B__law_of := B11,
    fd__law_same := fd12,
    F__law_same := F12,
    g__law_same := He.glo_ok X G (c.fact 12 (f := .glo "_law_same") rfl),
    B__law_same := B12,
    fd__law_names := fd13,
    F__law_names := F13,
    g__law_names := He.glo_ok X G (c.fact 13 (f := .glo "_law_names") rfl),
    fd__law_odd := fd14,
    F__law_odd := F14,
    g__law_odd := He.glo_ok X G (c.fact 14 (f := .glo "_law_odd") rfl),
    B__law_odd := B14,
    fd__law_own_name := fd15,
    F__law_own_name := F15,
    g__law_own_name := He.glo_ok X G (c.fact 15 (f := .glo "_law_own_name") rfl),
    B__law_own_name := B15,
    fd__law_own_number := fd16,
    F__law_own_number := F16,
    g__law_own_number := He.glo_ok X G (c.fact 16 (f := .glo "_law_own_number") rfl),
    B__law_own_number := B16,
    fd__law_own_standing := fd17,
    F__law_own_standing := F17,
    g__law_own_standing := He.glo_ok X G (c.fact 17 (f := .glo "_law_own_standing") rfl),
    B__law_own_standing := B17,
    fd__law_own_key := fd18,
    F__law_own_key := F18,
    g__law_own_key := He.glo_ok X G (c.fact 18 (f := .glo "_law_own_key") rfl),
    B__law_own_key := B18,
    fd__law_own_account := fd19,
    F__law_own_account := F19,
    g__law_own_account := He.glo_ok X G (c.fact 19 (f := .glo "_law_own_account") rfl),
    B__law_own_account := B19,
    fd__law_own_read := fd20,
    F__law_own_read := F20,
    g__law_own_read := He.glo_ok X G (c.fact 20 (f := .glo "_law_own_read") rfl),
    B__law_own_read := B20,
    fd__law_good := fd21,
    F__law_good := F21,
    g__law_good := He.glo_ok X G (c.fact 21 (f := .glo "_law_good") rfl),
    B__law_good := B21,
    fd__law_bent_text := fd22,
    F__law_bent_text := F22,
    g__law_bent_text := He.glo_ok X G (c.fact 22 (f := .glo "_law_bent_text") rfl),
    B__law_bent_text := B22,
    fd__law_bent := fd23,
    F__law_bent := F23,
    g__law_bent := He.glo_ok X G (c.fact 23 (f := .glo "_law_bent") rfl),
    B__law_bent := B23,
    fd__law_value := fd24,
    F__law_value := F24,
    g__law_value := He.glo_ok X G (c.fact 24 (f := .glo "_law_value") rfl),
    B__law_value := B24,
    fd_law := fd25,
    F_law := F25,
    g_law := He.glo_ok X G (c.fact 25 (f := .glo "law") rfl),
    D__law_names_2 := tx_D__law_names_2 F13,
    K_account_of_0_standing := tx_K_account_of_0_standing F7,
    K_is_account_0_value := tx_K_is_account_0_value F6,
    K_is_key_0_value := tx_K_is_key_0_value F5,
    K_is_name_0_value := tx_K_is_name_0_value F2,
    K_is_number_0_least_most_value := tx_K_is_number_0_least_most_value F1,
    K_is_place_0_value := tx_K_is_place_0_value F4,
    K_is_standing_0_value := tx_K_is_standing_0_value F3,
    K_number_in_0_text := tx_K_number_in_0_text F8,
    c_SMALL := He.str_ok X G (c.fact 26 (f := .str "SMALL" "abcdefghijklmnopqrstuvwxyz") rfl),
    c_DIGITS := He.str_ok X G (c.fact 27 (f := .str "DIGITS" "0123456789") rfl),
    c_HOURS := He.str_ok X G (c.fact 28 (f := .str "HOURS" "012345678") rfl),
    c_MAX_NAME := He.int_ok X G (c.fact 29 (f := .int "MAX_NAME" 6) rfl),
    c_MAX_HOUR := He.int_ok X G (c.fact 30 (f := .int "MAX_HOUR" 8) rfl),
    c_MAX_DIGITS := He.int_ok X G (c.fact 31 (f := .int "MAX_DIGITS" 9) rfl),
    g_HABITS := He.glo_ok X G (c.fact 32 (f := .glo "HABITS") rfl),
    t_HABITS := fun H => He.tupB_ok c0.x H,
    b_all := He.free_ok X G (c.fact 33 (f := .free "all") rfl),
    b_list := He.free_ok X G (c.fact 34 (f := .free "list") rfl),
    b_isinstance := He.free_ok X G (c.fact 35 (f := .free "isinstance") rfl),
    b_dict := He.free_ok X G (c.fact 36 (f := .free "dict") rfl),
    b_range := He.free_ok X G (c.fact 37 (f := .free "range") rfl),
    b_int := He.free_ok X G (c.fact 38 (f := .free "int") rfl),
    b_str := He.free_ok X G (c.fact 39 (f := .free "str") rfl),
    b_tuple := He.free_ok X G (c.fact 40 (f := .free "tuple") rfl),
    b_bool := He.free_ok X G (c.fact 41 (f := .free "bool") rfl),
    b_len := He.free_ok X G (c.fact 42 (f := .free "len") rfl) }⟩
theorem sc_is_whole : FnScope ["value"] ["value"] (defScope (top 8)) := ⟨rfl, rfl, rfl, by decide +kernel, rfl, by decide +kernel, by decide +kernel⟩
theorem sc_is_number : FnScope ["value", "least", "most"] ["value", "least", "most"] (defScope (top 9)) := ⟨rfl, rfl, rfl, by decide +kernel, rfl, by decide +kernel, by decide +kernel⟩
theorem sc_is_name : FnScope ["value", "sign"] ["value"] (defScope (top 10)) := ⟨rfl, rfl, rfl, by decide +kernel, rfl, by decide +kernel, by decide +kernel⟩
theorem sc_is_standing : FnScope ["value"] ["value"] (defScope (top 11)) := ⟨rfl, rfl, rfl, by decide +kernel, rfl, by decide +kernel, by decide +kernel⟩
theorem sc_is_place : FnScope ["value"] ["value"] (defScope (top 12)) := ⟨rfl, rfl, rfl, by decide +kernel, rfl, by decide +kernel, by decide +kernel⟩
theorem sc_is_key : FnScope ["value", "word", "rest"] ["value"] (defScope (top 13)) := ⟨rfl, rfl, rfl, by decide +kernel, rfl, by decide +kernel, by decide +kernel⟩
theorem sc_is_account : FnScope ["value", "yard", "mark", "hour"] ["value"] (defScope (top 14)) := ⟨rfl, rfl, rfl, by decide +kernel, rfl, by decide +kernel, by decide +kernel⟩
theorem sc_account_of : FnScope ["standing"] ["standing"] (defScope (top 15)) := ⟨rfl, rfl, rfl, by decide +kernel, rfl, by decide +kernel, by decide +kernel⟩
theorem sc_number_in : FnScope ["text", "sign"] ["text"] (defScope (top 16)) := ⟨rfl, rfl, rfl, by decide +kernel, rfl, by decide +kernel, by decide +kernel⟩
theorem sc__law_bag : FnScope ["_law_script", "_law_cells"] ["_law_script"] (defScope (top 18)) := ⟨rfl, rfl, rfl, by decide +kernel, rfl, by decide +kernel, by decide +kernel⟩
theorem sc__law_take : FnScope ["_law_bag_here", "_law_size", "_law_cell", "_law_digit"] ["_law_bag_here", "_law_size"] (defScope (top 19)) := ⟨rfl, rfl, rfl, by decide +kernel, rfl, by decide +kernel, by decide +kernel⟩
theorem sc__law_of : FnScope ["_law_bag_here", "_law_some"] ["_law_bag_here", "_law_some"] (defScope (top 20)) := ⟨rfl, rfl, rfl, by decide +kernel, rfl, by decide +kernel, by decide +kernel⟩
theorem sc__law_same : FnScope ["_law_found", "_law_due", "_law_k"] ["_law_found", "_law_due"] (defScope (top 21)) := ⟨rfl, rfl, rfl, by decide +kernel, rfl, by decide +kernel, by decide +kernel⟩
theorem sc__law_names : FnScope ["_law_bag_here", "_law_count", "_law_cap", "_law_abc", "_law_stem", "_law_k", "_law_begin", "_law_step", "_law_found", "_law_tail", "_law_j"] ["_law_bag_here", "_law_count", "_law_cap"] (defScope (top 22)) := ⟨rfl, rfl, rfl, by decide +kernel, rfl, by decide +kernel, by decide +kernel⟩
theorem sc__law_odd : FnScope ["_law_bag_here"] ["_law_bag_here"] (defScope (top 23)) := ⟨rfl, rfl, rfl, by decide +kernel, rfl, by decide +kernel, by decide +kernel⟩
theorem sc__law_own_name : FnScope ["_law_thing", "_law_sign"] ["_law_thing"] (defScope (top 24)) := ⟨rfl, rfl, rfl, by decide +kernel, rfl, by decide +kernel, by decide +kernel⟩
theorem sc__law_own_number : FnScope ["_law_thing", "_law_low", "_law_high"] ["_law_thing", "_law_low", "_law_high"] (defScope (top 25)) := ⟨rfl, rfl, rfl, by decide +kernel, rfl, by decide +kernel, by decide +kernel⟩
theorem sc__law_own_standing : FnScope ["_law_thing"] ["_law_thing"] (defScope (top 26)) := ⟨rfl, rfl, rfl, by decide +kernel, rfl, by decide +kernel, by decide +kernel⟩
theorem sc__law_own_key : FnScope ["_law_thing"] ["_law_thing"] (defScope (top 27)) := ⟨rfl, rfl, rfl, by decide +kernel, rfl, by decide +kernel, by decide +kernel⟩
theorem sc__law_own_account : FnScope ["_law_thing", "_law_words"] ["_law_thing"] (defScope (top 28)) := ⟨rfl, rfl, rfl, by decide +kernel, rfl, by decide +kernel, by decide +kernel⟩
theorem sc__law_own_read : FnScope ["_law_thing", "_law_sign"] ["_law_thing"] (defScope (top 29)) := ⟨rfl, rfl, rfl, by decide +kernel, rfl, by decide +kernel, by decide +kernel⟩
theorem sc__law_good : FnScope ["_law_bag_here", "_law_some", "_law_one", "_law_other", "_law_hour", "_law_words", "_law_digits", "_law_kinds"] ["_law_bag_here", "_law_some"] (defScope (top 30)) := ⟨rfl, rfl, rfl, by decide +kernel, rfl, by decide +kernel, by decide +kernel⟩
theorem sc__law_bent_text : FnScope ["_law_bag_here", "_law_text", "_law_spot", "_law_sign"] ["_law_bag_here", "_law_text"] (defScope (top 31)) := ⟨rfl, rfl, rfl, by decide +kernel, rfl, by decide +kernel, by decide +kernel⟩
theorem sc__law_bent : FnScope ["_law_bag_here", "_law_thing", "_law_way", "_law_spot", "_law_item"] ["_law_bag_here", "_law_thing"] (defScope (top 32)) := ⟨rfl, rfl, rfl, by decide +kernel, rfl, by decide +kernel, by decide +kernel⟩
theorem sc__law_value : FnScope ["_law_bag_here", "_law_some", "_law_way"] ["_law_bag_here", "_law_some"] (defScope (top 33)) := ⟨rfl, rfl, rfl, by decide +kernel, rfl, by decide +kernel, by decide +kernel⟩
theorem sc_law : FnScope ["_law_script", "_law_bag_here", "_law_some", "_law_turn", "_law_thing", "_law_low", "_law_more", "_law_found", "_law_named", "_law_own", "_law_due", "_law_spot", "_law_told"] ["_law_script"] (defScope (top 34)) := ⟨rfl, rfl, rfl, by decide +kernel, rfl, by decide +kernel, by decide +kernel⟩
end K01

namespace K01
open PySem PySem.Spec PyProof.Rows L2 SW
abbrev sp__law_own_name (K : PySem.W.Frag) : Sp := SpD K fun d => .bl (isNameD d)
abbrev sp__law_own_number (K : PySem.W.Frag) : Sp := Sp3 fun v lo hi H Q _ => ∃ d i j, Rp K H v d ∧ lo = .int i ∧ hi = .int j ∧ ∀ H', Same H H' → Q (.bl (isNumD d i j)) H'
abbrev sp__law_own_standing (K : PySem.W.Frag) : Sp := SpD K fun d => .bl (isStandD d)
abbrev sp__law_own_key (K : PySem.W.Frag) : Sp := SpD K fun d => .bl (isKeyD d)
abbrev sp__law_own_account (K : PySem.W.Frag) : Sp := SpD K fun d => .bl (isAcctD d)
abbrev sp__law_own_read (K : PySem.W.Frag) : Sp := SpD K fun d => numV d
/-- a short text -/
def Short (n : Nat) (x : Str) : Prop := x.length ≤ n ∧ Sok x
def Part (d : PyData) : Prop := (∃ x, d = .str x ∧ Short 10 x) ∨ ∃ i, d = .int i
/-- a good thing: a short text, or a tuple of up to four short texts and numbers -/
def Good (d : PyData) : Prop := (∃ x, d = .str x ∧ Short 10 x) ∨ ∃ ds, d = .tuple ds ∧ ds.length ≤ 4 ∧ ∀ e ∈ ds, Part e
abbrev sp__law_good (K : PySem.W.Frag) : Sp := Sp2 fun v w H Q _ => ∃ b c p x y, v = .ref b ∧ w = .ref p ∧ Bag H b c ∧ SqL K (mn H b) p [.str x, .str y] ∧ Short 6 x ∧ Short 6 y ∧
  ∀ z d H', Rp K (mn H' b) z d → Good d → Bag H' b c → Same (mn H b) (mn H' b) → Q z H'
abbrev sp__law_bent_text (K : PySem.W.Frag) : Sp := Sp2 fun v w H Q _ => ∃ b c x, v = .ref b ∧ w = .str x ∧ Bag H b c ∧ Short 10 x ∧ ∀ y H', Sok y → Bag H' b c → Same (mn H b) (mn H' b) → Q (.str y) H'
abbrev sp__law_bent (K : PySem.W.Frag) : Sp := Sp2 fun v w H Q _ => ∃ b c d, v = .ref b ∧ Bag H b c ∧ Rp K (mn H b) w d ∧ Good d ∧ ∀ z e H', Rp K (mn H' b) z e → Bag H' b c → Same (mn H b) (mn H' b) → Q z H'
abbrev sp__law_value (K : PySem.W.Frag) : Sp := Sp2 fun v w H Q _ => ∃ b c p x y, v = .ref b ∧ w = .ref p ∧ Bag H b c ∧ SqL K (mn H b) p [.str x, .str y] ∧ Short 6 x ∧ Short 6 y ∧
  ∀ z d H', Rp K (mn H' b) z d → Bag H' b c → Same (mn H b) (mn H' b) → Q z H'
abbrev sp_law (K : PySem.W.Frag) : Sp := Sp1 fun v H Q _ => ∃ (a : Addr) (ns : List Int), v = .ref a ∧ SqL K H a (ns.map V.int) ∧ ns.length ≤ 63 ∧ ∀ H', Q (.bl true) H'
end K01

namespace K01
open PySem PySem.Spec PyProof.Rows L2 SW
def t__law_own_name (K : PySem.W.Frag) : TS := (tSeq (tIfS (tOr (tNot (tTru K (tCB (uIsi K) (tCons (tVar 0) (tCons (tC (.ty "str")) tNil))))) (tOr (tTest (tOp (uEq K) (tCB (uLen K) (tCons (tVar 0) tNil)) (tC (.int 0)))) (tTest (tOp uGt (tCB (uLen K) (tCons (tVar 0) tNil)) (tC (.int 6)))))) (tRet (tC (.bl false))) tNext) (tRet (tOp (uEq K) (tLc (iAny K (tVar 0)) (gName 1) (tTest (tOp (uNi K) (tVar 1) (tC (.str "abcdefghijklmnopqrstuvwxyz")))) (tVar 1) [1]) (tLst tNil))))
def t__law_own_number (K : PySem.W.Frag) : TS := (tSeq (tIfS (tOr (tNot (tTru K (tCB (uIsi K) (tCons (tVar 0) (tCons (tC (.ty "int")) tNil))))) (tTru K (tCB (uIsi K) (tCons (tVar 0) (tCons (tC (.ty "bool")) tNil))))) (tRet (tC (.bl false))) tNext) (tRet (tAndV (tOp uLe (tVar 1) (tVar 0)) (tOp uLe (tVar 0) (tVar 2)))))
def t__law_own_standing (K : PySem.W.Frag) : TS := (tSeq (tIfS (tOr (tNot (tTru K (tCB (uIsi K) (tCons (tVar 0) (tCons (tC (.ty "tuple")) tNil))))) (tTest (tOp (uNe K) (tCB (uLen K) (tCons (tVar 0) tNil)) (tC (.int 2))))) (tRet (tC (.bl false))) tNext) (tRet (tAndV (tCall (sp__law_own_name K) [] E0 (tCons (tOp (rIx K) (tVar 0) (tC (.int 0))) tNil)) (tCall (sp__law_own_number K) [] E0 (tCons (tOp (rIx K) (tVar 0) (tC (.int 1))) (tCons (tC (.int 0)) (tCons (tC (.int 8)) tNil)))))))
def t__law_own_key (K : PySem.W.Frag) : TS := (tSeq (tIfS (tOr (tNot (tTru K (tCB (uIsi K) (tCons (tVar 0) (tCons (tC (.ty "tuple")) tNil))))) (tOr (tTest (tOp uLt (tCB (uLen K) (tCons (tVar 0) tNil)) (tC (.int 2)))) (tNot (tTru K (tCB (uIsi K) (tCons (tOp (rIx K) (tVar 0) (tC (.int 0))) (tCons (tC (.ty "str")) tNil))))))) (tRet (tC (.bl false))) tNext) (tSeq (tIfS (tTest (tOp (uIn K) (tOp (rIx K) (tVar 0) (tC (.int 0))) (tTup (tCons (tC (.str "hire")) (tCons (tC (.str "work")) tNil))))) (tRet (tAndV (tOp (uEq K) (tCB (uLen K) (tCons (tVar 0) tNil)) (tC (.int 2))) (tCall (sp__law_own_name K) [] E0 (tCons (tOp (rIx K) (tVar 0) (tC (.int 1))) tNil)))) tNext) (tSeq (tIfS (tTest (tOp (uIn K) (tOp (rIx K) (tVar 0) (tC (.int 0))) (tTup (tCons (tC (.str "buy")) (tCons (tC (.str "free")) (tCons (tC (.str "wait")) tNil)))))) (tRet (tAndV (tOp (uEq K) (tCB (uLen K) (tCons (tVar 0) tNil)) (tC (.int 3))) (tCall (sp__law_own_standing K) [] E0 (tCons (tSl (uSl K) (tVar 0) (tPart (tC (.int 1))) tNoPart) tNil)))) tNext) (tSeq (tIfS (tOr (tTest (tOp (uNe K) (tOp (rIx K) (tVar 0) (tC (.int 0))) (tC (.str "walk")))) (tTest (tOp (uNe K) (tCB (uLen K) (tCons (tVar 0) tNil)) (tC (.int 4))))) (tRet (tC (.bl false))) tNext) (tRet (tAndV (tCall (sp__law_own_name K) [] E0 (tCons (tOp (rIx K) (tVar 0) (tC (.int 1))) tNil)) (tAndV (tCall (sp__law_own_standing K) [] E0 (tCons (tSl (uSl K) (tVar 0) (tPart (tC (.int 2))) tNoPart) tNil)) (tOp (uNe K) (tOp (rIx K) (tVar 0) (tC (.int 1))) (tOp (rIx K) (tVar 0) (tC (.int 2)))))))))))
def t__law_own_account (K : PySem.W.Frag) : TS := (tSeq (tIfS (tNot (tTru K (tCB (uIsi K) (tCons (tVar 0) (tCons (tC (.ty "str")) tNil))))) (tRet (tC (.bl false))) tNext) (tSeq (tIfS (tOr (tTest (tOp (uEq K) (tVar 0) (tC (.str "")))) (tTru K (tCall (sp__law_own_name K) [] E0 (tCons (tVar 0) tNil)))) (tRet (tC (.bl true))) tNext) (tSeq (tAsg (tM1 (m_split K) (tVar 0) (tC (.str " "))) (gName 1)) (tRet (tAndV (tOp (uEq K) (tCB (uLen K) (tCons (tVar 1) tNil)) (tC (.int 2))) (tAndV (tCall (sp__law_own_name K) [] E0 (tCons (tOp (rIx K) (tVar 1) (tC (.int 0))) tNil)) (tAndV (tOp (uEq K) (tCB (uLen K) (tCons (tOp (rIx K) (tVar 1) (tC (.int 1))) tNil)) (tC (.int 1))) (tOp (uIn K) (tOp (rIx K) (tVar 1) (tC (.int 1))) (tC (.str "012345678"))))))))))
def t__law_own_read (K : PySem.W.Frag) : TS := (tSeq (tIfS (tOr (tNot (tTru K (tCB (uIsi K) (tCons (tVar 0) (tCons (tC (.ty "str")) tNil))))) (tOr (tTest (tOp (uEq K) (tCB (uLen K) (tCons (tVar 0) tNil)) (tC (.int 0)))) (tTest (tOp uGt (tCB (uLen K) (tCons (tVar 0) tNil)) (tC (.int 9)))))) (tRet (tC .non)) tNext) (tSeq (tIfS (tOr (tTest (tOp (uNe K) (tLc (iAny K (tVar 0)) (gName 1) (tTest (tOp (uNi K) (tVar 1) (tC (.str "0123456789")))) (tVar 1) [1]) (tLst tNil))) (tAnd (tTest (tOp uGt (tCB (uLen K) (tCons (tVar 0) tNil)) (tC (.int 1)))) (tTest (tOp (uEq K) (tOp (rIx K) (tVar 0) (tC (.int 0))) (tC (.str "0")))))) (tRet (tC .non)) tNext) (tRet (tCB uInt (tCons (tVar 0) tNil)))))
def t__law_good (K : PySem.W.Frag) : TS := (tSeq (tPar3 2 3 4 (tCons (tOp (rIx K) (tVar 1) (tC (.int 0))) (tCons (tOp (rIx K) (tVar 1) (tC (.int 1))) (tCons (tCall (sp__law_of K) [] E0 (tCons (tVar 0) (tCons (tLst (tCons (tC (.int 0)) (tCons (tC (.int 1)) (tCons (tC (.int 4)) (tCons (tC (.int 7)) (tCons (tC (.int 8)) tNil)))))) tNil))) tNil)))) (tSeq (tAsg (tLst (tCons (tTup (tCons (tC (.str "buy")) (tCons (tVar 2) (tCons (tVar 4) tNil)))) (tCons (tTup (tCons (tC (.str "free")) (tCons (tVar 2) (tCons (tVar 4) tNil)))) (tCons (tTup (tCons (tC (.str "wait")) (tCons (tVar 2) (tCons (tVar 4) tNil)))) (tCons (tTup (tCons (tC (.str "hire")) (tCons (tVar 2) tNil))) (tCons (tTup (tCons (tC (.str "work")) (tCons (tVar 3) tNil))) (tCons (tTup (tCons (tC (.str "walk")) (tCons (tVar 2) (tCons (tVar 3) (tCons (tVar 4) tNil))))) tNil))))))) (gName 5)) (tSeq (tAsg (tCall (sp__law_of K) [] E0 (tCons (tVar 0) (tCons (tLst (tCons (tC (.str "0")) (tCons (tC (.str "7")) (tCons (tC (.str "10")) (tCons (tC (.str "123456789")) (tCons (tC (.str "999999999")) (tCons (tC (.str "80")) tNil))))))) tNil))) (gName 6)) (tSeq (tAsg (tLst (tCons (tVar 2) (tCons (tVar 3) (tCons (tTup (tCons (tVar 2) (tCons (tVar 4) tNil))) (tCons (tTup (tCons (tVar 3) (tCons (tVar 4) tNil))) (tCons (tTup tNil) (tCons (tCall (sp__law_of K) [] E0 (tCons (tVar 0) (tCons (tVar 5) tNil))) (tCons (tCall (sp__law_of K) [] E0 (tCons (tVar 0) (tCons (tVar 5) tNil))) (tCons (tOp (uAdd K) (tOp (uAdd K) (tVar 2) (tC (.str " "))) (tCB uStr (tCons (tVar 4) tNil))) (tCons (tC (.str "")) (tCons (tVar 6) tNil))))))))))) (gName 7)) (tRet (tCall (sp__law_of K) [] E0 (tCons (tVar 0) (tCons (tVar 7) tNil))))))))
def t__law_bent_text (K : PySem.W.Frag) : TS := (tSeq (tPar 2 3 (tCons (tCall (sp__law_take K) [] E0 (tCons (tVar 0) (tCons (tOp (uAdd K) (tCB (uLen K) (tCons (tVar 1) tNil)) (tC (.int 1))) tNil))) (tCons (tCall (sp__law_of K) [] E0 (tCons (tVar 0) (tCons (tLst (tCons (tC (.str "z")) (tCons (tC (.str "A")) (tCons (tC (.str " ")) (tCons (tC (.str "0")) (tCons (tC (.str "9")) (tCons (tC (.str "-")) (tCons (tC (.str "_")) (tCons (tC (.str "\n")) (tCons (tC (.str "aaaaaaa")) (tCons (tC (.str "0000000")) tNil))))))))))) tNil))) tNil))) (tRet (tIf (tTest (tOp (uEq K) (tCall (sp__law_take K) [] E0 (tCons (tVar 0) (tCons (tC (.int 2)) tNil))) (tC (.int 0)))) (tOp (uAdd K) (tOp (uAdd K) (tSl (uSl K) (tVar 1) tNoPart (tPart (tVar 2))) (tVar 3)) (tSl (uSl K) (tVar 1) (tPart (tVar 2)) tNoPart)) (tOp (uAdd K) (tSl (uSl K) (tVar 1) tNoPart (tPart (tVar 2))) (tSl (uSl K) (tVar 1) (tPart (tOp (uAdd K) (tVar 2) (tC (.int 1)))) tNoPart)))))
def t__law_bent (K : PySem.W.Frag) : TS := (tSeq (tAsg (tCall (sp__law_take K) [] E0 (tCons (tVar 0) (tCons (tC (.int 7)) tNil))) (gName 2)) (tSeq (tIfS (tTru K (tCB (uIsi K) (tCons (tVar 1) (tCons (tC (.ty "str")) tNil)))) (tRet (tIf (tTest (tOp uGt (tVar 2) (tC (.int 0)))) (tCall (sp__law_bent_text K) [] E0 (tCons (tVar 0) (tCons (tVar 1) tNil))) (tCall (sp__law_of K) [] E0 (tCons (tVar 0) (tCons (tLst (tCons (tLst (tCons (tVar 1) tNil)) (tCons (tTup (tCons (tVar 1) tNil)) (tCons (tCB (uLen K) (tCons (tVar 1) tNil)) (tCons (tOp (uAdd K) (tVar 1) (tVar 1)) tNil))))) tNil))))) tNext) (tSeq (tIfS (tTest (tOp (uEq K) (tVar 2) (tC (.int 0)))) (tRet (tCB (uList K) (tCons (tVar 1) tNil))) tNext) (tSeq (tIfS (tOr (tTest (tOp (uEq K) (tVar 2) (tC (.int 1)))) (tTest (tOp (uEq K) (tVar 1) (tTup tNil)))) (tRet (tOp (uAdd K) (tVar 1) (tTup (tCons (tCall (sp__law_of K) [] E0 (tCons (tVar 0) (tCons (tLst (tCons (tC (.int 0)) (tCons (tC (.str "a")) (tCons (tC .non) (tCons (tTup tNil) tNil))))) tNil))) tNil)))) tNext) (tSeq (tIfS (tTest (tOp (uEq K) (tVar 2) (tC (.int 2)))) (tRet (tSl (uSl K) (tVar 1) tNoPart (tPart (tOp uSub (tCB (uLen K) (tCons (tVar 1) tNil)) (tC (.int 1)))))) tNext) (tSeq (tAsg (tCall (sp__law_take K) [] E0 (tCons (tVar 0) (tCons (tCB (uLen K) (tCons (tVar 1) tNil)) tNil))) (gName 3)) (tSeq (tAsg (tCall (sp__law_of K) [] E0 (tCons (tVar 0) (tCons (tLst (tCons (tC (.bl true)) (tCons (tC (.bl false)) (tCons (tC (.int 9)) (tCons (tOp uSub (tC (.int 0)) (tC (.int 1))) (tCons (tC .non) (tCons (tC (.str "")) (tCons (tC (.str "a")) (tCons (tC (.str "Abc")) (tCons (tC (.str "abcdefg")) (tCons (tC (.str "buy")) (tCons (tC (.str "walk")) (tCons (tC (.int 8)) (tCons (tC (.int 0)) (tCons (tTup (tCons (tC (.str "a")) (tCons (tC (.int 1)) tNil))) tNil))))))))))))))) tNil))) (gName 4)) (tSeq (tIfS (tAnd (tTest (tOp (uEq K) (tVar 2) (tC (.int 3)))) (tTru K (tCB (uIsi K) (tCons (tOp (rIx K) (tVar 1) (tVar 3)) (tCons (tC (.ty "str")) tNil))))) (tAsg (tCall (sp__law_bent_text K) [] E0 (tCons (tVar 0) (tCons (tOp (rIx K) (tVar 1) (tVar 3)) tNil))) (gName 4)) tNext) (tRet (tOp (uAdd K) (tOp (uAdd K) (tSl (uSl K) (tVar 1) tNoPart (tPart (tVar 3))) (tTup (tCons (tVar 4) tNil))) (tSl (uSl K) (tVar 1) (tPart (tOp (uAdd K) (tVar 3) (tC (.int 1)))) tNoPart)))))))))))
def t__law_value (K : PySem.W.Frag) : TS := (tSeq (tAsg (tCall (sp__law_take K) [] E0 (tCons (tVar 0) (tCons (tC (.int 6)) tNil))) (gName 2)) (tSeq (tIfS (tTest (tOp (uEq K) (tVar 2) (tC (.int 0)))) (tRet (tCall (sp__law_odd K) [] E0 (tCons (tVar 0) tNil))) tNext) (tSeq (tIfS (tTest (tOp (uEq K) (tVar 2) (tC (.int 1)))) (tRet (tCall (sp__law_of K) [] E0 (tCons (tVar 0) (tCons (tLst (tCons (tC (.int 0)) (tCons (tC (.int 8)) (tCons (tC (.int 9)) (tCons (tC (.int 999)) (tCons (tC (.int 999999999)) (tCons (tOp uSub (tC (.int 0)) (tC (.int 1))) (tCons (tC (.int 1)) (tCons (tLst tNil) (tCons (tLst (tCons (tC (.str "a")) (tCons (tC (.int 1)) tNil))) (tCons (tC (.str "-1")) (tCons (tC (.str "+1")) (tCons (tC (.str "01")) (tCons (tC (.str "1 ")) (tCons (tC (.str "1.0")) tNil))))))))))))))) tNil)))) tNext) (tRet (tIf (tTest (tOp uLt (tVar 2) (tC (.int 4)))) (tCall (sp__law_good K) [] E0 (tCons (tVar 0) (tCons (tVar 1) tNil))) (tCall (sp__law_bent K) [] E0 (tCons (tVar 0) (tCons (tCall (sp__law_good K) [] E0 (tCons (tVar 0) (tCons (tVar 1) tNil))) tNil))))))))
def t_law (K : PySem.W.Frag) : TS := (tSeq (tAsg (tCall (sp__law_bag K) [] E0 (tCons (tVar 0) tNil)) (gName 1)) (tSeq (tAsg (tCall (sp__law_names K) [.int 6] E0 (tCons (tVar 1) (tCons (tC (.int 2)) tNil))) (gName 2)) (tSeq (tIfS (tNot (tTru K (tCall (sp__law_same K) [] E0 (tCons (tC (.ref (He.ga K "HABITS"))) (tCons (tTup (tCons (tC (.str "least")) (tCons (tC (.str "greatest")) (tCons (tC (.str "middle")) tNil)))) tNil))))) (tRet (tC (.bl false))) tNext) (tSeq (tFor (iRng1 (tCons (tC (.int 40)) tNil)) (gName 3) (tSeq (tPar3 4 5 6 (tCons (tCall (sp__law_value K) [] E0 (tCons (tVar 1) (tCons (tVar 2) tNil))) (tCons (tCall (sp__law_of K) [] E0 (tCons (tVar 1) (tCons (tLst (tCons (tC (.int 0)) (tCons (tC (.int 1)) (tCons (tOp uSub (tC (.int 0)) (tC (.int 5))) (tCons (tC (.int 8)) (tCons (tC (.int 999)) tNil)))))) tNil))) (tCons (tCall (sp__law_of K) [] E0 (tCons (tVar 1) (tCons (tLst (tCons (tC (.int 0)) (tCons (tC (.int 1)) (tCons (tC (.int 7)) (tCons (tC (.int 990)) tNil))))) tNil))) tNil)))) (tSeq (tAsg (tLst (tCons (tCall (sp_is_name K) [] E0 (tCons (tVar 4) tNil)) (tCons (tCall (sp_is_standing K) [] E0 (tCons (tVar 4) tNil)) (tCons (tCall (sp_is_place K) [] E0 (tCons (tVar 4) tNil)) (tCons (tCall (sp_is_key K) [] E0 (tCons (tVar 4) tNil)) (tCons (tCall (sp_is_account K) [] E0 (tCons (tVar 4) tNil)) (tCons (tCall (sp_number_in K) [] E0 (tCons (tVar 4) tNil)) tNil))))))) (gName 7)) (tSeq (tAsg (tLst (tCons (tCallN 0 (["value"] : List Str).length (sp_is_name K) (fun vs zs => KB.g_is_name_0_value vs zs) E0 tNil (tCons (tVar 4) tNil)) (tCons (tCallN 0 (["value"] : List Str).length (sp_is_standing K) (fun vs zs => KB.g_is_standing_0_value vs zs) E0 tNil (tCons (tVar 4) tNil)) (tCons (tCallN 0 (["value"] : List Str).length (sp_is_place K) (fun vs zs => KB.g_is_place_0_value vs zs) E0 tNil (tCons (tVar 4) tNil)) (tCons (tCallN 0 (["value"] : List Str).length (sp_is_key K) (fun vs zs => KB.g_is_key_0_value vs zs) E0 tNil (tCons (tVar 4) tNil)) (tCons (tCallN 0 (["text"] : List Str).length (sp_number_in K) (fun vs zs => KB.g_number_in_0_text vs zs) E0 tNil (tCons (tVar 4) tNil)) tNil)))))) (gName 8)) (tSeq (tIfS (tNot (tTru K (tCall (sp__law_same K) [] E0 (tCons (tVar 8) (tCons (tOp (uAdd K) (tSl (uSl K) (tVar 7) tNoPart (tPart (tC (.int 4)))) (tSl (uSl K) (tVar 7) (tPart (tC (.int 5))) tNoPart)) tNil))))) (tRet (tC (.bl false))) tNext) (tSeq (tAsg (tAndV (tCB (uIsi K) (tCons (tVar 4) (tCons (tC (.ty "tuple")) tNil))) (tOp (uEq K) (tCB (uLen K) (tCons (tVar 4) tNil)) (tC (.int 0)))) (gName 9)) (tSeq (tAsg (tLst (tCons (tCall (sp__law_own_name K) [] E0 (tCons (tVar 4) tNil)) (tCons (tCall (sp__law_own_standing K) [] E0 (tCons (tVar 4) tNil)) (tCons (tOrV (tVar 9) (tCall (sp__law_own_standing K) [] E0 (tCons (tVar 4) tNil))) (tCons (tCall (sp__law_own_key K) [] E0 (tCons (tVar 4) tNil)) tNil))))) (gName 10)) (tSeq (tIfS (tNot (tTru K (tCall (sp__law_same K) [] E0 (tCons (tVar 7) (tCons (tOp (uAdd K) (tVar 10) (tLst (tCons (tCall (sp__law_own_account K) [] E0 (tCons (tVar 4) tNil)) (tCons (tCall (sp__law_own_read K) [] E0 (tCons (tVar 4) tNil)) tNil)))) tNil))))) (tRet (tC (.bl false))) tNext) (tSeq (tAsg (tLst (tCons (tCall (sp_is_number K) [] E0 (tCons (tVar 4) (tCons (tVar 5) (tCons (tOp (uAdd K) (tVar 5) (tVar 6)) tNil)))) (tCons (tCallN 0 (["least", "most", "value"] : List Str).length (sp_is_number K) (fun vs zs => KB.g_is_number_0_least_most_value vs zs) E0 tNil (tCons (tVar 5) (tCons (tOp (uAdd K) (tVar 5) (tVar 6)) (tCons (tOp (uAdd K) (tVar 5) (tVar 6)) tNil)))) tNil))) (gName 7)) (tSeq (tAsg (tOp (uAdd K) (tVar 7) (tLst (tCons (tCall (sp_is_number K) [] E0 (tCons (tVar 5) (tCons (tVar 5) (tCons (tOp (uAdd K) (tVar 5) (tVar 6)) tNil)))) (tCons (tCall (sp_is_number K) [] E0 (tCons (tOp uSub (tVar 5) (tC (.int 1))) (tCons (tVar 5) (tCons (tOp (uAdd K) (tVar 5) (tVar 6)) tNil)))) (tCons (tCall (sp_is_number K) [] E0 (tCons (tOp (uAdd K) (tOp (uAdd K) (tVar 5) (tVar 6)) (tC (.int 1))) (tCons (tVar 5) (tCons (tOp (uAdd K) (tVar 5) (tVar 6)) tNil)))) tNil))))) (gName 7)) (tSeq (tIfS (tNot (tTru K (tCall (sp__law_same K) [] E0 (tCons (tVar 7) (tCons (tLst (tCons (tCall (sp__law_own_number K) [] E0 (tCons (tVar 4) (tCons (tVar 5) (tCons (tOp (uAdd K) (tVar 5) (tVar 6)) tNil)))) (tCons (tC (.bl true)) (tCons (tC (.bl true)) (tCons (tC (.bl false)) (tCons (tC (.bl false)) tNil)))))) tNil))))) (tRet (tC (.bl false))) tNext) (tSeq (tAsg (tTup (tCons (tOp (rIx K) (tVar 2) (tOp uMod (tCB uInt (tCons (tVar 3) tNil)) (tC (.int 2)))) (tCons (tCall (sp__law_take K) [] E0 (tCons (tVar 1) (tCons (tC (.int 9)) tNil))) tNil))) (gName 11)) (tSeq (tAsg (tCall (sp_account_of K) [] E0 (tCons (tVar 11) tNil)) (gName 12)) (tIfS (tNot (tTru K (tCall (sp__law_same K) [] E0 (tCons (tLst (tCons (tVar 12) (tCons (tCallN 0 (["value"] : List Str).length (sp_is_account K) (fun vs zs => KB.g_is_account_0_value vs zs) E0 tNil (tCons (tVar 12) tNil)) (tCons (tCallN 0 (["standing"] : List Str).length (sp_account_of K) (fun vs zs => KB.g_account_of_0_standing vs zs) E0 tNil (tCons (tVar 11) tNil)) tNil)))) (tCons (tLst (tCons (tOp (uAdd K) (tOp (uAdd K) (tOp (rIx K) (tVar 11) (tC (.int 0))) (tC (.str " "))) (tCB uStr (tCons (tOp (rIx K) (tVar 11) (tC (.int 1))) tNil))) (tCons (tC (.bl true)) (tCons (tVar 12) tNil)))) tNil))))) (tRet (tC (.bl false))) tNext)))))))))))))) (tRet (tC (.bl true)))))))
end K01

namespace K01
open PySem PySem.Spec PyProof.Rows L2 SW
theorem dv_is_whole {P : Program} {w : World} {K : PySem.W.Frag} {mg : Str → Option Value} {base : Heap} (T : Tx K mg) {cdv : Value} {A : Around} {outer : List Env} {s : Shared} {H : Hp} {E : XK} (hr : Room 0 (A.deeper (envOfC "is_whole" (defScope (top 8)) s.heap.objs.size (He.ga K "is_whole") cdv))) :
    PSs (cxOf CX0 P w K mg base ["value"] "is_whole" (defScope (top 8)) (He.ga K "is_whole") cdv A outer s H E) (defBody (top 8)) (t_is_whole K) :=
  PSs.nox (pss_one (ps_ret (pe_and (pe_callB u_isi rfl T.b_isinstance bt_isinstance (pa_cons (pv 0) (pa_cons (pe_ty rfl T.b_int bt_int) pa_nil))) (pe_one (pe_not (pe_callB u_isi rfl T.b_isinstance bt_isinstance (pa_cons (pv 0) (pa_cons (pe_ty rfl T.b_bool bt_bool) pa_nil))))))))
theorem dv_is_number {P : Program} {w : World} {K : PySem.W.Frag} {mg : Str → Option Value} {base : Heap} (T : Tx K mg) {cdv : Value} {A : Around} {outer : List Env} {s : Shared} {H : Hp} {E : XK} (hr : Room 1 (A.deeper (envOfC "is_number" (defScope (top 9)) s.heap.objs.size (He.ga K "is_number") cdv))) (G_is_whole : FnOk P w K mg base CX0 1 (He.ga K "is_whole") T.fd_is_whole ["value"] (sp_is_whole K)) :
    PSs (cxOf CX0 P w K mg base ["value", "least", "most"] "is_number" (defScope (top 9)) (He.ga K "is_number") cdv A outer s H E) (defBody (top 9)) (t_is_number K) :=
  PSs.nox (pss_one (ps_ret (pe_and (pe_call G_is_whole (hr.mono (by decide)) rfl T.g_is_whole T.F_is_whole.kp T.B_is_whole .nil pass0 (pa_cons (pv 0) pa_nil)) (pe_one (pe_chain u_le u_le (pv 1) (pv 0) (pv 2))))))
theorem dv_is_name {P : Program} {w : World} {K : PySem.W.Frag} {mg : Str → Option Value} {base : Heap} (T : Tx K mg) {cdv : Value} {A : Around} {outer : List Env} {s : Shared} {H : Hp} {E : XK} (hr : Room 0 (A.deeper (envOfC "is_name" (defScope (top 10)) s.heap.objs.size (He.ga K "is_name") cdv))) :
    PSs (cxOf CX0 P w K mg base ["value", "sign"] "is_name" (defScope (top 10)) (He.ga K "is_name") cdv A outer s H E) (defBody (top 10)) (t_is_name K) :=
  PSs.nox (pss_cons (ps_if (PW.pt (pw_or (pt_not (pt_tru (pe_callB u_isi rfl T.b_isinstance bt_isinstance (pa_cons (pv 0) (pa_cons (pe_ty rfl T.b_str bt_str) pa_nil))) (by intro _; rfl))) (pw_or1 (pt_not (pt_chain u_le u_le pe_int (pe_callB u_len rfl T.b_len bt_len (pa_cons (pv 0) pa_nil)) (pe_gint rfl T.c_MAX_NAME)))))) (pss_one (ps_ret pe_bl)) pss_nil) (pss_one (ps_ret (pe_callB (cr_all rfl) rfl T.b_all bt_all (pa_cons (pe_lc (own := [("sign", 1)]) (g := (gName 1)) rfl sc_is_name.nd (pi_any (pv 0)) (blkOk_by (N := ["value", "sign"]) (sc := (defScope (top 10))) (own := [("sign", 1)]) (by decide +kernel)) (fun _ _ _ _ _ => (pg_name (i := 1) sc_is_name.nd rfl (by first | exact Or.inl rfl | exact Or.inr rfl))) (fun _ _ _ _ _ => pts_nil) (fun _ _ _ _ _ => (pe_cmpR u_in (pv 1) (pe_gstr rfl T.c_SMALL) rfl))) pa_nil)))))
theorem dv_is_standing {P : Program} {w : World} {K : PySem.W.Frag} {mg : Str → Option Value} {base : Heap} (T : Tx K mg) {cdv : Value} {A : Around} {outer : List Env} {s : Shared} {H : Hp} {E : XK} (hr : Room 2 (A.deeper (envOfC "is_standing" (defScope (top 11)) s.heap.objs.size (He.ga K "is_standing") cdv))) (G_is_name : FnOk P w K mg base CX0 1 (He.ga K "is_name") T.fd_is_name ["value"] (sp_is_name K)) (G_is_number : FnOk P w K mg base CX0 2 (He.ga K "is_number") T.fd_is_number ["value", "least", "most"] (sp_is_number K)) :
    PSs (cxOf CX0 P w K mg base ["value"] "is_standing" (defScope (top 11)) (He.ga K "is_standing") cdv A outer s H E) (defBody (top 11)) (t_is_standing K) :=
  PSs.nox (pss_cons (ps_if (PW.pt (pw_or (pt_not (pt_tru (pe_callB u_isi rfl T.b_isinstance bt_isinstance (pa_cons (pv 0) (pa_cons (pe_ty rfl T.b_tuple bt_tuple) pa_nil))) (by intro _; rfl))) (pw_or1 (pt_cmpR (u_ne hr.units) (pe_callB u_len rfl T.b_len bt_len (pa_cons (pv 0) pa_nil)) pe_int (nomark _))))) (pss_one (ps_ret pe_bl)) pss_nil) (pss_one (ps_ret (pe_and (pe_call G_is_name (hr.mono (by decide)) rfl T.g_is_name T.F_is_name.kp T.B_is_name .nil pass0 (pa_cons (pe_ix ix_seq (pv 0) pe_int (fun _ _ => rfl)) pa_nil)) (pe_one (pe_call G_is_number (hr.mono (by decide)) rfl T.g_is_number T.F_is_number.kp T.B_is_number .nil pass0 (pa_cons (pe_ix ix_seq (pv 0) pe_int (fun _ _ => rfl)) (pa_cons pe_int (pa_cons (pe_gint rfl T.c_MAX_HOUR) pa_nil)))))))))
theorem dv_is_place {P : Program} {w : World} {K : PySem.W.Frag} {mg : Str → Option Value} {base : Heap} (T : Tx K mg) {cdv : Value} {A : Around} {outer : List Env} {s : Shared} {H : Hp} {E : XK} (hr : Room 3 (A.deeper (envOfC "is_place" (defScope (top 12)) s.heap.objs.size (He.ga K "is_place") cdv))) (G_is_standing : FnOk P w K mg base CX0 3 (He.ga K "is_standing") T.fd_is_standing ["value"] (sp_is_standing K)) :
    PSs (cxOf CX0 P w K mg base ["value"] "is_place" (defScope (top 12)) (He.ga K "is_place") cdv A outer s H E) (defBody (top 12)) (t_is_place K) :=
  PSs.nox (pss_one (ps_ret (pe_and (pe_callB u_isi rfl T.b_isinstance bt_isinstance (pa_cons (pv 0) (pa_cons (pe_ty rfl T.b_tuple bt_tuple) pa_nil))) (pe_one (pe_or (pe_cmpR (u_eq hr.units) (pe_callB u_len rfl T.b_len bt_len (pa_cons (pv 0) pa_nil)) pe_int (nomark _)) (pe_one (pe_call G_is_standing (hr.mono (by decide)) rfl T.g_is_standing T.F_is_standing.kp T.B_is_standing .nil pass0 (pa_cons (pv 0) pa_nil))))))))
theorem dv_is_key {P : Program} {w : World} {K : PySem.W.Frag} {mg : Str → Option Value} {base : Heap} (T : Tx K mg) {cdv : Value} {A : Around} {outer : List Env} {s : Shared} {H : Hp} {E : XK} (hr : Room 3 (A.deeper (envOfC "is_key" (defScope (top 13)) s.heap.objs.size (He.ga K "is_key") cdv))) (G_is_name : FnOk P w K mg base CX0 1 (He.ga K "is_name") T.fd_is_name ["value"] (sp_is_name K)) (G_is_standing : FnOk P w K mg base CX0 3 (He.ga K "is_standing") T.fd_is_standing ["value"] (sp_is_standing K)) :
    PSs (cxOf CX0 P w K mg base ["value", "word", "rest"] "is_key" (defScope (top 13)) (He.ga K "is_key") cdv A outer s H E) (defBody (top 13)) (t_is_key K) :=
  PSs.nox (pss_cons (ps_if (PW.pt (pw_or (pt_not (pt_tru (pe_callB u_isi rfl T.b_isinstance bt_isinstance (pa_cons (pv 0) (pa_cons (pe_ty rfl T.b_tuple bt_tuple) pa_nil))) (by intro _; rfl))) (pw_or (pt_cmpR (u_eq hr.units) (pe_callB u_len rfl T.b_len bt_len (pa_cons (pv 0) pa_nil)) pe_int (nomark _)) (pw_or1 (pt_not (pt_tru (pe_callB u_isi rfl T.b_isinstance bt_isinstance (pa_cons (pe_ix ix_seq (pv 0) pe_int (fun _ _ => rfl)) (pa_cons (pe_ty rfl T.b_str bt_str) pa_nil))) (by intro _; rfl))))))) (pss_one (ps_ret pe_bl)) pss_nil) (pss_cons (ps_par (i := 1) (j := 2) rfl sc_is_key.nd rfl rfl (by decide) rfl rfl (pa_cons (pe_ix ix_seq (pv 0) pe_int (fun _ _ => rfl)) (pa_cons (pe_slice u_sl (pv 0) (po_some pe_int) po_none) pa_nil)) (by rfl)) (pss_cons (ps_if (pt_cmpR u_in (pv 1) (pe_tup (pa_cons pe_str (pa_cons pe_str pa_nil))) rfl) (pss_one (ps_ret (pe_and (pe_cmpR (u_eq hr.units) (pe_callB u_len rfl T.b_len bt_len (pa_cons (pv 2) pa_nil)) pe_int (nomark _)) (pe_one (pe_call G_is_name (hr.mono (by decide)) rfl T.g_is_name T.F_is_name.kp T.B_is_name .nil pass0 (pa_cons (pe_ix ix_seq (pv 2) pe_int (fun _ _ => rfl)) pa_nil)))))) pss_nil) (pss_cons (ps_if (pt_cmpR u_in (pv 1) (pe_tup (pa_cons pe_str (pa_cons pe_str (pa_cons pe_str pa_nil)))) rfl) (pss_one (ps_ret (pe_call G_is_standing (hr.mono (by decide)) rfl T.g_is_standing T.F_is_standing.kp T.B_is_standing .nil pass0 (pa_cons (pv 2) pa_nil)))) pss_nil) (pss_one (ps_ret (pe_and (pe_cmpR (u_eq hr.units) (pv 1) pe_str (nomark _)) (pe_and (pe_cmpR (u_eq hr.units) (pe_callB u_len rfl T.b_len bt_len (pa_cons (pv 2) pa_nil)) pe_int (nomark _)) (pe_and (pe_call G_is_name (hr.mono (by decide)) rfl T.g_is_name T.F_is_name.kp T.B_is_name .nil pass0 (pa_cons (pe_ix ix_seq (pv 2) pe_int (fun _ _ => rfl)) pa_nil)) (pe_and (pe_call G_is_standing (hr.mono (by decide)) rfl T.g_is_standing T.F_is_standing.kp T.B_is_standing .nil pass0 (pa_cons (pe_slice u_sl (pv 2) (po_some pe_int) po_none) pa_nil)) (pe_one (pe_cmpR (u_ne hr.units) (pe_ix ix_seq (pv 2) pe_int (fun _ _ => rfl)) (pe_ix ix_seq (pv 2) pe_int (fun _ _ => rfl)) (nomark _)))))))))))))
theorem dv_is_account {P : Program} {w : World} {K : PySem.W.Frag} {mg : Str → Option Value} {base : Heap} (T : Tx K mg) {cdv : Value} {A : Around} {outer : List Env} {s : Shared} {H : Hp} {E : XK} (hr : Room 1 (A.deeper (envOfC "is_account" (defScope (top 14)) s.heap.objs.size (He.ga K "is_account") cdv))) (G_is_name : FnOk P w K mg base CX0 1 (He.ga K "is_name") T.fd_is_name ["value"] (sp_is_name K)) :
    PSs (cxOf CX0 P w K mg base ["value", "yard", "mark", "hour"] "is_account" (defScope (top 14)) (He.ga K "is_account") cdv A outer s H E) (defBody (top 14)) (t_is_account K) :=
  PSs.nox (pss_cons (ps_if (pt_not (pt_tru (pe_callB u_isi rfl T.b_isinstance bt_isinstance (pa_cons (pv 0) (pa_cons (pe_ty rfl T.b_str bt_str) pa_nil))) (by intro _; rfl))) (pss_one (ps_ret pe_bl)) pss_nil) (pss_cons (ps_if (PW.pt (pw_or (pt_cmpR (u_eq hr.units) (pv 0) pe_str (nomark _)) (pw_or1 (pt_tru (pe_call G_is_name (hr.mono (by decide)) rfl T.g_is_name T.F_is_name.kp T.B_is_name .nil pass0 (pa_cons (pv 0) pa_nil)) (by intro _; rfl))))) (pss_one (ps_ret pe_bl)) pss_nil) (pss_cons (ps_asg (pe_partition (pv 0) pe_str) (pg_tup rfl (pgs_cons (pg_name (i := 1) sc_is_account.nd rfl (by first | exact Or.inl rfl | exact Or.inr rfl)) (pgs_cons (pg_name (i := 2) sc_is_account.nd rfl (by first | exact Or.inl rfl | exact Or.inr rfl)) (pgs_cons (pg_name (i := 3) sc_is_account.nd rfl (by first | exact Or.inl rfl | exact Or.inr rfl)) pgs_nil))))) (pss_one (ps_ret (pe_and (pe_call G_is_name (hr.mono (by decide)) rfl T.g_is_name T.F_is_name.kp T.B_is_name .nil pass0 (pa_cons (pv 1) pa_nil)) (pe_and (pe_cmpR (u_eq hr.units) (pe_callB u_len rfl T.b_len bt_len (pa_cons (pv 3) pa_nil)) pe_int (nomark _)) (pe_one (pe_cmpR u_in (pv 3) (pe_gstr rfl T.c_HOURS) rfl)))))))))
theorem dv_account_of {P : Program} {w : World} {K : PySem.W.Frag} {mg : Str → Option Value} {base : Heap} (T : Tx K mg) {cdv : Value} {A : Around} {outer : List Env} {s : Shared} {H : Hp} {E : XK} (hr : Room 0 (A.deeper (envOfC "account_of" (defScope (top 15)) s.heap.objs.size (He.ga K "account_of") cdv))) :
    PSs (cxOf CX0 P w K mg base ["standing"] "account_of" (defScope (top 15)) (He.ga K "account_of") cdv A outer s H E) (defBody (top 15)) (t_account_of K) :=
  PSs.nox (pss_one (ps_ret (pe_joined (.cons (pe_fmt (pe_ix ix_seq (pv 0) pe_int (fun _ _ => rfl))) (.cons pe_str (.cons (pe_fmt (pe_ix ix_seq (pv 0) pe_int (fun _ _ => rfl))) .nil))))))
theorem dv_number_in {P : Program} {w : World} {K : PySem.W.Frag} {mg : Str → Option Value} {base : Heap} (T : Tx K mg) {cdv : Value} {A : Around} {outer : List Env} {s : Shared} {H : Hp} {E : XK} (hr : Room 0 (A.deeper (envOfC "number_in" (defScope (top 16)) s.heap.objs.size (He.ga K "number_in") cdv))) :
    PSs (cxOf CX0 P w K mg base ["text", "sign"] "number_in" (defScope (top 16)) (He.ga K "number_in") cdv A outer s H E) (defBody (top 16)) (t_number_in K) :=
  PSs.nox (pss_cons (ps_if (PW.pt (pw_or (pt_not (pt_tru (pe_callB u_isi rfl T.b_isinstance bt_isinstance (pa_cons (pv 0) (pa_cons (pe_ty rfl T.b_str bt_str) pa_nil))) (by intro _; rfl))) (pw_or (pt_not (pt_chain u_le u_le pe_int (pe_callB u_len rfl T.b_len bt_len (pa_cons (pv 0) pa_nil)) (pe_gint rfl T.c_MAX_DIGITS))) (pw_or1 (pt_not (pt_tru (pe_callB (cr_all rfl) rfl T.b_all bt_all (pa_cons (pe_lc (own := [("sign", 1)]) (g := (gName 1)) rfl sc_number_in.nd (pi_any (pv 0)) (blkOk_by (N := ["text", "sign"]) (sc := (defScope (top 16))) (own := [("sign", 1)]) (by decide +kernel)) (fun _ _ _ _ _ => (pg_name (i := 1) sc_number_in.nd rfl (by first | exact Or.inl rfl | exact Or.inr rfl))) (fun _ _ _ _ _ => pts_nil) (fun _ _ _ _ _ => (pe_cmpR u_in (pv 1) (pe_gstr rfl T.c_DIGITS) rfl))) pa_nil)) (by intro _; rfl))))))) (pss_one (ps_ret pe_non)) pss_nil) (pss_one (ps_ret (pe_ifExp (PW.pt (pw_or (pt_cmpR (u_eq hr.units) (pv 0) pe_str (nomark _)) (pw_or1 (pt_cmpR (u_ne hr.units) (pe_ix ix_seq (pv 0) pe_int (fun _ _ => rfl)) pe_str (nomark _))))) (pe_callTy u_int rfl T.b_int bt_int (pa_cons (pv 0) pa_nil)) pe_non))))
theorem dv__law_bag {P : Program} {w : World} {K : PySem.W.Frag} {mg : Str → Option Value} {base : Heap} (T : Tx K mg) {cdv : Value} {A : Around} {outer : List Env} {s : Shared} {H : Hp} {E : XK} (hr : Room 0 (A.deeper (envOfC "_law_bag" (defScope (top 18)) s.heap.objs.size (He.ga K "_law_bag") cdv))) :
    PSs (cxOf CX0 P w K mg base ["_law_script", "_law_cells"] "_law_bag" (defScope (top 18)) (He.ga K "_law_bag") cdv A outer s H E) (defBody (top 18)) (t__law_bag K) :=
  PSs.nox (pss_cons (ps_set (i := 1) sc__law_bag.nd rfl (by first | exact Or.inl rfl | exact Or.inr rfl) (pe_callTy u_list rfl T.b_list bt_list (pa_cons (pe_slice u_sl (pv 0) po_none (po_some pe_int)) pa_nil))) (pss_one (ps_ret (pe_lst (pa_cons (pv 1) (pa_cons pe_int (pa_cons pe_int (pa_cons (pe_op u_add pe_int (pe_op u_mul pe_int (pe_callB u_len rfl T.b_len bt_len (pa_cons (pv 1) pa_nil)))) pa_nil))))))))
theorem dv__law_take {P : Program} {w : World} {K : PySem.W.Frag} {mg : Str → Option Value} {base : Heap} (T : Tx K mg) {cdv : Value} {A : Around} {outer : List Env} {s : Shared} {H : Hp} {E : XK} (hr : Room 0 (A.deeper (envOfC "_law_take" (defScope (top 19)) s.heap.objs.size (He.ga K "_law_take") cdv))) :
    PSs (cxOf CX0 P w K mg base ["_law_bag_here", "_law_size", "_law_cell", "_law_digit"] "_law_take" (defScope (top 19)) (He.ga K "_law_take") cdv A outer s H E) (defBody (top 19)) (t__law_take K) :=
  PSs.nox (pss_cons (ps_if (PW.pt (pw_and (pt_cmpR (u_eq hr.units) (pe_ix ix_seq (pv 0) pe_int (fun _ _ => rfl)) pe_int (nomark _)) (pw_and1 (pt_cmpR u_lt (pe_ix ix_seq (pv 0) pe_int (fun _ _ => rfl)) (pe_callB u_len rfl T.b_len bt_len (pa_cons (pe_ix ix_seq (pv 0) pe_int (fun _ _ => rfl)) pa_nil)) (nomark _))))) (pss_cons (ps_set (i := 2) sc__law_take.nd rfl (by first | exact Or.inl rfl | exact Or.inr rfl) (pe_ix ix_seq (pe_ix ix_seq (pv 0) pe_int (fun _ _ => rfl)) (pe_ix ix_seq (pv 0) pe_int (fun _ _ => rfl)) (fun _ _ => rfl))) (pss_cons (ps_asg (pe_op u_add (pe_ix ix_seq (pv 0) pe_int (fun _ _ => rfl)) pe_int) (pg_sub (pv 0) pe_int set_list)) (pss_cons (ps_asg (pe_op u_mod (pe_callTy u_int rfl T.b_int bt_int (pa_cons (pe_op u_add (pe_op u_add (pe_op u_mul (pe_ix ix_seq (pv 0) pe_int (fun _ _ => rfl)) pe_int) (pe_op u_mul (pe_op u_mod (pe_callTy u_int rfl T.b_int bt_int (pa_cons (pv 2) pa_nil)) pe_int) pe_int)) pe_int) pa_nil)) pe_int) (pg_sub (pv 0) pe_int set_list)) (pss_one (ps_if (pt_cmpR u_ge (pv 2) (pe_op u_pow pe_int pe_int) (nomark _)) (pss_one (ps_asg (pv 2) (pg_sub (pv 0) pe_int set_list))) pss_nil))))) pss_nil) (pss_cons (ps_if (pt_cmpR u_gt (pe_ix ix_seq (pv 0) pe_int (fun _ _ => rfl)) pe_int (nomark _)) (pss_cons (ps_set (i := 3) sc__law_take.nd rfl (by first | exact Or.inl rfl | exact Or.inr rfl) (pe_op u_mod (pe_callTy u_int rfl T.b_int bt_int (pa_cons (pe_ix ix_seq (pv 0) pe_int (fun _ _ => rfl)) pa_nil)) (pv 1))) (pss_cons (ps_asg (pe_op u_fdiv (pe_ix ix_seq (pv 0) pe_int (fun _ _ => rfl)) (pv 1)) (pg_sub (pv 0) pe_int set_list)) (pss_one (ps_ret (pv 3))))) pss_nil) (pss_cons (ps_asg (pe_op u_mod (pe_callTy u_int rfl T.b_int bt_int (pa_cons (pe_op u_add (pe_op u_add (pe_op u_mul (pe_ix ix_seq (pv 0) pe_int (fun _ _ => rfl)) (pe_ix ix_seq (pv 0) pe_int (fun _ _ => rfl))) (pe_op u_mul (pe_ix ix_seq (pv 0) pe_int (fun _ _ => rfl)) pe_int)) pe_int) pa_nil)) pe_int) (pg_sub (pv 0) pe_int set_list)) (pss_one (ps_ret (pe_op u_mod (pe_callTy u_int rfl T.b_int bt_int (pa_cons (pe_op u_add (pe_op u_fdiv (pe_ix ix_seq (pv 0) pe_int (fun _ _ => rfl)) pe_int) (pe_op u_mul (pe_op u_mod (pe_callTy u_int rfl T.b_int bt_int (pa_cons (pe_ix ix_seq (pv 0) pe_int (fun _ _ => rfl)) pa_nil)) pe_int) pe_int)) pa_nil)) (pv 1)))))))
theorem dv__law_of {P : Program} {w : World} {K : PySem.W.Frag} {mg : Str → Option Value} {base : Heap} (T : Tx K mg) {cdv : Value} {A : Around} {outer : List Env} {s : Shared} {H : Hp} {E : XK} (hr : Room 1 (A.deeper (envOfC "_law_of" (defScope (top 20)) s.heap.objs.size (He.ga K "_law_of") cdv))) (G__law_take : FnOk P w K mg base CX0 1 (He.ga K "_law_take") T.fd__law_take ["_law_bag_here", "_law_size"] (sp__law_take K)) :
    PSs (cxOf CX0 P w K mg base ["_law_bag_here", "_law_some"] "_law_of" (defScope (top 20)) (He.ga K "_law_of") cdv A outer s H E) (defBody (top 20)) (t__law_of K) :=
  PSs.nox (pss_one (ps_ret (pe_ix ix_seq (pv 1) (pe_call G__law_take (hr.mono (by decide)) rfl T.g__law_take T.F__law_take.kp T.B__law_take .nil pass0 (pa_cons (pv 0) (pa_cons (pe_callB u_len rfl T.b_len bt_len (pa_cons (pv 1) pa_nil)) pa_nil))) (fun _ _ => rfl))))
theorem dv__law_same {P : Program} {w : World} {K : PySem.W.Frag} {mg : Str → Option Value} {base : Heap} (T : Tx K mg) {cdv : Value} {A : Around} {outer : List Env} {s : Shared} {H : Hp} {E : XK} {kr : Nat} {rec : Sp} (hr : Room kr (A.deeper (envOfC "_law_same" (defScope (top 21)) s.heap.objs.size (He.ga K "_law_same") cdv))) (G__law_same : FnOk P w K mg base CX0 kr (He.ga K "_law_same") T.fd__law_same ["_law_found", "_law_due"] rec) :
    PSs (cxOf CX0 P w K mg base ["_law_found", "_law_due", "_law_k"] "_law_same" (defScope (top 21)) (He.ga K "_law_same") cdv A outer s H E) (defBody (top 21)) (t__law_same K rec) :=
  PSs.nox (pss_cons (ps_if (PW.pt (pw_or (pt_cmpR op_isN1 (pv 1) pe_non (nomark _)) (pw_or1 (pt_cmpR op_isN1 (pv 0) pe_non (nomark _))))) (pss_one (ps_ret (pe_and (pe_cmpR op_isN1 (pv 1) pe_non (nomark _)) (pe_one (pe_cmpR op_isN1 (pv 0) pe_non (nomark _)))))) pss_nil) (pss_cons (ps_if (pt_tru (pe_callB u_isi rfl T.b_isinstance bt_isinstance (pa_cons (pv 1) (pa_cons (pe_tup (pa_cons (pe_ty rfl T.b_list bt_list) (pa_cons (pe_ty rfl T.b_tuple bt_tuple) pa_nil))) pa_nil))) (by intro _; rfl)) (pss_cons (ps_if (PW.pt (pw_or (pt_cmpR (u_ne hr.units) (pe_callB u_isi rfl T.b_isinstance bt_isinstance (pa_cons (pv 0) (pa_cons (pe_ty rfl T.b_list bt_list) pa_nil))) (pe_callB u_isi rfl T.b_isinstance bt_isinstance (pa_cons (pv 1) (pa_cons (pe_ty rfl T.b_list bt_list) pa_nil))) (nomark _)) (pw_or1 (pt_cmpR (u_ne hr.units) (pe_callB u_isi rfl T.b_isinstance bt_isinstance (pa_cons (pv 0) (pa_cons (pe_ty rfl T.b_tuple bt_tuple) pa_nil))) (pe_callB u_isi rfl T.b_isinstance bt_isinstance (pa_cons (pv 1) (pa_cons (pe_ty rfl T.b_tuple bt_tuple) pa_nil))) (nomark _))))) (pss_one (ps_ret pe_bl)) pss_nil) (pss_one (ps_ret (pe_and (pe_cmpR (u_eq hr.units) (pe_callB u_len rfl T.b_len bt_len (pa_cons (pv 0) pa_nil)) (pe_callB u_len rfl T.b_len bt_len (pa_cons (pv 1) pa_nil)) (nomark _)) (pe_one (pe_cmpR (u_eq hr.units) (pe_lc (own := [("_law_k", 2)]) (g := (gName 2)) rfl sc__law_same.nd (pi_range1 rfl T.b_range (pa_cons (pe_callB u_len rfl T.b_len bt_len (pa_cons (pv 1) pa_nil)) pa_nil)) (blkOk_by (N := ["_law_found", "_law_due", "_law_k"]) (sc := (defScope (top 21))) (own := [("_law_k", 2)]) (by decide +kernel)) (fun _ _ _ _ _ => (pg_name (i := 2) sc__law_same.nd rfl (by first | exact Or.inl rfl | exact Or.inr rfl))) (fun _ _ _ _ _ => (pts_one (pt_not (pt_tru (pe_call G__law_same hr rfl T.g__law_same T.F__law_same.kp T.B__law_same .nil pass0 (pa_cons (pe_ix ix_seq (pv 0) (pv 2) (fun _ _ => rfl)) (pa_cons (pe_ix ix_seq (pv 1) (pv 2) (fun _ _ => rfl)) pa_nil))) (by intro _; rfl))))) (fun _ _ _ _ _ => (pv 2))) (pe_lst pa_nil) (nomark _))))))) pss_nil) (pss_cons (ps_if (pt_tru (pe_callB u_isi rfl T.b_isinstance bt_isinstance (pa_cons (pv 1) (pa_cons (pe_ty rfl T.b_dict bt_dict) pa_nil))) (by intro _; rfl)) (pss_one (ps_ret (pe_and (pe_callB u_isi rfl T.b_isinstance bt_isinstance (pa_cons (pv 0) (pa_cons (pe_ty rfl T.b_dict bt_dict) pa_nil))) (pe_one (pe_call G__law_same hr rfl T.g__law_same T.F__law_same.kp T.B__law_same .nil pass0 (pa_cons (LiI.pe_listItems rfl (pv 0) rfl T.b_list bt_list) (pa_cons (LiI.pe_listItems rfl (pv 1) rfl T.b_list bt_list) pa_nil))))))) pss_nil) (pss_cons (ps_if (PW.pt (pw_or (pt_cmpR (u_ne hr.units) (pe_callB u_isi rfl T.b_isinstance bt_isinstance (pa_cons (pv 1) (pa_cons (pe_ty rfl T.b_bool bt_bool) pa_nil))) (pe_callB u_isi rfl T.b_isinstance bt_isinstance (pa_cons (pv 0) (pa_cons (pe_ty rfl T.b_bool bt_bool) pa_nil))) (nomark _)) (pw_or1 (pt_cmpR (u_ne hr.units) (pe_callB u_isi rfl T.b_isinstance bt_isinstance (pa_cons (pv 1) (pa_cons (pe_ty rfl T.b_int bt_int) pa_nil))) (pe_callB u_isi rfl T.b_isinstance bt_isinstance (pa_cons (pv 0) (pa_cons (pe_ty rfl T.b_int bt_int) pa_nil))) (nomark _))))) (pss_one (ps_ret pe_bl)) pss_nil) (pss_one (ps_ret (pe_and (pe_cmpR (u_eq hr.units) (pe_callB u_isi rfl T.b_isinstance bt_isinstance (pa_cons (pv 1) (pa_cons (pe_ty rfl T.b_str bt_str) pa_nil))) (pe_callB u_isi rfl T.b_isinstance bt_isinstance (pa_cons (pv 0) (pa_cons (pe_ty rfl T.b_str bt_str) pa_nil))) (nomark _)) (pe_one (pe_cmpR (u_eq hr.units) (pv 0) (pv 1) (nomark _))))))))))
theorem dv__law_names {P : Program} {w : World} {K : PySem.W.Frag} {mg : Str → Option Value} {base : Heap} (T : Tx K mg) {cdv : Value} {A : Around} {outer : List Env} {s : Shared} {H : Hp} {E : XK} (hr : Room 2 (A.deeper (envOfC "_law_names" (defScope (top 22)) s.heap.objs.size (He.ga K "_law_names") cdv))) (G__law_take : FnOk P w K mg base CX0 1 (He.ga K "_law_take") T.fd__law_take ["_law_bag_here", "_law_size"] (sp__law_take K)) (G__law_of : FnOk P w K mg base CX0 2 (He.ga K "_law_of") T.fd__law_of ["_law_bag_here", "_law_some"] (sp__law_of K)) :
    PSs (cxOf CX0 P w K mg base ["_law_bag_here", "_law_count", "_law_cap", "_law_abc", "_law_stem", "_law_k", "_law_begin", "_law_step", "_law_found", "_law_tail", "_law_j"] "_law_names" (defScope (top 22)) (He.ga K "_law_names") cdv A outer s H E) (defBody (top 22)) (t__law_names K) :=
  PSs.nox (pss_cons (ps_set (i := 3) sc__law_names.nd rfl (by first | exact Or.inl rfl | exact Or.inr rfl) pe_str) (pss_cons (ps_set (i := 4) sc__law_names.nd rfl (by first | exact Or.inl rfl | exact Or.inr rfl) (pe_join pe_str (pe_lc (own := [("_law_k", 5)]) (g := (gName 5)) rfl sc__law_names.nd (pi_range1 rfl T.b_range (pa_cons (pe_call G__law_take (hr.mono (by decide)) rfl T.g__law_take T.F__law_take.kp T.B__law_take .nil pass0 (pa_cons (pv 0) (pa_cons (pv 2) pa_nil))) pa_nil)) (blkOk_by (N := ["_law_bag_here", "_law_count", "_law_cap", "_law_abc", "_law_stem", "_law_k", "_law_begin", "_law_step", "_law_found", "_law_tail", "_law_j"]) (sc := (defScope (top 22))) (own := [("_law_k", 5)]) (by decide +kernel)) (fun _ _ _ _ _ => (pg_name (i := 5) sc__law_names.nd rfl (by first | exact Or.inl rfl | exact Or.inr rfl))) (fun _ _ _ _ _ => pts_nil) (fun _ _ _ _ _ => (pe_call G__law_of (hr.mono (by decide)) rfl T.g__law_of T.F__law_of.kp T.B__law_of .nil pass0 (pa_cons (pv 0) (pa_cons (pv 3) pa_nil))))))) (pss_cons (ps_par3 (i := 6) (j := 7) (l := 8) rfl sc__law_names.nd rfl rfl rfl (by decide) (by decide) (by decide) rfl rfl rfl (pa_cons (pe_call G__law_take (hr.mono (by decide)) rfl T.g__law_take T.F__law_take.kp T.B__law_take .nil pass0 (pa_cons (pv 0) (pa_cons pe_int pa_nil))) (pa_cons (pe_call G__law_of (hr.mono (by decide)) rfl T.g__law_of T.F__law_of.kp T.B__law_of .nil pass0 (pa_cons (pv 0) (pa_cons (pe_lst (pa_cons pe_int (pa_cons pe_int (pa_cons pe_int (pa_cons pe_int (pa_cons pe_int (pa_cons pe_int pa_nil))))))) pa_nil))) (pa_cons (pe_lst pa_nil) pa_nil))) (by rfl)) (pss_cons (ps_for PassesOwn.never rfl (pi_range1 rfl T.b_range (pa_cons (pv 1) pa_nil)) (pg_name (i := 5) sc__law_names.nd rfl (by first | exact Or.inl rfl | exact Or.inr rfl)) (pss_cons (ps_set (i := 9) sc__law_names.nd rfl (by first | exact Or.inl rfl | exact Or.inr rfl) (pe_join pe_str (pe_lc (own := [("_law_j", 10)]) (g := (gName 10)) rfl sc__law_names.nd (pi_range1 rfl T.b_range (pa_cons (pe_call G__law_take (hr.mono (by decide)) rfl T.g__law_take T.F__law_take.kp T.B__law_take .nil pass0 (pa_cons (pv 0) (pa_cons (pe_op u_sub (pv 2) (pe_callB u_len rfl T.b_len bt_len (pa_cons (pv 4) pa_nil))) pa_nil))) pa_nil)) (blkOk_by (N := ["_law_bag_here", "_law_count", "_law_cap", "_law_abc", "_law_stem", "_law_k", "_law_begin", "_law_step", "_law_found", "_law_tail", "_law_j"]) (sc := (defScope (top 22))) (own := [("_law_j", 10)]) (by decide +kernel)) (fun _ _ _ _ _ => (pg_name (i := 10) sc__law_names.nd rfl (by first | exact Or.inl rfl | exact Or.inr rfl))) (fun _ _ _ _ _ => pts_nil) (fun _ _ _ _ _ => (pe_call G__law_of (hr.mono (by decide)) rfl T.g__law_of T.F__law_of.kp T.B__law_of .nil pass0 (pa_cons (pv 0) (pa_cons (pv 3) pa_nil))))))) (pss_one (ps_expr (pe_bm PySem.F.plainAttrs_list PySem.F.slot_list_append PySem.F.type_list_append mt_append (pv 8) (pa_cons (pe_op u_add (pe_op u_add (pv 4) (pe_ix ix_seq (pv 3) (pe_op u_mod (pe_callTy u_int rfl T.b_int bt_int (pa_cons (pe_op u_add (pv 6) (pe_op u_mul (pv 7) (pv 5))) pa_nil)) pe_int) (fun _ _ => rfl))) (pv 9)) pa_nil)))))) (pss_one (ps_ret (pv 8)))))))
theorem dv__law_odd {P : Program} {w : World} {K : PySem.W.Frag} {mg : Str → Option Value} {base : Heap} (T : Tx K mg) {cdv : Value} {A : Around} {outer : List Env} {s : Shared} {H : Hp} {E : XK} (hr : Room 2 (A.deeper (envOfC "_law_odd" (defScope (top 23)) s.heap.objs.size (He.ga K "_law_odd") cdv))) (G__law_of : FnOk P w K mg base CX0 2 (He.ga K "_law_of") T.fd__law_of ["_law_bag_here", "_law_some"] (sp__law_of K)) :
    PSs (cxOf CX0 P w K mg base ["_law_bag_here"] "_law_odd" (defScope (top 23)) (He.ga K "_law_odd") cdv A outer s H E) (defBody (top 23)) (t__law_odd K) :=
  PSs.nox (pss_one (ps_ret (pe_call G__law_of (hr.mono (by decide)) rfl T.g__law_of T.F__law_of.kp T.B__law_of .nil pass0 (pa_cons (pv 0) (pa_cons (pe_lst (pa_cons pe_non (pa_cons pe_bl (pa_cons pe_bl (pa_cons pe_str (pa_cons pe_str (pa_cons pe_str (pa_cons pe_str (pa_cons pe_str (pa_cons (pe_tup (pa_cons pe_str pa_nil)) (pa_cons (pe_tup (pa_cons pe_str (pa_cons pe_int pa_nil))) (pa_cons (pe_tup (pa_cons pe_str (pa_cons pe_bl pa_nil))) (pa_cons (pe_tup (pa_cons pe_str (pa_cons pe_int pa_nil))) (pa_cons pe_dnewK (pa_cons (pe_disp (pps_cons pe_str pe_int pps_nil) rfl rfl (fun z => by cases z) (by decide)) (pa_cons (pe_tup (pa_cons pe_int (pa_cons pe_int pa_nil))) pa_nil)))))))))))))))) pa_nil)))))
theorem dv__law_own_name {P : Program} {w : World} {K : PySem.W.Frag} {mg : Str → Option Value} {base : Heap} (T : Tx K mg) {cdv : Value} {A : Around} {outer : List Env} {s : Shared} {H : Hp} {E : XK} (hr : Room 0 (A.deeper (envOfC "_law_own_name" (defScope (top 24)) s.heap.objs.size (He.ga K "_law_own_name") cdv))) :
    PSs (cxOf CX0 P w K mg base ["_law_thing", "_law_sign"] "_law_own_name" (defScope (top 24)) (He.ga K "_law_own_name") cdv A outer s H E) (defBody (top 24)) (t__law_own_name K) :=
  PSs.nox (pss_cons (ps_if (PW.pt (pw_or (pt_not (pt_tru (pe_callB u_isi rfl T.b_isinstance bt_isinstance (pa_cons (pv 0) (pa_cons (pe_ty rfl T.b_str bt_str) pa_nil))) (by intro _; rfl))) (pw_or (pt_cmpR (u_eq hr.units) (pe_callB u_len rfl T.b_len bt_len (pa_cons (pv 0) pa_nil)) pe_int (nomark _)) (pw_or1 (pt_cmpR u_gt (pe_callB u_len rfl T.b_len bt_len (pa_cons (pv 0) pa_nil)) pe_int (nomark _)))))) (pss_one (ps_ret pe_bl)) pss_nil) (pss_one (ps_ret (pe_cmpR (u_eq hr.units) (pe_lc (own := [("_law_sign", 1)]) (g := (gName 1)) rfl sc__law_own_name.nd (pi_any (pv 0)) (blkOk_by (N := ["_law_thing", "_law_sign"]) (sc := (defScope (top 24))) (own := [("_law_sign", 1)]) (by decide +kernel)) (fun _ _ _ _ _ => (pg_name (i := 1) sc__law_own_name.nd rfl (by first | exact Or.inl rfl | exact Or.inr rfl))) (fun _ _ _ _ _ => (pts_one (pt_cmpR u_ni (pv 1) pe_str rfl))) (fun _ _ _ _ _ => (pv 1))) (pe_lst pa_nil) (nomark _)))))
theorem dv__law_own_number {P : Program} {w : World} {K : PySem.W.Frag} {mg : Str → Option Value} {base : Heap} (T : Tx K mg) {cdv : Value} {A : Around} {outer : List Env} {s : Shared} {H : Hp} {E : XK} (hr : Room 0 (A.deeper (envOfC "_law_own_number" (defScope (top 25)) s.heap.objs.size (He.ga K "_law_own_number") cdv))) :
    PSs (cxOf CX0 P w K mg base ["_law_thing", "_law_low", "_law_high"] "_law_own_number" (defScope (top 25)) (He.ga K "_law_own_number") cdv A outer s H E) (defBody (top 25)) (t__law_own_number K) :=
  PSs.nox (pss_cons (ps_if (PW.pt (pw_or (pt_not (pt_tru (pe_callB u_isi rfl T.b_isinstance bt_isinstance (pa_cons (pv 0) (pa_cons (pe_ty rfl T.b_int bt_int) pa_nil))) (by intro _; rfl))) (pw_or1 (pt_tru (pe_callB u_isi rfl T.b_isinstance bt_isinstance (pa_cons (pv 0) (pa_cons (pe_ty rfl T.b_bool bt_bool) pa_nil))) (by intro _; rfl))))) (pss_one (ps_ret pe_bl)) pss_nil) (pss_one (ps_ret (pe_and (pe_cmpR u_le (pv 1) (pv 0) (nomark _)) (pe_one (pe_cmpR u_le (pv 0) (pv 2) (nomark _)))))))
theorem dv__law_own_standing {P : Program} {w : World} {K : PySem.W.Frag} {mg : Str → Option Value} {base : Heap} (T : Tx K mg) {cdv : Value} {A : Around} {outer : List Env} {s : Shared} {H : Hp} {E : XK} (hr : Room 1 (A.deeper (envOfC "_law_own_standing" (defScope (top 26)) s.heap.objs.size (He.ga K "_law_own_standing") cdv))) (G__law_own_name : FnOk P w K mg base CX0 1 (He.ga K "_law_own_name") T.fd__law_own_name ["_law_thing"] (sp__law_own_name K)) (G__law_own_number : FnOk P w K mg base CX0 1 (He.ga K "_law_own_number") T.fd__law_own_number ["_law_thing", "_law_low", "_law_high"] (sp__law_own_number K)) :
    PSs (cxOf CX0 P w K mg base ["_law_thing"] "_law_own_standing" (defScope (top 26)) (He.ga K "_law_own_standing") cdv A outer s H E) (defBody (top 26)) (t__law_own_standing K) :=
  PSs.nox (pss_cons (ps_if (PW.pt (pw_or (pt_not (pt_tru (pe_callB u_isi rfl T.b_isinstance bt_isinstance (pa_cons (pv 0) (pa_cons (pe_ty rfl T.b_tuple bt_tuple) pa_nil))) (by intro _; rfl))) (pw_or1 (pt_cmpR (u_ne hr.units) (pe_callB u_len rfl T.b_len bt_len (pa_cons (pv 0) pa_nil)) pe_int (nomark _))))) (pss_one (ps_ret pe_bl)) pss_nil) (pss_one (ps_ret (pe_and (pe_call G__law_own_name (hr.mono (by decide)) rfl T.g__law_own_name T.F__law_own_name.kp T.B__law_own_name .nil pass0 (pa_cons (pe_ix ix_seq (pv 0) pe_int (fun _ _ => rfl)) pa_nil)) (pe_one (pe_call G__law_own_number (hr.mono (by decide)) rfl T.g__law_own_number T.F__law_own_number.kp T.B__law_own_number .nil pass0 (pa_cons (pe_ix ix_seq (pv 0) pe_int (fun _ _ => rfl)) (pa_cons pe_int (pa_cons pe_int pa_nil)))))))))
theorem dv__law_own_key {P : Program} {w : World} {K : PySem.W.Frag} {mg : Str → Option Value} {base : Heap} (T : Tx K mg) {cdv : Value} {A : Around} {outer : List Env} {s : Shared} {H : Hp} {E : XK} (hr : Room 2 (A.deeper (envOfC "_law_own_key" (defScope (top 27)) s.heap.objs.size (He.ga K "_law_own_key") cdv))) (G__law_own_name : FnOk P w K mg base CX0 1 (He.ga K "_law_own_name") T.fd__law_own_name ["_law_thing"] (sp__law_own_name K)) (G__law_own_standing : FnOk P w K mg base CX0 2 (He.ga K "_law_own_standing") T.fd__law_own_standing ["_law_thing"] (sp__law_own_standing K)) :
    PSs (cxOf CX0 P w K mg base ["_law_thing"] "_law_own_key" (defScope (top 27)) (He.ga K "_law_own_key") cdv A outer s H E) (defBody (top 27)) (t__law_own_key K) :=
  PSs.nox (pss_cons (ps_if (PW.pt (pw_or (pt_not (pt_tru (pe_callB u_isi rfl T.b_isinstance bt_isinstance (pa_cons (pv 0) (pa_cons (pe_ty rfl T.b_tuple bt_tuple) pa_nil))) (by intro _; rfl))) (pw_or (pt_cmpR u_lt (pe_callB u_len rfl T.b_len bt_len (pa_cons (pv 0) pa_nil)) pe_int (nomark _)) (pw_or1 (pt_not (pt_tru (pe_callB u_isi rfl T.b_isinstance bt_isinstance (pa_cons (pe_ix ix_seq (pv 0) pe_int (fun _ _ => rfl)) (pa_cons (pe_ty rfl T.b_str bt_str) pa_nil))) (by intro _; rfl))))))) (pss_one (ps_ret pe_bl)) pss_nil) (pss_cons (ps_if (pt_cmpR u_in (pe_ix ix_seq (pv 0) pe_int (fun _ _ => rfl)) (pe_tup (pa_cons pe_str (pa_cons pe_str pa_nil))) rfl) (pss_one (ps_ret (pe_and (pe_cmpR (u_eq hr.units) (pe_callB u_len rfl T.b_len bt_len (pa_cons (pv 0) pa_nil)) pe_int (nomark _)) (pe_one (pe_call G__law_own_name (hr.mono (by decide)) rfl T.g__law_own_name T.F__law_own_name.kp T.B__law_own_name .nil pass0 (pa_cons (pe_ix ix_seq (pv 0) pe_int (fun _ _ => rfl)) pa_nil)))))) pss_nil) (pss_cons (ps_if (pt_cmpR u_in (pe_ix ix_seq (pv 0) pe_int (fun _ _ => rfl)) (pe_tup (pa_cons pe_str (pa_cons pe_str (pa_cons pe_str pa_nil)))) rfl) (pss_one (ps_ret (pe_and (pe_cmpR (u_eq hr.units) (pe_callB u_len rfl T.b_len bt_len (pa_cons (pv 0) pa_nil)) pe_int (nomark _)) (pe_one (pe_call G__law_own_standing (hr.mono (by decide)) rfl T.g__law_own_standing T.F__law_own_standing.kp T.B__law_own_standing .nil pass0 (pa_cons (pe_slice u_sl (pv 0) (po_some pe_int) po_none) pa_nil)))))) pss_nil) (pss_cons (ps_if (PW.pt (pw_or (pt_cmpR (u_ne hr.units) (pe_ix ix_seq (pv 0) pe_int (fun _ _ => rfl)) pe_str (nomark _)) (pw_or1 (pt_cmpR (u_ne hr.units) (pe_callB u_len rfl T.b_len bt_len (pa_cons (pv 0) pa_nil)) pe_int (nomark _))))) (pss_one (ps_ret pe_bl)) pss_nil) (pss_one (ps_ret (pe_and (pe_call G__law_own_name (hr.mono (by decide)) rfl T.g__law_own_name T.F__law_own_name.kp T.B__law_own_name .nil pass0 (pa_cons (pe_ix ix_seq (pv 0) pe_int (fun _ _ => rfl)) pa_nil)) (pe_and (pe_call G__law_own_standing (hr.mono (by decide)) rfl T.g__law_own_standing T.F__law_own_standing.kp T.B__law_own_standing .nil pass0 (pa_cons (pe_slice u_sl (pv 0) (po_some pe_int) po_none) pa_nil)) (pe_one (pe_cmpR (u_ne hr.units) (pe_ix ix_seq (pv 0) pe_int (fun _ _ => rfl)) (pe_ix ix_seq (pv 0) pe_int (fun _ _ => rfl)) (nomark _)))))))))))
theorem dv__law_own_account {P : Program} {w : World} {K : PySem.W.Frag} {mg : Str → Option Value} {base : Heap} (T : Tx K mg) {cdv : Value} {A : Around} {outer : List Env} {s : Shared} {H : Hp} {E : XK} (hr : Room 1 (A.deeper (envOfC "_law_own_account" (defScope (top 28)) s.heap.objs.size (He.ga K "_law_own_account") cdv))) (G__law_own_name : FnOk P w K mg base CX0 1 (He.ga K "_law_own_name") T.fd__law_own_name ["_law_thing"] (sp__law_own_name K)) :
    PSs (cxOf CX0 P w K mg base ["_law_thing", "_law_words"] "_law_own_account" (defScope (top 28)) (He.ga K "_law_own_account") cdv A outer s H E) (defBody (top 28)) (t__law_own_account K) :=
  PSs.nox (pss_cons (ps_if (pt_not (pt_tru (pe_callB u_isi rfl T.b_isinstance bt_isinstance (pa_cons (pv 0) (pa_cons (pe_ty rfl T.b_str bt_str) pa_nil))) (by intro _; rfl))) (pss_one (ps_ret pe_bl)) pss_nil) (pss_cons (ps_if (PW.pt (pw_or (pt_cmpR (u_eq hr.units) (pv 0) pe_str (nomark _)) (pw_or1 (pt_tru (pe_call G__law_own_name (hr.mono (by decide)) rfl T.g__law_own_name T.F__law_own_name.kp T.B__law_own_name .nil pass0 (pa_cons (pv 0) pa_nil)) (by intro _; rfl))))) (pss_one (ps_ret pe_bl)) pss_nil) (pss_cons (ps_set (i := 1) sc__law_own_account.nd rfl (by first | exact Or.inl rfl | exact Or.inr rfl) (pe_split (pv 0) pe_str)) (pss_one (ps_ret (pe_and (pe_cmpR (u_eq hr.units) (pe_callB u_len rfl T.b_len bt_len (pa_cons (pv 1) pa_nil)) pe_int (nomark _)) (pe_and (pe_call G__law_own_name (hr.mono (by decide)) rfl T.g__law_own_name T.F__law_own_name.kp T.B__law_own_name .nil pass0 (pa_cons (pe_ix ix_seq (pv 1) pe_int (fun _ _ => rfl)) pa_nil)) (pe_and (pe_cmpR (u_eq hr.units) (pe_callB u_len rfl T.b_len bt_len (pa_cons (pe_ix ix_seq (pv 1) pe_int (fun _ _ => rfl)) pa_nil)) pe_int (nomark _)) (pe_one (pe_cmpR u_in (pe_ix ix_seq (pv 1) pe_int (fun _ _ => rfl)) pe_str rfl))))))))))
theorem dv__law_own_read {P : Program} {w : World} {K : PySem.W.Frag} {mg : Str → Option Value} {base : Heap} (T : Tx K mg) {cdv : Value} {A : Around} {outer : List Env} {s : Shared} {H : Hp} {E : XK} (hr : Room 0 (A.deeper (envOfC "_law_own_read" (defScope (top 29)) s.heap.objs.size (He.ga K "_law_own_read") cdv))) :
    PSs (cxOf CX0 P w K mg base ["_law_thing", "_law_sign"] "_law_own_read" (defScope (top 29)) (He.ga K "_law_own_read") cdv A outer s H E) (defBody (top 29)) (t__law_own_read K) :=
  PSs.nox (pss_cons (ps_if (PW.pt (pw_or (pt_not (pt_tru (pe_callB u_isi rfl T.b_isinstance bt_isinstance (pa_cons (pv 0) (pa_cons (pe_ty rfl T.b_str bt_str) pa_nil))) (by intro _; rfl))) (pw_or (pt_cmpR (u_eq hr.units) (pe_callB u_len rfl T.b_len bt_len (pa_cons (pv 0) pa_nil)) pe_int (nomark _)) (pw_or1 (pt_cmpR u_gt (pe_callB u_len rfl T.b_len bt_len (pa_cons (pv 0) pa_nil)) pe_int (nomark _)))))) (pss_one (ps_ret pe_non)) pss_nil) (pss_cons (ps_if (PW.pt (pw_or (pt_cmpR (u_ne hr.units) (pe_lc (own := [("_law_sign", 1)]) (g := (gName 1)) rfl sc__law_own_read.nd (pi_any (pv 0)) (blkOk_by (N := ["_law_thing", "_law_sign"]) (sc := (defScope (top 29))) (own := [("_law_sign", 1)]) (by decide +kernel)) (fun _ _ _ _ _ => (pg_name (i := 1) sc__law_own_read.nd rfl (by first | exact Or.inl rfl | exact Or.inr rfl))) (fun _ _ _ _ _ => (pts_one (pt_cmpR u_ni (pv 1) pe_str rfl))) (fun _ _ _ _ _ => (pv 1))) (pe_lst pa_nil) (nomark _)) (pw_or1 (PW.pt (pw_and (pt_cmpR u_gt (pe_callB u_len rfl T.b_len bt_len (pa_cons (pv 0) pa_nil)) pe_int (nomark _)) (pw_and1 (pt_cmpR (u_eq hr.units) (pe_ix ix_seq (pv 0) pe_int (fun _ _ => rfl)) pe_str (nomark _)))))))) (pss_one (ps_ret pe_non)) pss_nil) (pss_one (ps_ret (pe_callTy u_int rfl T.b_int bt_int (pa_cons (pv 0) pa_nil))))))
theorem dv__law_good {P : Program} {w : World} {K : PySem.W.Frag} {mg : Str → Option Value} {base : Heap} (T : Tx K mg) {cdv : Value} {A : Around} {outer : List Env} {s : Shared} {H : Hp} {E : XK} (hr : Room 2 (A.deeper (envOfC "_law_good" (defScope (top 30)) s.heap.objs.size (He.ga K "_law_good") cdv))) (G__law_of : FnOk P w K mg base CX0 2 (He.ga K "_law_of") T.fd__law_of ["_law_bag_here", "_law_some"] (sp__law_of K)) :
    PSs (cxOf CX0 P w K mg base ["_law_bag_here", "_law_some", "_law_one", "_law_other", "_law_hour", "_law_words", "_law_digits", "_law_kinds"] "_law_good" (defScope (top 30)) (He.ga K "_law_good") cdv A outer s H E) (defBody (top 30)) (t__law_good K) :=
  PSs.nox (pss_cons (ps_par3 (i := 2) (j := 3) (l := 4) rfl sc__law_good.nd rfl rfl rfl (by decide) (by decide) (by decide) rfl rfl rfl (pa_cons (pe_ix ix_seq (pv 1) pe_int (fun _ _ => rfl)) (pa_cons (pe_ix ix_seq (pv 1) pe_int (fun _ _ => rfl)) (pa_cons (pe_call G__law_of (hr.mono (by decide)) rfl T.g__law_of T.F__law_of.kp T.B__law_of .nil pass0 (pa_cons (pv 0) (pa_cons (pe_lst (pa_cons pe_int (pa_cons pe_int (pa_cons pe_int (pa_cons pe_int (pa_cons pe_int pa_nil)))))) pa_nil))) pa_nil))) (by rfl)) (pss_cons (ps_set (i := 5) sc__law_good.nd rfl (by first | exact Or.inl rfl | exact Or.inr rfl) (pe_lst (pa_cons (pe_tup (pa_cons pe_str (pa_cons (pv 2) (pa_cons (pv 4) pa_nil)))) (pa_cons (pe_tup (pa_cons pe_str (pa_cons (pv 2) (pa_cons (pv 4) pa_nil)))) (pa_cons (pe_tup (pa_cons pe_str (pa_cons (pv 2) (pa_cons (pv 4) pa_nil)))) (pa_cons (pe_tup (pa_cons pe_str (pa_cons (pv 2) pa_nil))) (pa_cons (pe_tup (pa_cons pe_str (pa_cons (pv 3) pa_nil))) (pa_cons (pe_tup (pa_cons pe_str (pa_cons (pv 2) (pa_cons (pv 3) (pa_cons (pv 4) pa_nil))))) pa_nil)))))))) (pss_cons (ps_set (i := 6) sc__law_good.nd rfl (by first | exact Or.inl rfl | exact Or.inr rfl) (pe_call G__law_of (hr.mono (by decide)) rfl T.g__law_of T.F__law_of.kp T.B__law_of .nil pass0 (pa_cons (pv 0) (pa_cons (pe_lst (pa_cons pe_str (pa_cons pe_str (pa_cons pe_str (pa_cons pe_str (pa_cons pe_str (pa_cons pe_str pa_nil))))))) pa_nil)))) (pss_cons (ps_set (i := 7) sc__law_good.nd rfl (by first | exact Or.inl rfl | exact Or.inr rfl) (pe_lst (pa_cons (pv 2) (pa_cons (pv 3) (pa_cons (pe_tup (pa_cons (pv 2) (pa_cons (pv 4) pa_nil))) (pa_cons (pe_tup (pa_cons (pv 3) (pa_cons (pv 4) pa_nil))) (pa_cons (pe_tup pa_nil) (pa_cons (pe_call G__law_of (hr.mono (by decide)) rfl T.g__law_of T.F__law_of.kp T.B__law_of .nil pass0 (pa_cons (pv 0) (pa_cons (pv 5) pa_nil))) (pa_cons (pe_call G__law_of (hr.mono (by decide)) rfl T.g__law_of T.F__law_of.kp T.B__law_of .nil pass0 (pa_cons (pv 0) (pa_cons (pv 5) pa_nil))) (pa_cons (pe_op u_add (pe_op u_add (pv 2) pe_str) (pe_callTy u_str rfl T.b_str bt_str (pa_cons (pv 4) pa_nil))) (pa_cons pe_str (pa_cons (pv 6) pa_nil)))))))))))) (pss_one (ps_ret (pe_call G__law_of (hr.mono (by decide)) rfl T.g__law_of T.F__law_of.kp T.B__law_of .nil pass0 (pa_cons (pv 0) (pa_cons (pv 7) pa_nil)))))))))
theorem dv__law_bent_text {P : Program} {w : World} {K : PySem.W.Frag} {mg : Str → Option Value} {base : Heap} (T : Tx K mg) {cdv : Value} {A : Around} {outer : List Env} {s : Shared} {H : Hp} {E : XK} (hr : Room 2 (A.deeper (envOfC "_law_bent_text" (defScope (top 31)) s.heap.objs.size (He.ga K "_law_bent_text") cdv))) (G__law_of : FnOk P w K mg base CX0 2 (He.ga K "_law_of") T.fd__law_of ["_law_bag_here", "_law_some"] (sp__law_of K)) (G__law_take : FnOk P w K mg base CX0 1 (He.ga K "_law_take") T.fd__law_take ["_law_bag_here", "_law_size"] (sp__law_take K)) :
    PSs (cxOf CX0 P w K mg base ["_law_bag_here", "_law_text", "_law_spot", "_law_sign"] "_law_bent_text" (defScope (top 31)) (He.ga K "_law_bent_text") cdv A outer s H E) (defBody (top 31)) (t__law_bent_text K) :=
  PSs.nox (pss_cons (ps_par (i := 2) (j := 3) rfl sc__law_bent_text.nd rfl rfl (by decide) rfl rfl (pa_cons (pe_call G__law_take (hr.mono (by decide)) rfl T.g__law_take T.F__law_take.kp T.B__law_take .nil pass0 (pa_cons (pv 0) (pa_cons (pe_op u_add (pe_callB u_len rfl T.b_len bt_len (pa_cons (pv 1) pa_nil)) pe_int) pa_nil))) (pa_cons (pe_call G__law_of (hr.mono (by decide)) rfl T.g__law_of T.F__law_of.kp T.B__law_of .nil pass0 (pa_cons (pv 0) (pa_cons (pe_lst (pa_cons pe_str (pa_cons pe_str (pa_cons pe_str (pa_cons pe_str (pa_cons pe_str (pa_cons pe_str (pa_cons pe_str (pa_cons pe_str (pa_cons pe_str (pa_cons pe_str pa_nil))))))))))) pa_nil))) pa_nil)) (by rfl)) (pss_one (ps_ret (pe_ifExp (pt_cmpR (u_eq hr.units) (pe_call G__law_take (hr.mono (by decide)) rfl T.g__law_take T.F__law_take.kp T.B__law_take .nil pass0 (pa_cons (pv 0) (pa_cons pe_int pa_nil))) pe_int (nomark _)) (pe_op u_add (pe_op u_add (pe_slice u_sl (pv 1) po_none (po_some (pv 2))) (pv 3)) (pe_slice u_sl (pv 1) (po_some (pv 2)) po_none)) (pe_op u_add (pe_slice u_sl (pv 1) po_none (po_some (pv 2))) (pe_slice u_sl (pv 1) (po_some (pe_op u_add (pv 2) pe_int)) po_none))))))
theorem dv__law_bent {P : Program} {w : World} {K : PySem.W.Frag} {mg : Str → Option Value} {base : Heap} (T : Tx K mg) {cdv : Value} {A : Around} {outer : List Env} {s : Shared} {H : Hp} {E : XK} (hr : Room 3 (A.deeper (envOfC "_law_bent" (defScope (top 32)) s.heap.objs.size (He.ga K "_law_bent") cdv))) (G__law_take : FnOk P w K mg base CX0 1 (He.ga K "_law_take") T.fd__law_take ["_law_bag_here", "_law_size"] (sp__law_take K)) (G__law_bent_text : FnOk P w K mg base CX0 3 (He.ga K "_law_bent_text") T.fd__law_bent_text ["_law_bag_here", "_law_text"] (sp__law_bent_text K)) (G__law_of : FnOk P w K mg base CX0 2 (He.ga K "_law_of") T.fd__law_of ["_law_bag_here", "_law_some"] (sp__law_of K)) :
    PSs (cxOf CX0 P w K mg base ["_law_bag_here", "_law_thing", "_law_way", "_law_spot", "_law_item"] "_law_bent" (defScope (top 32)) (He.ga K "_law_bent") cdv A outer s H E) (defBody (top 32)) (t__law_bent K) :=
  PSs.nox (pss_cons (ps_set (i := 2) sc__law_bent.nd rfl (by first | exact Or.inl rfl | exact Or.inr rfl) (pe_call G__law_take (hr.mono (by decide)) rfl T.g__law_take T.F__law_take.kp T.B__law_take .nil pass0 (pa_cons (pv 0) (pa_cons pe_int pa_nil)))) (pss_cons (ps_if (pt_tru (pe_callB u_isi rfl T.b_isinstance bt_isinstance (pa_cons (pv 1) (pa_cons (pe_ty rfl T.b_str bt_str) pa_nil))) (by intro _; rfl)) (pss_one (ps_ret (pe_ifExp (pt_cmpR u_gt (pv 2) pe_int (nomark _)) (pe_call G__law_bent_text (hr.mono (by decide)) rfl T.g__law_bent_text T.F__law_bent_text.kp T.B__law_bent_text .nil pass0 (pa_cons (pv 0) (pa_cons (pv 1) pa_nil))) (pe_call G__law_of (hr.mono (by decide)) rfl T.g__law_of T.F__law_of.kp T.B__law_of .nil pass0 (pa_cons (pv 0) (pa_cons (pe_lst (pa_cons (pe_lst (pa_cons (pv 1) pa_nil)) (pa_cons (pe_tup (pa_cons (pv 1) pa_nil)) (pa_cons (pe_callB u_len rfl T.b_len bt_len (pa_cons (pv 1) pa_nil)) (pa_cons (pe_op u_add (pv 1) (pv 1)) pa_nil))))) pa_nil)))))) pss_nil) (pss_cons (ps_if (pt_cmpR (u_eq hr.units) (pv 2) pe_int (nomark _)) (pss_one (ps_ret (pe_callTy u_list rfl T.b_list bt_list (pa_cons (pv 1) pa_nil)))) pss_nil) (pss_cons (ps_if (PW.pt (pw_or (pt_cmpR (u_eq hr.units) (pv 2) pe_int (nomark _)) (pw_or1 (pt_cmpR (u_eq hr.units) (pv 1) (pe_tup pa_nil) (nomark _))))) (pss_one (ps_ret (pe_op u_add (pv 1) (pe_tup (pa_cons (pe_call G__law_of (hr.mono (by decide)) rfl T.g__law_of T.F__law_of.kp T.B__law_of .nil pass0 (pa_cons (pv 0) (pa_cons (pe_lst (pa_cons pe_int (pa_cons pe_str (pa_cons pe_non (pa_cons (pe_tup pa_nil) pa_nil))))) pa_nil))) pa_nil))))) pss_nil) (pss_cons (ps_if (pt_cmpR (u_eq hr.units) (pv 2) pe_int (nomark _)) (pss_one (ps_ret (pe_slice u_sl (pv 1) po_none (po_some (pe_op u_sub (pe_callB u_len rfl T.b_len bt_len (pa_cons (pv 1) pa_nil)) pe_int))))) pss_nil) (pss_cons (ps_set (i := 3) sc__law_bent.nd rfl (by first | exact Or.inl rfl | exact Or.inr rfl) (pe_call G__law_take (hr.mono (by decide)) rfl T.g__law_take T.F__law_take.kp T.B__law_take .nil pass0 (pa_cons (pv 0) (pa_cons (pe_callB u_len rfl T.b_len bt_len (pa_cons (pv 1) pa_nil)) pa_nil)))) (pss_cons (ps_set (i := 4) sc__law_bent.nd rfl (by first | exact Or.inl rfl | exact Or.inr rfl) (pe_call G__law_of (hr.mono (by decide)) rfl T.g__law_of T.F__law_of.kp T.B__law_of .nil pass0 (pa_cons (pv 0) (pa_cons (pe_lst (pa_cons pe_bl (pa_cons pe_bl (pa_cons pe_int (pa_cons (pe_op u_sub pe_int pe_int) (pa_cons pe_non (pa_cons pe_str (pa_cons pe_str (pa_cons pe_str (pa_cons pe_str (pa_cons pe_str (pa_cons pe_str (pa_cons pe_int (pa_cons pe_int (pa_cons (pe_tup (pa_cons pe_str (pa_cons pe_int pa_nil))) pa_nil))))))))))))))) pa_nil)))) (pss_cons (ps_if (PW.pt (pw_and (pt_cmpR (u_eq hr.units) (pv 2) pe_int (nomark _)) (pw_and1 (pt_tru (pe_callB u_isi rfl T.b_isinstance bt_isinstance (pa_cons (pe_ix ix_seq (pv 1) (pv 3) (fun _ _ => rfl)) (pa_cons (pe_ty rfl T.b_str bt_str) pa_nil))) (by intro _; rfl))))) (pss_one (ps_set (i := 4) sc__law_bent.nd rfl (by first | exact Or.inl rfl | exact Or.inr rfl) (pe_call G__law_bent_text (hr.mono (by decide)) rfl T.g__law_bent_text T.F__law_bent_text.kp T.B__law_bent_text .nil pass0 (pa_cons (pv 0) (pa_cons (pe_ix ix_seq (pv 1) (pv 3) (fun _ _ => rfl)) pa_nil))))) pss_nil) (pss_one (ps_ret (pe_op u_add (pe_op u_add (pe_slice u_sl (pv 1) po_none (po_some (pv 3))) (pe_tup (pa_cons (pv 4) pa_nil))) (pe_slice u_sl (pv 1) (po_some (pe_op u_add (pv 3) pe_int)) po_none))))))))))))
theorem dv__law_value {P : Program} {w : World} {K : PySem.W.Frag} {mg : Str → Option Value} {base : Heap} (T : Tx K mg) {cdv : Value} {A : Around} {outer : List Env} {s : Shared} {H : Hp} {E : XK} (hr : Room 4 (A.deeper (envOfC "_law_value" (defScope (top 33)) s.heap.objs.size (He.ga K "_law_value") cdv))) (G__law_take : FnOk P w K mg base CX0 1 (He.ga K "_law_take") T.fd__law_take ["_law_bag_here", "_law_size"] (sp__law_take K)) (G__law_odd : FnOk P w K mg base CX0 3 (He.ga K "_law_odd") T.fd__law_odd ["_law_bag_here"] (sp__law_odd K)) (G__law_of : FnOk P w K mg base CX0 2 (He.ga K "_law_of") T.fd__law_of ["_law_bag_here", "_law_some"] (sp__law_of K)) (G__law_good : FnOk P w K mg base CX0 3 (He.ga K "_law_good") T.fd__law_good ["_law_bag_here", "_law_some"] (sp__law_good K)) (G__law_bent : FnOk P w K mg base CX0 4 (He.ga K "_law_bent") T.fd__law_bent ["_law_bag_here", "_law_thing"] (sp__law_bent K)) :
    PSs (cxOf CX0 P w K mg base ["_law_bag_here", "_law_some", "_law_way"] "_law_value" (defScope (top 33)) (He.ga K "_law_value") cdv A outer s H E) (defBody (top 33)) (t__law_value K) :=
  PSs.nox (pss_cons (ps_set (i := 2) sc__law_value.nd rfl (by first | exact Or.inl rfl | exact Or.inr rfl) (pe_call G__law_take (hr.mono (by decide)) rfl T.g__law_take T.F__law_take.kp T.B__law_take .nil pass0 (pa_cons (pv 0) (pa_cons pe_int pa_nil)))) (pss_cons (ps_if (pt_cmpR (u_eq hr.units) (pv 2) pe_int (nomark _)) (pss_one (ps_ret (pe_call G__law_odd (hr.mono (by decide)) rfl T.g__law_odd T.F__law_odd.kp T.B__law_odd .nil pass0 (pa_cons (pv 0) pa_nil)))) pss_nil) (pss_cons (ps_if (pt_cmpR (u_eq hr.units) (pv 2) pe_int (nomark _)) (pss_one (ps_ret (pe_call G__law_of (hr.mono (by decide)) rfl T.g__law_of T.F__law_of.kp T.B__law_of .nil pass0 (pa_cons (pv 0) (pa_cons (pe_lst (pa_cons pe_int (pa_cons pe_int (pa_cons pe_int (pa_cons pe_int (pa_cons pe_int (pa_cons (pe_op u_sub pe_int pe_int) (pa_cons pe_int (pa_cons (pe_lst pa_nil) (pa_cons (pe_lst (pa_cons pe_str (pa_cons pe_int pa_nil))) (pa_cons pe_str (pa_cons pe_str (pa_cons pe_str (pa_cons pe_str (pa_cons pe_str pa_nil))))))))))))))) pa_nil))))) pss_nil) (pss_one (ps_ret (pe_ifExp (pt_cmpR u_lt (pv 2) pe_int (nomark _)) (pe_call G__law_good (hr.mono (by decide)) rfl T.g__law_good T.F__law_good.kp T.B__law_good .nil pass0 (pa_cons (pv 0) (pa_cons (pv 1) pa_nil))) (pe_call G__law_bent (hr.mono (by decide)) rfl T.g__law_bent T.F__law_bent.kp T.B__law_bent .nil pass0 (pa_cons (pv 0) (pa_cons (pe_call G__law_good (hr.mono (by decide)) rfl T.g__law_good T.F__law_good.kp T.B__law_good .nil pass0 (pa_cons (pv 0) (pa_cons (pv 1) pa_nil))) pa_nil)))))))))
theorem dv_law {P : Program} {w : World} {K : PySem.W.Frag} {mg : Str → Option Value} {base : Heap} (T : Tx K mg) {cdv : Value} {A : Around} {outer : List Env} {s : Shared} {H : Hp} {E : XK} (hr : Room 12 (A.deeper (envOfC "law" (defScope (top 34)) s.heap.objs.size (He.ga K "law") cdv))) (G__law_bag : FnOk P w K mg base CX0 1 (He.ga K "_law_bag") T.fd__law_bag ["_law_script"] (sp__law_bag K)) (G__law_names : FnOk P w K mg base CX0 3 (He.ga K "_law_names") T.fd__law_names ["_law_bag_here", "_law_count", "_law_cap"] (sp__law_names K)) (G__law_same : FnOk P w K mg base CX0 12 (He.ga K "_law_same") T.fd__law_same ["_law_found", "_law_due"] (sp__law_same K)) (G__law_of : FnOk P w K mg base CX0 2 (He.ga K "_law_of") T.fd__law_of ["_law_bag_here", "_law_some"] (sp__law_of K)) (G__law_value : FnOk P w K mg base CX0 5 (He.ga K "_law_value") T.fd__law_value ["_law_bag_here", "_law_some"] (sp__law_value K)) (G_number_in : FnOk P w K mg base CX0 1 (He.ga K "number_in") T.fd_number_in ["text"] (sp_number_in K)) (G_is_account : FnOk P w K mg base CX0 2 (He.ga K "is_account") T.fd_is_account ["value"] (sp_is_account K)) (G_is_key : FnOk P w K mg base CX0 4 (He.ga K "is_key") T.fd_is_key ["value"] (sp_is_key K)) (G_is_place : FnOk P w K mg base CX0 4 (He.ga K "is_place") T.fd_is_place ["value"] (sp_is_place K)) (G_is_standing : FnOk P w K mg base CX0 3 (He.ga K "is_standing") T.fd_is_standing ["value"] (sp_is_standing K)) (G_is_name : FnOk P w K mg base CX0 1 (He.ga K "is_name") T.fd_is_name ["value"] (sp_is_name K)) (G__law_own_key : FnOk P w K mg base CX0 3 (He.ga K "_law_own_key") T.fd__law_own_key ["_law_thing"] (sp__law_own_key K)) (G__law_own_standing : FnOk P w K mg base CX0 2 (He.ga K "_law_own_standing") T.fd__law_own_standing ["_law_thing"] (sp__law_own_standing K)) (G__law_own_name : FnOk P w K mg base CX0 1 (He.ga K "_law_own_name") T.fd__law_own_name ["_law_thing"] (sp__law_own_name K)) (G__law_own_read : FnOk P w K mg base CX0 1 (He.ga K "_law_own_read") T.fd__law_own_read ["_law_thing"] (sp__law_own_read K)) (G__law_own_account : FnOk P w K mg base CX0 2 (He.ga K "_law_own_account") T.fd__law_own_account ["_law_thing"] (sp__law_own_account K)) (G_is_number : FnOk P w K mg base CX0 2 (He.ga K "is_number") T.fd_is_number ["value", "least", "most"] (sp_is_number K)) (G__law_own_number : FnOk P w K mg base CX0 1 (He.ga K "_law_own_number") T.fd__law_own_number ["_law_thing", "_law_low", "_law_high"] (sp__law_own_number K)) (G__law_take : FnOk P w K mg base CX0 1 (He.ga K "_law_take") T.fd__law_take ["_law_bag_here", "_law_size"] (sp__law_take K)) (G_account_of : FnOk P w K mg base CX0 1 (He.ga K "account_of") T.fd_account_of ["standing"] (sp_account_of K)) :
    PSs (cxOf CX0 P w K mg base ["_law_script", "_law_bag_here", "_law_some", "_law_turn", "_law_thing", "_law_low", "_law_more", "_law_found", "_law_named", "_law_own", "_law_due", "_law_spot", "_law_told"] "law" (defScope (top 34)) (He.ga K "law") cdv A outer s H E) (defBody (top 34)) (t_law K) :=
  PSs.nox (pss_cons (ps_set (i := 1) sc_law.nd rfl (by first | exact Or.inl rfl | exact Or.inr rfl) (pe_call G__law_bag (hr.mono (by decide)) rfl T.g__law_bag T.F__law_bag.kp T.B__law_bag .nil pass0 (pa_cons (pv 0) pa_nil))) (pss_cons (ps_set (i := 2) sc_law.nd rfl (by first | exact Or.inl rfl | exact Or.inr rfl) (pe_call G__law_names (hr.mono (by decide)) rfl T.g__law_names T.F__law_names.kp T.D__law_names_2.choose_spec.2 T.D__law_names_2.choose_spec.1 pass0 (pa_cons (pv 1) (pa_cons pe_int pa_nil)))) (pss_cons (ps_if (pt_not (pt_tru (pe_call G__law_same (hr.mono (by decide)) rfl T.g__law_same T.F__law_same.kp T.B__law_same .nil pass0 (pa_cons (pe_glob rfl T.g_HABITS rfl) (pa_cons (pe_tup (pa_cons pe_str (pa_cons pe_str (pa_cons pe_str pa_nil)))) pa_nil))) (by intro _; rfl))) (pss_one (ps_ret pe_bl)) pss_nil) (pss_cons (ps_for PassesOwn.never rfl (pi_range1 rfl T.b_range (pa_cons pe_int pa_nil)) (pg_name (i := 3) sc_law.nd rfl (by first | exact Or.inl rfl | exact Or.inr rfl)) (pss_cons (ps_par3 (i := 4) (j := 5) (l := 6) rfl sc_law.nd rfl rfl rfl (by decide) (by decide) (by decide) rfl rfl rfl (pa_cons (pe_call G__law_value (hr.mono (by decide)) rfl T.g__law_value T.F__law_value.kp T.B__law_value .nil pass0 (pa_cons (pv 1) (pa_cons (pv 2) pa_nil))) (pa_cons (pe_call G__law_of (hr.mono (by decide)) rfl T.g__law_of T.F__law_of.kp T.B__law_of .nil pass0 (pa_cons (pv 1) (pa_cons (pe_lst (pa_cons pe_int (pa_cons pe_int (pa_cons (pe_op u_sub pe_int pe_int) (pa_cons pe_int (pa_cons pe_int pa_nil)))))) pa_nil))) (pa_cons (pe_call G__law_of (hr.mono (by decide)) rfl T.g__law_of T.F__law_of.kp T.B__law_of .nil pass0 (pa_cons (pv 1) (pa_cons (pe_lst (pa_cons pe_int (pa_cons pe_int (pa_cons pe_int (pa_cons pe_int pa_nil))))) pa_nil))) pa_nil))) (by rfl)) (pss_cons (ps_set (i := 7) sc_law.nd rfl (by first | exact Or.inl rfl | exact Or.inr rfl) (pe_lst (pa_cons (pe_call G_is_name (hr.mono (by decide)) rfl T.g_is_name T.F_is_name.kp T.B_is_name .nil pass0 (pa_cons (pv 4) pa_nil)) (pa_cons (pe_call G_is_standing (hr.mono (by decide)) rfl T.g_is_standing T.F_is_standing.kp T.B_is_standing .nil pass0 (pa_cons (pv 4) pa_nil)) (pa_cons (pe_call G_is_place (hr.mono (by decide)) rfl T.g_is_place T.F_is_place.kp T.B_is_place .nil pass0 (pa_cons (pv 4) pa_nil)) (pa_cons (pe_call G_is_key (hr.mono (by decide)) rfl T.g_is_key T.F_is_key.kp T.B_is_key .nil pass0 (pa_cons (pv 4) pa_nil)) (pa_cons (pe_call G_is_account (hr.mono (by decide)) rfl T.g_is_account T.F_is_account.kp T.B_is_account .nil pass0 (pa_cons (pv 4) pa_nil)) (pa_cons (pe_call G_number_in (hr.mono (by decide)) rfl T.g_number_in T.F_number_in.kp T.B_number_in .nil pass0 (pa_cons (pv 4) pa_nil)) pa_nil)))))))) (pss_cons (ps_set (i := 8) sc_law.nd rfl (by first | exact Or.inl rfl | exact Or.inr rfl) (pe_lst (pa_cons (pe_callN0 G_is_name (hr.mono (by decide)) rfl T.g_is_name T.F_is_name.kp T.K_is_name_0_value pass0 (pk_cons (pv 4) pk_nil)) (pa_cons (pe_callN0 G_is_standing (hr.mono (by decide)) rfl T.g_is_standing T.F_is_standing.kp T.K_is_standing_0_value pass0 (pk_cons (pv 4) pk_nil)) (pa_cons (pe_callN0 G_is_place (hr.mono (by decide)) rfl T.g_is_place T.F_is_place.kp T.K_is_place_0_value pass0 (pk_cons (pv 4) pk_nil)) (pa_cons (pe_callN0 G_is_key (hr.mono (by decide)) rfl T.g_is_key T.F_is_key.kp T.K_is_key_0_value pass0 (pk_cons (pv 4) pk_nil)) (pa_cons (pe_callN0 G_number_in (hr.mono (by decide)) rfl T.g_number_in T.F_number_in.kp T.K_number_in_0_text pass0 (pk_cons (pv 4) pk_nil)) pa_nil))))))) (pss_cons (ps_if (pt_not (pt_tru (pe_call G__law_same (hr.mono (by decide)) rfl T.g__law_same T.F__law_same.kp T.B__law_same .nil pass0 (pa_cons (pv 8) (pa_cons (pe_op u_add (pe_slice u_sl (pv 7) po_none (po_some pe_int)) (pe_slice u_sl (pv 7) (po_some pe_int) po_none)) pa_nil))) (by intro _; rfl))) (pss_one (ps_ret pe_bl)) pss_nil) (pss_cons (ps_set (i := 9) sc_law.nd rfl (by first | exact Or.inl rfl | exact Or.inr rfl) (pe_and (pe_callB u_isi rfl T.b_isinstance bt_isinstance (pa_cons (pv 4) (pa_cons (pe_ty rfl T.b_tuple bt_tuple) pa_nil))) (pe_one (pe_cmpR (u_eq hr.units) (pe_callB u_len rfl T.b_len bt_len (pa_cons (pv 4) pa_nil)) pe_int (nomark _))))) (pss_cons (ps_set (i := 10) sc_law.nd rfl (by first | exact Or.inl rfl | exact Or.inr rfl) (pe_lst (pa_cons (pe_call G__law_own_name (hr.mono (by decide)) rfl T.g__law_own_name T.F__law_own_name.kp T.B__law_own_name .nil pass0 (pa_cons (pv 4) pa_nil)) (pa_cons (pe_call G__law_own_standing (hr.mono (by decide)) rfl T.g__law_own_standing T.F__law_own_standing.kp T.B__law_own_standing .nil pass0 (pa_cons (pv 4) pa_nil)) (pa_cons (pe_or (pv 9) (pe_one (pe_call G__law_own_standing (hr.mono (by decide)) rfl T.g__law_own_standing T.F__law_own_standing.kp T.B__law_own_standing .nil pass0 (pa_cons (pv 4) pa_nil)))) (pa_cons (pe_call G__law_own_key (hr.mono (by decide)) rfl T.g__law_own_key T.F__law_own_key.kp T.B__law_own_key .nil pass0 (pa_cons (pv 4) pa_nil)) pa_nil)))))) (pss_cons (ps_if (pt_not (pt_tru (pe_call G__law_same (hr.mono (by decide)) rfl T.g__law_same T.F__law_same.kp T.B__law_same .nil pass0 (pa_cons (pv 7) (pa_cons (pe_op u_add (pv 10) (pe_lst (pa_cons (pe_call G__law_own_account (hr.mono (by decide)) rfl T.g__law_own_account T.F__law_own_account.kp T.B__law_own_account .nil pass0 (pa_cons (pv 4) pa_nil)) (pa_cons (pe_call G__law_own_read (hr.mono (by decide)) rfl T.g__law_own_read T.F__law_own_read.kp T.B__law_own_read .nil pass0 (pa_cons (pv 4) pa_nil)) pa_nil)))) pa_nil))) (by intro _; rfl))) (pss_one (ps_ret pe_bl)) pss_nil) (pss_cons (ps_set (i := 7) sc_law.nd rfl (by first | exact Or.inl rfl | exact Or.inr rfl) (pe_lst (pa_cons (pe_call G_is_number (hr.mono (by decide)) rfl T.g_is_number T.F_is_number.kp T.B_is_number .nil pass0 (pa_cons (pv 4) (pa_cons (pv 5) (pa_cons (pe_op u_add (pv 5) (pv 6)) pa_nil)))) (pa_cons (pe_callN0 G_is_number (hr.mono (by decide)) rfl T.g_is_number T.F_is_number.kp T.K_is_number_0_least_most_value pass0 (pk_cons (pv 5) (pk_cons (pe_op u_add (pv 5) (pv 6)) (pk_cons (pe_op u_add (pv 5) (pv 6)) pk_nil)))) pa_nil)))) (pss_cons (ps_set (i := 7) sc_law.nd rfl (by first | exact Or.inl rfl | exact Or.inr rfl) (pe_op u_add (pv 7) (pe_lst (pa_cons (pe_call G_is_number (hr.mono (by decide)) rfl T.g_is_number T.F_is_number.kp T.B_is_number .nil pass0 (pa_cons (pv 5) (pa_cons (pv 5) (pa_cons (pe_op u_add (pv 5) (pv 6)) pa_nil)))) (pa_cons (pe_call G_is_number (hr.mono (by decide)) rfl T.g_is_number T.F_is_number.kp T.B_is_number .nil pass0 (pa_cons (pe_op u_sub (pv 5) pe_int) (pa_cons (pv 5) (pa_cons (pe_op u_add (pv 5) (pv 6)) pa_nil)))) (pa_cons (pe_call G_is_number (hr.mono (by decide)) rfl T.g_is_number T.F_is_number.kp T.B_is_number .nil pass0 (pa_cons (pe_op u_add (pe_op u_add (pv 5) (pv 6)) pe_int) (pa_cons (pv 5) (pa_cons (pe_op u_add (pv 5) (pv 6)) pa_nil)))) pa_nil)))))) (pss_cons (ps_if (pt_not (pt_tru (pe_call G__law_same (hr.mono (by decide)) rfl T.g__law_same T.F__law_same.kp T.B__law_same .nil pass0 (pa_cons (pv 7) (pa_cons (pe_lst (pa_cons (pe_call G__law_own_number (hr.mono (by decide)) rfl T.g__law_own_number T.F__law_own_number.kp T.B__law_own_number .nil pass0 (pa_cons (pv 4) (pa_cons (pv 5) (pa_cons (pe_op u_add (pv 5) (pv 6)) pa_nil)))) (pa_cons pe_bl (pa_cons pe_bl (pa_cons pe_bl (pa_cons pe_bl pa_nil)))))) pa_nil))) (by intro _; rfl))) (pss_one (ps_ret pe_bl)) pss_nil) (pss_cons (ps_set (i := 11) sc_law.nd rfl (by first | exact Or.inl rfl | exact Or.inr rfl) (pe_tup (pa_cons (pe_ix ix_seq (pv 2) (pe_op u_mod (pe_callTy u_int rfl T.b_int bt_int (pa_cons (pv 3) pa_nil)) pe_int) (fun _ _ => rfl)) (pa_cons (pe_call G__law_take (hr.mono (by decide)) rfl T.g__law_take T.F__law_take.kp T.B__law_take .nil pass0 (pa_cons (pv 1) (pa_cons pe_int pa_nil))) pa_nil)))) (pss_cons (ps_set (i := 12) sc_law.nd rfl (by first | exact Or.inl rfl | exact Or.inr rfl) (pe_call G_account_of (hr.mono (by decide)) rfl T.g_account_of T.F_account_of.kp T.B_account_of .nil pass0 (pa_cons (pv 11) pa_nil))) (pss_one (ps_if (pt_not (pt_tru (pe_call G__law_same (hr.mono (by decide)) rfl T.g__law_same T.F__law_same.kp T.B__law_same .nil pass0 (pa_cons (pe_lst (pa_cons (pv 12) (pa_cons (pe_callN0 G_is_account (hr.mono (by decide)) rfl T.g_is_account T.F_is_account.kp T.K_is_account_0_value pass0 (pk_cons (pv 12) pk_nil)) (pa_cons (pe_callN0 G_account_of (hr.mono (by decide)) rfl T.g_account_of T.F_account_of.kp T.K_account_of_0_standing pass0 (pk_cons (pv 11) pk_nil)) pa_nil)))) (pa_cons (pe_lst (pa_cons (pe_op u_add (pe_op u_add (pe_ix ix_seq (pv 11) pe_int (fun _ _ => rfl)) pe_str) (pe_callTy u_str rfl T.b_str bt_str (pa_cons (pe_ix ix_seq (pv 11) pe_int (fun _ _ => rfl)) pa_nil))) (pa_cons pe_bl (pa_cons (pv 12) pa_nil)))) pa_nil))) (by intro _; rfl))) (pss_one (ps_ret pe_bl)) pss_nil))))))))))))))) (pss_one (ps_ret pe_bl))))))
end K01

namespace K01
open PySem PySem.Spec PyProof.Rows L2 SW
section
variable {K : PySem.W.Frag} {v : V} {H : Hp} {Q : VK} {d : PyData}
theorem rd__law_own_name (h : Rp K H v d) (k : ∀ H', Same H H' → Q (.bl (isNameD d)) H') : t__law_own_name K (Dn Q) [some v, none] H := by
  unfold t__law_own_name
  walk_at "gb"
  refine s_nbite (fun hb => ?_) (fun hb => ?_)
  case refine_2 =>
    walk_at "gb"
    have := k H (Same.refl H)
    rw [isName_no hb] at this
    exact this
  obtain ⟨x, rfl⟩ := isB_str hb
  cases h with
  | str _ hxs =>
  walk_at "gb"
  refine s_lenS hxs.len ?_
  walk_at "gb"
  refine s_dec (fun h1 => ?_) (fun h1 => ?_)
  · walk_at "gb"
    have := k H (Same.refl H)
    have h1' : ¬ 1 ≤ x.length := by omega
    simpa [isNameD, isNameS, h1'] using this
  walk_at "gb"
  refine s_lenS hxs.len ?_
  walk_at "gb"
  refine s_dec (fun h2 => ?_) (fun h2 => ?_)
  · walk_at "gb"
    have := k H (Same.refl H)
    have h1' : ¬ x.length ≤ 6 := by omega
    simpa [isNameD, isNameS, h1'] using this
  walk_at "gc"
  refine s_bads rfl (fun _ => rfl) (fun _ => rfl) hxs fun Dl H1 e1 hD => ?_
  refine s_eqNew hD fun H2 e2 => ?_
  rw [bads_empty]
  have := k H2 (e1.trans e2)
  have h1' : 1 ≤ x.length := by omega
  have h2' : x.length ≤ 6 := by omega
  have e : isNameD (.str x) = allIn x SMALLs := by
    show (decide (1 ≤ x.length) && (decide (x.length ≤ 6) && allIn x SMALLs)) = _
    rw [decide_eq_true h1', decide_eq_true h2']; rfl
  rw [e] at this
  exact this
theorem rd__law_own_number {i j : Int} (h : Rp K H v d) (k : ∀ H', Same H H' → Q (.bl (isNumD d i j)) H') : t__law_own_number K (Dn Q) [some v, some (.int i), some (.int j)] H := by
  unfold t__law_own_number
  walk_at "gb"
  refine s_nbite (fun hb => ?_) (fun hb => ?_)
  case refine_2 =>
    walk_at "gb"
    have := k H (Same.refl H)
    have e : isNumD d i j = false := by cases d <;> simp [isB, isBS, tyN, isNumD] at hb ⊢
    rw [e] at this
    exact this
  walk_at "gb"
  refine s_bite (fun hb2 => ?_) (fun hb2 => ?_)
  · walk_at "gb"
    have := k H (Same.refl H)
    have e : isNumD d i j = false := by cases d <;> simp [isB, isBS, tyN, isNumD] at hb2 ⊢
    rw [e] at this
    exact this
  obtain ⟨n, rfl⟩ : ∃ n, d = .int n := by cases d <;> simp [isB, isBS, tyN] at hb hb2 ⊢
  cases h
  walk_at "gb"
  refine s_dec (fun h1 => ?_) (fun h1 => ?_)
  · walk_at "gb"
    have := k H (Same.refl H)
    simpa [isNumD, h1] using this
  · have := k H (Same.refl H)
    simpa [isNumD, h1] using this
theorem rd__law_own_standing (h : Rp K H v d) (k : ∀ H', Same H H' → Q (.bl (isStandD d)) H') : t__law_own_standing K (Dn Q) [some v] H := by
  unfold t__law_own_standing
  walk_at "gb"
  refine s_nbite (fun hb => ?_) (fun hb => ?_)
  · obtain ⟨ds, rfl⟩ := isB_tup hb
    obtain ⟨a, xs, rfl, hs, ha⟩ := h.tup'
    walk_at "gb"
    refine s_lenT hs ?_
    walk_at "gb"
    refine s_ndec (fun h1 => ?_) (fun h1 => ?_)
    · have hl : ds.length = 2 := by rw [← ha.length]; omega
      obtain ⟨p, q, rfl⟩ := list_two hl
      obtain ⟨x, y, rfl, hx, hy⟩ := ha.two
      walk_at "gb"
      refine s_ixT hs (by rfl) ?_
      walk_at "gb"
      refine s_spD hx fun H1 e1 => ?_
      walk_at "gb"
      refine s_bite (fun h2 => ?_) (fun h2 => ?_)
      · walk_at "gb"
        refine s_ixT (Same.seqT e1 hs) (by rfl) ?_
        walk_at "gb"
        refine s_sp3 ⟨_, _, _, hy.mono e1, rfl, rfl, fun H2 e2 => ?_⟩
        have := k H2 (e1.trans e2)
        simpa [isStandD, h2] using this
      · have := k H1 e1
        simpa [isStandD, h2] using this
    · walk_at "gb"
      have := k H (Same.refl _)
      rw [isStand_len (by rw [← ha.length]; omega)] at this
      exact this
  · walk_at "gb"
    have := k H (Same.refl H)
    rw [isStand_no hb] at this
    exact this

theorem rd__law_own_key (h : Rp K H v d) (k : ∀ H', Same H H' → Q (.bl (isKeyD d)) H') : t__law_own_key K (Dn Q) [some v] H := by
  unfold t__law_own_key
  walk_at "go"
  refine s_nbite (fun hb => ?_) (fun hb => ?_)
  case refine_2 =>
    walk_at "go"
    have := k H (Same.refl H)
    rw [isKey_no hb] at this
    exact this
  obtain ⟨ds, rfl⟩ := isB_tup hb
  have hzz := Rp.len (.inl h)
  obtain ⟨a, xs, rfl, hs, ha⟩ := h.tup'
  walk_at "go"
  refine s_lenT hs ?_
  walk_at "go"
  refine s_dec (fun hl => ?_) (fun hl => ?_)
  · walk_at "go"
    have hl2 : ds.length < 2 := by rw [← ha.length]; omega
    have := k H (Same.refl H)
    have e : isKeyD (.tuple ds) = false := by
      match ds, hl2 with
      | [], _ => rfl
      | [a], _ =>
        cases a with
        | str w =>
          show isKeyL w [] = false
          unfold isKeyL
          split
          · rfl
          · split
            · rfl
            · split <;> rfl
        | _ => rfl
    rw [e] at this
    exact this
  have hl2 : 2 ≤ ds.length := by rw [← ha.length]; omega
  cases ha with
  | nil => simp at hl2
  | @cons v0 vs d0 ds0 h0 hr =>
  walk_at "go"
  refine s_ixT hs (atI_nat (j := 0) rfl) ?_
  walk_at "go"
  refine s_nbite (fun hb0 => ?_) (fun hb0 => ?_)
  case refine_2 =>
    walk_at "go"
    have := k H (Same.refl H)
    have e : isKeyD (.tuple (d0 :: ds0)) = false := by
      cases d0 <;> simp [isB, isBS, tyN, isKeyD] at hb0 ⊢
    rw [e] at this
    exact this
  obtain ⟨w, rfl⟩ := isB_str hb0
  cases h0 with
  | str _ hw =>
  have hk : ∀ H', Same H H' → Q (.bl (isKeyL w ds0)) H' := k
  walk_at "go"
  refine s_ixT hs (atI_nat (j := 0) rfl) ?_
  walk_at "go"
  refine s_inNew ["hire", "work"] rfl (by decide) fun H2 e2 => ?_
  walk_at "go"
  have hs2 := Same.seqT e2 hs
  have hr2 : RpA K H2 vs ds0 := hr.mono e2
  have hrl := hr.length
  refine s_dec (fun hw1 => ?_) (fun hw1 => ?_)
  · have hw1' : w = "hire" ∨ w = "work" := by simpa using hw1
    walk_at "go"
    refine s_lenT hs2 ?_
    walk_at "go"
    refine s_dec (fun hl => ?_) (fun hl => ?_)
    · have hl1 : ds0.length = 1 := by simp at hl; omega
      obtain ⟨d1, rfl⟩ := list_one hl1
      obtain ⟨v1, rfl, h1⟩ := hr2.one
      walk_at "go"
      refine s_ixT hs2 (by rfl) ?_
      walk_at "go"
      refine s_spD h1 fun H3 e3 => ?_
      have := hk H3 (e2.trans e3)
      simpa [isKeyL, hw1'] using this
    · have hl1 : ds0.length ≠ 1 := by simp at hl; omega
      have := hk H2 e2
      have e : isKeyL w ds0 = false := by
        unfold isKeyL
        rw [if_pos hw1']
        split
        · simp at hl1
        · rfl
      rw [e] at this
      exact this
  have hw1' : ¬ (w = "hire" ∨ w = "work") := by simpa using hw1
  walk_at "go"
  refine s_ixT hs2 (atI_nat (j := 0) rfl) ?_
  walk_at "go"
  refine s_inNew ["buy", "free", "wait"] rfl (by decide) fun H3 e3 => ?_
  walk_at "go"
  have e23 := e2.trans e3
  have hs3 := Same.seqT e3 hs2
  have hr3 : RpA K H3 vs ds0 := hr2.mono e3
  refine s_dec (fun hw2 => ?_) (fun hw2 => ?_)
  · have hw2' : w = "buy" ∨ w = "free" ∨ w = "wait" := by simpa using hw2
    walk_at "go"
    refine s_lenT hs3 ?_
    walk_at "go"
    refine s_dec (fun hl => ?_) (fun hl => ?_)
    · walk_at "go"
      refine s_slT hs3 fun q H4 e4 hq => ?_
      have hq1 : SqT K H4 q vs := by
        have := cut_from (V.str w :: vs) 1
        rw [show (((1 : Nat) : Int)) = (1 : Int) from rfl] at this
        rw [this] at hq
        exact hq
      walk_at "go"
      refine s_spD (Rp.tup hq1 (hr3.mono e4) (by simp at hzz; omega)) fun H5 e5 => ?_
      have := hk H5 (e23.trans (e4.trans e5))
      simpa [isKeyL, hw1', hw2'] using this
    · have hl1 : ds0.length ≠ 2 := by simp at hl; omega
      have := hk H3 e23
      have e : isKeyL w ds0 = false := by
        unfold isKeyL
        rw [if_neg hw1', if_pos hw2', isStand_len hl1]
      rw [e] at this
      exact this
  have hw2' : ¬ (w = "buy" ∨ w = "free" ∨ w = "wait") := by simpa using hw2
  walk_at "go"
  refine s_ixT hs3 (atI_nat (j := 0) rfl) ?_
  walk_at "go"
  refine s_ndec (fun hw3 => ?_) (fun hw3 => ?_)
  case refine_2 =>
    walk_at "go"
    have := hk H3 e23
    simpa [isKeyL, hw1', hw2', hw3] using this
  walk_at "go"
  refine s_lenT hs3 ?_
  walk_at "go"
  refine s_ndec (fun hl => ?_) (fun hl => ?_)
  case refine_2 =>
    walk_at "go"
    have hl1 : ds0.length ≠ 3 := by simp at hl; omega
    have := hk H3 e23
    have e : isKeyL w ds0 = false := by
      unfold isKeyL
      rw [if_neg hw1', if_neg hw2', if_pos hw3]
      split
      · simp at hl1
      · rfl
    rw [e] at this
    exact this
  have hl1 : ds0.length = 3 := by simp at hl; omega
  obtain ⟨d1, d2, d3, rfl⟩ := list_three hl1
  obtain ⟨v1, v2, v3, rfl, h1, h2, h3⟩ := hr3.three
  have e : isKeyL w [d1, d2, d3] = (isNameD d1 && (isStandD (.tuple [d2, d3]) && !PyData.eqv d1 d2)) := by
    unfold isKeyL
    rw [if_neg hw1', if_neg hw2', if_pos hw3]
  rw [e] at hk
  walk_at "go"
  refine s_ixT hs3 (by rfl) ?_
  walk_at "go"
  refine s_spD h1 fun H4 e4 => ?_
  walk_at "go"
  refine s_bite (fun hn => ?_) (fun hn => ?_)
  case refine_2 =>
    have := hk H4 (e23.trans e4)
    simpa [hn] using this
  walk_at "go"
  refine s_slT (Same.seqT e4 hs3) fun p5 H5 e5 hp5 => ?_
  have hp5' : SqT K H5 p5 [v2, v3] := by
    have := cut_from [V.str w, v1, v2, v3] 2
    rw [show (((2 : Nat) : Int)) = (2 : Int) from rfl] at this
    rw [this] at hp5
    exact hp5
  walk_at "go"
  refine s_spD (d := .tuple [d2, d3]) (Rp.tup hp5' ((RpA.cons h2 (.cons h3 .nil)).mono (e4.trans e5)) (by simp)) fun H6 e6 => ?_
  walk_at "go"
  refine s_bite (fun hn2 => ?_) (fun hn2 => ?_)
  case refine_2 =>
    have := hk H6 (e23.trans (e4.trans (e5.trans e6)))
    simpa [hn, hn2] using this
  obtain ⟨x, rfl⟩ := isName_str hn
  obtain ⟨y, n, e7, _⟩ := isStand_tup hn2
  injection e7 with e7
  injection e7 with e8 _
  subst e8
  cases h1 with
  | str _ hx =>
  cases h2 with
  | str _ hy =>
  walk_at "go"
  have hq6 := Same.seqT (e4.trans (e5.trans e6)) hs3
  refine s_ixT hq6 (by rfl) ?_
  walk_at "go"
  refine s_ixT hq6 (by rfl) ?_
  walk_at "go"
  have := hk H6 (e23.trans (e4.trans (e5.trans e6)))
  rw [hn, hn2] at this
  have e9 : PyData.eqv (.str x) (.str y) = decide (x = y) := by
    show (x == y) = _
    rw [Bool.eq_iff_iff]; simp
  rw [e9] at this
  simpa using this
/-! the parts between blanks -/
theorem cutAt_cons (z x : Nat) (r : List Nat) : cutAt z (x :: r) = if x = z then ([], some r) else (x :: (cutAt z r).1, (cutAt z r).2) := rfl
theorem cutAt_none : ∀ {l y : List Nat}, cutAt 32 l = (y, none) → y = l
  | [], y, h => by cases h; rfl
  | c :: t, y, h => by
    rw [cutAt_cons] at h
    by_cases hc : c = 32
    · rw [if_pos hc] at h; cases h
    · rw [if_neg hc] at h
      obtain ⟨rfl, h2⟩ := Prod.mk.inj h
      have := cutAt_none (l := t) (y := (cutAt 32 t).1) (by rw [← h2])
      rw [this]
theorem spl32 : ∀ (l acc : List Nat), TL.spl [32] 0 acc l = (match cutAt 32 l with
    | (y, some r) => (acc ++ y) :: TL.spl [32] 0 [] r
    | (y, none) => [acc ++ y])
  | [], acc => by
    rw [TL.spl_nil]
    simp [cutAt]
  | c :: r, acc => by
    by_cases h : c = 32
    · rw [TL.spl_hit (by rw [pre32]; exact decide_eq_true h), cutAt_cons, if_pos h]
      simp
    · rw [TL.spl_miss (by rw [pre32]; exact decide_eq_false h), spl32 r (acc ++ [c]), cutAt_cons, if_neg h]
      cases e : cutAt 32 r with
      | mk y o => cases o <;> simp
theorem spl_ne (l acc : List Nat) : TL.spl [32] 0 acc l ≠ [] := by
  rw [spl32]
  cases cutAt 32 l with
  | mk y o => cases o <;> simp
theorem cut_one {h : Nat} (hh : h ≠ 32) : cutAt 32 [h] = ([h], none) := by
  unfold cutAt
  rw [if_neg hh]
  rfl
theorem rd__law_own_account (h : Rp K H v d) (k : ∀ H', Same H H' → Q (.bl (isAcctD d)) H') : t__law_own_account K (Dn Q) [some v, none] H := by
  unfold t__law_own_account
  walk_at "go"
  refine s_nbite (fun hb => ?_) (fun hb => ?_)
  case refine_2 =>
    walk_at "go"
    have := k H (Same.refl H)
    have e : isAcctD d = false := by cases d <;> simp [isB, isBS, tyN, isAcctD] at hb ⊢
    rw [e] at this
    exact this
  obtain ⟨x, rfl⟩ := isB_str hb
  cases h with
  | str _ hxs =>
  have hx := hxs.len
  walk_at "go"
  refine s_dec (fun h0 => ?_) (fun h0 => ?_)
  · walk_at "go"
    have := k H (Same.refl H)
    have e : isAcctD (.str x) = true := by rw [h0]; decide +kernel
    rw [e] at this
    exact this
  walk_at "go"
  refine s_spD (.str x hxs) fun H1 e1 => ?_
  walk_at "go"
  refine s_bite (fun h1 => ?_) (fun h1 => ?_)
  · walk_at "go"
    have := k H1 e1
    have e : isAcctD (.str x) = true := by
      have h1' : isNameS x = true := h1
      show (x == Str.empty || (isNameS x || _)) = true
      rw [h1']; simp
    rw [e] at this
    exact this
  walk_at "go"
  refine s_split (by decide +kernel) hx fun p H2 _ e2 hp => ?_
  have hsp := TL.split_spl x " " (by decide +kernel) (TL.kind_ok (by decide +kernel))
  have e32 : TL.tl (" " : Str) = [32] := by decide +kernel
  rw [e32] at hsp
  have e3 := e1.trans e2
  generalize hW : Txt.split x " " = W at hsp hp
  have hWl : W.length = (TL.spl [32] 0 [] (TL.tl x)).length := by rw [← hsp, List.length_map]
  have eA : isAcctD (.str x) = (match cutAt 32 (TL.tl x) with | (y, some r) => tailOk y r | _ => false) := by
    show (x == Str.empty || (isNameS x || _)) = _
    have hn : isNameS x = false := h1
    have h0' : (x == Str.empty) = false := beq_eq_false_iff_ne.mpr h0
    rw [hn, h0']
    simp only [Bool.false_or] <;> rfl
  rw [eA] at k
  rw [spl32] at hsp hWl
  walk_at "go"
  refine s_lenL (SqL.of hp) ?_
  walk_at "go"
  rw [List.length_map]
  refine s_dec (fun hl => ?_) (fun hl => ?_)
  · have hl2 : W.length = 2 := by omega
    obtain ⟨u, t, rfl⟩ := list_two hl2
    cases hc : cutAt 32 (TL.tl x) with
    | mk y o =>
    rw [hc] at hsp
    cases o with
    | none => simp at hsp
    | some r =>
    simp only [List.map_cons, List.map_nil, List.nil_append] at hsp
    injection hsp with hu ht
    rw [spl32] at ht
    cases hc2 : cutAt 32 r with
    | mk y2 o2 =>
    rw [hc2] at ht
    cases o2 with
    | some r2 =>
      exfalso
      have := spl_ne r2 []
      simp at ht
      exact this ht.2
    | none =>
    have hy2 := cutAt_none hc2
    subst hy2
    simp only [List.nil_append] at ht
    injection ht with ht _
    have eu : u = ⟨y.toArray⟩ := TL.ext_tl (by rw [hu])
    have et : t = ⟨y2.toArray⟩ := TL.ext_tl (by rw [ht])
    have hlen := cutAt_len hc
    rw [← TL.len_tl x] at hlen
    rw [hc] at k
    have k' : ∀ H', Same H H' → Q (.bl (tailOk y y2)) H' := k
    walk_at "go"
    refine s_ixL (SqL.of hp) (by rfl) ?_
    walk_at "go"
    refine s_spD (.str u ⟨by rw [eu]; simp [Str.length]; omega, fun z hz => hxs.ok z (cutAt_sub hc z (by rw [eu] at hz; exact hz))⟩) fun H3 e4 => ?_
    walk_at "go"
    rw [eu, et] at hp
    rw [eu]
    have hp3 := e4 _ _ hp
    refine s_bite (fun hn => ?_) (fun hn => ?_)
    case refine_2 =>
      have := k' H3 (e3.trans e4)
      have e5 : tailOk y y2 = false := by
        have hn' : isNameS ⟨y.toArray⟩ = false := hn
        unfold tailOk
        split
        · rw [hn']; rfl
        · rfl
      rw [e5] at this
      exact this
    have hn' : isNameS ⟨y.toArray⟩ = true := hn
    walk_at "go"
    refine s_ixL (SqL.of hp3) (by rfl) ?_
    walk_at "go"
    refine s_lenS (by simp [Str.length]; omega) ?_
    walk_at "go"
    refine s_dec (fun hl9 => ?_) (fun hl9 => ?_)
    · have hl' : y2.length = 1 := by simp [Str.length] at hl9; omega
      obtain ⟨z, rfl⟩ := list_one hl'
      walk_at "go"
      refine s_ixL (SqL.of hp3) (by rfl) ?_
      walk_at "go"
      refine s_inC ?_
      have := k' H3 (e3.trans e4)
      have e5 : tailOk y [z] = decide (z ∈ HOURSs.cps.toList) := by
        show (isNameS ⟨y.toArray⟩ && _) = _
        rw [hn']; rfl
      rw [e5] at this
      exact this
    · have hl' : y2.length ≠ 1 := by simp [Str.length] at hl9; omega
      have := k' H3 (e3.trans e4)
      have e5 : tailOk y y2 = false := by
        unfold tailOk
        split
        · simp at hl'
        · rfl
      rw [e5] at this
      exact this
  · have := k H2 e3
    have e5 : (match cutAt 32 (TL.tl x) with | (y, some r) => tailOk y r | _ => false) = false := by
      cases hc : cutAt 32 (TL.tl x) with
      | mk y o =>
      cases o with
      | none => rfl
      | some r =>
        show tailOk y r = false
        cases ht : tailOk y r with
        | false => rfl
        | true =>
          exfalso
          unfold tailOk at ht
          split at ht
          · rename_i z
            have hz := of_decide_eq_true (Bool.and_eq_true_iff.mp ht).2
            have hz32 : z ≠ 32 := by
              intro e
              subst e
              exact absurd hz (by decide +kernel)
            rw [hc] at hWl
            simp only [List.length_cons, spl32, cut_one hz32] at hWl
            simp at hWl
            omega
          · cases ht
    rw [e5] at this
    exact this
theorem rd__law_own_read (h : Rp K H v d) (k : ∀ H', Same H H' → Q (numV d) H') : t__law_own_read K (Dn Q) [some v, none] H := by
  unfold t__law_own_read
  walk_at "gc"
  refine s_nbite (fun hb => ?_) (fun hb => ?_)
  case refine_2 =>
    walk_at "gc"
    have := k H (Same.refl H)
    have e : numV d = .non := by cases d <;> simp [isB, isBS, tyN, numV] at hb ⊢
    rw [e] at this
    exact this
  obtain ⟨x, rfl⟩ := isB_str hb
  cases h with
  | str _ hxs =>
  have hx := hxs.len
  walk_at "gc"
  refine s_lenS hx ?_
  walk_at "gc"
  refine s_dec (fun h1 => ?_) (fun h1 => ?_)
  · walk_at "gc"
    have := k H (Same.refl H)
    have h1' : ¬ 1 ≤ x.length := by omega
    have e : numV (.str x) = .non := by simp [numV, numS, h1']
    rw [e] at this
    exact this
  have h1' : 1 ≤ x.length := by omega
  walk_at "gc"
  refine s_lenS hx ?_
  walk_at "gc"
  refine s_dec (fun h2 => ?_) (fun h2 => ?_)
  · walk_at "gc"
    have := k H (Same.refl H)
    have h2' : ¬ x.length ≤ 9 := by omega
    have e : numV (.str x) = .non := by simp [numV, numS, h2']
    rw [e] at this
    exact this
  have h2' : x.length ≤ 9 := by omega
  walk_at "gc"
  refine s_bads rfl (fun _ => rfl) (fun _ => rfl) hxs fun Dl H1 e1 hD => ?_
  refine s_neNew hD fun H2 e2 => ?_
  have e12 := e1.trans e2
  rw [bads_empty]
  walk_at "gc"
  refine s_nbite (fun h3 => ?_) (fun h3 => ?_)
  case refine_2 =>
    walk_at "gc"
    have := k H2 e12
    have h3' : allIn x DIGITSs = false := h3
    have e : numV (.str x) = .non := by simp [numV, numS, h3']
    rw [e] at this
    exact this
  have h3' : allIn x DIGITSs = true := h3
  obtain ⟨n, hn⟩ := num_some h1' (by omega) h3'
  obtain ⟨c, l, hcl⟩ : ∃ c l, x.cps.toList = c :: l := by
    cases hh : x.cps.toList with
    | nil => rw [TL.len_tl, TL.tl, hh] at h1'; simp at h1'
    | cons c l => exact ⟨c, l, rfl⟩
  have hxl : x.length = l.length + 1 := by rw [TL.len_tl, TL.tl, hcl]; rfl
  walk_at "gc"
  refine s_lenS hx ?_
  walk_at "gc"
  have hc : decide ((⟨#[c]⟩ : Str) = ("0" : Str)) = decide (c = 48) := by
    rw [Bool.eq_iff_iff]
    simp only [decide_eq_true_eq]
    constructor
    · intro e
      have e2 : (⟨#[c]⟩ : Str).cps.toList = ("0" : Str).cps.toList := by rw [e]
      have e3 : ("0" : Str).cps.toList = [48] := by decide +kernel
      rw [e3] at e2
      simpa using e2
    · intro e
      subst e
      decide +kernel
  have h0 : x = "0" ↔ (c = 48 ∧ l = []) := by
    have e3 : ("0" : Str).cps.toList = [48] := by decide +kernel
    constructor
    · intro e
      rw [e, e3] at hcl
      injection hcl with a b
      exact ⟨a.symm, b.symm⟩
    · rintro ⟨rfl, rfl⟩
      exact TL.ext_tl (by rw [TL.tl, TL.tl, hcl, e3])
  refine s_dec (fun h4 => ?_) (fun h4 => ?_)
  · walk_at "gc"
    refine s_ixS (z := c) hx (by rw [hcl]; exact atI_nat (j := 0) rfl) ?_
    walk_at "gc"
    rw [hc]
    have hx0 : (x == ("0" : Str)) = false := beq_eq_false_iff_ne.mpr (fun e => by have := (h0.mp e).2; subst this; simp at hxl; omega)
    refine s_dec (fun h5 => ?_) (fun h5 => ?_)
    · walk_at "gc"
      have := k H2 e12
      have e : numV (.str x) = .non := by simp [numV, numS, h1', h2', h3', hx0, hcl, h5]
      rw [e] at this
      exact this
    · walk_at "gc"
      refine .inr ⟨x, n, rfl, hn, by omega, ?_⟩
      have := k H2 e12
      have e : numV (.str x) = .int n := by simp [numV, numS, h1', h2', h3', hcl, h5, hn]
      rw [e] at this
      exact this
  · walk_at "gc"
    refine .inr ⟨x, n, rfl, hn, by omega, ?_⟩
    have := k H2 e12
    have hl0 : l = [] := by
      cases l with
      | nil => rfl
      | cons a r => simp at hxl; omega
    have e : numV (.str x) = .int n := by
      by_cases h5 : c = 48
      · have hx0 : (x == ("0" : Str)) = true := beq_iff_eq.mpr (h0.mpr ⟨h5, hl0⟩)
        simp [numV, numS, h1', h2', h3', hx0, hn]
      · simp [numV, numS, h1', h2', h3', hcl, h5, hn]
    rw [e] at this
    exact this
end
end K01

namespace K01
open PySem PySem.Spec PyProof.Rows L2 SW
section
variable {K : PySem.W.Frag} {v : V} {H : Hp} {Q : VK} {d : PyData}
theorem Short.part {x : Str} {n : Nat} (h : Short n x) (hn : n ≤ 10) : Part (.str x) := .inl ⟨x, rfl, Nat.le_trans h.1 hn, h.2⟩
theorem part_int (i : Int) : Part (.int i) := .inr ⟨i, rfl⟩
theorem short_lit {x : Str} {n : Nat} (h : (decide (x.length ≤ n) && (decide (x.length ≤ 100000) && x.cps.toList.all fun c => decide (c < 1114112))) = true) : Short n x := by
  obtain ⟨h1, h2⟩ := Bool.and_eq_true_iff.mp h
  exact ⟨of_decide_eq_true h1, sok_lit h2⟩
theorem good_str {x : Str} {n : Nat} (h : Short n x) (hn : n ≤ 10) : Good (.str x) := .inl ⟨x, rfl, Nat.le_trans h.1 hn, h.2⟩
theorem good_tup {ds : List PyData} (h : ds.length ≤ 4) (hp : ∀ e ∈ ds, Part e) : Good (.tuple ds) := .inr ⟨ds, rfl, h, hp⟩
theorem hour_sok {n : Int} (h0 : 0 ≤ n) (h8 : n ≤ 8) : Sok (toString n : Str) := by
  have h : ∀ m : Nat, m ≤ 8 → Sok (toString ((m : Nat) : Int) : Str) := by
    intro m hm
    match m, hm with
    | 0, _ => exact sok_lit (by decide +kernel)
    | 1, _ => exact sok_lit (by decide +kernel)
    | 2, _ => exact sok_lit (by decide +kernel)
    | 3, _ => exact sok_lit (by decide +kernel)
    | 4, _ => exact sok_lit (by decide +kernel)
    | 5, _ => exact sok_lit (by decide +kernel)
    | 6, _ => exact sok_lit (by decide +kernel)
    | 7, _ => exact sok_lit (by decide +kernel)
    | 8, _ => exact sok_lit (by decide +kernel)
    | m + 9, h => omega
  obtain ⟨m, rfl⟩ := Int.eq_ofNat_of_zero_le h0
  exact h m (by omega)
theorem rd__law_good {b c p : Addr} {x y : Str} (B : Bag H b c) (hs : SqL K (mn H b) p [.str x, .str y]) (hx : Short 6 x) (hy : Short 6 y)
    (k : ∀ z d H', Rp K (mn H' b) z d → Good d → Bag H' b c → Same (mn H b) (mn H' b) → Q z H') : t__law_good K (Dn Q) [some (.ref b), some (.ref p), none, none, none, none, none, none] H := by
  unfold t__law_good
  walk_at "gb"
  refine s_ixL (seq_mn hs) (by rfl) ?_
  walk_at "gb"
  refine s_ixL (seq_mn hs) (by rfl) ?_
  walk_at "gb"
  apply draw_ad B
  · walk_at "ad"
  · exact Nat.le_of_ble_eq_true rfl
  · exact Nat.le_of_ble_eq_true rfl
  intro v1 d1 H1 hd1 hv1 B1 e1
  obtain ⟨h, rfl, h0, h8⟩ : ∃ h, d1 = .int h ∧ 0 ≤ h ∧ h ≤ 8 := by
    simp only [List.mem_cons, List.not_mem_nil, or_false] at hd1
    rcases hd1 with rfl | rfl | rfl | rfl | rfl <;> exact ⟨_, rfl, by decide, by decide⟩
  cases hv1
  have rx : ∀ H', Rp K H' (.str x) (.str x) := fun _ => .str x hx.2
  have ry : ∀ H', Rp K H' (.str y) (.str y) := fun _ => .str y hy.2
  have rx1 := rx (mn H1 b)
  have ry1 := ry (mn H1 b)
  walk_at "gb"
  apply new_ad B1
  · walk_at "ad"
  · exact Nat.le_of_ble_eq_true rfl
  intro v2 H2 hv2 B2 e2
  walk_at "gb"
  apply draw_ad B2
  · walk_at "ad"
  · exact Nat.le_of_ble_eq_true rfl
  · exact Nat.le_of_ble_eq_true rfl
  intro v3 d3 H3 hd3 hv3 B3 e3
  obtain ⟨dg, rfl, hdg⟩ : ∃ g, d3 = .str g ∧ Short 9 g := by
    simp only [List.mem_cons, List.not_mem_nil, or_false] at hd3
    rcases hd3 with rfl | rfl | rfl | rfl | rfl | rfl <;> exact ⟨_, rfl, short_lit (by decide +kernel)⟩
  cases hv3
  have hv3 := hv2.mono e3
  have hw3 := hv2.mono e3
  walk_at "gb"
  have rx3 := rx (mn H3 b)
  have ry3 := ry (mn H3 b)
  have rd3 : Rp K (mn H3 b) (.str dg) (.str dg) := .str dg hdg.2
  have hg : ∀ d ∈ ([.tuple [.str "buy", .str x, .int h], .tuple [.str "free", .str x, .int h], .tuple [.str "wait", .str x, .int h], .tuple [.str "hire", .str x], .tuple [.str "work", .str y], .tuple [.str "walk", .str x, .str y, .int h]] : List PyData), Good d := by
    have hl : ∀ z : Str, (z = "buy" ∨ z = "free" ∨ z = "wait" ∨ z = "hire" ∨ z = "work" ∨ z = "walk") → Part (.str z) := by
      rintro z (rfl | rfl | rfl | rfl | rfl | rfl) <;> exact (short_lit (n := 4) (by decide +kernel)).part (by decide)
    intro d hd
    simp only [List.mem_cons, List.not_mem_nil, or_false] at hd
    rcases hd with rfl | rfl | rfl | rfl | rfl | rfl <;>
      (refine good_tup (Nat.le_of_ble_eq_true rfl) fun e he => ?_
       simp only [List.mem_cons, List.not_mem_nil, or_false] at he
       rcases he with rfl | rfl | rfl | rfl <;> first | exact hx.part (by decide) | exact hy.part (by decide) | exact part_int h | exact hl _ (by simp))
  have hline : sizeLine = 16777216 := sizeLine_eq
  have hsp : Short 1 (" " : Str) := short_lit (by decide +kernel)
  have hhr : Short 1 (toString h : Str) := ⟨by rw [len_hour h0 h8]; decide, hour_sok h0 h8⟩
  have hap : AP K b c _ _ Good 10 H3 :=
    ap_cons (ep_ed (ed_var (i := 2) (σ := [some (.ref b), some (.ref p), some (.str x), some (.str y), some (.int h), some (.ref v2), some (.str dg), none]) rfl rx3) (good_str hx (by decide)))
    (ap_cons (ep_ed (ed_var (i := 3) rfl ry3) (good_str hy (by decide)))
    (ap_cons (ep_ed (ed_tup (ad_cons (ed_var (i := 2) rfl rx3) (ad_cons (ed_var (i := 4) rfl (.int h)) ad_nil)) (Nat.le_of_ble_eq_true rfl)) (good_tup (Nat.le_of_ble_eq_true rfl) (fun e he => by
      simp only [List.mem_cons, List.not_mem_nil, or_false] at he
      rcases he with rfl | rfl
      · exact hx.part (by decide)
      · exact part_int h)))
    (ap_cons (ep_ed (ed_tup (ad_cons (ed_var (i := 3) rfl ry3) (ad_cons (ed_var (i := 4) rfl (.int h)) ad_nil)) (Nat.le_of_ble_eq_true rfl)) (good_tup (Nat.le_of_ble_eq_true rfl) (fun e he => by
      simp only [List.mem_cons, List.not_mem_nil, or_false] at he
      rcases he with rfl | rfl
      · exact hy.part (by decide)
      · exact part_int h)))
    (ap_cons (ep_ed (ed_tup ad_nil (Nat.le_of_ble_eq_true rfl)) (good_tup (Nat.le_of_ble_eq_true rfl) (fun e he => nomatch he)))
    (ap_cons (ep_draw (i := 0) (j := 5) (E := E0) rfl rfl hw3 (by simp) (Nat.le_of_ble_eq_true rfl) hg)
    (ap_cons (ep_draw (i := 0) (j := 5) (E := E0) rfl rfl hw3 (by simp) (Nat.le_of_ble_eq_true rfl) hg)
    (ap_cons (ep_ed (te := tOp (uAdd K) (tOp (uAdd K) (tVar 2) (tC (.str " "))) (tCB uStr (tCons (tVar 4) tNil))) (d := .str (x ++ " " ++ (toString h : Str))) (fun H4 B4 e4 Q4 k4 => by
      walk_at "gb"
      refine s_addS' hx.2.len hsp.2.len ?_
      walk_at "gb"
      refine s_str (by omega) (by omega) ?_
      have l1 := hx.1
      have l2 := hsp.1
      have l3 := hhr.1
      refine s_addS' (by rw [len_app]; omega) hhr.2.len ?_
      exact k4 _ H4 (.str _ ((hx.2.app hsp.2 (by omega)).app hhr.2 (by rw [len_app]; omega))) B4 (Same.refl _)) (.inl ⟨_, rfl, by
        have l1 := hx.1
        have l2 := hsp.1
        have l3 := hhr.1
        rw [len_app, len_app]; omega, by
        have l1 := hx.1
        have l2 := hsp.1
        have l3 := hhr.1
        exact (hx.2.app hsp.2 (by omega)).app hhr.2 (by rw [len_app]; omega)⟩))
    (ap_cons (ep_ed (ed_str "" (sok_lit (by decide +kernel))) (good_str (short_lit (n := 0) (by decide +kernel)) (by decide)))
    (ap_cons (ep_ed (ed_var (i := 6) rfl rd3) (good_str hdg (by decide))) ap_nil)))))))))
  refine hap H3 B3 (Same.refl _) _ fun vs ds H4 hvs hl hps B4 e4 => ⟨by rw [hvs.length, hl]; decide, fun q hq => ?_⟩
  walk_at "gb"
  refine draw_seq (P := Good) (B4.same (same_new hq)) (.inl (new_lst hq (bag_some B4) hvs (by rw [hl]; decide))) (fun z => by subst z; simp at hl) (by rw [hl]; decide) hps fun v5 d5 H5 hv5 hg5 B5 e5 => ?_
  exact k v5 d5 H5 hv5 hg5 B5 (e1.trans (e2.trans (e3.trans (e4.trans ((mn_new hq (bag_some B4)).trans e5)))))
theorem rd__law_bent_text {b c : Addr} {x : Str} (B : Bag H b c) (hx : Short 10 x) (k : ∀ y H', Sok y → Bag H' b c → Same (mn H b) (mn H' b) → Q (.str y) H') : t__law_bent_text K (Dn Q) [some (.ref b), some (.str x), none, none] H := by
  unfold t__law_bent_text
  walk_at "gb"
  refine s_lenS hx.2.len ?_
  walk_at "gb"
  have l1 := hx.1
  refine s_sp2 ⟨b, c, _, rfl, rfl, B, by omega, by omega, fun r H1 r0 r1 B1 e1 => ?_⟩
  walk_at "gb"
  apply draw_ad B1
  · walk_at "ad"
  · exact Nat.le_of_ble_eq_true rfl
  · exact Nat.le_of_ble_eq_true rfl
  intro v2 d2 H2 hd2 hv2 B2 e2
  obtain ⟨g, rfl, hg⟩ : ∃ g, d2 = .str g ∧ Short 7 g := by
    simp only [List.mem_cons, List.not_mem_nil, or_false] at hd2
    rcases hd2 with rfl | rfl | rfl | rfl | rfl | rfl | rfl | rfl | rfl | rfl <;> exact ⟨_, rfl, short_lit (by decide +kernel)⟩
  cases hv2
  have l2 := hg.1
  walk_at "gb"
  refine s_sp2 ⟨b, c, 2, rfl, rfl, B2, by decide, by decide, fun r3 H3 r30 r31 B3 e3 => ?_⟩
  walk_at "gb"
  have e03 := e1.trans (e2.trans e3)
  have c1 := hx.2.cut none (some r)
  have c2 := hx.2.cut (some r) none
  have c3 := hx.2.cut (some (r + 1)) none
  have z1 := cutS_length x none (some r)
  have z2 := cutS_length x (some r) none
  have z3 := cutS_length x (some (r + 1)) none
  refine s_dec (fun h1 => ?_) (fun h1 => ?_)
  · walk_at "gb"
    refine s_slS hx.2.len ?_
    walk_at "gb"
    refine s_addS' c1.len hg.2.len ?_
    walk_at "gb"
    refine s_slS hx.2.len ?_
    refine s_addS' (by rw [len_app]; omega) c2.len ?_
    exact k _ H3 ((c1.app hg.2 (by omega)).app c2 (by rw [len_app]; omega)) B3 e03
  · walk_at "gb"
    refine s_slS hx.2.len ?_
    walk_at "gb"
    refine s_slS hx.2.len ?_
    refine s_addS' c1.len c3.len ?_
    exact k _ H3 (c1.app c3 (by omega)) B3 e03
theorem good_noD {d : PyData} (h : Good d) : noD d = true ∧ PyData.depth d ≤ 64 := by
  rcases h with ⟨x, rfl, _⟩ | ⟨ds, rfl, hl, hp⟩
  · exact ⟨rfl, by simp [PyData.depth]⟩
  · have : ∀ ds : List PyData, (∀ e ∈ ds, Part e) → noDL ds = true ∧ PyData.depthAll ds ≤ 2 := by
      intro ds
      induction ds with
      | nil => intro _; exact ⟨rfl, by decide⟩
      | cons a as ih =>
        intro h
        obtain ⟨h1, h2⟩ := ih fun e he => h e (List.mem_cons_of_mem _ he)
        rcases h a (List.mem_cons_self ..) with ⟨x, rfl, _⟩ | ⟨i, rfl⟩
        · exact ⟨by simp [noDL, noD, h1], by simp [PyData.depthAll, PyData.depth]; omega⟩
        · exact ⟨by simp [noDL, noD, h1], by simp [PyData.depthAll, PyData.depth]; omega⟩
    obtain ⟨h1, h2⟩ := this ds hp
    exact ⟨by simp [noD, h1], by simp [PyData.depth]; omega⟩
theorem rd__law_bent {b c : Addr} {w : V} (B : Bag H b c) (hw : Rp K (mn H b) w d) (hg : Good d) (k : ∀ z e H', Rp K (mn H' b) z e → Bag H' b c → Same (mn H b) (mn H' b) → Q z H') : t__law_bent K (Dn Q) [some (.ref b), some w, none, none, none] H := by
  unfold t__law_bent
  walk_at "gb"
  refine s_sp2 ⟨b, c, 7, rfl, rfl, B, by decide, by decide, fun r H1 r0 r1 B1 e1 => ?_⟩
  have hw1 := hw.mono e1
  have hw1' := hw1.mono (mn_same H1 b)
  walk_at "gb"
  refine s_bite (fun hb => ?_) (fun hb => ?_)
  · obtain ⟨x, rfl⟩ := isB_str hb
    cases hw1 with
    | str _ hxs =>
    obtain ⟨x', hx', hx⟩ : ∃ x', PyData.str x = .str x' ∧ Short 10 x' := by
      rcases hg with h | ⟨ds, h, _⟩
      · exact h
      · cases h
    cases hx'
    walk_at "gb"
    refine s_dec (fun h2 => ?_) (fun h2 => ?_)
    · walk_at "gb"
      exact s_sp2 ⟨b, c, x, rfl, rfl, B1, hx, fun y H2 hy B2 e2 => k _ _ H2 (.str y hy) B2 (e1.trans e2)⟩
    · walk_at "gb"
      have l1 := hx.1
      refine draw_lst (n := 4) (P := fun _ => True) B1 (ap_cons (ep_ed (ed_lst (ad_cons (ed_var rfl (.str x hxs)) ad_nil) (Nat.le_of_ble_eq_true rfl)) trivial) (ap_cons (ep_ed (ed_tup (ad_cons (ed_var rfl (.str x hxs)) ad_nil) (Nat.le_of_ble_eq_true rfl)) trivial)
        (ap_cons (ep_ed (d := .int x.length) (fun H4 B4 e4 Q4 k4 => ?_) trivial) (ap_cons (ep_ed (d := .str (x ++ x)) (fun H4 B4 e4 Q4 k4 => ?_) trivial) ap_nil)))) (by decide) (by decide) fun v d H2 hv _ B2 e2 => k v d H2 hv B2 (e1.trans e2)
      · walk_at "gb"
        refine s_lenS hxs.len ?_
        exact k4 _ H4 (.int _) B4 (Same.refl _)
      · walk_at "gb"
        refine s_addS' hxs.len hxs.len ?_
        exact k4 _ H4 (.str _ (hxs.app hxs (by omega))) B4 (Same.refl _)
  obtain ⟨ds, rfl, hl, hp⟩ : ∃ ds, d = .tuple ds ∧ ds.length ≤ 4 ∧ ∀ e ∈ ds, Part e := by
    rcases hg with ⟨x, rfl, _⟩ | h
    · exact absurd hb (by simp [isB, isBS, tyN])
    · exact h
  obtain ⟨a, xs, rfl, hs, ha⟩ := hw1.tup'
  have hlx : xs.length = ds.length := ha.length
  have hsT := seqT_mn hs
  walk_at "gb"
  refine s_dec (fun h2 => ?_) (fun h2 => ?_)
  · walk_at "gb"
    refine ⟨a, xs, rfl, .inr hsT, fun l hl' => ?_⟩
    exact k _ _ _ (new_lst hl' (bag_some B1) ha (by omega)) (B1.same (same_new hl')) (e1.trans (mn_new hl' (bag_some B1)))
  walk_at "gb"
  have bent1 : ∀ H2 : Hp, Bag H2 b c → Same (mn H1 b) (mn H2 b) → ∀ (σ : L2.St), σ[0]? = some (some (.ref b)) → σ[1]? = some (some (.ref a)) →
    (tOp (uAdd K) (tVar 1) (tTup (tCons (tCall (sp__law_of K) [] E0 (tCons (tVar 0) (tCons (tLst (tCons (tC (.int 0)) (tCons (tC (.str "a")) (tCons (tC .non) (tCons (tTup tNil) tNil))))) tNil))) tNil))) σ H2 Q := by
    intro H2 B2 e2 σ h0 h1
    refine s_op (s_var h1 (s_tup (s_cons (s_call (s_cons (s_var h0 (s_cons ?_)))))))
    apply draw_ad B2
    · walk_at "ad"
    · exact Nat.le_of_ble_eq_true rfl
    · exact Nat.le_of_ble_eq_true rfl
    intro v3 d3 H3 hd3 hv3 B3 e3
    refine s_nil (b_tup (f := fun y H' => uAdd K (.ref a) y H' Q) B3 (.cons hv3 .nil) (by simp) fun q H4 B4 e4 hq => ?_)
    exact b_catT B4 (hw1.mono (e2.trans (e3.trans e4))) hq (by simp; omega) fun z H5 B5 e5 hz => k z _ H5 hz B5 (e1.trans (e2.trans (e3.trans (e4.trans e5))))
  have hcut : ∀ {i : Int} {H2 : Hp}, True := fun {_ _} => trivial
  refine s_dec (fun h3 => ?_) (fun h3 => ?_)
  · refine L2.iteT (s_ret ?_)
    exact bent1 H1 B1 (Same.refl _) _ rfl rfl
  refine s_test (s_op (s_var rfl (s_tup (s_nil ?_))))
  refine b_tup (K := K) (f := fun y H' => uEq K (.ref a) y H' _) B1 (ds := []) .nil (by simp) fun q H2 B2 e2 hq => ?_
  refine s_eqD ((hw1.mono e2).mono (mn_same _ b)) (hq.mono (mn_same _ b)) (good_noD (.inr ⟨ds, rfl, hl, hp⟩)).1 rfl (good_noD (.inr ⟨ds, rfl, hl, hp⟩)).2 (by decide) ?_
  walk_at "gb"
  refine s_bite (fun h4 => ?_) (fun h4 => ?_)
  · refine s_ret ?_
    exact bent1 H2 B2 e2 _ rfl rfl
  have hne : 0 < ds.length := by
    cases ds with
    | nil => exact absurd h4 (by decide)
    | cons _ _ => simp
  walk_at "gb"
  have hw2 := hw1.mono e2
  refine s_dec (fun h5 => ?_) (fun h5 => ?_)
  · walk_at "gb"
    refine s_lenT (Same.seqT (mn_same _ b) (Same.seqT e2 hs)) ?_
    walk_at "gb"
    exact b_slT B2 hw2 fun z H3 B3 e3 hz => k z _ H3 hz B3 (e1.trans (e2.trans e3))
  walk_at "gb"
  refine s_lenT (Same.seqT (mn_same _ b) (Same.seqT e2 hs)) ?_
  walk_at "gb"
  refine s_sp2 ⟨b, c, _, rfl, rfl, B2, by omega, by omega, fun r3 H3 r30 r31 B3 e3 => ?_⟩
  walk_at "gb"
  apply draw_ad B3
  · walk_at "ad"
  · exact Nat.le_of_ble_eq_true rfl
  · exact Nat.le_of_ble_eq_true rfl
  intro v4 d4 H4 hd4 hv4 B4 e4
  walk_at "gb"
  have hw4 := hw2.mono (e3.trans e4)
  have e04 := e1.trans (e2.trans (e3.trans e4))
  have hs4 := Same.seqT (e2.trans (e3.trans e4)) hs
  have ha4 := ha.mono (e2.trans (e3.trans e4))
  have last : ∀ (H5 : Hp) (v5 : V) (d5 : PyData), Bag H5 b c → Same (mn H b) (mn H5 b) → Rp K (mn H5 b) (.ref a) (.tuple ds) → Rp K (mn H5 b) v5 d5 →
      (tOp (uAdd K) (tOp (uAdd K) (tSl (uSl K) (tVar 1) tNoPart (tPart (tVar 3))) (tTup (tCons (tVar 4) tNil))) (tSl (uSl K) (tVar 1) (tPart (tOp (uAdd K) (tVar 3) (tC (.int 1)))) tNoPart)) [some (.ref b), some (.ref a), some (.int r), some (.int r3), some v5] H5 Q := by
    intro H5 v5 d5 B5 e5 ha5 hv5
    walk_at "gb"
    refine b_slT B5 ha5 fun z6 H6 B6 e6 hz6 => ?_
    refine s_tup (s_cons (s_var rfl (s_nil ?_)))
    refine b_tup (f := fun y H' => uAdd K z6 y H' _) B6 (.cons (hv5.mono e6) .nil) (by simp) fun q7 H7 B7 e7 hz7 => ?_
    have := cutD_len ds none (some r3)
    have h9 := cutD_len ds (some (r3 + 1)) none
    refine b_catT B7 (hz6.mono e7) hz7 (by simp; omega) fun z8 H8 B8 e8 hz8 => ?_
    walk_at "gb"
    refine b_slT B8 (ha5.mono (e6.trans (e7.trans e8))) fun z9 H9 B9 e9 hz9 => ?_
    refine b_catT B9 (hz8.mono e9) hz9 (by simp; omega) fun z10 H10 B10 e10 hz10 => ?_
    exact k z10 _ H10 hz10 B10 (e5.trans (e6.trans (e7.trans (e8.trans (e9.trans e10)))))
  refine s_dec (fun h5 => ?_) (fun h5 => ?_)
  · obtain ⟨x5, hx5, hm5⟩ := mem_at (xs := xs) r30 (by omega)
    obtain ⟨d5, hd5, hr5⟩ := ha4.mem hm5
    have hr5' := hr5.mono (mn_same _ b)
    walk_at "gb"
    refine s_ixT (seqT_mn hs4) hx5 ?_
    walk_at "gb"
    refine s_bite (fun h6 => ?_) (fun h6 => ?_)
    · obtain ⟨x, rfl⟩ := isB_str h6
      obtain ⟨hx, hxs⟩ : Short 10 x ∧ x5 = .str x := by
        refine ⟨?_, by cases hr5; rfl⟩
        rcases hp _ hd5 with ⟨x', h, hx⟩ | ⟨i, h⟩
        · cases h; exact hx
        · cases h
      subst hxs
      walk_at "gb"
      refine s_ixT (seqT_mn hs4) hx5 ?_
      walk_at "gb"
      refine s_sp2 ⟨b, c, x, rfl, rfl, B4, hx, fun y H5 hy B5 e5 => ?_⟩
      exact last H5 (.str y) (.str y) B5 (e04.trans e5) (hw4.mono e5) (.str y hy)
    · exact last H4 v4 d4 B4 e04 hw4 hv4
  · refine L2.iteF ?_
    exact last H4 v4 d4 B4 e04 hw4 hv4
theorem rd__law_value {b c p : Addr} {x y : Str} (B : Bag H b c) (hs : SqL K (mn H b) p [.str x, .str y]) (hx : Short 6 x) (hy : Short 6 y)
    (k : ∀ z d H', Rp K (mn H' b) z d → Bag H' b c → Same (mn H b) (mn H' b) → Q z H') : t__law_value K (Dn Q) [some (.ref b), some (.ref p), none] H := by
  unfold t__law_value
  walk_at "gb"
  refine s_sp2 ⟨b, c, 6, rfl, rfl, B, by decide, by decide, fun r H1 r0 r1 B1 e1 => ?_⟩
  walk_at "gb"
  refine s_dec (fun h2 => ?_) (fun h2 => ?_)
  · walk_at "gb"
    exact s_sp1 ⟨b, c, rfl, B1, fun x d H2 _ hx B2 e2 => k x d H2 hx B2 (e1.trans e2)⟩
  walk_at "gb"
  refine s_dec (fun h2 => ?_) (fun h2 => ?_)
  · walk_at "gb"
    apply draw_ad B1
    · walk_at "ad"
    · exact Nat.le_of_ble_eq_true rfl
    · exact Nat.le_of_ble_eq_true rfl
    intro v2 d2 H2 hd2 hv2 B2 e2
    exact k v2 d2 H2 hv2 B2 (e1.trans e2)
  walk_at "gb"
  refine s_dec (fun h3 => ?_) (fun h3 => ?_)
  · walk_at "gb"
    exact s_sp2 ⟨b, c, p, x, y, rfl, rfl, B1, e1.seq hs, hx, hy, fun z d H2 hz _ B2 e2 => k z d H2 hz B2 (e1.trans e2)⟩
  · walk_at "gb"
    refine s_sp2 ⟨b, c, p, x, y, rfl, rfl, B1, e1.seq hs, hx, hy, fun z d H2 hz hg B2 e2 => ?_⟩
    walk_at "gb"
    exact s_sp2 ⟨b, c, d, rfl, B2, hz, hg, fun z e H3 hz B3 e3 => k z e H3 hz B3 (e1.trans (e2.trans e3))⟩
end
end K01

namespace K01
open PySem PySem.Spec PyProof.Rows L2 SW
section
variable {K : PySem.W.Frag} {v : V} {H : Hp} {Q : VK} {d : PyData} {E : XK}
theorem s_same {w : V} (h1 : Rp K H v d) (h2 : Rp K H w d) (hr : rk d ≤ 11) (k : ∀ H', Same H H' → Q (.bl true) H') : sp__law_same K ([v, w] ++ []) H Q E := ⟨v, w, rfl, d, h1, h2, hr, k⟩
def numE (d : PyData) : PyData := match numV d with
  | .int i => .int i
  | _ => .none
theorem rp_num (d : PyData) : Rp K H (numV d) (numE d) := by
  unfold numE
  cases d with
  | str x =>
    unfold numV
    dsimp only
    cases numS x with
    | none => exact .non
    | some n => exact .int n
  | _ => exact .non
theorem rk_num (d : PyData) : rk (numE d) = 0 := by
  unfold numE
  split <;> rfl
def isNilT (d : PyData) : Bool := match d with
  | .tuple [] => true
  | _ => false
theorem isPlace_or (d : PyData) : isPlaceD d = (isNilT d || isStandD d) := by
  unfold isPlaceD isNilT
  split <;> simp_all
theorem hour_code {n : Int} (h0 : 0 ≤ n) (h8 : n ≤ 8) : (toString n : Str).cps.toList = [48 + n.toNat] ∧ 48 + n.toNat ∈ HOURSs.cps.toList := by
  have h : ∀ m : Nat, m ≤ 8 → (toString ((m : Nat) : Int) : Str).cps.toList = [48 + m] ∧ 48 + m ∈ HOURSs.cps.toList := by
    intro m hm
    match m, hm with
    | 0, _ => decide +kernel
    | 1, _ => decide +kernel
    | 2, _ => decide +kernel
    | 3, _ => decide +kernel
    | 4, _ => decide +kernel
    | 5, _ => decide +kernel
    | 6, _ => decide +kernel
    | 7, _ => decide +kernel
    | 8, _ => decide +kernel
    | m + 9, h => omega
  obtain ⟨m, rfl⟩ := Int.eq_ofNat_of_zero_le h0
  exact h m (by omega)
theorem cutAt_app (y r : List Nat) (h : ∀ z ∈ y, z ≠ 32) : cutAt 32 (y ++ 32 :: r) = (y, some r) := by
  induction y with
  | nil => simp [cutAt]
  | cons a as ih =>
    have h1 := h a (List.mem_cons_self ..)
    have := ih fun z hz => h z (List.mem_cons_of_mem _ hz)
    simp [cutAt, h1, this]
theorem acct_ok {x : Str} {n : Int} (hx : isNameS x = true) (h0 : 0 ≤ n) (h8 : n ≤ 8) : isAcctS (acctS x n) = true := by
  have e : (acctS x n).cps.toList = x.cps.toList ++ 32 :: [48 + n.toNat] := by
    have e1 : (acctS x n).cps.toList = x.cps.toList ++ [32] ++ (toString n : Str).cps.toList := by
      unfold acctS
      have e1 := TL.tl_append (x ++ " ") (toString n : Str)
      have e2 := TL.tl_append x " "
      have e3 : TL.tl (" " : Str) = [32] := by decide +kernel
      rw [e3] at e2
      rw [e2] at e1
      exact e1
    rw [e1, (hour_code h0 h8).1]
    simp
  have hn : ∀ z ∈ x.cps.toList, z ≠ 32 := by
    intro z hz
    unfold isNameS at hx
    rw [Bool.and_eq_true, Bool.and_eq_true] at hx
    have := List.all_eq_true.mp hx.2.2 z hz
    have := (small_iff z).mp (of_decide_eq_true this)
    omega
  unfold isAcctS
  rw [e, cutAt_app _ _ hn]
  have : tailOk x.cps.toList [48 + n.toNat] = true := by
    show (isNameS ⟨x.cps.toList.toArray⟩ && decide (48 + n.toNat ∈ HOURSs.cps.toList)) = true
    rw [decide_eq_true (hour_code h0 h8).2]
    simpa using hx
  simp [this]
theorem upd_facts {p : Addr} {o : HO} {H' : Hp} (hp : H p = none) (hE : L2.upd H p o = H') : Same H H' ∧ H' p = some o := by
  subst hE
  exact ⟨same_new hp, upd_same⟩
theorem s_place {σ : L2.St} {i : Nat} {w : V} (hw : Rp K H w d) (hi : σ[i]? = some (some w)) (k : Q (.bl (isNilT d)) H) :
    tAndV (tCB (uIsi K) (tCons (tVar i) (tCons (tC (.ty "tuple")) tNil))) (tOp (uEq K) (tCB (uLen K) (tCons (tVar i) tNil)) (tC (.int 0))) σ H Q := by
  refine s_andV (s_CB (s_cons (s_var hi (s_cons (s_c (s_nil (s_isi hw m_tuple (s_exB ?_))))))))
  refine s_bite (fun hb => ?_) (fun hb => ?_)
  · obtain ⟨ds, rfl⟩ := isB_tup hb
    obtain ⟨a, xs, rfl, hs, ha⟩ := hw.tup'
    refine s_op (s_CB (s_cons (s_var hi (s_nil (s_lenT hs (s_c (s_eqI ?_)))))))
    rw [ha.length]
    have e : decide (((ds.length : Nat) : Int) = 0) = isNilT (.tuple ds) := by cases ds <;> simp [isNilT]; omega
    rw [e]
    exact k
  · have e : isNilT d = false := by
      cases d <;> first | rfl | exact absurd hb (by simp [isB, isBS, tyN])
    rw [e] at k
    exact k
theorem rd_law {a : Addr} {ns : List Int} (hHab : ∀ H, SqT K H (He.ga K "HABITS") [.str "least", .str "greatest", .str "middle"]) (hs : SqL K H a (ns.map V.int)) (hl : ns.length ≤ 63) (k : ∀ H', Q (.bl true) H') :
    t_law K (Dn Q) [some (.ref a), none, none, none, none, none, none, none, none, none, none, none, none] H := by
  unfold t_law
  walk_at "gb"
  refine s_sp1 ⟨a, ns, rfl, hs, hl, fun b c H1 _ _ B1 e1 => ?_⟩
  walk_at "gb"
  refine ⟨_, _, _, rfl, b, c, 2, rfl, rfl, rfl, B1, by decide, by decide, fun p ws H2 _ B2 e2 hp hwl hwn hnd => ?_⟩
  obtain ⟨x, y, rfl⟩ : ∃ x y, ws = [x, y] := list_two (by omega)
  have hx := isName_sok (hwn x (by simp))
  have hy := isName_sok (hwn y (by simp))
  walk_at "go"
  have hH : Rp K H2 (.ref (He.ga K "HABITS")) (.tuple [.str "least", .str "greatest", .str "middle"]) := .tup (hHab H2) (.cons (.str _ (sok_lit (by decide +kernel))) (.cons (.str _ (sok_lit (by decide +kernel))) (.cons (.str _ (sok_lit (by decide +kernel))) .nil))) (by simp)
  refine ⟨by show 3 ≤ sizeLine; decide, fun q hq => ?_⟩
  walk_at "gb"
  refine s_same (d := .tuple [.str "least", .str "greatest", .str "middle"]) (hH.mono (same_new hq)) (.tup (SqT.of upd_same) (.cons (.str _ (sok_lit (by decide +kernel))) (.cons (.str _ (sok_lit (by decide +kernel))) (.cons (.str _ (sok_lit (by decide +kernel))) .nil))) (by simp)) (by decide) fun H3 e3 => ?_
  have B3 : Bag H3 b c := B2.same ((same_new hq).trans e3)
  have e23 : Same (mn H2 b) (mn H3 b) := Same.mn ((same_new hq).trans e3) b
  walk_at "gb"
  refine ⟨40, rfl, by decide, by decide, ?_⟩
  refine for_range (lo := 0) (n := 40) (fun i σ' H' => ∃ (v3 v4 v5 v6 v7 v8 v9 v10 v11 v12 : Option V), σ' = [some (.ref a), some (.ref b), some (.ref p), v3, v4, v5, v6, v7, v8, v9, v10, v11, v12] ∧ Bag H' b c ∧ Same (mn H2 b) (mn H' b)) ?_ ?_ ?_
  · exact ⟨_, _, _, _, _, _, _, _, _, _, rfl, B3, e23⟩
  · rintro i σ' H4 hi ⟨v3, v4, v5, v6, v7, v8, v9, v10, v11, v12, rfl, B4, e4⟩
    have hp4 : SqL K (mn H4 b) p [.str x, .str y] := e4.seq (SqL.of hp)
    walk_at "gb"
    refine s_sp2 ⟨b, c, p, x, y, rfl, rfl, B4, hp4, ⟨hx.1, hx.2.2⟩, ⟨hy.1, hy.2.2⟩, fun w d H5 hw B5 e5 => ?_⟩
    walk_at "gb"
    apply draw_ad B5
    · walk_at "ad"
    · exact Nat.le_of_ble_eq_true rfl
    · exact Nat.le_of_ble_eq_true rfl
    intro v6 d6 H6 hd6 hv6 B6 e6
    obtain ⟨lo, rfl, hlo, hlo2⟩ : ∃ h, d6 = .int h ∧ -5 ≤ h ∧ h ≤ 999 := by
      simp only [List.mem_cons, List.not_mem_nil, or_false] at hd6
      rcases hd6 with rfl | rfl | rfl | rfl | rfl <;> exact ⟨_, rfl, by decide, by decide⟩
    cases hv6
    walk_at "gb"
    apply draw_ad B6
    · walk_at "ad"
    · exact Nat.le_of_ble_eq_true rfl
    · exact Nat.le_of_ble_eq_true rfl
    intro v7 d7 H7 hd7 hv7 B7 e7
    obtain ⟨mo, rfl, hmo, hmo2⟩ : ∃ h, d7 = .int h ∧ 0 ≤ h ∧ h ≤ 990 := by
      simp only [List.mem_cons, List.not_mem_nil, or_false] at hd7
      rcases hd7 with rfl | rfl | rfl | rfl <;> exact ⟨_, rfl, by decide, by decide⟩
    cases hv7
    have hw7 : Rp K H7 w d := (hw.mono (e6.trans e7)).mono (mn_same _ b)
    have e47 := e5.trans (e6.trans e7)
    walk_at "go"
    refine s_spD hw7 fun H8 e8 => ?_
    have hw8 := hw7.mono e8
    walk_at "go"
    refine s_spD hw8 fun H9 e9 => ?_
    have hw9 := hw8.mono e9
    walk_at "go"
    refine s_spD hw9 fun H10 e10 => ?_
    have hw10 := hw9.mono e10
    walk_at "go"
    refine s_spD hw10 fun H11 e11 => ?_
    have hw11 := hw10.mono e11
    walk_at "go"
    refine s_spD hw11 fun H12 e12 => ?_
    have hw12 := hw11.mono e12
    walk_at "go"
    refine s_spD hw12 fun H13 e13 => ?_
    have hw13 := hw12.mono e13
    walk_at "go"
    refine ⟨by show 6 ≤ sizeLine; decide, fun fo hfo => ?_⟩
    generalize hE : L2.upd H13 fo _ = H14
    obtain ⟨e14, hF14⟩ := upd_facts hfo hE
    have hw14 := hw13.mono e14
    have e4n : Same H7 H14 := e8.trans (e9.trans (e10.trans (e11.trans (e12.trans (e13.trans e14)))))
    walk_at "go"
    refine s_callN ?_
    walk_at "go"
    refine ⟨rfl, rfl, s_spD hw14 fun H15 e15 => ?_⟩
    have hw15 := hw14.mono e15
    have hF15 := e15 _ _ hF14
    walk_at "go"
    refine s_callN ?_
    walk_at "go"
    refine ⟨rfl, rfl, s_spD hw15 fun H16 e16 => ?_⟩
    have hw16 := hw15.mono e16
    have hF16 := e16 _ _ hF15
    walk_at "go"
    refine s_callN ?_
    walk_at "go"
    refine ⟨rfl, rfl, s_spD hw16 fun H17 e17 => ?_⟩
    have hw17 := hw16.mono e17
    have hF17 := e17 _ _ hF16
    walk_at "go"
    refine s_callN ?_
    walk_at "go"
    refine ⟨rfl, rfl, s_spD hw17 fun H18 e18 => ?_⟩
    have hw18 := hw17.mono e18
    have hF18 := e18 _ _ hF17
    walk_at "go"
    refine s_callN ?_
    walk_at "go"
    refine ⟨rfl, rfl, s_spD hw18 fun H19 e19 => ?_⟩
    have hw19 := hw18.mono e19
    have hF19 := e19 _ _ hF18
    walk_at "go"
    refine ⟨by show 5 ≤ sizeLine; decide, fun nm hnm => ?_⟩
    generalize hE2 : L2.upd H19 nm _ = H20
    obtain ⟨e20, hN20⟩ := upd_facts hnm hE2
    have hw20 := hw19.mono e20
    have hF20 := e20 _ _ hF19
    walk_at "go"
    refine s_slL (SqL.of hF20) fun q1 H21 hq1 e21 hQ1 => ?_
    walk_at "go"
    refine s_slL (SqL.of (e21 _ _ hF20)) fun q2 H22 hq2 e22 hQ2 => ?_
    have c1 : ∀ a b c d e f : V, cutV [a, b, c, d, e, f] none (some 4) = [a, b, c, d] := fun a b c d e f => cut_to _ 4
    have c2 : ∀ a b c d e f : V, cutV [a, b, c, d, e, f] (some 5) none = [f] := fun a b c d e f => cut_from _ 5
    rw [c1] at hQ1
    rw [c2] at hQ2
    refine s_catL (e22 _ _ hQ1) hQ2 (Nat.le_of_ble_eq_true rfl) fun q3 H23 hq3 e23' hQ3 => ?_
    walk_at "go"
    have e2023 : Same H20 H23 := e21.trans (e22.trans e23')
    refine s_same (d := .list [.bool (isNameD d), .bool (isStandD d), .bool (isPlaceD d), .bool (isKeyD d), numE d]) (.lst (SqL.of (e2023 _ _ hN20)) (.cons (.bl _) (.cons (.bl _) (.cons (.bl _) (.cons (.bl _) (.cons (rp_num d) .nil))))) (Nat.le_of_ble_eq_true rfl))
      (.lst (SqL.of hQ3) (.cons (.bl _) (.cons (.bl _) (.cons (.bl _) (.cons (.bl _) (.cons (rp_num d) .nil))))) (Nat.le_of_ble_eq_true rfl)) (by simp [rk, rkL, rk_num]) fun H24 e24 => ?_
    have hw24 := hw20.mono (e2023.trans e24)
    have hF24 := e24 _ _ (e2023 _ _ hF20)
    refine s_truB ?_
    refine s_iteNT ?_
    with_reducible refine s_next ?_
    with_reducible refine s_seq ?_
    with_reducible refine s_asg ?_
    refine s_place hw24 rfl ?_
    walk_at "go"
    refine s_spD hw24 fun H25 e25 => ?_
    have hw25 := hw24.mono e25
    walk_at "go"
    refine s_spD hw25 fun H26 e26 => ?_
    have hw26 := hw25.mono e26
    walk_at "gb"
    have hor : ∀ (H : Hp) (w2 : Bool) (Q : VK) (σ : L2.St), Rp K H w d → σ[4]? = some (some w) → (∀ H', Same H H' → Q (.bl (w2 || isStandD d)) H') → (if w2 = true then Q (.bl true) H else tCall (sp__law_own_standing K) [] E0 (tCons (tVar 4) tNil) σ H Q) := by
      intro H w2 Q σ hw h4 k
      refine s_bite (fun h => ?_) (fun h => ?_)
      · subst h
        exact k H (Same.refl _)
      · subst h
        refine s_call (s_cons (s_var h4 (s_nil ?_)))
        refine s_spD hw fun H' e => ?_
        have := k H' e
        rwa [Bool.false_or] at this
    refine hor _ _ _ _ hw26 rfl fun H27 e27 => ?_
    rw [← isPlace_or]
    have hw27 := hw26.mono e27
    walk_at "go"
    refine s_spD hw27 fun H28 e28 => ?_
    have hw28 := hw27.mono e28
    walk_at "go"
    refine ⟨by show 4 ≤ sizeLine; decide, fun du hdu => ?_⟩
    generalize hE3 : L2.upd H28 du _ = H29
    obtain ⟨e29, hD29⟩ := upd_facts hdu hE3
    have hw29 := hw28.mono e29
    have e2429 : Same H24 H29 := e25.trans (e26.trans (e27.trans (e28.trans e29)))
    have hF29 := e2429 _ _ hF24
    walk_at "go"
    refine s_spD hw29 fun H30 e30 => ?_
    have hw30 := hw29.mono e30
    walk_at "go"
    refine s_spD hw30 fun H31 e31 => ?_
    have hw31 := hw30.mono e31
    walk_at "go"
    refine ⟨by show 2 ≤ sizeLine; decide, fun d2 hd2 => ?_⟩
    generalize hE4 : L2.upd H31 d2 _ = H32
    obtain ⟨e32, hD32⟩ := upd_facts hd2 hE4
    have e2932 : Same H29 H32 := e30.trans (e31.trans e32)
    refine s_catL (e2932 _ _ hD29) hD32 (Nat.le_of_ble_eq_true rfl) fun d3 H33 hd3 e33 hD33 => ?_
    walk_at "go"
    refine s_same (d := .list [.bool (isNameD d), .bool (isStandD d), .bool (isPlaceD d), .bool (isKeyD d), .bool (isAcctD d), numE d]) (.lst (SqL.of (e33 _ _ (e2932 _ _ hF29))) (.cons (.bl _) (.cons (.bl _) (.cons (.bl _) (.cons (.bl _) (.cons (.bl _) (.cons (rp_num d) .nil)))))) (Nat.le_of_ble_eq_true rfl))
      (.lst (SqL.of hD33) (.cons (.bl _) (.cons (.bl _) (.cons (.bl _) (.cons (.bl _) (.cons (.bl _) (.cons (rp_num d) .nil)))))) (Nat.le_of_ble_eq_true rfl)) (by simp [rk, rkL, rk_num]) fun H34 e34 => ?_
    have hw34 := hw31.mono (e32.trans (e33.trans e34))
    have e2434 : Same H24 H34 := e2429.trans (e2932.trans (e33.trans e34))
    walk_at "go"
    refine s_sp3 ⟨d, lo, lo + mo, hw34, rfl, rfl, fun H35 e35 => ?_⟩
    have hw35 := hw34.mono e35
    walk_at "go"
    refine s_callN ?_
    walk_at "go"
    refine ⟨rfl, rfl, _, _, _, rfl, .int (lo + mo), lo, lo + mo, .int _, rfl, rfl, fun H36 e36 => ?_⟩
    have hw36 := hw35.mono e36
    walk_at "go"
    refine ⟨by show 2 ≤ sizeLine; decide, fun f2 hf2 => ?_⟩
    generalize hE5 : L2.upd H36 f2 _ = H37
    obtain ⟨e37, hG37⟩ := upd_facts hf2 hE5
    have hw37 := hw36.mono e37
    walk_at "go"
    refine s_sp3 ⟨.int lo, lo, lo + mo, .int _, rfl, rfl, fun H38 e38 => ?_⟩
    walk_at "go"
    refine s_sp3 ⟨.int (lo - 1), lo, lo + mo, .int _, rfl, rfl, fun H39 e39 => ?_⟩
    walk_at "go"
    refine s_sp3 ⟨.int (lo + mo + 1), lo, lo + mo, .int _, rfl, rfl, fun H40 e40 => ?_⟩
    walk_at "go"
    refine ⟨by show 3 ≤ sizeLine; decide, fun f3 hf3 => ?_⟩
    generalize hE6 : L2.upd H40 f3 _ = H41
    obtain ⟨e41, hG41⟩ := upd_facts hf3 hE6
    have e3741 : Same H37 H41 := e38.trans (e39.trans (e40.trans e41))
    refine s_catL (e3741 _ _ hG37) hG41 (Nat.le_of_ble_eq_true rfl) fun f4 H42 hf4 e42 hG42 => ?_
    have hw42 := hw37.mono (e3741.trans e42)
    walk_at "go"
    refine s_sp3 ⟨d, lo, lo + mo, hw42, rfl, rfl, fun H43 e43 => ?_⟩
    walk_at "go"
    refine ⟨by show 5 ≤ sizeLine; decide, fun f5 hf5 => ?_⟩
    generalize hE7 : L2.upd H43 f5 _ = H44
    obtain ⟨e44, hG44⟩ := upd_facts hf5 hE7
    have t1 : isNumD (.int (lo + mo)) lo (lo + mo) = true := by simp [isNumD]; omega
    have t2 : isNumD (.int lo) lo (lo + mo) = true := by simp [isNumD]; omega
    have t3 : isNumD (.int (lo - 1)) lo (lo + mo) = false := by simp [isNumD]; omega
    have t4 : isNumD (.int (lo + mo + 1)) lo (lo + mo) = false := by simp [isNumD]; omega
    rw [t1, t2, t3, t4] at hG42
    walk_at "go"
    refine s_same (d := .list [.bool (isNumD d lo (lo + mo)), .bool true, .bool true, .bool false, .bool false]) (.lst (SqL.of ((e43.trans e44) _ _ hG42)) (.cons (.bl _) (.cons (.bl _) (.cons (.bl _) (.cons (.bl _) (.cons (.bl _) .nil))))) (Nat.le_of_ble_eq_true rfl))
      (.lst (SqL.of hG44) (.cons (.bl _) (.cons (.bl _) (.cons (.bl _) (.cons (.bl _) (.cons (.bl _) .nil))))) (Nat.le_of_ble_eq_true rfl)) (by simp [rk, rkL]) fun H45 e45 => ?_
    have e745 : Same H7 H45 := e4n.trans (e15.trans (e16.trans (e17.trans (e18.trans (e19.trans (e20.trans (e2023.trans (e24.trans (e2434.trans (e35.trans (e36.trans (e37.trans (e3741.trans (e42.trans (e43.trans (e44.trans e45))))))))))))))))
    have B45 : Bag H45 b c := B7.same e745
    have e445 : Same (mn H4 b) (mn H45 b) := e47.trans (Same.mn e745 b)
    have hp45 := e445.seq hp4
    walk_at "go"
    refine s_rI (by decide) ?_
    obtain ⟨z, hz1, hz2⟩ : ∃ z, atI [V.str x, V.str y] ((0 + (i : Int)) % 2) = some (.str z) ∧ isNameS z = true := by
      have h2 : (0 + (i : Int)) % 2 = 0 ∨ (0 + (i : Int)) % 2 = 1 := by omega
      rcases h2 with h2 | h2 <;> rw [h2]
      · exact ⟨x, rfl, hwn x (by simp)⟩
      · exact ⟨y, rfl, hwn y (by simp)⟩
    have hz := isName_sok hz2
    refine s_ixL (seq_mn hp45) hz1 ?_
    walk_at "go"
    refine s_sp2 ⟨b, c, 9, rfl, rfl, B45, by decide, by decide, fun h H46 h0 h9 B46 e46 => ?_⟩
    walk_at "go"
    refine ⟨by show 2 ≤ sizeLine; decide, fun sp hsp => ?_⟩
    generalize hE8 : L2.upd H46 sp _ = H47
    obtain ⟨e47', hS47⟩ := upd_facts hsp hE8
    have hr47 : Rp K H47 (.ref sp) (.tuple [.str z, .int h]) := .tup (SqT.of hS47) (.cons (.str z hz.2.2) (.cons (.int h) .nil)) (Nat.le_of_ble_eq_true rfl)
    walk_at "go"
    refine s_sp1 ⟨z, h, hr47, by omega, h0, by omega, fun H48 e48 => ?_⟩
    have hac : Sok (acctS z h) := by
      have l1 := len_hour h0 (show h ≤ 8 by omega)
      have l2 : (" " : Str).length = 1 := by decide +kernel
      exact ((hz.2.2.app (sok_lit (by decide +kernel)) (by rw [l2]; omega)).app (hour_sok h0 (by omega)) (by rw [len_app, l1, l2]; omega))
    have hlen : (acctS z h).length ≤ 8 := by
      have l1 := len_hour h0 (show h ≤ 8 by omega)
      have l2 : (" " : Str).length = 1 := by decide +kernel
      unfold acctS
      rw [len_app, len_app, l1, l2]; omega
    walk_at "go"
    refine s_callN ?_
    walk_at "go"
    refine ⟨rfl, rfl, s_spD (.str _ hac) fun H49 e49 => ?_⟩
    have ea : isAcctD (.str (acctS z h)) = true := acct_ok hz2 h0 (by omega)
    rw [ea]
    walk_at "go"
    refine s_callN ?_
    walk_at "go"
    refine ⟨rfl, rfl, _, rfl, z, h, hr47.mono (e48.trans e49), by omega, h0, by omega, fun H50 e50 => ?_⟩
    walk_at "go"
    refine ⟨by show 3 ≤ sizeLine; decide, fun g1 hg1 => ?_⟩
    generalize hE9 : L2.upd H50 g1 _ = H51
    obtain ⟨e51, hT51⟩ := upd_facts hg1 hE9
    have e4751 : Same H47 H51 := e48.trans (e49.trans (e50.trans e51))
    walk_at "go"
    refine s_ixT (SqT.of (e4751 _ _ hS47)) (by rfl) ?_
    walk_at "go"
    refine s_addS' hz.2.2.len (by decide +kernel) ?_
    walk_at "go"
    refine s_ixT (SqT.of (e4751 _ _ hS47)) (by rfl) ?_
    walk_at "go"
    refine s_str (by omega) (by omega) ?_
    have l1 := len_hour h0 (show h ≤ 8 by omega)
    have l2 : (" " : Str).length = 1 := by decide +kernel
    refine s_addS' (by rw [len_app, l2]; omega) (by rw [l1]; decide) ?_
    walk_at "go"
    refine ⟨by show 3 ≤ sizeLine; decide, fun g2 hg2 => ?_⟩
    generalize hE10 : L2.upd H51 g2 _ = H52
    obtain ⟨e52, hT52⟩ := upd_facts hg2 hE10
    walk_at "go"
    have ras : ∀ H, Rp K H (.str (acctS z h)) (.str (acctS z h)) := fun _ => .str _ hac
    refine s_same (d := .list [.str (acctS z h), .bool true, .str (acctS z h)]) (.lst (SqL.of (e52 _ _ hT51)) (.cons (ras _) (.cons (.bl _) (.cons (ras _) .nil))) (Nat.le_of_ble_eq_true rfl))
      (.lst (SqL.of hT52) (.cons (ras _) (.cons (.bl _) (.cons (ras _) .nil))) (Nat.le_of_ble_eq_true rfl)) (by simp [rk, rkL]) fun H53 e53 => ?_
    have e4653 : Same H46 H53 := e47'.trans (e4751.trans (e52.trans e53))
    walk_at "go"
    exact ⟨_, _, _, _, _, _, _, _, _, _, rfl, B46.same e4653, e4.trans (e445.trans (e46.trans (Same.mn e4653 b)))⟩
  · rintro σ' H4 ⟨v3, v4, v5, v6, v7, v8, v9, v10, v11, v12, rfl, B4, e4⟩
    walk_at "gb"
    exact k _
end
end K01

namespace K01
open PySem PySem.Spec PyProof.Rows L2 SW
section
variable {K : PySem.W.Frag} {vs : List V} {H : Hp} {Q : VK} {E : XK}
theorem in__law_own_name (h : sp__law_own_name K vs H Q E) : t__law_own_name K (Dn Q) (start ["_law_thing", "_law_sign"] vs) H := by obtain ⟨v, rfl, d, hd, k⟩ := h; exact rd__law_own_name hd k
theorem in__law_own_number (h : sp__law_own_number K vs H Q E) : t__law_own_number K (Dn Q) (start ["_law_thing", "_law_low", "_law_high"] vs) H := by obtain ⟨_, _, _, rfl, d, i, j, hd, rfl, rfl, k⟩ := h; exact rd__law_own_number hd k
theorem in__law_own_standing (h : sp__law_own_standing K vs H Q E) : t__law_own_standing K (Dn Q) (start ["_law_thing"] vs) H := by obtain ⟨v, rfl, d, hd, k⟩ := h; exact rd__law_own_standing hd k
theorem in__law_own_key (h : sp__law_own_key K vs H Q E) : t__law_own_key K (Dn Q) (start ["_law_thing"] vs) H := by obtain ⟨v, rfl, d, hd, k⟩ := h; exact rd__law_own_key hd k
theorem in__law_own_account (h : sp__law_own_account K vs H Q E) : t__law_own_account K (Dn Q) (start ["_law_thing", "_law_words"] vs) H := by obtain ⟨v, rfl, d, hd, k⟩ := h; exact rd__law_own_account hd k
theorem in__law_own_read (h : sp__law_own_read K vs H Q E) : t__law_own_read K (Dn Q) (start ["_law_thing", "_law_sign"] vs) H := by obtain ⟨v, rfl, d, hd, k⟩ := h; exact rd__law_own_read hd k
theorem in__law_good (h : sp__law_good K vs H Q E) : t__law_good K (Dn Q) (start ["_law_bag_here", "_law_some", "_law_one", "_law_other", "_law_hour", "_law_words", "_law_digits", "_law_kinds"] vs) H := by
  obtain ⟨_, _, rfl, b, c, p, x, y, rfl, rfl, B, hs, hx, hy, k⟩ := h; exact rd__law_good B hs hx hy k
theorem in__law_bent_text (h : sp__law_bent_text K vs H Q E) : t__law_bent_text K (Dn Q) (start ["_law_bag_here", "_law_text", "_law_spot", "_law_sign"] vs) H := by obtain ⟨_, _, rfl, b, c, x, rfl, rfl, B, hx, k⟩ := h; exact rd__law_bent_text B hx k
theorem in__law_bent (h : sp__law_bent K vs H Q E) : t__law_bent K (Dn Q) (start ["_law_bag_here", "_law_thing", "_law_way", "_law_spot", "_law_item"] vs) H := by obtain ⟨_, _, rfl, b, c, d, rfl, B, hd, hg, k⟩ := h; exact rd__law_bent B hd hg k
theorem in__law_value (h : sp__law_value K vs H Q E) : t__law_value K (Dn Q) (start ["_law_bag_here", "_law_some", "_law_way"] vs) H := by
  obtain ⟨_, _, rfl, b, c, p, x, y, rfl, rfl, B, hs, hx, hy, k⟩ := h; exact rd__law_value B hs hx hy k
theorem in_law {mg : Str → Option Value} (T : Tx K mg) (h : sp_law K vs H Q E) : t_law K (Dn Q) (start ["_law_script", "_law_bag_here", "_law_some", "_law_turn", "_law_thing", "_law_low", "_law_more", "_law_found", "_law_named", "_law_own", "_law_due", "_law_spot", "_law_told"] vs) H := by
  obtain ⟨_, rfl, a, ns, rfl, hs, hl, k⟩ := h; exact rd_law T.t_HABITS hs hl k
end
end K01

namespace K01
open PySem PySem.Spec PyProof.Rows L2 SW
theorem ok_is_whole {P : Program} {w : World} {K : PySem.W.Frag} {mg : Str → Option Value} {base : Heap} (T : Tx K mg) : FnOk P w K mg base CX0 1 (He.ga K "is_whole") T.fd_is_whole ["value"] (sp_is_whole K) :=
  T.F_is_whole.ok sc_is_whole (fun vs H Q E h => Sp1.len h) (fun cdv A outer s H vs Q E hr h => ⟨t_is_whole K, dv_is_whole T hr, in_is_whole h⟩)
theorem ok_is_number {P : Program} {w : World} {K : PySem.W.Frag} {mg : Str → Option Value} {base : Heap} (T : Tx K mg) : FnOk P w K mg base CX0 2 (He.ga K "is_number") T.fd_is_number ["value", "least", "most"] (sp_is_number K) :=
  T.F_is_number.ok sc_is_number (fun vs H Q E h => Sp3.len h) (fun cdv A outer s H vs Q E hr h => ⟨t_is_number K, dv_is_number T hr (ok_is_whole T), in_is_number h⟩)
theorem ok_is_name {P : Program} {w : World} {K : PySem.W.Frag} {mg : Str → Option Value} {base : Heap} (T : Tx K mg) : FnOk P w K mg base CX0 1 (He.ga K "is_name") T.fd_is_name ["value"] (sp_is_name K) :=
  T.F_is_name.ok sc_is_name (fun vs H Q E h => Sp1.len h) (fun cdv A outer s H vs Q E hr h => ⟨t_is_name K, dv_is_name T hr, in_is_name h⟩)
theorem ok_is_standing {P : Program} {w : World} {K : PySem.W.Frag} {mg : Str → Option Value} {base : Heap} (T : Tx K mg) : FnOk P w K mg base CX0 3 (He.ga K "is_standing") T.fd_is_standing ["value"] (sp_is_standing K) :=
  T.F_is_standing.ok sc_is_standing (fun vs H Q E h => Sp1.len h) (fun cdv A outer s H vs Q E hr h => ⟨t_is_standing K, dv_is_standing T hr (ok_is_name T) (ok_is_number T), in_is_standing h⟩)
theorem ok_is_place {P : Program} {w : World} {K : PySem.W.Frag} {mg : Str → Option Value} {base : Heap} (T : Tx K mg) : FnOk P w K mg base CX0 4 (He.ga K "is_place") T.fd_is_place ["value"] (sp_is_place K) :=
  T.F_is_place.ok sc_is_place (fun vs H Q E h => Sp1.len h) (fun cdv A outer s H vs Q E hr h => ⟨t_is_place K, dv_is_place T hr (ok_is_standing T), in_is_place h⟩)
theorem ok_is_key {P : Program} {w : World} {K : PySem.W.Frag} {mg : Str → Option Value} {base : Heap} (T : Tx K mg) : FnOk P w K mg base CX0 4 (He.ga K "is_key") T.fd_is_key ["value"] (sp_is_key K) :=
  T.F_is_key.ok sc_is_key (fun vs H Q E h => Sp1.len h) (fun cdv A outer s H vs Q E hr h => ⟨t_is_key K, dv_is_key T hr (ok_is_name T) (ok_is_standing T), in_is_key h⟩)
theorem ok_is_account {P : Program} {w : World} {K : PySem.W.Frag} {mg : Str → Option Value} {base : Heap} (T : Tx K mg) : FnOk P w K mg base CX0 2 (He.ga K "is_account") T.fd_is_account ["value"] (sp_is_account K) :=
  T.F_is_account.ok sc_is_account (fun vs H Q E h => Sp1.len h) (fun cdv A outer s H vs Q E hr h => ⟨t_is_account K, dv_is_account T hr (ok_is_name T), in_is_account h⟩)
theorem ok_account_of {P : Program} {w : World} {K : PySem.W.Frag} {mg : Str → Option Value} {base : Heap} (T : Tx K mg) : FnOk P w K mg base CX0 1 (He.ga K "account_of") T.fd_account_of ["standing"] (sp_account_of K) :=
  T.F_account_of.ok sc_account_of (fun vs H Q E h => Sp1.len h) (fun cdv A outer s H vs Q E hr h => ⟨t_account_of K, dv_account_of T hr, in_account_of h⟩)
theorem ok_number_in {P : Program} {w : World} {K : PySem.W.Frag} {mg : Str → Option Value} {base : Heap} (T : Tx K mg) : FnOk P w K mg base CX0 1 (He.ga K "number_in") T.fd_number_in ["text"] (sp_number_in K) :=
  T.F_number_in.ok sc_number_in (fun vs H Q E h => Sp1.len h) (fun cdv A outer s H vs Q E hr h => ⟨t_number_in K, dv_number_in T hr, in_number_in h⟩)
theorem ok__law_bag {P : Program} {w : World} {K : PySem.W.Frag} {mg : Str → Option Value} {base : Heap} (T : Tx K mg) : FnOk P w K mg base CX0 1 (He.ga K "_law_bag") T.fd__law_bag ["_law_script"] (sp__law_bag K) :=
  T.F__law_bag.ok sc__law_bag (fun vs H Q E h => Sp1.len h) (fun cdv A outer s H vs Q E hr h => ⟨t__law_bag K, dv__law_bag T hr, in__law_bag h⟩)
theorem ok__law_take {P : Program} {w : World} {K : PySem.W.Frag} {mg : Str → Option Value} {base : Heap} (T : Tx K mg) : FnOk P w K mg base CX0 1 (He.ga K "_law_take") T.fd__law_take ["_law_bag_here", "_law_size"] (sp__law_take K) :=
  T.F__law_take.ok sc__law_take (fun vs H Q E h => Sp2.len h) (fun cdv A outer s H vs Q E hr h => ⟨t__law_take K, dv__law_take T hr, in__law_take h⟩)
theorem ok__law_of {P : Program} {w : World} {K : PySem.W.Frag} {mg : Str → Option Value} {base : Heap} (T : Tx K mg) : FnOk P w K mg base CX0 2 (He.ga K "_law_of") T.fd__law_of ["_law_bag_here", "_law_some"] (sp__law_of K) :=
  T.F__law_of.ok sc__law_of (fun vs H Q E h => Sp2.len h) (fun cdv A outer s H vs Q E hr h => ⟨t__law_of K, dv__law_of T hr (ok__law_take T), in__law_of h⟩)
theorem okn__law_same {P : Program} {w : World} {K : PySem.W.Frag} {mg : Str → Option Value} {base : Heap} (T : Tx K mg) : ∀ n, FnOk P w K mg base CX0 (n + 1) (He.ga K "_law_same") T.fd__law_same ["_law_found", "_law_due"] (spr__law_same K n)
  | 0 => T.F__law_same.ok sc__law_same (fun vs H Q E h => Sp2.len h) (fun cdv A outer s H vs Q E hr h => ⟨t__law_same K spNo, dv__law_same T hr fn_no, in0__law_same h⟩)
  | n + 1 => T.F__law_same.ok sc__law_same (fun vs H Q E h => Sp2.len h) (fun cdv A outer s H vs Q E hr h => ⟨t__law_same K (spr__law_same K n), dv__law_same T hr (okn__law_same T n), inS__law_same h⟩)
theorem ok__law_same {P : Program} {w : World} {K : PySem.W.Frag} {mg : Str → Option Value} {base : Heap} (T : Tx K mg) : FnOk P w K mg base CX0 12 (He.ga K "_law_same") T.fd__law_same ["_law_found", "_law_due"] (sp__law_same K) := okn__law_same T 11
theorem ok__law_names {P : Program} {w : World} {K : PySem.W.Frag} {mg : Str → Option Value} {base : Heap} (T : Tx K mg) : FnOk P w K mg base CX0 3 (He.ga K "_law_names") T.fd__law_names ["_law_bag_here", "_law_count", "_law_cap"] (sp__law_names K) :=
  T.F__law_names.ok sc__law_names (fun vs H Q E h => Sp3.len h) (fun cdv A outer s H vs Q E hr h => ⟨t__law_names K, dv__law_names T hr (ok__law_take T) (ok__law_of T), in__law_names h⟩)
theorem ok__law_odd {P : Program} {w : World} {K : PySem.W.Frag} {mg : Str → Option Value} {base : Heap} (T : Tx K mg) : FnOk P w K mg base CX0 3 (He.ga K "_law_odd") T.fd__law_odd ["_law_bag_here"] (sp__law_odd K) :=
  T.F__law_odd.ok sc__law_odd (fun vs H Q E h => Sp1.len h) (fun cdv A outer s H vs Q E hr h => ⟨t__law_odd K, dv__law_odd T hr (ok__law_of T), in__law_odd h⟩)
theorem ok__law_own_name {P : Program} {w : World} {K : PySem.W.Frag} {mg : Str → Option Value} {base : Heap} (T : Tx K mg) : FnOk P w K mg base CX0 1 (He.ga K "_law_own_name") T.fd__law_own_name ["_law_thing"] (sp__law_own_name K) :=
  T.F__law_own_name.ok sc__law_own_name (fun vs H Q E h => Sp1.len h) (fun cdv A outer s H vs Q E hr h => ⟨t__law_own_name K, dv__law_own_name T hr, in__law_own_name h⟩)
theorem ok__law_own_number {P : Program} {w : World} {K : PySem.W.Frag} {mg : Str → Option Value} {base : Heap} (T : Tx K mg) : FnOk P w K mg base CX0 1 (He.ga K "_law_own_number") T.fd__law_own_number ["_law_thing", "_law_low", "_law_high"] (sp__law_own_number K) :=
  T.F__law_own_number.ok sc__law_own_number (fun vs H Q E h => Sp3.len h) (fun cdv A outer s H vs Q E hr h => ⟨t__law_own_number K, dv__law_own_number T hr, in__law_own_number h⟩)
theorem ok__law_own_standing {P : Program} {w : World} {K : PySem.W.Frag} {mg : Str → Option Value} {base : Heap} (T : Tx K mg) : FnOk P w K mg base CX0 2 (He.ga K "_law_own_standing") T.fd__law_own_standing ["_law_thing"] (sp__law_own_standing K) :=
  T.F__law_own_standing.ok sc__law_own_standing (fun vs H Q E h => Sp1.len h) (fun cdv A outer s H vs Q E hr h => ⟨t__law_own_standing K, dv__law_own_standing T hr (ok__law_own_name T) (ok__law_own_number T), in__law_own_standing h⟩)
theorem ok__law_own_key {P : Program} {w : World} {K : PySem.W.Frag} {mg : Str → Option Value} {base : Heap} (T : Tx K mg) : FnOk P w K mg base CX0 3 (He.ga K "_law_own_key") T.fd__law_own_key ["_law_thing"] (sp__law_own_key K) :=
  T.F__law_own_key.ok sc__law_own_key (fun vs H Q E h => Sp1.len h) (fun cdv A outer s H vs Q E hr h => ⟨t__law_own_key K, dv__law_own_key T hr (ok__law_own_name T) (ok__law_own_standing T), in__law_own_key h⟩)
theorem ok__law_own_account {P : Program} {w : World} {K : PySem.W.Frag} {mg : Str → Option Value} {base : Heap} (T : Tx K mg) : FnOk P w K mg base CX0 2 (He.ga K "_law_own_account") T.fd__law_own_account ["_law_thing"] (sp__law_own_account K) :=
  T.F__law_own_account.ok sc__law_own_account (fun vs H Q E h => Sp1.len h) (fun cdv A outer s H vs Q E hr h => ⟨t__law_own_account K, dv__law_own_account T hr (ok__law_own_name T), in__law_own_account h⟩)
theorem ok__law_own_read {P : Program} {w : World} {K : PySem.W.Frag} {mg : Str → Option Value} {base : Heap} (T : Tx K mg) : FnOk P w K mg base CX0 1 (He.ga K "_law_own_read") T.fd__law_own_read ["_law_thing"] (sp__law_own_read K) :=
  T.F__law_own_read.ok sc__law_own_read (fun vs H Q E h => Sp1.len h) (fun cdv A outer s H vs Q E hr h => ⟨t__law_own_read K, dv__law_own_read T hr, in__law_own_read h⟩)
theorem ok__law_good {P : Program} {w : World} {K : PySem.W.Frag} {mg : Str → Option Value} {base : Heap} (T : Tx K mg) : FnOk P w K mg base CX0 3 (He.ga K "_law_good") T.fd__law_good ["_law_bag_here", "_law_some"] (sp__law_good K) :=
  T.F__law_good.ok sc__law_good (fun vs H Q E h => Sp2.len h) (fun cdv A outer s H vs Q E hr h => ⟨t__law_good K, dv__law_good T hr (ok__law_of T), in__law_good h⟩)
theorem ok__law_bent_text {P : Program} {w : World} {K : PySem.W.Frag} {mg : Str → Option Value} {base : Heap} (T : Tx K mg) : FnOk P w K mg base CX0 3 (He.ga K "_law_bent_text") T.fd__law_bent_text ["_law_bag_here", "_law_text"] (sp__law_bent_text K) :=
  T.F__law_bent_text.ok sc__law_bent_text (fun vs H Q E h => Sp2.len h) (fun cdv A outer s H vs Q E hr h => ⟨t__law_bent_text K, dv__law_bent_text T hr (ok__law_of T) (ok__law_take T), in__law_bent_text h⟩)
theorem ok__law_bent {P : Program} {w : World} {K : PySem.W.Frag} {mg : Str → Option Value} {base : Heap} (T : Tx K mg) : FnOk P w K mg base CX0 4 (He.ga K "_law_bent") T.fd__law_bent ["_law_bag_here", "_law_thing"] (sp__law_bent K) :=
  T.F__law_bent.ok sc__law_bent (fun vs H Q E h => Sp2.len h) (fun cdv A outer s H vs Q E hr h => ⟨t__law_bent K, dv__law_bent T hr (ok__law_take T) (ok__law_bent_text T) (ok__law_of T), in__law_bent h⟩)
theorem ok__law_value {P : Program} {w : World} {K : PySem.W.Frag} {mg : Str → Option Value} {base : Heap} (T : Tx K mg) : FnOk P w K mg base CX0 5 (He.ga K "_law_value") T.fd__law_value ["_law_bag_here", "_law_some"] (sp__law_value K) :=
  T.F__law_value.ok sc__law_value (fun vs H Q E h => Sp2.len h) (fun cdv A outer s H vs Q E hr h => ⟨t__law_value K, dv__law_value T hr (ok__law_take T) (ok__law_odd T) (ok__law_of T) (ok__law_good T) (ok__law_bent T), in__law_value h⟩)
theorem ok_law {P : Program} {w : World} {K : PySem.W.Frag} {mg : Str → Option Value} {base : Heap} (T : Tx K mg) : FnOk P w K mg base CX0 13 (He.ga K "law") T.fd_law ["_law_script"] (sp_law K) :=
  T.F_law.ok sc_law (fun vs H Q E h => Sp1.len h) (fun cdv A outer s H vs Q E hr h => ⟨t_law K, dv_law T hr (ok__law_bag T) (ok__law_names T) (ok__law_same T) (ok__law_of T) (ok__law_value T) (ok_number_in T) (ok_is_account T) (ok_is_key T) (ok_is_place T) (ok_is_standing T) (ok_is_name T) (ok__law_own_key T) (ok__law_own_standing T) (ok__law_own_name T) (ok__law_own_read T) (ok__law_own_account T) (ok_is_number T) (ok__law_own_number T) (ok__law_take T) (ok_account_of T), in_law T h⟩)
theorem facts {P : Program} {w : World} {K : PySem.W.Frag} {h : Heap} {mg : Str → Option Value} {f : Addr} (X : K.In h) (G : h.Ns mainGlobals mg) (hfa : mg ("law" : Str) = some (.ref f)) (c : SaysX fa fn ex K) :
    ∃ fd : FuncData, (∀ (s : Shared) (v : Value), BindsTo s fd ⟨[v], []⟩ [("_law_script", v)]) ∧ ∀ base : Heap, K.In base → base.Ns mainGlobals mg → FnOk P w K mg base CX0 13 f fd ["_law_script"] (sp_law K) := by
  obtain ⟨T⟩ := tx_of X G c
  have e := hfa.symm.trans T.g_law
  cases e
  have b := FunD.bindsA (ps := ["_law_script"]) T.F_law fun _ _ _ _ _ _ us hl => match us, hl with | [_], _ => rfl
  exact ⟨T.fd_law, fun s v => b s [v] rfl, fun base _ _ => ok_law T⟩
end K01
open PySem PySem.W PySem.Calls PyProof.Rows
theorem PySem.Challenge.cw_standworth_k01_words_judged_holds : PySem.Challenge.rw_standworth_k01_words_judged.Holds := by
  w_on; o_law
  refine HandSHeadRun.head_any (r := OpenLaw.row PySem.Challenge.rw_standworth_k01_words_judged) (q := view (OpenLaw.row PySem.Challenge.rw_standworth_k01_words_judged).prog [34]) (H := K01.hk) (ob := K01.ob) (M := 4000) (loose := K01.loose) (d := HandSHeadRun.topDef (OpenLaw.row PySem.Challenge.rw_standworth_k01_words_judged).prog 34) (kwd := []) K01.ob_eq
    (by kernel_rfl) (fun s => by kernel_rfl) K01.run (by kernel_rfl) (by kernel_rfl) (by kernel_rfl) (by rfl) (by first | assumption | decide +kernel) (by decide +kernel) ⟨rfl, rfl, rfl, rfl, rfl, by decide +kernel⟩ ?hw ?hc
  case hw => w_witness2
  case hc =>
    refine L2.walk_ofE (l := PySem.Challenge.rw_standworth_k01_words_judged) (n := 63) (k := 13) (x := "_law_script") (CX := L2.CX0) rfl (by decide) (by kernel_rfl) ⟨rfl, by decide, by decide⟩ ?F (fun _ _ _ _ z => z)
    intro w mg fa h Y G hmg0
    obtain ⟨K, KX, c⟩ := Y
    have hmg : mg ("law" : PySem.Str) = some (.ref fa) := by
      have e : (HandSHeadRun.topDef (OpenLaw.row PySem.Challenge.rw_standworth_k01_words_judged).prog 34).name = ("law" : PySem.Str) := by kernel_rfl
      rw [← e]
      exact hmg0
    obtain ⟨fd, hb, hF⟩ := K01.facts (P := (PySem.Challenge.rw_standworth_k01_words_judged).prog) (w := w) KX G hmg c
    exact ⟨K, fd, K01.sp_law K, KX, hb, fun H a ns hl _ hS => ⟨_, rfl, a, ns, rfl, hS, hl, fun _ => rfl⟩, hF⟩

